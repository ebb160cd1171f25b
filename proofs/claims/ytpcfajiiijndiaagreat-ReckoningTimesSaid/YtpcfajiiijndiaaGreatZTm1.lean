/- Reckoning: the reference's small functions of the times of arrival; its Right and Given. -/
import Derived.Test.YtpcfajiiijndiaaGreatZRk6
import Derived.Test.YtpcfajiiijndiaaGreatZRef1
import Derived.Test.YtpcfajiiijndiaaGreatZAw46
set_option linter.unusedVariables false
set_option linter.unusedSimpArgs false
set_option maxRecDepth 100000
set_option maxHeartbeats 8000000
namespace Go.Proofs.YtpcfajiiijndiaaGreat
open Go.RowKit Alm Sx
theorem Ic {a b:Int} (ha:0<=a) (hb:0<b):(a+b-1)/b=if 0<a%b then a/b+1 else a/b:=by
 have h1:=Int.mul_ediv_add_emod a b;have h2:=Int.emod_nonneg a (show b≠0 by omega)
 have h3:=Int.emod_lt_of_pos a hb;have e:a+b-1=(a%b+b-1)+b*(a/b):=by omega
 rw [e,Int.add_mul_ediv_left _ _ (by omega)]
 by_cases h:0<a%b
 . rw [if_pos h,show a%b+b-1=(a%b-1)+b*1 by omega,Int.add_mul_ediv_left _ _ (by omega),Int.ediv_eq_zero_of_lt (by omega) (by omega)];omega
 . rw [if_neg h,Int.ediv_eq_zero_of_lt (by omega) (by omega)];omega
theorem IB (a b q:Int) (w:World) (ha:0<=a/\a<=9000000000000000000) (hb:0<b) (hq:a/b=q) :
 Calls Tryz.prog 31 #[.int .i64 a,.int .i64 b] w fun e w'=>e=.returned (.int .i64 q)/\w=w':=by
 obtain ⟨h1,h2,h3⟩:=qP ha.1 hb;rw [hq] at h1 h2 h3;have h4:b≠0:=by omega
 have h5:IntKind.i64.wrap q=q:=Go.IntWalk.i64_in _ (by omega)
 have h6:0<=a%b:=Int.emod_nonneg a h4;have h7:¬ a%b<0:=by omega
 clear hq;go_enter Tryz.func31,Tryz.ntmps31;go_wp2;go_ret;exact ⟨by simp [h1,h5],rfl⟩
theorem Iz (a b q:Int) (w:World) (ha:0<=a/\a<=9000000000000000000) (hb:0<b/\b<=1000000) (hq:(a+b-1)/b=q) :
 Calls Tryz.prog 32 #[.int .i64 a,.int .i64 b] w fun e w'=>e=.returned (.int .i64 q)/\w=w':=by
 rw [Ic ha.1 hb.1] at hq;obtain ⟨h1,h2,h3⟩:=qP ha.1 hb.1;have h4:b≠0:=by omega
 have h5:IntKind.i64.wrap (a/b)=a/b:=Go.IntWalk.i64_in _ (by omega)
 have h6:IntKind.i64.wrap (a/b+1)=a/b+1:=Go.IntWalk.i64_in _ (by omega)
 by_cases h:0<a%b
 . rw [if_pos h] at hq;go_enter Tryz.func32,Tryz.ntmps32;go_wp2;go_ret;exact ⟨by simp [h1,h5,h6,hq],rfl⟩
 . rw [if_neg h] at hq;go_enter Tryz.func32,Tryz.ntmps32;go_wp2;go_ret;exact ⟨by simp [h1,h5,hq],rfl⟩
theorem Ir (a b c d s t:Int) (w:World) (hs:IntKind.i64.wrap (a+c)=s) (ht:IntKind.i64.wrap (b+d)=t) :
 Calls Tryz.prog 37 #[.agg #[.int .i64 a,.int .i64 b],.agg #[.int .i64 c,.int .i64 d]] w fun e w'=>e=.returned (.agg #[.int .i64 s,.int .i64 t])/\Below w.heap.size w w':=by
 go_enter Tryz.func37,Tryz.ntmps37;go_wp2;refine bodyPost_ret (v:=.agg #[.int .i64 s,.int .i64 t]) (by simp [results,Tryz.results37,go_sem,hs,ht];try rfl) rfl ⟨rfl,by go_grown⟩
theorem Ie (n:Int) (w:World):Calls Tryz.prog 36 #[.int .i64 n] w fun e w'=>e=.returned (.bool (uN n))/\w=w':=by
 unfold uN;go_enter Tryz.func36,Tryz.ntmps36;go_wp2
 all_goals go_ret
 all_goals exact ⟨bY (by first|(simp<;>omega)|(simp_all<;>omega)|(rw [Bool.eq_iff_iff];simp;done)|(rw [Bool.eq_iff_iff];simp;omega)|rfl),rfl⟩
theorem Iu (a b:Int) (w:World):Calls Tryz.prog 14 #[.agg #[.int .i64 a,.int .i64 b]] w fun e w'=>e=.returned (.bool (tmB a b))/\Below w.heap.size w w':=by
 have C1:=Lib.hid (fun w=>Ie a w)
 have C2:=Lib.hid (fun w=>Ie b w)
 unfold tmB;generalize uN a=x at *
 generalize uN b=y at *
 go_enter Tryz.func14,Tryz.ntmps14
 by_cases h:a<=b
 . go_wp2_with fail;refine (C1.out _).mono ?_;rintro e w1 ⟨rfl,rfl⟩;cases x
   . go_wp2;go_ret;exact ⟨by simp,by go_grown⟩
   . go_wp2_with fail;refine (C2.out _).mono ?_;rintro e w1 ⟨rfl,rfl⟩;go_wp2;go_ret;exact ⟨by simp [h],by go_grown⟩
 . go_wp2;go_ret
   exact ⟨by have g:decide (a<=b)=false:=decide_eq_false (by omega)
             rw [g];rfl,by go_grown⟩
theorem IC (a b l h:Int) (w:World):Calls Tryz.prog 35 #[.agg #[.int .i64 a,.int .i64 b],.int .i64 l,.int .i64 h] w fun e w'=>e=.returned (.bool (decide (l<=a/\a<=b/\b<=h)))/\Below w.heap.size w w':=by
 go_enter Tryz.func35,Tryz.ntmps35;go_wp2
 all_goals go_ret
 all_goals exact ⟨bY (by first|(simp<;>omega)|(simp_all<;>omega)|(rw [Bool.eq_iff_iff];simp;done)|(rw [Bool.eq_iff_iff];simp;omega)|rfl),by go_grown⟩
theorem Ip (a b:Int) (w:World):Calls Tryz.prog 13 #[.agg #[.int .i64 a,.int .i64 b]] w fun e w'=>e=.returned (.bool (decide (0<=a/\a<=b/\b<=200000)))/\Below w.heap.size w w':=by
 have C:=Lib.hid (fun w=>IC a b 0 200000 w)
 have K0:=Lib.hid ((aM w).new w.heap.size rfl 23 #[.int .i64 a,.int .i64 b]);generalize decide (0<=a/\a<=b/\b<=200000)=u at *
 go_enter Tryz.func13,Tryz.ntmps13;go_wp2_with fail;refine (C.out _).mono ?_;rintro e w1 ⟨rfl,hb⟩;have K1:=Lib.hid (K0.out.below hb);clear hb;go_wp2;go_ret;exact ⟨rfl,K1.out.1⟩
theorem H8 (l:ag) (w:World) :
 Calls Tryz.prog 34 #[.agg #[.int .i64 l.cl,.int .i64 l.ch,.int .i64 l.dl,.int .i64 l.dh]] w fun e w'=>e=.returned (.bool l.rgt)/\Below w.heap.size w w':=by
 have C1:=Lib.hid (fun w=>sw l.cl l.ch w)
 have C2:=Lib.hid (fun w=>sw l.dl l.dh w)
 have e1:l.rgt=(aL l.cl l.ch&&(aL l.dl l.dh&&(decide (l.dl>=0)&&decide (l.dh<=21600000)))):=by
  rw [Bool.eq_iff_iff,Bool.and_eq_true,Bool.and_eq_true,Bool.and_eq_true,decide_eq_true_eq,decide_eq_true_eq];unfold ag.rgt;rw [Bool.and_eq_true,decide_eq_true_eq,aT,aT]
  constructor<;>(intro h;omega)
 rw [e1];clear e1;obtain ⟨cl,ch,dl,dh⟩:=l;simp only [] at *
 generalize aL cl ch=U at *
 generalize aL dl dh=V at *
 have K0:=Lib.hid ((aM w).new w.heap.size rfl 29 #[.int .i64 cl,.int .i64 ch,.int .i64 dl,.int .i64 dh]);go_enter Tryz.func34,Tryz.ntmps34;go_wp2_with fail;refine (C1.out _).mono ?_;rintro e w1 ⟨rfl,hb1⟩;have K1:=Lib.hid (K0.out.below hb1);clear hb1 K0 C1;have p2:=K1.out.c (g:=w.heap.size) (t:=29) (cs:=#[.int .i64 cl,.int .i64 ch,.int .i64 dl,.int .i64 dh]) (by simp) (i:=2) (v:=.int .i64 dl) rfl
 have p3:=K1.out.c (g:=w.heap.size) (t:=29) (cs:=#[.int .i64 cl,.int .i64 ch,.int .i64 dl,.int .i64 dh]) (by simp) (i:=3) (v:=.int .i64 dh) rfl
 cases U
 . go_wp2;go_ret;exact ⟨rfl,K1.out.1⟩
 . go_wp2_with fail;refine (C2.out _).mono ?_;rintro e w2 ⟨rfl,hb2⟩;have K2:=Lib.hid (K1.out.below hb2);clear hb2 K1 C2 p2 p3;have p2:=K2.out.c (g:=w.heap.size) (t:=29) (cs:=#[.int .i64 cl,.int .i64 ch,.int .i64 dl,.int .i64 dh]) (by simp) (i:=2) (v:=.int .i64 dl) rfl
   have p3:=K2.out.c (g:=w.heap.size) (t:=29) (cs:=#[.int .i64 cl,.int .i64 ch,.int .i64 dl,.int .i64 dh]) (by simp) (i:=3) (v:=.int .i64 dh) rfl
   cases V
   . go_wp2;go_ret;exact ⟨rfl,K2.out.1⟩
   . go_wp2
     all_goals go_ret
     all_goals exact ⟨bY (by first|(simp<;>omega)|(simp_all<;>omega)|(rw [Bool.eq_iff_iff];simp;done)|(rw [Bool.eq_iff_iff];simp;omega)|rfl),K2.out.1⟩
end Go.Proofs.YtpcfajiiijndiaaGreat
namespace Go.Proofs.YtpcfajiiijndiaaGreat
open Go.RowKit Alm Sx
theorem Ho (a:Option Addr) (cap:Nat) (L:List ag) (w:World) (hL:nN w a L) (hn:L.length<=100) :
 Calls Tryz.prog 12 #[.slice a L.length cap] w fun e w'=>e=.returned (.int .i64 (qd L))/\Below w.heap.size w w':=by
 have HL:=Lib.hid hL;clear hL;go_enter Tryz.func12,Tryz.ntmps12;go_wp2;go_loopw [3] (fun v wr=>∃ i:Nat,v=.int .i64 (i:Int)/\i<=L.length/\(∀ j (h:j<L.length),j<i->L[j].rgt=true)/\Below w.heap.size w wr) (fun v _=>((L.length:Int)-intOf v).toNat)
 case atStart =>
  exact ⟨0,rfl,by omega,fun j h hj=>by omega,Below.refl _ _⟩
 case round =>
  obtain ⟨i,rfl,hi,hs,hb⟩:=hrel;have HB:=Lib.hid hb;clear hb
  by_cases hl:i<L.length
  . have hLw:=HL.out.below HB.out;rcases hLw with h0|⟨b,off,rfl,hR⟩
    . rw [h0] at hl;simp at hl
    . obtain ⟨c0,c1,c2,c3⟩:=hR.2 i hl;have hS:=Lib.hid hs;clear hs;have C:=Lib.hid (fun w=>H8 L[i] w)
      have hl':(i:Int)<(L.length:Int):=by omega
      have FIN:Hid (L[i].rgt=true->∀ j (h:j<L.length),j<i+1->L[j].rgt=true):=by
       intro h j hj hji
       by_cases e:j<i
       . exact hS.out j hj e
       . obtain rfl:j=i:=by omega
         exact h
      have FIN2:Hid (L[i].rgt=false->qd L=1):=by
       intro h;unfold qd;cases hA:L.all ag.rgt
       . rfl
       . rw [List.all_eq_true] at hA;have:=hA _ (List.getElem_mem hl);rw [h] at this;cases this
      cases hsm:L[i].rgt
      . rw [hsm] at C FIN2;go_wp2_with fail;refine (C.out _).mono ?_;rintro e w1 ⟨rfl,hb1⟩;have HB1:Hid (Below w.heap.size w w1):=HB.out.trans (hb1.mono HB.out.size);clear hb1 c0 c1 c2 c3 hR HL HB C FIN hS;go_wp2;go_ret;exact ⟨by rw [FIN2.out trivial];rfl,HB1.out⟩
      . rw [hsm] at C FIN;go_wp2_with fail;refine (C.out _).mono ?_;rintro e w1 ⟨rfl,hb1⟩;have HB1:Hid (Below w.heap.size w w1):=HB.out.trans (hb1.mono HB.out.size);clear hb1 c0 c1 c2 c3 hR HL HB C FIN2 hS;go_wp2;go_light;exact ⟨⟨i+1,by rw [show ((i+1:Nat):Int)=(i:Int)+1 by omega],by omega,FIN.out trivial,HB1.out⟩,by simp only [intOf];omega⟩
  . have hl':¬ (i:Int)<(L.length:Int):=by omega
    have HA:Hid (L.all ag.rgt=true):=by
     refine Lib.hid ?_;rw [List.all_eq_true];intro x hx;obtain ⟨j,hj,rfl⟩:=List.getElem_of_mem hx;exact hs j hj (by omega)
    have HE:Hid (qd L=if 60<L.length then 4 else 0):=Lib.hid (by unfold qd;rw [HA.out];simp)
    clear hs hl hi HA
    by_cases h:60<L.length
    . have h':(60:Int)<(L.length:Int):=by omega
      go_wp2;go_ret;exact ⟨by rw [HE.out,if_pos h];rfl,HB.out⟩
    . have h':¬ (60:Int)<(L.length:Int):=by omega
      go_wp2;go_ret;exact ⟨by rw [HE.out,if_neg h];rfl,HB.out⟩
def spB (al ah:Int):Bool:=decide (0<=al/\al<=ah/\ah<=200000)
def agB (al ah fl fh:Int) (L:List ag):Int:=if spB al ah=false then 1 else if tmB fl fh=false then 1 else qd L
theorem Ik (L:List ag):qd L=0∨qd L=1∨qd L=4:=by
 unfold qd;split
 . exact .inr (.inl rfl)
 . split
   . exact .inr (.inr rfl)
   . exact .inl rfl
theorem Iy {L:List ag} (h:qd L=0):(∀ l∈L,l.rgt=true)/\L.length<=60:=by
 unfold qd at h;split at h
 . cases h
 . rename_i q
   split at h
   . cases h
   . exact ⟨List.all_eq_true.1 (by cases hA:L.all ag.rgt<;>simp_all),by omega⟩
theorem Hw (a:Option Addr) (cap:Nat) (L:List ag) (al ah fl fh:Int) (w:World) (hL:nN w a L) (hn:L.length<=100) (hb:agB al ah fl fh L≠0) :
 Calls Tryz.prog 11 #[.slice a L.length cap,.agg #[.int .i64 al,.int .i64 ah],.agg #[.int .i64 fl,.int .i64 fh]] w fun e w'=>e=.returned (.tuple #[.slice none 0 0,.int .i64 (agB al ah fl fh L)])/\Below w.heap.size w w':=by
 have HL:=Lib.hid hL;clear hL;have CS:=Lib.hid (fun w=>Fb al ah w)
 have CT:=Lib.hid (fun w=>D9 fl fh w)
 have CG:Hid (∀ wr:World,Below w.heap.size w wr->Calls Tryz.prog 33 #[.slice a L.length cap] wr fun e w'=>e=.returned (.int .i64 (qd L))/\Below wr.heap.size wr w'):=Lib.hid (fun wr hb=>qO a cap L wr (HL.out.below hb) hn)
 have K0:=Lib.hid (((aM w).new w.heap.size rfl 23 #[.int .i64 al,.int .i64 ah]).new (w.heap.size+1) (by simp) 26 #[.int .i64 fl,.int .i64 fh])
 have GB:=Lib.hid (Ik L);change Hid (∀ w,Calls _ _ _ w fun e w'=>e=.returned (.bool (spB al ah))/\Below w.heap.size w w') at CS
 unfold agB at *
 generalize spB al ah=x at *
 generalize tmB fl fh=y at *
 generalize qd L=g at *
 go_enter Tryz.func11,Tryz.ntmps11;go_wp2_with fail;refine (CS.out _).mono ?_;rintro e w1 ⟨rfl,hb1⟩;have K1:=Lib.hid (K0.out.below hb1);clear hb1 K0 CS;have t0:=K1.out.c (g:=w.heap.size+1) (t:=26) (cs:=#[.int .i64 fl,.int .i64 fh]) (by simp) (i:=0) (v:=.int .i64 fl) rfl
 have t1:=K1.out.c (g:=w.heap.size+1) (t:=26) (cs:=#[.int .i64 fl,.int .i64 fh]) (by simp) (i:=1) (v:=.int .i64 fh) rfl
 cases x
 . go_wp2;refine bodyPost_ret (by simp [results,Tryz.results11,go_sem];try rfl) rfl ⟨by first|rfl|(simp;done)|(simp;rfl),K1.out.1⟩
 . go_wp2_with fail;refine (CT.out _).mono ?_;rintro e w2 ⟨rfl,hb2⟩;have K2:=Lib.hid (K1.out.below hb2);clear hb2 K1 CT t0 t1;cases y
   . go_wp2;refine bodyPost_ret (by simp [results,Tryz.results11,go_sem];try rfl) rfl ⟨by first|rfl|(simp;done)|(simp;rfl),K2.out.1⟩
   . simp only [if_neg,Bool.true_eq_false,if_false,Bool.false_eq_true,reduceCtorEq,↓reduceIte] at hb ⊢
     go_wp2_with fail;refine (CG.out _ K2.out.1).mono ?_;rintro e w3 ⟨rfl,hb3⟩;have K3:=Lib.hid (K2.out.below hb3);clear hb3 K2 CG;rcases GB.out with h|h|h
     . exact absurd h hb
     . subst h;go_wp2;refine bodyPost_ret (by simp [results,Tryz.results11,go_sem];try rfl) rfl ⟨by first|rfl|(simp;done)|(simp;rfl),K3.out.1⟩
     . subst h;go_wp2;refine bodyPost_ret (by simp [results,Tryz.results11,go_sem];try rfl) rfl ⟨by first|rfl|(simp;done)|(simp;rfl),K3.out.1⟩
theorem Hu (a:Option Addr) (cap:Nat) (L:List ag) (ah fl fh:Int) (w:World) (hL:nN w a L) (hn:L.length<=100) (hb:agB 0 ah fl fh L=0) :
 Calls Tryz.prog 11 #[.slice a L.length cap,.agg #[.int .i64 0,.int .i64 ah],.agg #[.int .i64 fl,.int .i64 fh]] w fun e w'=>e=.returned (.tuple #[.slice none 0 0,.int .i64 16])/\Below w.heap.size w w':=by
 have HL:=Lib.hid hL;clear hL
 have hx:spB 0 ah=true/\tmB fl fh=true/\qd L=0:=by
  unfold agB at hb;cases h1:spB 0 ah
  . rw [h1] at hb;simp at hb
  . cases h2:tmB fl fh
    . rw [h1,h2] at hb;simp at hb
    . rw [h1,h2] at hb;simp at hb;exact ⟨rfl,rfl,hb⟩
 have CS:Hid (∀ w,Calls Tryz.prog 25 #[.agg #[.int .i64 0,.int .i64 ah]] w fun e w'=>e=.returned (.bool true)/\Below w.heap.size w w'):=Lib.hid (fun w=>by have:=Fb 0 ah w;rw [show decide ((0:Int)<=0/\0<=ah/\ah<=200000)=true from hx.1] at this;exact this)
 have CT:=Lib.hid (fun w=>D9 fl fh w)
 rw [hx.2.1] at CT;have CG:Hid (∀ wr:World,Below w.heap.size w wr->Calls Tryz.prog 33 #[.slice a L.length cap] wr fun e w'=>e=.returned (.int .i64 0)/\Below wr.heap.size wr w'):=Lib.hid (fun wr hb=>by have:=qO a cap L wr (HL.out.below hb) hn;rw [hx.2.2] at this;exact this)
 clear hb hx;have K0:=Lib.hid (((aM w).new w.heap.size rfl 23 #[.int .i64 0,.int .i64 ah]).new (w.heap.size+1) (by simp) 26 #[.int .i64 fl,.int .i64 fh])
 go_enter Tryz.func11,Tryz.ntmps11;go_wp2_with fail;refine (CS.out _).mono ?_;rintro e w1 ⟨rfl,hb1⟩;have K1:=Lib.hid (K0.out.below hb1);clear hb1 K0 CS;have t0:=K1.out.c (g:=w.heap.size+1) (t:=26) (cs:=#[.int .i64 fl,.int .i64 fh]) (by simp) (i:=0) (v:=.int .i64 fl) rfl
 have t1:=K1.out.c (g:=w.heap.size+1) (t:=26) (cs:=#[.int .i64 fl,.int .i64 fh]) (by simp) (i:=1) (v:=.int .i64 fh) rfl
 go_wp2_with fail;refine (CT.out _).mono ?_;rintro e w2 ⟨rfl,hb2⟩;have K2:=Lib.hid (K1.out.below hb2);clear hb2 K1 CT t0 t1;go_wp2_with fail;refine (CG.out _ K2.out.1).mono ?_;rintro e w3 ⟨rfl,hb3⟩;have K3:=Lib.hid (K2.out.below hb3);clear hb3 K2 CG;have s0:=K3.out.c (g:=w.heap.size) (t:=23) (cs:=#[.int .i64 0,.int .i64 ah]) (by simp) (i:=0) (v:=.int .i64 0) rfl
 go_wp2;refine bodyPost_ret (by simp [results,Tryz.results11,go_sem];try rfl) rfl ⟨rfl,K3.out.1⟩
theorem Hl (a:Option Addr) (cap:Nat) (n:Nat) (ah fl fh:Int) (w:World) :
 Calls Tryz.prog 15 #[.slice a n cap,.agg #[.int .i64 0,.int .i64 ah],.agg #[.int .i64 fl,.int .i64 fh]] w fun e w'=>e=.returned (.tuple #[.slice none 0 0,.int .i64 16])/\Below w.heap.size w w':=by
 have K0:=Lib.hid (((aM w).new w.heap.size rfl 23 #[.int .i64 0,.int .i64 ah]).new (w.heap.size+1) (by simp) 26 #[.int .i64 fl,.int .i64 fh])
 go_enter Tryz.func15,Tryz.ntmps15;go_wp2;refine bodyPost_ret (by simp [results,Tryz.results15,go_sem];try rfl) rfl ⟨rfl,K0.out.1⟩
end Go.Proofs.YtpcfajiiijndiaaGreat
namespace Go.Proofs.YtpcfajiiijndiaaGreat
open Go.RowKit Alm Sx
theorem H6 (a:Option Addr) (cap:Nat) (L:List ag) (al ah fl fh:Int) (w:World) (hL:nN w a L) (hn:L.length<=60) (hr:∀ l∈L,l.rgt=true) (hs:1<=al/\al<=ah/\ah<=200000) (ht:tmB fl fh=true) :
 Calls Tryz.prog 15 #[.slice a L.length cap,.agg #[.int .i64 al,.int .i64 ah],.agg #[.int .i64 fl,.int .i64 fh]] w fun e w'=>(∃ u,e=.returned (.tuple #[u,.int .i64 (arE al ah fl fh L)])/\bR 2 26 w.heap.size w' u (arR al ah fl fh L))/\Below w.heap.size w w':=by
 have HL:=Lib.hid hL;have HR:=Lib.hid hr;clear hL hr;have HT:=Lib.hid ht;have HS:=Lib.hid hs;have hz:(al==0)=false:=by simp;omega
 clear ht hs;have HW3:Hid (w.heap.size+1<w.heap.size+1+1):=Lib.hid (by omega)
 have K4:=Lib.hid ((((aM w).new w.heap.size rfl 23 #[.int .i64 al,.int .i64 ah]).new (w.heap.size+1) (by simp) 26 #[.int .i64 fl,.int .i64 fh]).new (w.heap.size+1+1) (by simp) 23 #[.int .i64 0,.int .i64 0])
 go_enter Tryz.func15,Tryz.ntmps15;go_wp2;go_loopw [8,10] (fun v9 v32 wr=>∃ i:Nat,v32=.int .i64 (i:Int)/\i<=L.length/\(∀ j,j<i->atB (atV al ah fl fh L j)=true)/\bR 2 26 (w.heap.size+1+1+1) wr v9 (atL al ah fl fh L i)/\KS w wr [(w.heap.size+1+1,23,#[.int .i64 (sumOf ag.dl (L.take i)),.int .i64 (sumOf ag.dh (L.take i))]),(w.heap.size+1,26,#[.int .i64 fl,.int .i64 fh]),(w.heap.size,23,#[.int .i64 al,.int .i64 ah])]) (fun _ v32 _=>((L.length:Int)-intOf v32).toNat)
 case atStart =>
  exact ⟨0,rfl,Nat.zero_le _,fun j h=>by omega,bR.nil _ _ _ _,K4.out⟩
 case round =>
  obtain ⟨i,rfl,hi,hok,ho,hK⟩:=hrel;have K:=Lib.hid hK;have O:=Lib.hid ho;have OK:=Lib.hid hok;clear hK ho hok K4;have HSZ:Hid ((atL al ah fl fh L i).length+1<=1000000):=by have:=Df al ah fl fh L i;exact Lib.hid (by omega)
  by_cases hl:i<L.length
  . have KD:=Lib.hid K.out.drew;have OD:=Lib.hid O.out.drew;rcases HL.out.below KD.out.1 with h0|⟨b,off,rfl,hR⟩
    . rw [h0] at hl;simp at hl
    . obtain ⟨c0,c1,c2,c3⟩:=hR.2 i hl;have hl':(i:Int)<(L.length:Int):=by omega
      have s0:=KD.out.c (g:=w.heap.size+1+1) (t:=23) (cs:=#[.int .i64 (sumOf ag.dl (L.take i)),.int .i64 (sumOf ag.dh (L.take i))]) (by simp) (i:=0) rfl
      have s1:=KD.out.c (g:=w.heap.size+1+1) (t:=23) (cs:=#[.int .i64 (sumOf ag.dl (L.take i)),.int .i64 (sumOf ag.dh (L.take i))]) (by simp) (i:=1) rfl
      have T1:=Lib.hid (bS ag.dl L i hl);have T2:=Lib.hid (bS ag.dh L i hl);have B1:=Bp (L.take i) (fun l h=>HR.out l (List.mem_of_mem_take h))
      have BL:(L.take i).length<=60:=by rw [List.length_take];omega
      have B2:=(lQ L[i]).1 (HR.out _ (List.getElem_mem hl));have q1:IntKind.i64.wrap (sumOf ag.dl (L.take i)+L[i].dl)=sumOf ag.dl (L.take (i+1)):=by rw [T1.out];exact Go.IntWalk.i64_in _ (by omega)
      have q2:IntKind.i64.wrap (sumOf ag.dh (L.take i)+L[i].dh)=sumOf ag.dh (L.take (i+1)):=by rw [T2.out];exact Go.IntWalk.i64_in _ (by omega)
      have N:=Lib.hid (EM (al:=al) (ah:=ah) (fl:=fl) (fh:=fh) (S:=sumOf ag.dl (L.take (i+1))) (T:=sumOf ag.dh (L.take (i+1))) HS.out HT.out (by rw [T1.out];omega) (by rw [T2.out];omega))
      have CAd:=Lib.hid (fun w=>Ir (sumOf ag.dl (L.take i)) (sumOf ag.dh (L.take i)) L[i].dl L[i].dh _ _ w q1 q2)
      clear B1 B2 BL T1 T2 q1 q2;go_upto_region 8 with (fail)
      go_cut [10] (fun s10 wx=>s10=.int .i64 (i:Int)/\KS w wx [(w.heap.size+1+1,23,#[.int .i64 (sumOf ag.dl (L.take (i+1))),.int .i64 (sumOf ag.dh (L.take (i+1)))]),(w.heap.size+1,26,#[.int .i64 fl,.int .i64 fh]),(w.heap.size,23,#[.int .i64 al,.int .i64 ah])]/\bR 2 26 (w.heap.size+1+1+1) wx u8 (atL al ah fl fh L i))
      case first =>
       go_region_with
        (first
         | ((go_at_call 37;with_reducible refine (CAd.out _).mono ?_);rintro e wa ⟨rfl,hb⟩;have KA:=Lib.hid (KD.out.below hb);have OA:=Lib.hid (OD.out.below hb);clear hb c0 c1 c2 c3 s0 s1;have s0:=KA.out.c (g:=w.heap.size+1+1) (t:=23) (cs:=#[.int .i64 (sumOf ag.dl (L.take i)),.int .i64 (sumOf ag.dh (L.take i))]) (by simp) (i:=0) rfl;have s1:=KA.out.c (g:=w.heap.size+1+1) (t:=23) (cs:=#[.int .i64 (sumOf ag.dl (L.take i)),.int .i64 (sumOf ag.dh (L.take i))]) (by simp) (i:=1) rfl;have f0:=KA.out.f (g:=w.heap.size+1+1) (t:=23) (cs:=#[.int .i64 (sumOf ag.dl (L.take i)),.int .i64 (sumOf ag.dh (L.take i))]) (by simp) 0;have f1:=KA.out.f (g:=w.heap.size+1+1) (t:=23) (cs:=#[.int .i64 (sumOf ag.dl (L.take i)),.int .i64 (sumOf ag.dh (L.take i))]) (by simp) 1)
         | fail)
       all_goals (go_wp2_with fail)
       all_goals go_meet
       all_goals exact ⟨rfl,pY (l':=[(w.heap.size+1,26,#[.int .i64 fl,.int .i64 fh]),(w.heap.size,23,#[.int .i64 al,.int .i64 ah])]) KA.out (g:=w.heap.size+1+1) (t:=23) (c0:=.int .i64 (sumOf ag.dl (L.take i))) (c1:=.int .i64 (sumOf ag.dh (L.take i))) (by simp) (by omega) (by intro p hp;simp at hp;rcases hp with rfl|rfl<;>simp only []<;>omega) (by intro p hp;simp at hp;rcases hp with rfl|rfl<;>simp) (.int .i64 (sumOf ag.dl (L.take (i+1)))) (.int .i64 (sumOf ag.dh (L.take (i+1)))),(OA.out.far (p:=⟨w.heap.size+1+1,0,none⟩) (Nat.lt_succ_self _) (.int .i64 (sumOf ag.dl (L.take (i+1))))).far (p:=⟨w.heap.size+1+1,1,none⟩) (Nat.lt_succ_self _) (.int .i64 (sumOf ag.dh (L.take (i+1))))⟩
      case rest =>
      generalize wc=W at *
      obtain ⟨rfl,hK2,hO2⟩:=hcut;have K2:=Lib.hid hK2;have O2:=Lib.hid hO2;clear hK2 hO2;go_upto_region 9 with (fail)
      have F1:=Lib.hid (fun w=>IB (sumOf ag.dl (L.take (i+1))*3600000) ah _ w N.out.2.2.1 (by have:=HS.out;omega) rfl)
      have F2:=Lib.hid (fun w=>Iz (sumOf ag.dh (L.take (i+1))*3600000) al _ w N.out.2.2.2.1 (by have:=HS.out;omega) rfl)
      clear KD OD K s0 s1 c0 c1 c2 c3 hR CAd;obtain ⟨n1,n2,_,_,n3,n4⟩:=N.out;have hS:=HS.out;clear N O;have VX:atV al ah fl fh L i=[fl+sumOf ag.dl (L.take (i+1))*3600000/ah,fh+(sumOf ag.dh (L.take (i+1))*3600000+al-1)/al]:=rfl;generalize hX:fl+sumOf ag.dl (L.take (i+1))*3600000/ah=X at *
      generalize hY:fh+(sumOf ag.dh (L.take (i+1))*3600000+al-1)/al=Y at *
      generalize hP:sumOf ag.dl (L.take (i+1))*3600000/ah=P at *
      generalize hQ:(sumOf ag.dh (L.take (i+1))*3600000+al-1)/al=Q at *
      have VX:=Lib.hid VX;clear hP hQ hS;go_cut [11] (fun s11 wx=>s11=.pointer (some ⟨W.heap.size,0,none⟩)/\KS W wx [(W.heap.size,26,#[.int .i64 X,.int .i64 Y])])
      case first =>
       have K0:Hid (KS W W.drew []):=Lib.hid (aM W).drew;have KD:=Lib.hid K2.out.drew;have s0:=KD.out.c (g:=(w.heap.size+1+1)) (t:=23) (cs:=#[.int .i64 (sumOf ag.dl (L.take (i+1))),.int .i64 (sumOf ag.dh (L.take (i+1)))]) (by simp) (i:=0) (v:=.int .i64 (sumOf ag.dl (L.take (i+1)))) rfl
       have s0o:=fun o:Obj=>(KD.out.alloc o).c (g:=(w.heap.size+1+1)) (t:=23) (cs:=#[.int .i64 (sumOf ag.dl (L.take (i+1))),.int .i64 (sumOf ag.dh (L.take (i+1)))]) (by simp) (i:=0) (v:=.int .i64 (sumOf ag.dl (L.take (i+1)))) rfl
       have s0p:=fun o:Obj=>((K2.out.alloc o).drew).c (g:=(w.heap.size+1+1)) (t:=23) (cs:=#[.int .i64 (sumOf ag.dl (L.take (i+1))),.int .i64 (sumOf ag.dh (L.take (i+1)))]) (by simp) (i:=0) (v:=.int .i64 (sumOf ag.dl (L.take (i+1)))) rfl
       have s1:=KD.out.c (g:=(w.heap.size+1+1)) (t:=23) (cs:=#[.int .i64 (sumOf ag.dl (L.take (i+1))),.int .i64 (sumOf ag.dh (L.take (i+1)))]) (by simp) (i:=1) (v:=.int .i64 (sumOf ag.dh (L.take (i+1)))) rfl
       have s1o:=fun o:Obj=>(KD.out.alloc o).c (g:=(w.heap.size+1+1)) (t:=23) (cs:=#[.int .i64 (sumOf ag.dl (L.take (i+1))),.int .i64 (sumOf ag.dh (L.take (i+1)))]) (by simp) (i:=1) (v:=.int .i64 (sumOf ag.dh (L.take (i+1)))) rfl
       have s1p:=fun o:Obj=>((K2.out.alloc o).drew).c (g:=(w.heap.size+1+1)) (t:=23) (cs:=#[.int .i64 (sumOf ag.dl (L.take (i+1))),.int .i64 (sumOf ag.dh (L.take (i+1)))]) (by simp) (i:=1) (v:=.int .i64 (sumOf ag.dh (L.take (i+1)))) rfl
       have t0:=KD.out.c (g:=w.heap.size+1) (t:=26) (cs:=#[.int .i64 fl,.int .i64 fh]) (by simp) (i:=0) (v:=.int .i64 fl) rfl
       have t0o:=fun o:Obj=>(KD.out.alloc o).c (g:=w.heap.size+1) (t:=26) (cs:=#[.int .i64 fl,.int .i64 fh]) (by simp) (i:=0) (v:=.int .i64 fl) rfl
       have t0p:=fun o:Obj=>((K2.out.alloc o).drew).c (g:=w.heap.size+1) (t:=26) (cs:=#[.int .i64 fl,.int .i64 fh]) (by simp) (i:=0) (v:=.int .i64 fl) rfl
       have t1:=KD.out.c (g:=w.heap.size+1) (t:=26) (cs:=#[.int .i64 fl,.int .i64 fh]) (by simp) (i:=1) (v:=.int .i64 fh) rfl
       have t1o:=fun o:Obj=>(KD.out.alloc o).c (g:=w.heap.size+1) (t:=26) (cs:=#[.int .i64 fl,.int .i64 fh]) (by simp) (i:=1) (v:=.int .i64 fh) rfl
       have t1p:=fun o:Obj=>((K2.out.alloc o).drew).c (g:=w.heap.size+1) (t:=26) (cs:=#[.int .i64 fl,.int .i64 fh]) (by simp) (i:=1) (v:=.int .i64 fh) rfl
       have a0:=KD.out.c (g:=w.heap.size) (t:=23) (cs:=#[.int .i64 al,.int .i64 ah]) (by simp) (i:=0) (v:=.int .i64 al) rfl
       have a0o:=fun o:Obj=>(KD.out.alloc o).c (g:=w.heap.size) (t:=23) (cs:=#[.int .i64 al,.int .i64 ah]) (by simp) (i:=0) (v:=.int .i64 al) rfl
       have a0p:=fun o:Obj=>((K2.out.alloc o).drew).c (g:=w.heap.size) (t:=23) (cs:=#[.int .i64 al,.int .i64 ah]) (by simp) (i:=0) (v:=.int .i64 al) rfl
       have a1:=KD.out.c (g:=w.heap.size) (t:=23) (cs:=#[.int .i64 al,.int .i64 ah]) (by simp) (i:=1) (v:=.int .i64 ah) rfl
       have a1o:=fun o:Obj=>(KD.out.alloc o).c (g:=w.heap.size) (t:=23) (cs:=#[.int .i64 al,.int .i64 ah]) (by simp) (i:=1) (v:=.int .i64 ah) rfl
       have a1p:=fun o:Obj=>((K2.out.alloc o).drew).c (g:=w.heap.size) (t:=23) (cs:=#[.int .i64 al,.int .i64 ah]) (by simp) (i:=1) (v:=.int .i64 ah) rfl
       clear K2
       go_region_held3 (fun w'=>w'.cell? ⟨(w.heap.size+1+1),0,none⟩=some (.int .i64 (sumOf ag.dl (L.take (i+1))))/\w'.cell? ⟨(w.heap.size+1+1),1,none⟩=some (.int .i64 (sumOf ag.dh (L.take (i+1))))/\w'.cell? ⟨w.heap.size+1,0,none⟩=some (.int .i64 fl)/\w'.cell? ⟨w.heap.size+1,1,none⟩=some (.int .i64 fh)/\w'.cell? ⟨w.heap.size,0,none⟩=some (.int .i64 al)/\w'.cell? ⟨w.heap.size,1,none⟩=some (.int .i64 ah))
        (first
         | (refine ⟨?_,?_,?_,?_,?_,?_⟩<;>with_reducible assumption)
         | with_reducible exact ⟨s0o _,s1o _,t0o _,t1o _,a0o _,a1o _⟩
         | with_reducible exact ⟨s0p _,s1p _,t0p _,t1p _,a0p _,a1p _⟩)
        (first
         | ((go_at_call 31;with_reducible refine (F1.out _).mono ?_);rintro r wm ⟨rfl,rfl⟩)
         | ((go_at_call 32;with_reducible refine (F2.out _).mono ?_);rintro r wm ⟨rfl,rfl⟩))
       all_goals (go_wp2_with fail)
       all_goals go_meet
       all_goals
        first
         | exact ⟨rfl,((aM W).new W.heap.size rfl _ _).drew⟩
         | exact ⟨rfl,(aM W).drew.new _ rfl _ _⟩
      case rest =>
      generalize wc=w5 at *
      obtain ⟨rfl,hK⟩:=hcut;generalize hg:W.heap.size=g at *
      clear hg;have KX:=Lib.hid hK;have K5:=Lib.hid (K2.out.below hK.1);have O5:=Lib.hid (O2.out.below hK.1);clear hK K2 O2 F1 F2 n1 n2 n3 n4 hX hY;have CV:=Lib.hid (fun w=>Iu X Y w)
      have KY:=KX;have m0:=KY.out.c (g:=g) (t:=26) (cs:=#[.int .i64 X,.int .i64 Y]) (by simp) (i:=0) (v:=.int .i64 X) rfl;have m1:=KY.out.c (g:=g) (t:=26) (cs:=#[.int .i64 X,.int .i64 Y]) (by simp) (i:=1) (v:=.int .i64 Y) rfl
      cases hv:tmB X Y
      . rw [hv] at CV;have R:=Lib.hid (EF (al:=al) (ah:=ah) (fl:=fl) (fh:=fh) hl (by rw [VX.out];exact hv))
        go_wp2_with fail;refine (CV.out _).mono ?_;rintro e w6 ⟨rfl,hb6⟩;have K6:=Lib.hid (K5.out.below hb6);clear hb6 K5 O5 CV m0 m1 KX KY;go_wp2;refine bodyPost_ret (by simp [results,Tryz.results15,go_sem];try rfl) rfl ⟨⟨_,by rw [R.out.1],by rw [R.out.2];exact bR.nil _ _ _ _⟩,K6.out.1⟩
      . rw [hv] at CV
        have FIN:Hid (∀ j,j<i+1->atB (atV al ah fl fh L j)=true):=Lib.hid (by
         intro j hj
         by_cases q:j<i
         . exact OK.out j q
         . obtain rfl:j=i:=by omega
           rw [VX.out];exact hv)
        have ND:Hid (atL al ah fl fh L (i+1)=atL al ah fl fh L i++[[X,Y]]):=Lib.hid (by rw [zh,VX.out])
        go_wp2_with fail;refine (CV.out _).mono ?_;rintro e w6 ⟨rfl,hb6⟩;have K6:=Lib.hid (K5.out.below hb6);have O6:=Lib.hid (O5.out.below hb6);have KZ:=Lib.hid (KX.out.below hb6);clear hb6 K5 O5 CV m0 m1 KX KY;have KY:=KZ;have m0:=KY.out.c (g:=g) (t:=26) (cs:=#[.int .i64 X,.int .i64 Y]) (by simp) (i:=0) (v:=.int .i64 X) rfl;have m1:=KY.out.c (g:=g) (t:=26) (cs:=#[.int .i64 X,.int .i64 Y]) (by simp) (i:=1) (v:=.int .i64 Y) rfl
        have BS:Hid ((w.heap.size+1+1)+1<=w6.heap.size):=Lib.hid (by have:=K6.out.lt (g:=(w.heap.size+1+1)) (t:=23) (cs:=#[.int .i64 (sumOf ag.dl (L.take (i+1))),.int .i64 (sumOf ag.dh (L.take (i+1)))]) (by simp);omega)
        go_wp2_with (at_builtin;refine jB ED rfl _ _ rfl _ ((w.heap.size+1+1)+1) _ (atL al ah fl fh L i) [[X,Y]] rfl (O6.out.alloc _) _ 1 1 rfl rfl (fun j u hj=>mP _ _ rfl _ _ rfl _ j u hj) (by intro x hx;simp at hx;subst hx;rfl) (Nat.succ_pos _) HSZ.out (Nat.le_trans BS.out (tJ _ _)) ?_;intro v10 w10 O10 B10 G10 E10)
        have O10':=Lib.hid O10;have K10:=Lib.hid ((K6.out.alloc _).upto B10 (by have:=HW3.out;omega) (by intro p hp;have:=HW3.out;simp at hp;rcases hp with rfl|rfl|rfl<;>simp only []<;>omega))
        clear O10 B10 G10 E10 m0 m1 KY KZ K6 O6;go_wp2;go_light;exact ⟨⟨i+1,by rw [show ((i+1:Nat):Int)=(i:Int)+1 by omega],by omega,FIN.out,by rw [ND.out];exact O10'.out,K10.out⟩,by simp only [intOf];omega⟩
  . have hl':¬ (i:Int)<(L.length:Int):=by omega
    have R:=Lib.hid (Gi (al:=al) (ah:=ah) (fl:=fl) (fh:=fh) (L:=L) (fun j hj=>OK.out j (by omega)))
    have EQ:Hid (atL al ah fl fh L i=atL al ah fl fh L L.length):=Lib.hid (by rw [show i=L.length by omega])
    clear hi;go_wp2;refine bodyPost_ret (by simp [results,Tryz.results15,go_sem];try rfl) rfl ⟨⟨_,by rw [R.out.1],by rw [R.out.2,<-EQ.out];exact O.out.mono (by have:=HW3.out;omega)⟩,K.out.1⟩
end Go.Proofs.YtpcfajiiijndiaaGreat
namespace Go.Proofs.YtpcfajiiijndiaaGreat
open Go.RowKit Alm Sx
def Ht (n:Nat):Bool:=decide (n<=14∨(60<n/\n<64))
theorem Ig (a:Option Addr) (n cap:Nat) (w:World):Calls Tryz.prog 10 #[.slice a n cap] w fun e w'=>e=.returned (.bool (Ht n))/\w=w':=by
 unfold Ht;go_enter Tryz.func10,Tryz.ntmps10;go_wp2
 all_goals go_ret
 all_goals exact ⟨bY (by first|(simp<;>omega)|(simp_all<;>omega)|(rw [Bool.eq_iff_iff];simp;done)|(rw [Bool.eq_iff_iff];simp;omega)|rfl),rfl⟩
theorem Il (al ah fl fh:Int) (L:List ag):(arR al ah fl fh L).length<=L.length:=by
 unfold arR;split
 . rw [Df];exact Nat.le_refl _
 . exact Nat.zero_le _
theorem sj (a:Option Addr) (cap:Nat) (L:List ag) (al ah fl fh E:Int) (R:Cs) (w:World) (hL:nN w a L) (hn:L.length<=60) (hf:Ht L.length=true) (hR:R.length<=1000) (hs:spB al ah=true) (ht:tmB fl fh=true) (hg:qd L=0)
 (hP:∀ wr:World,nN wr a L->Calls Tryz.prog 11 #[.slice a L.length cap,.agg #[.int .i64 al,.int .i64 ah],.agg #[.int .i64 fl,.int .i64 fh]] wr fun e w'=>(∃ u,e=.returned (.tuple #[u,.int .i64 E])/\bR 2 26 wr.heap.size w' u R)/\Below wr.heap.size wr w')
 (hQ:∀ wr:World,nN wr a L->Calls Tryz.prog 15 #[.slice a L.length cap,.agg #[.int .i64 al,.int .i64 ah],.agg #[.int .i64 fl,.int .i64 fh]] wr fun e w'=>(∃ u,e=.returned (.tuple #[u,.int .i64 E])/\bR 2 26 wr.heap.size w' u R)/\Below wr.heap.size wr w') :
 Calls Tryz.prog 4 #[.slice a L.length cap,.agg #[.int .i64 al,.int .i64 ah],.agg #[.int .i64 fl,.int .i64 fh]] w fun e w'=>e=.returned (.bool true)/\Below w.heap.size w w':=by
 have HL:=Lib.hid hL;have HP:=Lib.hid hP;have HQ:=Lib.hid hQ;clear hL hP hQ;have CA:=Lib.hid xG;have CF:=Lib.hid (fun w=>Ig a L.length cap w)
 rw [hf] at CF;have CG:=Lib.hid (fun w hL=>Ho a cap L w hL (by omega))
 rw [hg] at CG;have CS:Hid (∀ w,Calls Tryz.prog 13 #[.agg #[.int .i64 al,.int .i64 ah]] w fun e w'=>e=.returned (.bool true)/\Below w.heap.size w w'):=Lib.hid (fun w=>by have:=Ip al ah w;rw [show decide ((0:Int)<=al/\al<=ah/\ah<=200000)=true from hs] at this;exact this)
 have CT:=Lib.hid (fun w=>Iu fl fh w)
 rw [ht] at CT;clear hf hg hs ht;have HRL:=Lib.hid hR;clear hR;have KC:Hid (∀ wr:World,KS w wr [(w.heap.size+1,26,#[.int .i64 fl,.int .i64 fh]),(w.heap.size,23,#[.int .i64 al,.int .i64 ah])]->wr.cell? ⟨w.heap.size,0,none⟩=some (.int .i64 al)/\wr.cell? ⟨w.heap.size,1,none⟩=some (.int .i64 ah)/\wr.cell? ⟨w.heap.size+1,0,none⟩=some (.int .i64 fl)/\wr.cell? ⟨w.heap.size+1,1,none⟩=some (.int .i64 fh)):=Lib.hid (fun wr K=>⟨K.c (g:=w.heap.size) (t:=23) (cs:=#[.int .i64 al,.int .i64 ah]) (by simp) (i:=0) rfl,K.c (g:=w.heap.size) (t:=23) (cs:=#[.int .i64 al,.int .i64 ah]) (by simp) (i:=1) rfl,K.c (g:=w.heap.size+1) (t:=26) (cs:=#[.int .i64 fl,.int .i64 fh]) (by simp) (i:=0) rfl,K.c (g:=w.heap.size+1) (t:=26) (cs:=#[.int .i64 fl,.int .i64 fh]) (by simp) (i:=1) rfl⟩)
 have K0:=Lib.hid (((aM w).new w.heap.size rfl 23 #[.int .i64 al,.int .i64 ah]).new (w.heap.size+1) (by simp) 26 #[.int .i64 fl,.int .i64 fh])
 go_enter Tryz.func4,Tryz.ntmps4;go_wp2_with fail;refine (CA.out _).mono ?_;rintro e w1 ⟨rfl,hb⟩;have K1:=Lib.hid (K0.out.below hb);clear hb K0 CA;go_wp2_with fail;refine (CF.out _).mono ?_;rintro e w2 ⟨rfl,rfl⟩;obtain ⟨s0,s1,t0,t1⟩:=KC.out _ K1.out;go_wp2_with fail;refine (HP.out _ (HL.out.below K1.out.1)).mono ?_;rintro e w2 ⟨⟨u,rfl,O⟩,hb⟩;obtain ⟨a1,cap1,rfl,_,_,S1,_⟩:=O.out (by decide)
 have K2:=Lib.hid (K1.out.below hb);have HS1:=Lib.hid S1;clear hb K1 O S1 HP s0 s1 t0 t1;obtain ⟨s0,s1,t0,t1⟩:=KC.out _ K2.out;go_wp2_with fail;refine (CG.out _ (HL.out.below K2.out.1)).mono ?_;rintro e w3 ⟨rfl,hb⟩;have K3:=Lib.hid (K2.out.below hb);have HS2:=Lib.hid (HS1.out.below hb);clear hb K2 HS1 CG s0 s1 t0 t1;obtain ⟨s0,s1,t0,t1⟩:=KC.out _ K3.out;go_wp2_with fail;refine (CS.out _).mono ?_;rintro e w4 ⟨rfl,hb⟩;have K4:=Lib.hid (K3.out.below hb);have HS3:=Lib.hid (HS2.out.below hb);clear hb K3 HS2 CS s0 s1 t0 t1;obtain ⟨s0,s1,t0,t1⟩:=KC.out _ K4.out;go_wp2_with fail;refine (CT.out _).mono ?_;rintro e w5 ⟨rfl,hb⟩;have K5:=Lib.hid (K4.out.below hb);have HS4:=Lib.hid (HS3.out.below hb);clear hb K4 HS3 CT s0 s1 t0 t1;obtain ⟨s0,s1,t0,t1⟩:=KC.out _ K5.out;go_wp2_with fail;refine (HQ.out _ (HL.out.below K5.out.1)).mono ?_;rintro e w6 ⟨⟨u,rfl,O⟩,hb⟩;obtain ⟨a2,cap2,rfl,_,_,S2,_⟩:=O.out (by decide)
 have K6:=Lib.hid (K5.out.below hb);have HS5:=Lib.hid (HS4.out.below hb);have CE:=Lib.hid (Ii a1 a2 cap1 cap2 R R w6 HS5.out S2 HRL.out HRL.out);rw [decide_eq_true rfl] at CE;clear hb K5 O S2 HQ HS4 HS5 s0 s1 t0 t1;go_wp2_with fail;refine CE.out.mono ?_;rintro e w7 ⟨rfl,hb⟩;have K7:=Lib.hid (K6.out.below hb);clear hb K6 CE;go_wp2;go_ret;exact ⟨by first|rfl|(simp;done)|(simp;rfl),K7.out.1⟩
theorem H7 (a:Option Addr) (cap:Nat) (L:List ag) (al ah fl fh:Int) (w:World) (hL:nN w a L) (hn:L.length<=100) (hf:Ht L.length=true) (hb:agB al ah fl fh L≠0) :
 Calls Tryz.prog 4 #[.slice a L.length cap,.agg #[.int .i64 al,.int .i64 ah],.agg #[.int .i64 fl,.int .i64 fh]] w fun e w'=>e=.returned (.bool true)/\Below w.heap.size w w':=by
 have HL:=Lib.hid hL;clear hL;have HP:=Lib.hid (fun wr hL=>Hw a cap L al ah fl fh wr hL hn hb)
 have CA:=Lib.hid xG;have CF:=Lib.hid (fun w=>Ig a L.length cap w)
 rw [hf] at CF;have CG:=Lib.hid (fun w hL=>Ho a cap L w hL hn)
 have CS:Hid (∀ w,Calls Tryz.prog 13 #[.agg #[.int .i64 al,.int .i64 ah]] w fun e w'=>e=.returned (.bool (spB al ah))/\Below w.heap.size w w'):=Lib.hid (fun w=>Ip al ah w)
 have CT:=Lib.hid (fun w=>Iu fl fh w)
 have key:(spB al ah=false/\agB al ah fl fh L=1)∨(spB al ah=true/\tmB fl fh=false/\agB al ah fl fh L=1)∨(spB al ah=true/\tmB fl fh=true/\qd L=1/\agB al ah fl fh L=1)∨(spB al ah=true/\tmB fl fh=true/\qd L=4/\agB al ah fl fh L=4):=by
  have GB:=Ik L;unfold agB at *
  cases h1:spB al ah
  . exact .inl ⟨rfl,rfl⟩
  . cases h2:tmB fl fh
    . exact .inr (.inl ⟨rfl,rfl,rfl⟩)
    . rw [h1,h2] at hb;rcases GB with h|h|h
      . exact absurd (by rw [h];rfl) hb
      . exact .inr (.inr (.inl ⟨rfl,rfl,h,by rw [h];rfl⟩))
      . exact .inr (.inr (.inr ⟨rfl,rfl,h,by rw [h];rfl⟩))
 clear hf hb;generalize spB al ah=x at *
 generalize tmB fl fh=y at *
 generalize agB al ah fl fh L=E at *
 generalize qd L=g at *
 rcases key with ⟨rfl,rfl⟩|⟨rfl,rfl,rfl⟩|⟨rfl,rfl,rfl,rfl⟩|⟨rfl,rfl,rfl,rfl⟩
 . have KC:Hid (∀ wr:World,KS w wr [(w.heap.size+1,26,#[.int .i64 fl,.int .i64 fh]),(w.heap.size,23,#[.int .i64 al,.int .i64 ah])]->wr.cell? ⟨w.heap.size,0,none⟩=some (.int .i64 al)/\wr.cell? ⟨w.heap.size,1,none⟩=some (.int .i64 ah)/\wr.cell? ⟨w.heap.size+1,0,none⟩=some (.int .i64 fl)/\wr.cell? ⟨w.heap.size+1,1,none⟩=some (.int .i64 fh)):=Lib.hid (fun wr K=>⟨K.c (g:=w.heap.size) (t:=23) (cs:=#[.int .i64 al,.int .i64 ah]) (by simp) (i:=0) rfl,K.c (g:=w.heap.size) (t:=23) (cs:=#[.int .i64 al,.int .i64 ah]) (by simp) (i:=1) rfl,K.c (g:=w.heap.size+1) (t:=26) (cs:=#[.int .i64 fl,.int .i64 fh]) (by simp) (i:=0) rfl,K.c (g:=w.heap.size+1) (t:=26) (cs:=#[.int .i64 fl,.int .i64 fh]) (by simp) (i:=1) rfl⟩)
   have K0:=Lib.hid (((aM w).new w.heap.size rfl 23 #[.int .i64 al,.int .i64 ah]).new (w.heap.size+1) (by simp) 26 #[.int .i64 fl,.int .i64 fh])
   go_enter Tryz.func4,Tryz.ntmps4;go_wp2_with fail;refine (CA.out _).mono ?_;rintro e w1 ⟨rfl,hb1⟩;have K1:=Lib.hid (K0.out.below hb1);clear hb1 K0 CA;go_wp2_with fail;refine (CF.out _).mono ?_;rintro e w2 ⟨rfl,rfl⟩;obtain ⟨s0,s1,t0,t1⟩:=KC.out _ K1.out;go_wp2_with fail;refine (HP.out _ (HL.out.below K1.out.1)).mono ?_;rintro e w2 ⟨rfl,hb1⟩;have K2:=Lib.hid (K1.out.below hb1);clear hb1 K1 HP s0 s1 t0 t1;obtain ⟨s0,s1,t0,t1⟩:=KC.out _ K2.out;go_wp2_with fail;refine (CG.out _ (HL.out.below K2.out.1)).mono ?_;rintro e w3 ⟨rfl,hb1⟩;have K3:=Lib.hid (K2.out.below hb1);clear hb1 K2 CG s0 s1 t0 t1;obtain ⟨s0,s1,t0,t1⟩:=KC.out _ K3.out;go_wp2_with fail;refine (CS.out _).mono ?_;rintro e w4 ⟨rfl,hb1⟩;have K4:=Lib.hid (K3.out.below hb1);clear hb1 K3 CS s0 s1 t0 t1;obtain ⟨s0,s1,t0,t1⟩:=KC.out _ K4.out;go_wp2;go_ret;exact ⟨by first|rfl|(simp;done)|(simp;rfl),K4.out.1⟩
 . have KC:Hid (∀ wr:World,KS w wr [(w.heap.size+1,26,#[.int .i64 fl,.int .i64 fh]),(w.heap.size,23,#[.int .i64 al,.int .i64 ah])]->wr.cell? ⟨w.heap.size,0,none⟩=some (.int .i64 al)/\wr.cell? ⟨w.heap.size,1,none⟩=some (.int .i64 ah)/\wr.cell? ⟨w.heap.size+1,0,none⟩=some (.int .i64 fl)/\wr.cell? ⟨w.heap.size+1,1,none⟩=some (.int .i64 fh)):=Lib.hid (fun wr K=>⟨K.c (g:=w.heap.size) (t:=23) (cs:=#[.int .i64 al,.int .i64 ah]) (by simp) (i:=0) rfl,K.c (g:=w.heap.size) (t:=23) (cs:=#[.int .i64 al,.int .i64 ah]) (by simp) (i:=1) rfl,K.c (g:=w.heap.size+1) (t:=26) (cs:=#[.int .i64 fl,.int .i64 fh]) (by simp) (i:=0) rfl,K.c (g:=w.heap.size+1) (t:=26) (cs:=#[.int .i64 fl,.int .i64 fh]) (by simp) (i:=1) rfl⟩)
   have K0:=Lib.hid (((aM w).new w.heap.size rfl 23 #[.int .i64 al,.int .i64 ah]).new (w.heap.size+1) (by simp) 26 #[.int .i64 fl,.int .i64 fh])
   go_enter Tryz.func4,Tryz.ntmps4;go_wp2_with fail;refine (CA.out _).mono ?_;rintro e w1 ⟨rfl,hb1⟩;have K1:=Lib.hid (K0.out.below hb1);clear hb1 K0 CA;go_wp2_with fail;refine (CF.out _).mono ?_;rintro e w2 ⟨rfl,rfl⟩;obtain ⟨s0,s1,t0,t1⟩:=KC.out _ K1.out;go_wp2_with fail;refine (HP.out _ (HL.out.below K1.out.1)).mono ?_;rintro e w2 ⟨rfl,hb1⟩;have K2:=Lib.hid (K1.out.below hb1);clear hb1 K1 HP s0 s1 t0 t1;obtain ⟨s0,s1,t0,t1⟩:=KC.out _ K2.out;go_wp2_with fail;refine (CG.out _ (HL.out.below K2.out.1)).mono ?_;rintro e w3 ⟨rfl,hb1⟩;have K3:=Lib.hid (K2.out.below hb1);clear hb1 K2 CG s0 s1 t0 t1;obtain ⟨s0,s1,t0,t1⟩:=KC.out _ K3.out;go_wp2_with fail;refine (CS.out _).mono ?_;rintro e w4 ⟨rfl,hb1⟩;have K4:=Lib.hid (K3.out.below hb1);clear hb1 K3 CS s0 s1 t0 t1;obtain ⟨s0,s1,t0,t1⟩:=KC.out _ K4.out;go_wp2_with fail;refine (CT.out _).mono ?_;rintro e w5 ⟨rfl,hb1⟩;have K5:=Lib.hid (K4.out.below hb1);clear hb1 K4 CT s0 s1 t0 t1;obtain ⟨s0,s1,t0,t1⟩:=KC.out _ K5.out;go_wp2;go_ret;exact ⟨by first|rfl|(simp;done)|(simp;rfl),K5.out.1⟩
 . have KC:Hid (∀ wr:World,KS w wr [(w.heap.size+1,26,#[.int .i64 fl,.int .i64 fh]),(w.heap.size,23,#[.int .i64 al,.int .i64 ah])]->wr.cell? ⟨w.heap.size,0,none⟩=some (.int .i64 al)/\wr.cell? ⟨w.heap.size,1,none⟩=some (.int .i64 ah)/\wr.cell? ⟨w.heap.size+1,0,none⟩=some (.int .i64 fl)/\wr.cell? ⟨w.heap.size+1,1,none⟩=some (.int .i64 fh)):=Lib.hid (fun wr K=>⟨K.c (g:=w.heap.size) (t:=23) (cs:=#[.int .i64 al,.int .i64 ah]) (by simp) (i:=0) rfl,K.c (g:=w.heap.size) (t:=23) (cs:=#[.int .i64 al,.int .i64 ah]) (by simp) (i:=1) rfl,K.c (g:=w.heap.size+1) (t:=26) (cs:=#[.int .i64 fl,.int .i64 fh]) (by simp) (i:=0) rfl,K.c (g:=w.heap.size+1) (t:=26) (cs:=#[.int .i64 fl,.int .i64 fh]) (by simp) (i:=1) rfl⟩)
   have K0:=Lib.hid (((aM w).new w.heap.size rfl 23 #[.int .i64 al,.int .i64 ah]).new (w.heap.size+1) (by simp) 26 #[.int .i64 fl,.int .i64 fh])
   go_enter Tryz.func4,Tryz.ntmps4;go_wp2_with fail;refine (CA.out _).mono ?_;rintro e w1 ⟨rfl,hb1⟩;have K1:=Lib.hid (K0.out.below hb1);clear hb1 K0 CA;go_wp2_with fail;refine (CF.out _).mono ?_;rintro e w2 ⟨rfl,rfl⟩;obtain ⟨s0,s1,t0,t1⟩:=KC.out _ K1.out;go_wp2_with fail;refine (HP.out _ (HL.out.below K1.out.1)).mono ?_;rintro e w2 ⟨rfl,hb1⟩;have K2:=Lib.hid (K1.out.below hb1);clear hb1 K1 HP s0 s1 t0 t1;obtain ⟨s0,s1,t0,t1⟩:=KC.out _ K2.out;go_wp2_with fail;refine (CG.out _ (HL.out.below K2.out.1)).mono ?_;rintro e w3 ⟨rfl,hb1⟩;have K3:=Lib.hid (K2.out.below hb1);clear hb1 K2 CG s0 s1 t0 t1;obtain ⟨s0,s1,t0,t1⟩:=KC.out _ K3.out;go_wp2_with fail;refine (CS.out _).mono ?_;rintro e w4 ⟨rfl,hb1⟩;have K4:=Lib.hid (K3.out.below hb1);clear hb1 K3 CS s0 s1 t0 t1;obtain ⟨s0,s1,t0,t1⟩:=KC.out _ K4.out;go_wp2_with fail;refine (CT.out _).mono ?_;rintro e w5 ⟨rfl,hb1⟩;have K5:=Lib.hid (K4.out.below hb1);clear hb1 K4 CT s0 s1 t0 t1;obtain ⟨s0,s1,t0,t1⟩:=KC.out _ K5.out;go_wp2;go_ret;exact ⟨by first|rfl|(simp;done)|(simp;rfl),K5.out.1⟩
 . have KC:Hid (∀ wr:World,KS w wr [(w.heap.size+1,26,#[.int .i64 fl,.int .i64 fh]),(w.heap.size,23,#[.int .i64 al,.int .i64 ah])]->wr.cell? ⟨w.heap.size,0,none⟩=some (.int .i64 al)/\wr.cell? ⟨w.heap.size,1,none⟩=some (.int .i64 ah)/\wr.cell? ⟨w.heap.size+1,0,none⟩=some (.int .i64 fl)/\wr.cell? ⟨w.heap.size+1,1,none⟩=some (.int .i64 fh)):=Lib.hid (fun wr K=>⟨K.c (g:=w.heap.size) (t:=23) (cs:=#[.int .i64 al,.int .i64 ah]) (by simp) (i:=0) rfl,K.c (g:=w.heap.size) (t:=23) (cs:=#[.int .i64 al,.int .i64 ah]) (by simp) (i:=1) rfl,K.c (g:=w.heap.size+1) (t:=26) (cs:=#[.int .i64 fl,.int .i64 fh]) (by simp) (i:=0) rfl,K.c (g:=w.heap.size+1) (t:=26) (cs:=#[.int .i64 fl,.int .i64 fh]) (by simp) (i:=1) rfl⟩)
   have K0:=Lib.hid (((aM w).new w.heap.size rfl 23 #[.int .i64 al,.int .i64 ah]).new (w.heap.size+1) (by simp) 26 #[.int .i64 fl,.int .i64 fh])
   go_enter Tryz.func4,Tryz.ntmps4;go_wp2_with fail;refine (CA.out _).mono ?_;rintro e w1 ⟨rfl,hb1⟩;have K1:=Lib.hid (K0.out.below hb1);clear hb1 K0 CA;go_wp2_with fail;refine (CF.out _).mono ?_;rintro e w2 ⟨rfl,rfl⟩;obtain ⟨s0,s1,t0,t1⟩:=KC.out _ K1.out;go_wp2_with fail;refine (HP.out _ (HL.out.below K1.out.1)).mono ?_;rintro e w2 ⟨rfl,hb1⟩;have K2:=Lib.hid (K1.out.below hb1);clear hb1 K1 HP s0 s1 t0 t1;obtain ⟨s0,s1,t0,t1⟩:=KC.out _ K2.out;go_wp2_with fail;refine (CG.out _ (HL.out.below K2.out.1)).mono ?_;rintro e w3 ⟨rfl,hb1⟩;have K3:=Lib.hid (K2.out.below hb1);clear hb1 K2 CG s0 s1 t0 t1;obtain ⟨s0,s1,t0,t1⟩:=KC.out _ K3.out;go_wp2_with fail;refine (CS.out _).mono ?_;rintro e w4 ⟨rfl,hb1⟩;have K4:=Lib.hid (K3.out.below hb1);clear hb1 K3 CS s0 s1 t0 t1;obtain ⟨s0,s1,t0,t1⟩:=KC.out _ K4.out;go_wp2_with fail;refine (CT.out _).mono ?_;rintro e w5 ⟨rfl,hb1⟩;have K5:=Lib.hid (K4.out.below hb1);clear hb1 K4 CT s0 s1 t0 t1;obtain ⟨s0,s1,t0,t1⟩:=KC.out _ K5.out;go_wp2;go_ret;exact ⟨by first|rfl|(simp;done)|(simp;rfl),K5.out.1⟩
theorem Hz (a:Option Addr) (n cap:Nat) (al ah fl fh:Int) (w:World) (hf:Ht n=false) :
 Calls Tryz.prog 4 #[.slice a n cap,.agg #[.int .i64 al,.int .i64 ah],.agg #[.int .i64 fl,.int .i64 fh]] w fun e w'=>e=.returned (.bool true)/\Below w.heap.size w w':=by
 have CA:=Lib.hid xG;have CF:=Lib.hid (fun w=>Ig a n cap w)
 rw [hf] at CF;clear hf;have K0:=Lib.hid (((aM w).new w.heap.size rfl 23 #[.int .i64 al,.int .i64 ah]).new (w.heap.size+1) (by simp) 26 #[.int .i64 fl,.int .i64 fh])
 go_enter Tryz.func4,Tryz.ntmps4;go_wp2_with fail;refine (CA.out _).mono ?_;rintro e w1 ⟨rfl,hb⟩;have K1:=Lib.hid (K0.out.below hb);clear hb K0 CA;go_wp2_with fail;refine (CF.out _).mono ?_;rintro e w2 ⟨rfl,rfl⟩;go_wp2;go_ret;exact ⟨rfl,K1.out.1⟩
theorem IE {al ah fl fh:Int} {L:List ag} (h:agB al ah fl fh L=0):spB al ah=true/\tmB fl fh=true/\qd L=0:=by
 unfold agB at h;cases h1:spB al ah
 . rw [h1] at h;simp at h
 . cases h2:tmB fl fh
   . rw [h1,h2] at h;simp at h
   . rw [h1,h2] at h;simp at h;exact ⟨rfl,rfl,h⟩
theorem Im (a:Option Addr) (cap:Nat) (L:List ag) (al ah fl fh:Int) (w:World) (hL:nN w a L) :
 Calls Tryz.prog 4 #[.slice a L.length cap,.agg #[.int .i64 al,.int .i64 ah],.agg #[.int .i64 fl,.int .i64 fh]] w fun e w'=>e=.returned (.bool true)/\Below w.heap.size w w':=by
 cases hf:Ht L.length
 . exact Hz a L.length cap al ah fl fh w hf
 . have hn:L.length<=100:=by unfold Ht at hf;rw [decide_eq_true_eq] at hf;omega
   by_cases hb:agB al ah fl fh L=0
   . obtain ⟨h1,h2,h3⟩:=IE hb;obtain ⟨h4,h5⟩:=Iy h3
     by_cases hz:al=0
     . subst hz;refine sj a cap L 0 ah fl fh 16 [] w hL h5 hf (by simp) h1 h2 h3 (fun wr hw=>?_) (fun wr hw=>?_)
       . refine (Hu a cap L ah fl fh wr hw hn hb).mono ?_;rintro e w' ⟨rfl,k⟩;exact ⟨⟨_,rfl,bR.nil _ _ _ _⟩,k⟩
       . refine (Hl a cap L.length ah fl fh wr).mono ?_;rintro e w' ⟨rfl,k⟩;exact ⟨⟨_,rfl,bR.nil _ _ _ _⟩,k⟩
     . have hs:1<=al/\al<=ah/\ah<=200000:=by unfold spB at h1;rw [decide_eq_true_eq] at h1;omega
       exact sj a cap L al ah fl fh (arE al ah fl fh L) (arR al ah fl fh L) w hL h5 hf (by have:=Il al ah fl fh L;omega) h1 h2 h3 (fun wr hw=>yN a cap L al ah fl fh wr hw h5 h4 hs h2) (fun wr hw=>H6 a cap L al ah fl fh wr hw h5 h4 hs h2)
   . exact H7 a cap L al ah fl fh w hL hn hf hb
