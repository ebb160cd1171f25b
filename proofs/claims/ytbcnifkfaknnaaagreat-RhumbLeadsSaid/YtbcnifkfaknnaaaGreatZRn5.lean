/- Package rhumb's series: the sine, the inverse hyperbolic tangent. -/
import Derived.Test.YtbcnifkfaknnaaaGreatZRn1
import Derived.Deep.RegionWith
import Derived.BigRegion
set_option linter.unusedVariables false
set_option linter.unusedSimpArgs false
set_option maxRecDepth 100000
set_option maxHeartbeats 4000000
namespace Go.Proofs.YtbcnifkfaknnaaaGreat
open Go.RowKit Alm
def ZK (z:Nat) (w:World) (b3 b4:Nat) (v5 v6:Value) (wr:World):Prop :=
 ∃ (f T k S b5:Nat),v5=.pointer (some ⟨b5,0,none⟩)/\v6=.int .u64 (k:Int)/\okA f (aC z z) T k S=true/\Am f (aC z z) T k S=bI z/\k+2*f=401/\0<k/\T<W/\S<W /\
  KS w wr [(b5,80,nv T),(b4,80,nv S),(b3,80,nv (aC z z)),(w.heap.size+1,80,nv 0)]/\b5≠b4/\b5≠b3/\b5≠w.heap.size+1/\w.heap.size<=b5
theorem wB (z:Nat) (h:lU z=true) (w:World):Calls Tryz.prog 62 #[.agg #[.int .u64 (nl (z) 3),.int .u64 (nl (z) 2),.int .u64 (nl (z) 1),.int .u64 (nl (z) 0)]] w fun e w'=>e=.returned (.agg #[.int .u64 (nl (bI z) 3),.int .u64 (nl (bI z) 2),.int .u64 (nl (bI z) 1),.int .u64 (nl (bI z) 0)])/\Below w.heap.size w w':=by
 have H:Hid (z<W/\z*z<2^448/\aC z z<W/\okA 200 (aC z z) z 1 0=true):=by
  unfold lU at h;simp only [Bool.and_eq_true,decide_eq_true_eq] at h;exact ⟨h.1.1.1,h.1.1.2,h.1.2,h.2⟩
 clear h;have C0:=Lib.hid (fun w=>lN z z H.out.1 H.out.1 H.out.2.1 w)
 have K0:=Lib.hid (((fB w).new w.heap.size rfl 80 (nv z)).new (w.heap.size+1) (by simp) 80 (nv 0))
 go_enter Tryz.func62,Tryz.ntmps62;go_wp2_with fail;refine (C0.out _).mono ?_;rintro e w1 ⟨rfl,hb1⟩;have K1:=Lib.hid (K0.out.below hb1);clear hb1 K0 C0;have QA:∀ o1 o2:Obj,_:=fun o1 o2=>((((K1.out.alloc o1).alloc o2).n4 (g:=w.heap.size) (A:=z) (t:=80) (by simp)).1)
 have Q0:=fun o1 o2=>(QA o1 o2).1
 have Q1:=fun o1 o2=>(QA o1 o2).2.1
 have Q2:=fun o1 o2=>(QA o1 o2).2.2.1
 have Q3:=fun o1 o2=>(QA o1 o2).2.2.2
 clear QA;have S1:=Lib.hid (K1.out.lt (g:=w.heap.size+1) (t:=80) (cs:=nv 0) (by simp))
 have K2:=Lib.hid (((K1.out.new w1.heap.size rfl 80 (nv (aC z z))).new (w1.heap.size+1) (by simp) 80 (nv 0)).new (w1.heap.size+1+1) (by simp) 80 (nv z))
 go_wp2;go_loopw [5,6] (fun v5 v6 wr=>ZK z w w1.heap.size (w1.heap.size+1) v5 v6 wr) (fun _ v6 _=>(401-intOf v6).toNat)
 case atStart =>
  refine ⟨200,z,1,0,w1.heap.size+1+1,rfl,rfl,H.out.2.2.2,rfl,by omega,by omega,H.out.1,by unfold W;decide +kernel,K2.out.sub (by intro p hp;simp at hp ⊢;rcases hp with rfl|rfl|rfl|rfl<;>simp),by omega,by omega,?_,?_⟩
  . have:=S1.out;omega
  . have:=S1.out;omega
 case round =>
  obtain ⟨f,T,k,S,b5,rfl,rfl,hok,hR,hk,hk0,hT,hS,hK,n1,n2,n3,n4⟩:=hrel;have KA:=Lib.hid hK;clear hK K2;have AN:=fun w=>FP w T hT
  by_cases hz:T=0
  . subst hz;have FIN:Hid (S=bI z):=Lib.hid (by rw [<-hR];cases f<;>simp [Am])
    simp only [decide_true,Bool.not_true] at AN;clear hok hR;obtain ⟨⟨t0,t1,t2,t3⟩,_⟩:=KA.out.n4 (g:=b5) (A:=0) (t:=80) (by simp)
    obtain ⟨⟨s0,s1,s2,s3⟩,_⟩:=KA.out.n4 (g:=w1.heap.size+1) (A:=S) (t:=80) (by simp)
    obtain ⟨⟨r0,r1,r2,r3⟩,rf0,rf1,rf2,rf3⟩:=KA.out.n4 (g:=w.heap.size+1) (A:=0) (t:=80) (by simp)
    have HB:=Lib.hid KA.out.1;go_wp2;refine bodyPost_ret (v:=.agg #[.int .u64 (nl (S) 3),.int .u64 (nl (S) 2),.int .u64 (nl (S) 1),.int .u64 (nl (S) 0)]) (by simp [results,Tryz.results62,go_sem,r0,r1,r2,r3]) rfl ⟨by rw [FIN.out],by have:=HB.out;go_light;go_grown⟩
  . cases f with
    | zero=>simp [okA] at hok;exact absurd hok hz
    | succ f =>
     simp only [okA,if_neg hz,Bool.and_eq_true,decide_eq_true_eq] at hok;obtain ⟨⟨⟨ok1,ok2⟩,ok3⟩,ok4⟩:=hok;simp only [Am,if_neg hz] at hR;simp only [hz,decide_false,Bool.not_false] at AN;have D1:=fun w=>mD T (k:Int) hT (by unfold U64;omega) (by omega) w
     rw [Int.toNat_natCast] at D1;replace D1:=Lib.hid D1;have D2:=Lib.hid (fun w=>jf S (T/k) ok1 w)
     have D3:=Lib.hid (fun w=>lN T (aC z z) hT H.out.2.2.1 ok2 w)
     have HR:=Lib.hid hR;have OK4:=Lib.hid ok4;have e2:IntKind.u64.wrap ((k:Int)+2)=((k+2:Nat):Int):=by rw [w64 _ (by unfold U64;omega)];rfl
     generalize T/k=D at *
     generalize aC T (aC z z)=T' at *
     clear hR ok4;obtain ⟨⟨s0,s1,s2,s3⟩,sf0,sf1,sf2,sf3⟩:=KA.out.n4 (g:=w1.heap.size+1) (A:=S) (t:=80) (by simp)
     obtain ⟨⟨t0,t1,t2,t3⟩,_⟩:=KA.out.n4 (g:=b5) (A:=T) (t:=80) (by simp)
     go_wp2_with fail;replace KA:=Lib.hid KA.out.drew
     go_region_with (first
      | ((go_at_call 61;with_reducible refine (D1.out _).mono ?_);rintro e w5 ⟨rfl,hb⟩;replace KA:=Lib.hid (KA.out.below hb);clear hb s0 s1 s2 s3 sf0 sf1 sf2 sf3 t0 t1 t2 t3;obtain ⟨⟨s0,s1,s2,s3⟩,sf0,sf1,sf2,sf3⟩:=KA.out.n4 (g:=w1.heap.size+1) (A:=S) (t:=80) (by simp);obtain ⟨⟨t0,t1,t2,t3⟩,_⟩:=KA.out.n4 (g:=b5) (A:=T) (t:=80) (by simp))
      | ((go_at_call 56;with_reducible refine (D2.out _).mono ?_);rintro e w5 ⟨rfl,hb⟩;replace KA:=Lib.hid (KA.out.below hb);clear hb s0 s1 s2 s3 sf0 sf1 sf2 sf3 t0 t1 t2 t3;obtain ⟨⟨s0,s1,s2,s3⟩,sf0,sf1,sf2,sf3⟩:=KA.out.n4 (g:=w1.heap.size+1) (A:=S) (t:=80) (by simp);obtain ⟨⟨t0,t1,t2,t3⟩,_⟩:=KA.out.n4 (g:=b5) (A:=T) (t:=80) (by simp)))
     all_goals
      have S1:=S1.out;have KB:=Lib.hid (fQ (t:=80) (l':=[(b5,80,nv T),(w1.heap.size,80,nv (aC z z)),(w.heap.size+1,80,nv 0)]) KA.out (g:=w1.heap.size+1) (A:=S) (by simp) (by omega) (by intro p hp;simp at hp;rcases hp with rfl|rfl|rfl<;>(simp only [];omega)) (by intro p hp;simp at hp ⊢;rcases hp with rfl|rfl|rfl<;>simp) (S+D))
      obtain ⟨⟨u0,u1,u2,u3⟩,_⟩:=KB.out.n4 (g:=b5) (A:=T) (t:=80) (by simp)
      obtain ⟨⟨v0,v1,v2,v3⟩,_⟩:=KB.out.n4 (g:=w1.heap.size) (A:=aC z z) (t:=80) (by simp)
      clear t0 t1 t2 t3 s0 s1 s2 s3;go_wp2_with fail;refine (D3.out _).mono ?_;rintro e w6 ⟨rfl,hb6⟩;have KC:=Lib.hid (KB.out.below hb6);clear hb6 u0 u1 u2 u3 v0 v1 v2 v3 KB KA;obtain ⟨_,tf0,tf1,tf2,tf3⟩:=KC.out.n4 (g:=b5) (A:=T) (t:=80) (by simp)
      have KD:=Lib.hid (fQ (t:=80) (l':=[(w1.heap.size+1,80,nv (S+D)),(w1.heap.size,80,nv (aC z z)),(w.heap.size+1,80,nv 0)]) KC.out (g:=b5) (A:=T) (by simp) n4 (by intro p hp;simp at hp;rcases hp with rfl|rfl|rfl<;>(simp only [];omega)) (by intro p hp;simp at hp ⊢;rcases hp with rfl|rfl|rfl<;>simp) T')
      have KE:=Lib.hid (KD.out.new w6.heap.size (by simp [Gc]) 80 (nv T'))
      have L1:Hid (w1.heap.size+1<w6.heap.size):=Lib.hid (KC.out.lt (g:=w1.heap.size+1) (t:=80) (cs:=nv (S+D)) (by simp))
      have OK1:=Lib.hid ok1;have OK3:=Lib.hid ok3;clear KC ok1 ok2 ok3;go_wp2;exact ⟨⟨f,T',k+2,S+D,w6.heap.size,rfl,rfl,OK4.out,HR.out,by omega,by omega,OK3.out,OK1.out,KE.out.sub (by intro p hp;simp at hp ⊢;rcases hp with rfl|rfl|rfl|rfl<;>simp),by have:=L1.out;omega,by have:=L1.out;omega,by have:=L1.out;omega,by have:=L1.out;omega⟩,by simp only [intOf];omega⟩
