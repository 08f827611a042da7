/-
  Part of the proof.
-/
import Derived.Test.YteplnamfpodmlaaGreatQVaE
import Derived.Test.YteplnamfpodmlaaGreatQKit
set_option linter.unusedVariables false
set_option linter.unusedSimpArgs false
set_option maxRecDepth 100000
open Go.ChangeShapes Go.WideShapes Go.ChangeAt Go.RowKit
namespace Go.Proofs.YteplnamfpodmlaaGreat
theorem Qun{s:Qd}(hv:Qx s=true):s=Qp∨s=Qt∨(s.t=false∧s.e=false∧s.lo≤s.hi∧s.st∣s.hi - s.lo∧(s.st=0↔s.lo=s.hi)∧¬(s.lo=0∧s.hi=4294967295∧s.st=1)):=by
 obtain⟨e,t,lo,hi,st⟩:=s;by_cases h:t=true∨e=true
 ·rw [QbG e t lo hi st h,Bool.or_eq_true]at hv;rcases hv with h|h
  ·exact .inl (of_decide_eq_true h)
  ·exact .inr (.inl (of_decide_eq_true h))
 ·obtain rfl:t=false:=by cases t <;> simp_all
  obtain rfl:e=false:=by cases e <;> simp_all
  refine .inr (.inr ⟨rfl,rfl,?_⟩)
  dsimp only
  rcases Ki lo hi st hv with ⟨rfl,rfl⟩|⟨h1,h2,h3,h4⟩
  ·exact⟨Int.le_refl _,by rw [Int.sub_self];exact Int.dvd_zero _,by simp,by omega⟩
  ·exact⟨by omega,Int.dvd_of_emod_eq_zero h3,by omega,by omega⟩
def reg(s:Qd):Prop:=s.t=false∧s.e=false∧s.lo≤s.hi∧s.st∣s.hi - s.lo∧(s.st=0↔s.lo=s.hi)∧¬(s.lo=0∧s.hi=4294967295∧s.st=1)
theorem Qf1(x:Int):Qw Qp x=true:=rfl
theorem Qoh(x:Int):Qw Qt x=false:=rfl
theorem Xi{s:Qd}(h:reg s)(x:Int):Qw s x=true↔s.lo≤x∧x≤s.hi∧s.st∣x - s.lo:=by
 obtain⟨h1,h2,h3,h4,h5,h6⟩:=h;unfold Qw;simp only [h1,h2,Bool.or_self,Bool.false_eq_true,if_false];by_cases c:s.st=0
 ·rw [c];simp only [beq_self_eq_true,if_true,beq_iff_eq,Int.zero_dvd];have:=h5.1 c;omega
 ·have:(s.st==0)=false:=by rw [beq_eq_false_iff_ne];exact c
  rw [this];simp only [Bool.false_eq_true,if_false,Bool.and_eq_true,decide_eq_true_eq,beq_iff_eq,Int.dvd_iff_emod_eq_zero]
theorem Qsp(n x:Int):Qw (Zs n) x=true↔x=n:=by
 show(x==n)=true↔_;exact beq_iff_eq
theorem Wk(lo hi st x:Int)(s0:0≤st)(x0:0≤x)(x1:x < 4294967296):Qw (Qj lo hi st) x=true↔lo≤x∧x≤hi∧st∣x - lo:=by
 rcases Jt lo hi st with ⟨h,e⟩|⟨h1,h2,e⟩|⟨c1,c2,c3,⟨h1,h2,h3,e⟩|⟨h1,e⟩⟩ <;> rw [e]
 ·rw [Qoh];constructor
  ·intro h;cases h
  ·omega
 ·rw [Qsp];constructor
  ·rintro rfl;exact⟨Int.le_refl _,h1,by rw [Int.sub_self];exact Int.dvd_zero _⟩
  ·rintro⟨a1,a2,a3⟩;rcases h2 with rfl|h2
   ·rw [Int.zero_dvd]at a3;omega
   ·have:=Int.eq_zero_of_dvd_of_natAbs_lt_natAbs a3 (by omega);omega
 ·rw [Qf1];subst h1 h2 h3;exact⟨fun _=>⟨x0,by omega,Int.one_dvd _⟩,fun _=>rfl⟩
 ·have m1:=Int.emod_nonneg (hi - lo) c2;have m2:=Int.emod_lt_of_pos (hi - lo) (by omega:0 < st)
  show(if(false || false)=true then false else if(st==0)=true then x==lo else decide (lo≤x) && (decide (x≤hi - (hi - lo) % st) && ((x - lo) % st==0)))=true↔_
  have:(st==0)=false:=by rw [beq_eq_false_iff_ne];exact c2
  rw [this];simp only [Bool.or_self,Bool.false_eq_true,if_false,Bool.and_eq_true,decide_eq_true_eq,beq_iff_eq,Int.dvd_iff_emod_eq_zero];constructor
  ·rintro⟨a1,a2,a3⟩;exact⟨a1,by omega,a3⟩
  ·rintro⟨a1,a2,a3⟩;refine⟨a1,?_,a3⟩
   have d:(hi - (hi - lo) % st - x) % st=0:=by
    have e1:hi - (hi - lo) % st - x=((hi - lo) - (hi - lo) % st) - (x - lo):=by omega
    rw [e1];exact Int.emod_eq_zero_of_dvd (Int.dvd_sub Int.dvd_self_sub_emod (Int.dvd_of_emod_eq_zero a3))
   have d2:=Int.dvd_of_emod_eq_zero d;rcases Int.lt_or_le (hi - (hi - lo) % st) x with hlt|hle
   ·exfalso;have d3:st∣x - (hi - (hi - lo) % st):=by have:=(Int.dvd_neg).2 d2;rwa [Int.neg_sub]at this
    have:=Int.le_of_dvd (by omega) d3
    omega
   ·exact hle
theorem Zc{s:Qd}(hv:Qx s=true):s=Qp∨s=Qt∨reg s:=Qun hv
theorem Qa8{n m:Qd}(m0:0≤m.st)(hn:reg n)(hm:reg m):QD n m=true↔m.lo≤n.lo∧n.hi≤m.hi∧m.st∣n.lo - m.lo∧m.st∣n.st:=by
 have k1:=Xi hm n.lo;have k2:=Xi hm n.hi;obtain⟨h1,h2,h3,h4,h5,h6⟩:=hn;obtain⟨g1,g2,g3,g4,g5,g6⟩:=hm;unfold QD;simp only [h1,h2,g1,g2,Bool.or_self,Bool.false_eq_true,if_false,Bool.and_eq_true,k1,k2,Bool.or_eq_true,decide_eq_true_eq,beq_iff_eq];constructor
 ·rintro⟨⟨a1,a2,a3⟩,⟨a4,a5,a6⟩,a7⟩;refine⟨a1,a5,a3,?_⟩;rcases a7 with a7|⟨_,a7⟩
  ·rw [a7];exact Int.dvd_zero _
  ·exact Int.dvd_of_emod_eq_zero a7
 ·rintro⟨a1,a2,a3,a4⟩;refine⟨⟨a1,by omega,a3⟩,⟨by omega,a2,?_⟩,?_⟩
  ·have:n.hi - m.lo=(n.hi - n.lo)+(n.lo - m.lo):=by omega
   rw [this];exact Int.dvd_add (Int.dvd_trans a4 h4) a3
  ·by_cases c:n.st=0
   ·exact .inl c
   ·refine .inr ⟨?_,Int.emod_eq_zero_of_dvd a4⟩;rcases Int.lt_or_eq_of_le m0 with h|h
    ·exact h
    ·rw [←h,Int.zero_dvd]at a4;exact absurd a4 c
theorem QlJ(n:Qd):QD n Qp=true:=by unfold QD;simp [Qp]
theorem QdC{n m:Qd}(wm:m.wf)(vn:Qx n=true)(vm:Qx m=true)(h:QD n m=true)(x:Int)(hx:Qw n x=true):Qw m x=true:=by
 rcases Zc vn with rfl|rfl|hn
 ·rcases Zc vm with rfl|rfl|hm
  ·exact Qf1 x
  ·cases h
  ·obtain⟨g1,g2,_⟩:=hm;exfalso;have:QD Qp m=false:=by unfold QD;simp [g1,Qp]
   rw [this]at h;cases h
 ·cases hx
 ·rcases Zc vm with rfl|rfl|hm
  ·exact Qf1 x
  ·obtain⟨g1,g2,_⟩:=hn;exfalso;have:QD n Qt=false:=by unfold QD;simp [g1,g2,Qt]
   rw [this]at h;cases h
  ·rw [Qa8 wm.2.2.2.2.1 hn hm]at h;rw [Xi hn]at hx;rw [Xi hm];obtain⟨a1,a2,a3,a4⟩:=h;obtain⟨b1,b2,b3⟩:=hx;refine⟨by omega,by omega,?_⟩
   have:x - m.lo=(x - n.lo)+(n.lo - m.lo):=by omega
   rw [this];exact Int.dvd_add (Int.dvd_trans a4 b3) a3
theorem VD{n m:Qd}(wn:n.wf)(wm:m.wf)(vn:Qx n=true)(vm:Qx m=true)(h:∀x,0≤x→x < 4294967296→Qw n x=true→Qw m x=true):QD n m=true:=by
 obtain⟨n0,n1,n2,n3,n4,n5⟩:=wn;obtain⟨m0,m1,m2,m3,m4,m5⟩:=wm;rcases Zc vm with rfl|rfl|hm
 ·exact QlJ n
 ·rcases Zc vn with rfl|rfl|hn
  ·exact h 0 (by omega) (by omega) rfl
  ·rfl
  ·have:=h n.lo n0 n1 ((Xi hn _).2 ⟨Int.le_refl _,hn.2.2.1,by rw [Int.sub_self];exact Int.dvd_zero _⟩)
   cases this
 ·rcases Zc vn with rfl|rfl|hn
  ·have a:=(Xi hm _).1 (h 0 (by omega) (by omega) rfl)
   have b:=(Xi hm _).1 (h 1 (by omega) (by omega) rfl)
   have c:=(Xi hm _).1 (h 4294967295 (by omega) (by omega) rfl)
   exfalso;apply hm.2.2.2.2.2;have e1:m.lo=0:=by omega
   refine⟨e1,by omega,?_⟩
   have d:=b.2.2;rw [e1,Int.sub_zero]at d;have:=Int.le_of_dvd (by omega) d
   have z:m.st≠0:=by intro z;rw [z,Int.zero_dvd]at d;omega
   omega
  ·rfl
  ·rw [Qa8 m4 hn hm];have l0:=(Xi hn n.lo).2 ⟨Int.le_refl _,hn.2.2.1,by rw [Int.sub_self];exact Int.dvd_zero _⟩
   have l1:=(Xi hn n.hi).2 ⟨hn.2.2.1,Int.le_refl _,hn.2.2.2.1⟩;have a:=(Xi hm _).1 (h n.lo n0 n1 l0);have b:=(Xi hm _).1 (h n.hi n2 n3 l1);refine⟨a.1,b.2.1,a.2.2,?_⟩;by_cases c:n.st=0
   ·rw [c];exact Int.dvd_zero _
   ·have lt:n.lo < n.hi:=by
     rcases Int.lt_or_eq_of_le hn.2.2.1 with q|q
     ·exact q
     ·exact absurd (hn.2.2.2.2.1.2 q) c
    have le:=Int.le_of_dvd (by omega) hn.2.2.2.1
    have l2:=(Xi hn (n.lo+n.st)).2 ⟨by omega,by omega,by rw [show n.lo+n.st - n.lo=n.st by omega];exact Int.dvd_refl _⟩
    have d:=(Xi hm _).1 (h (n.lo+n.st) (by omega) (by omega) l2)
    have:n.st=(n.lo+n.st - m.lo) - (n.lo - m.lo):=by omega
    rw [this];exact Int.dvd_sub d.2.2 a.2.2
theorem QiA{n:Qd}(wn:n.wf)(vn:Qx n=true):QD n n=true:=VD wn wn vn vn fun _ _ _ h=>h
theorem Wc{a b c:Qd}(wa:a.wf)(wb:b.wf)(wc:c.wf)(va:Qx a=true)(vb:Qx b=true)(vc:Qx c=true)(h1:QD a b=true)(h2:QD b c=true):QD a c=true:=
 VD wa wc va vc fun x _ _ h=>QdC wc vb vc h2 x (QdC wb va vb h1 x h)
theorem Qh0(d a b:Int)(a0:0≤a)(b0:0≤b)(ha:d∣a)(hb:d∣b):d∣Zr a b:=by
 obtain⟨A,rfl⟩:=Int.eq_ofNat_of_zero_le a0;obtain⟨B,rfl⟩:=Int.eq_ofNat_of_zero_le b0;unfold Zr;rw [Int.toNat_natCast,Int.toNat_natCast];have h1:=Int.natAbs_dvd_natAbs.2 ha;have h2:=Int.natAbs_dvd_natAbs.2 hb;rw [Int.natAbs_natCast]at h1 h2;have h3:=Int.natCast_dvd_natCast.2 (Nat.dvd_gcd h1 h2);exact Int.dvd_trans Int.dvd_natAbs_self h3
theorem QhK{a b:Qd}(h1:a.t=false)(h2:a.e=false)(h3:b.t=false)(h4:b.e=false) :
 QX a b=Qj (if b.lo < a.lo then b.lo else a.lo) (if a.hi < b.hi then b.hi else a.hi) (Zr (Zr a.st b.st) ((if a.lo < b.lo then b.lo else a.lo) - if b.lo < a.lo then b.lo else a.lo)):=by
 unfold QX;simp only [h1,h2,h3,h4,Bool.or_self,Bool.false_eq_true,if_false]
theorem QhJ{a b:Qd}(wa:a.wf)(wb:b.wf)(va:Qx a=true)(vb:Qx b=true)(x:Int)(x0:0≤x)(x1:x < 4294967296)(h:Qw a x=true∨Qw b x=true):Qw (QX a b) x=true:=by
 rcases Zc va with rfl|rfl|ha
 ·rfl
 ·rcases Zc vb with rfl|rfl|hb
  ·rfl
  ·rcases h with h|h <;> cases h
  ·have:QX Qt b=b:=by unfold QX;simp [hb.1,Qt]
   rw [this];rcases h with h|h
   ·cases h
   ·exact h
 ·rcases Zc vb with rfl|rfl|hb
  ·have:QX a Qp=Qp:=by unfold QX;simp [Qp]
   rw [this];rfl
  ·have:QX a Qt=a:=by unfold QX;simp [ha.1,ha.2.1,Qt]
   rw [this];rcases h with h|h
   ·exact h
   ·cases h
  ·rw [QhK ha.1 ha.2.1 hb.1 hb.2.1];obtain⟨a0,a1,a2,a3,a4,a5⟩:=wa;obtain⟨b0,b1,b2,b3,b4,b5⟩:=wb;rw [Wk _ _ _ _ (QT _ _) x0 x1];rw [Xi ha,Xi hb]at h;have g1:=Qab a.st b.st a4;have g2:=Kr a.st b.st b4;have g3:=Qab (Zr a.st b.st) ((if a.lo < b.lo then b.lo else a.lo) - if b.lo < a.lo then b.lo else a.lo) (QT _ _)
   have g4:=Kr (Zr a.st b.st) ((if a.lo < b.lo then b.lo else a.lo) - if b.lo < a.lo then b.lo else a.lo) (by omega)
   generalize Zr (Zr a.st b.st) ((if a.lo < b.lo then b.lo else a.lo) - if b.lo < a.lo then b.lo else a.lo)=G at *
   generalize Zr a.st b.st=K at *
   have d:G∣a.lo - (if b.lo < a.lo then b.lo else a.lo)∧G∣b.lo - (if b.lo < a.lo then b.lo else a.lo):=by
    by_cases c:b.lo < a.lo
    ·rw [if_pos c,if_neg (by omega)]at g4
     rw [if_pos c];exact⟨g4,by rw [Int.sub_self];exact Int.dvd_zero _⟩
    ·by_cases c2:a.lo < b.lo
     ·rw [if_neg c,if_pos c2]at g4;rw [if_neg c];exact⟨by rw [Int.sub_self];exact Int.dvd_zero _,g4⟩
     ·have:a.lo=b.lo:=by omega
      rw [if_neg c,this,Int.sub_self];exact⟨Int.dvd_zero _,Int.dvd_zero _⟩
   rcases h with ⟨k1,k2,k3⟩|⟨k1,k2,k3⟩
   ·refine⟨by omega,by omega,?_⟩
    have:x - (if b.lo < a.lo then b.lo else a.lo)=(x - a.lo)+(a.lo - (if b.lo < a.lo then b.lo else a.lo)):=by omega
    rw [this];exact Int.dvd_add (Int.dvd_trans (Int.dvd_trans g3 g1) k3) d.1
   ·refine⟨by omega,by omega,?_⟩
    have:x - (if b.lo < a.lo then b.lo else a.lo)=(x - b.lo)+(b.lo - (if b.lo < a.lo then b.lo else a.lo)):=by omega
    rw [this];exact Int.dvd_add (Int.dvd_trans (Int.dvd_trans g3 g2) k3) d.2
theorem QhI{a b:Qd}(wa:a.wf)(wb:b.wf)(va:Qx a=true)(vb:Qx b=true)(h:QD b a=true)(x:Int)(x0:0≤x)(x1:x < 4294967296)(hx:Qw (QX a b) x=true):Qw a x=true:=by
 rcases Zc va with rfl|rfl|ha
 ·rfl
 ·rcases Zc vb with rfl|rfl|hb
  ·cases h
  ·exact hx
  ·have:QD b Qt=false:=by unfold QD;simp [hb.1,hb.2.1,Qt]
   rw [this]at h;cases h
 ·rcases Zc vb with rfl|rfl|hb
  ·have:QD Qp a=false:=by unfold QD;simp [ha.1,Qp]
   rw [this]at h;cases h
  ·have:QX a Qt=a:=by unfold QX;simp [ha.1,ha.2.1,Qt]
   rw [this]at hx;exact hx
  ·rw [QhK ha.1 ha.2.1 hb.1 hb.2.1,Wk _ _ _ _ (QT _ _) x0 x1]at hx;obtain⟨a0,a1,a2,a3,a4,a5⟩:=wa;obtain⟨b0,b1,b2,b3,b4,b5⟩:=wb;rw [Qa8 a4 hb ha]at h;obtain⟨k1,k2,k3,k4⟩:=h;rw [Xi ha];have e1:(if b.lo < a.lo then b.lo else a.lo)=a.lo:=by omega
   have e2:(if a.hi < b.hi then b.hi else a.hi)=a.hi:=by omega
   rw [e1,e2]at hx;refine⟨hx.1,hx.2.1,Int.dvd_trans ?_ hx.2.2⟩;refine Qh0 _ _ _ (QT _ _) (by omega) (Qh0 _ _ _ a4 b4 (Int.dvd_refl _) k4) ?_
   by_cases c2:a.lo < b.lo
   ·rw [if_pos c2];exact k3
   ·rw [if_neg c2,Int.sub_self];exact Int.dvd_zero _
theorem Qf3(a b:Int)(ha:0≤a)(hb:0≤b):0≤a % b∧a % b≤a:=by
 by_cases c:b=0
 ·subst c;rw [Int.emod_zero];omega
 ·have h1:=Int.emod_nonneg a c;have h2:=Int.mul_ediv_add_emod a b;have h3:=Int.mul_nonneg hb (Int.ediv_nonneg ha hb);omega
theorem QoY{a b:Qd}(wa:a.wf)(wb:b.wf)(va:Qx a=true)(vb:Qx b=true)(x:Int)(x0:0≤x)(x1:x < 4294967296)(h:Qw (QX a b) x=true):Qw (VH a b) x=true:=by
 unfold VH;cases q:QD b a
 ·simp only [Bool.false_eq_true,if_false];rcases Zc va with rfl|rfl|ha
  ·rfl
  ·rcases Zc vb with rfl|rfl|hb
   ·rfl
   ·cases q
   ·have:QX Qt b=b:=by unfold QX;simp [hb.1,Qt]
    rw [this]at h;exact h
  ·rcases Zc vb with rfl|rfl|hb
   ·simp only [ha.1,ha.2.1,Qp,Bool.or_true,if_true,Bool.false_eq_true,if_false];rfl
   ·cases q
   ·simp only [ha.1,ha.2.1,hb.1,Bool.or_self,Bool.false_eq_true,if_false];cases t:(QX a b).t
    ·simp only [Bool.false_eq_true,if_false];have vj:=X6 wa wb va vb;have wj:=Jd wa wb;generalize QX a b=c at *;rcases Zc vj with rfl|rfl|hc
     ·cases t
     ·cases h
     ·rw [Xi hc]at h;rw [Wk _ _ _ _ wj.2.2.2.2.1 x0 x1];obtain⟨c0,c1,c2,c3,c4,c5⟩:=wj;obtain⟨k1,k2,k3⟩:=h;refine⟨?_,by omega,?_⟩
      ·by_cases g:c.lo < a.lo
       ·rw [if_pos g];have:=Qf3 c.lo c.st c0 c4;omega
       ·rw [if_neg g];exact k1
      ·by_cases g:c.lo < a.lo
       ·rw [if_pos g];have:x - c.lo % c.st=(x - c.lo)+(c.lo - c.lo % c.st):=by omega
        rw [this];exact Int.dvd_add k3 Int.dvd_self_sub_emod
       ·rw [if_neg g];exact k3
    ·simp only [if_true];exact h
 ·simp only [if_true];exact QhI wa wb va vb q x x0 x1 h
theorem WV{a b:Qd}(wa:a.wf)(wb:b.wf)(va:Qx a=true)(vb:Qx b=true):(VH a b).wf:=by
 unfold VH;cases q:QD b a
 ·simp only [Bool.false_eq_true,if_false];cases a.e
  ·simp only [Bool.false_eq_true,if_false];cases p:a.t || b.t
   ·simp only [Bool.false_eq_true,if_false];have wj:=Jd wa wb;cases t:(QX a b).t
    ·simp only [Bool.false_eq_true,if_false];obtain⟨c0,c1,c2,c3,c4,c5⟩:=wj;have m0:=Qf3 (QX a b).lo (QX a b).st c0 c4;exact Z7 _ _ _ (by split <;> omega) (by split <;> omega) (by split <;> omega) (by split <;> omega) c4 c5
    ·simp only [if_true];exact wj
   ·simp only [if_true];exact Z5
  ·simp only [if_true];exact wb
 ·simp only [if_true];exact wa
theorem Vm{a b:Qd}(wa:a.wf)(wb:b.wf)(va:Qx a=true)(vb:Qx b=true):Qx (VH a b)=true:=by
 unfold VH;cases q:QD b a
 ·simp only [Bool.false_eq_true,if_false];cases a.e
  ·simp only [Bool.false_eq_true,if_false];cases p:a.t || b.t
   ·simp only [Bool.false_eq_true,if_false];have wj:=Jd wa wb;cases t:(QX a b).t
    ·simp only [Bool.false_eq_true,if_false];obtain⟨c0,c1,c2,c3,c4,c5⟩:=wj;have m0:=Qf3 (QX a b).lo (QX a b).st c0 c4;exact Z6 _ _ _ (by split <;> omega) (by split <;> omega) c4
    ·simp only [if_true];exact X6 wa wb va vb
   ·rfl
  ·simp only [if_true];exact vb
 ·simp only [if_true];exact va
theorem QbU{a b:Qd}(wa:a.wf)(wb:b.wf)(va:Qx a=true)(vb:Qx b=true):QD a (QX a b)=true∧QD b (QX a b)=true:=
 ⟨VD wa (Jd wa wb) va (X6 wa wb va vb) fun x x0 x1 h=>QhJ wa wb va vb x x0 x1 (.inl h),
  VD wb (Jd wa wb) vb (X6 wa wb va vb) fun x x0 x1 h=>QhJ wa wb va vb x x0 x1 (.inr h)⟩
theorem Qbe{a b:Qd}(wa:a.wf)(wb:b.wf)(va:Qx a=true)(vb:Qx b=true):QD (QX a b) (VH a b)=true∧QD a (VH a b)=true∧QD b (VH a b)=true:=by
 have h:QD (QX a b) (VH a b)=true:=VD (Jd wa wb) (WV wa wb va vb) (X6 wa wb va vb) (Vm wa wb va vb) fun x x0 x1 h=>QoY wa wb va vb x x0 x1 h
 have j:=QbU wa wb va vb
 exact⟨h,Wc wa (Jd wa wb) (WV wa wb va vb) va (X6 wa wb va vb) (Vm wa wb va vb) j.1 h,
  Wc wb (Jd wa wb) (WV wa wb va vb) vb (X6 wa wb va vb) (Vm wa wb va vb) j.2 h⟩
def Xk(s:Qd):Bool:= !s.t && (!s.e && (s.st==0))
def XT(a:Qd)(k:Int):Qd:=if a.t then Qp else if 4294967295 < a.hi * k then Qp else Qj (a.lo * k) (a.hi * k) (a.st * k)
def Yj(n:Int):Int:=bits .and .u32 n ((0 - n) % 4294967296)
def J6(a:Qd)(n:Int):Qd:=Qj 0 (if a.t then n else if a.hi < n then a.hi else n) (Yj n)
def Wg(a b:Qd):Qd:=if a.t || b.t then Qp else if 4294967295 < a.hi+b.hi then Qp else Qj (a.lo+b.lo) (a.hi+b.hi) (Zr a.st b.st)
def WB(a b:Qd):Qd:=if a.t || b.t then Qp else if a.lo < b.hi then Qp else Qj (a.lo - b.hi) (a.hi - b.lo) (Zr a.st b.st)
def Qiw(a b:Qd):Qd:=if a.t then Qp else Qj (W8 a.lo b.lo) (W8 a.hi b.lo) 1
def Qbk(op:Int)(a b:Qd):Qd:=
 if op < 3∨15 < op then Qp
 else if a.e || b.e then Qt
 else if Xk a && Xk b then Zs (Kk (op - 3).toNat a.lo b.lo)
 else if 12≤op then Qj 0 1 1
 else if op=3 then Wg a b
 else if op=4 then WB a b
 else if Xk b then
  if op=5 then XT a b.lo
  else if op=9 then XT a (2 ^ (b.lo % 32).toNat)
  else if op=6 then J6 a b.lo
  else if op=10 then Qiw a b
  else Qp
 else Qp
def Js(op:Int)(a b:Qd):Qd:=Qbk op (Zb a) (Zb b)
theorem QkY(k q:Nat)(h:2 ^ k * (2 * q+1) < 4294967296):(2 ^ k * (2 * q+1)) &&& (4294967296 - 2 ^ k * (2 * q+1))=2 ^ k:=by
 have hp:0 < 2 ^ k:=Nat.two_pow_pos k
 have e1:2 ^ k * (2 * q+1)=(2 ^ k * (2 * q+1) - 1)+1:=by
  have:0 < 2 ^ k * (2 * q+1):=Nat.mul_pos hp (by omega)
  omega
 have e2:2 ^ k * (2 * q+1) - 1=2 ^ k * (2 * q)+(2 ^ k - 1):=by
  have:2 ^ k * (2 * q+1)=2 ^ k * (2 * q)+2 ^ k:=by rw [Nat.mul_add,Nat.mul_one]
  omega
 have e3:(4294967296:Nat)=2 ^ 32:=by decide
 apply Nat.eq_of_testBit_eq;intro i;rw [Nat.testBit_and,Nat.testBit_two_pow]
 have t1:(4294967296 - 2 ^ k * (2 * q+1)).testBit i=(decide (i < 32) && !(2 ^ k * (2 * q+1) - 1).testBit i):=by
  conv=>lhs;rw [e1,e3]
  exact Nat.testBit_two_pow_sub_succ (by omega) i
 have t2:(2 ^ k * (2 * q)+(2 ^ k - 1)).testBit i=if i < k then(2 ^ k - 1).testBit i else(2 * q).testBit (i - k):=Nat.testBit_two_pow_mul_add _ (by omega) i
 have t3:(2 ^ k * (2 * q+1)).testBit i=if i < k then(0:Nat).testBit i else(2 * q+1).testBit (i - k):=by
  have:=Nat.testBit_two_pow_mul_add (2 * q+1) (i:=k) (b:=0) (by omega) i
  rwa [Nat.add_zero]at this
 rw [t1,e2,t2,t3];by_cases c:i < k
 ·rw [if_pos c,Nat.zero_testBit,Bool.false_and]
  symm;rw [decide_eq_false_iff_not];omega
 ·rw [if_neg c,if_neg c];by_cases d:i=k
  ·subst d
   have k32:i < 32:=by
    rcases Nat.lt_or_ge i 32 with h1|h1
    ·exact h1
    ·exfalso;have:=Nat.pow_le_pow_right (n:=2) (by omega) h1
     have h2:2 ^ i≤2 ^ i * (2 * q+1):=Nat.le_mul_of_pos_right _ (by omega)
     omega
   rw [Nat.sub_self,decide_eq_true k32,decide_eq_true rfl];simp only [Nat.testBit_zero];have a1:(2 * q+1) % 2=1:=by omega
   have a2:(2 * q) % 2=0:=by omega
   rw [a1,a2];rfl
  ·have a:(2 * q+1).testBit (i - k)=(2 * q).testBit (i - k):=by
    obtain⟨j,hj⟩:∃j,i - k=j+1:=⟨i - k - 1,by omega⟩
    rw [hj,Nat.testBit_succ,Nat.testBit_succ];have a1:(2 * q+1) / 2=q:=by omega
    have a2:(2 * q) / 2=q:=by omega
    rw [a1,a2]
   rw [a];have:decide (k=i)=false:=by rw [decide_eq_false_iff_not];omega
   rw [this];cases (2 * q).testBit (i - k) <;> simp
theorem Qr5(n:Nat)(h:0 < n):∃k q,n=2 ^ k * (2 * q+1):=by
 induction n using Nat.strongRecOn with
 |_ n ih=>
  by_cases c:n % 2=1
  ·exact⟨0,n / 2,by rw [Nat.pow_zero,Nat.one_mul];omega⟩
  ·obtain⟨k,q,e⟩:=ih (n / 2) (by omega) (by omega)
   refine⟨k+1,q,?_⟩;rw [Nat.pow_succ,Nat.mul_assoc,Nat.mul_left_comm,←e];omega
theorem QfI(n:Int)(h0:0 < n)(h1:n < 4294967296):∃k q:Nat,n=((2 ^ k * (2 * q+1):Nat):Int)∧Yj n=((2 ^ k:Nat):Int):=by
 obtain⟨N,rfl⟩:=Int.eq_ofNat_of_zero_le (by omega:0≤n)
 obtain⟨k,q,e⟩:=Qr5 N (by omega)
 refine⟨k,q,by rw [e],?_⟩
 unfold Yj;have e2:(0 - (N:Int)) % 4294967296=((4294967296 - N:Nat):Int):=by omega
 rw [e2,u32_and_nat _ _ (by omega) (by omega)]
 subst e;rw [QkY k q (by omega)]
theorem Qda:Yj 0=0:=by decide+kernel
theorem QkW(n:Int)(h0:0≤n)(h1:n < 4294967296):0≤Yj n∧Yj n≤n:=by
 by_cases c:n=0
 ·subst c;rw [Qda];omega
 ·obtain⟨k,q,e1,e2⟩:=QfI n (by omega) h1
  rw [e2,e1];have:2 ^ k≤2 ^ k * (2 * q+1):=Nat.le_mul_of_pos_right _ (by omega)
  exact⟨Int.natCast_nonneg _,Int.ofNat_le.2 this⟩
theorem QkX(n:Int)(h0:0 < n)(h1:n < 4294967296)(j:Nat)(d:n % 2 ^ j=0)(d2:n % (2 * 2 ^ j)≠0):Yj n=2 ^ j:=by
 obtain⟨k,q,e1,e2⟩:=QfI n h0 h1;rw [e2];have hn:n=2 ^ k * (2 * (q:Int)+1):=by rw [e1];simp [Int.natCast_mul,Int.natCast_pow]
 have d':=Int.dvd_of_emod_eq_zero d
 have hk:k=j:=by
  rcases Nat.lt_trichotomy k j with h|h|h
  ·exfalso;obtain⟨m,rfl⟩:∃m,j=k+1+m:=⟨j - k - 1,by omega⟩
   have h2:(2:Int) ^ (k+1)∣n:=Int.dvd_trans ⟨2 ^ m,by rw [←Int.pow_add]⟩ d'
   obtain⟨c,hc⟩:=h2;rw [hn,Int.pow_succ,Int.mul_assoc]at hc;have:=Int.eq_of_mul_eq_mul_left (by have:(0:Int) < 2 ^ k:=Int.pow_pos (by omega);omega) hc
   omega
  ·exact h
  ·exfalso;apply d2;apply Int.emod_eq_zero_of_dvd;obtain⟨m,rfl⟩:∃m,k=j+1+m:=⟨k - j - 1,by omega⟩
   rw [hn];exact⟨2 ^ m * (2 * (q:Int)+1),by rw [Int.pow_add,Int.pow_succ,Int.mul_comm (2 ^ j) 2,Int.mul_assoc]⟩
 subst hk;simp [Int.natCast_pow]
theorem Qsj(x n:Int)(x0:0≤x)(x1:x < 4294967296)(h0:0≤n)(h1:n < 4294967296):0≤bits .and .u32 x n∧bits .and .u32 x n≤x∧bits .and .u32 x n≤n∧Yj n∣bits .and .u32 x n:=by
 obtain⟨X,rfl⟩:=Int.eq_ofNat_of_zero_le x0;obtain⟨N,rfl⟩:=Int.eq_ofNat_of_zero_le h0;rw [u32_and_nat _ _ (by omega) (by omega)]
 have a1:=Nat.and_le_left (n:=X) (m:=N);have a2:=Nat.and_le_right (n:=X) (m:=N);refine⟨by omega,by omega,by omega,?_⟩
 by_cases c:(N:Int)=0
 ·rw [c,Qda];have:N=0:=by omega
  subst this;simp
 ·obtain⟨k,q,e1,e2⟩:=QfI N (by omega) h1
  rw [e2];apply Int.natCast_dvd_natCast.2;apply Nat.dvd_of_mod_eq_zero;rw [Nat.and_mod_two_pow];have:N=2 ^ k * (2 * q+1):=by omega
  rw [this,Nat.mul_mod_right,Nat.and_zero]
theorem Qut(b:Bool):0≤tr b∧tr b≤1:=by cases b <;> simp [tr]
theorem QaW(y:Int)(y0:0≤y):(1:Int)≤2 ^ (y % 32).toNat∧(2:Int) ^ (y % 32).toNat≤2147483648:=by
 have h:(y % 32).toNat≤31:=by omega
 have h1:(2:Nat) ^ (y % 32).toNat≤2 ^ 31:=Nat.pow_le_pow_right (by omega) h
 have h2:0 < (2:Nat) ^ (y % 32).toNat:=Nat.two_pow_pos _;have e:((2:Int) ^ (y % 32).toNat)=((2 ^ (y % 32).toNat:Nat):Int):=by simp [Int.natCast_pow]
 rw [e];omega
theorem K2(k:Nat)(a b:Int)(a0:0≤a)(a1:a < 4294967296)(b0:0≤b)(b1:b < 4294967296):0≤Kk k a b∧Kk k a b < 4294967296:=by
 unfold Kk;have t:∀c:Bool,0≤tr c∧tr c < 4294967296:=fun c=>by have:=Qut c;omega
 split
 ·omega
 ·omega
 ·exact⟨Int.emod_nonneg _ (by omega),Int.emod_lt_of_pos _ (by omega)⟩
 ·have:=Qsj a b a0 a1 b0 b1;omega
 ·rw [u32_or _ _ a0 a1 b0 b1];have:a.toNat ||| b.toNat < 2 ^ 32:=Nat.or_lt_two_pow (by omega) (by omega)
  omega
 ·rw [u32_xor _ _ a0 a1 b0 b1];have:a.toNat ^^^ b.toNat < 2 ^ 32:=Nat.xor_lt_two_pow (by omega) (by omega)
  omega
 ·exact⟨Int.emod_nonneg _ (by omega),Int.emod_lt_of_pos _ (by omega)⟩
 ·have p:=QaW b b0;unfold W8;have:=Int.ediv_le_self (2 ^ (b % 32).toNat) a0;exact⟨Int.ediv_nonneg a0 (by omega),by omega⟩
 ·exact⟨Int.emod_nonneg _ (by omega),Int.emod_lt_of_pos _ (by omega)⟩
 ·exact t _
 ·exact t _
 ·exact t _
 ·exact t _
 ·omega
theorem Qd1{b:Qd}(h:Xk b=true):b.t=false∧b.e=false∧b.st=0:=by
 unfold Xk at h;simp only [Bool.and_eq_true,Bool.not_eq_true',beq_iff_eq]at h;exact h
theorem WQ{n:Int}(h0:0≤n)(h1:n < 4294967296):(Zs n).wf:=QhW h0 h1 h0 h1 (by omega) (by omega)
theorem YT(n:Int):Qx (Zs n)=true:=by show(n==n)=true;exact beq_self_eq_true n
theorem Ql2{a:Qd}(wa:a.wf)(k:Int)(k0:0≤k)(st:4294967295 < a.hi * k∨a.st * k < 4294967296)(lo:4294967295 < a.hi * k∨a.lo * k < 4294967296):(XT a k).wf∧Qx (XT a k)=true:=by
 unfold XT;cases a.t
 ·simp only [Bool.false_eq_true,if_false];by_cases c:4294967295 < a.hi * k
  ·rw [if_pos c];exact⟨Z5,rfl⟩
  ·rw [if_neg c];obtain⟨a0,a1,a2,a3,a4,a5⟩:=wa;have m1:=Int.mul_nonneg a0 k0;have m2:=Int.mul_nonneg a2 k0;have m3:=Int.mul_nonneg a4 k0;exact⟨Z7 _ _ _ m1 (by omega) m2 (by omega) m3 (by omega),Z6 _ _ _ m1 (by omega) m3⟩
 ·exact⟨Z5,rfl⟩
theorem Qlq{a:Qd}(wa:a.wf)(ha:reg a)(k:Int)(k0:0≤k):a.lo * k≤a.hi * k∧a.st * k≤a.hi * k:=by
 obtain⟨a0,a1,a2,a3,a4,a5⟩:=wa;obtain⟨_,_,h3,h4,h5,_⟩:=ha;refine⟨Int.mul_le_mul_of_nonneg_right h3 k0,Int.mul_le_mul_of_nonneg_right ?_ k0⟩;by_cases c:a.lo=a.hi
 ·rw [h5.2 c];omega
 ·have:=Int.le_of_dvd (by omega) h4;omega
theorem Qca{a:Qd}(wa:a.wf)(ha:a=Qp∨reg a)(k:Int)(k0:0≤k):(XT a k).wf∧Qx (XT a k)=true:=by
 rcases ha with rfl|ha
 ·exact⟨Z5,rfl⟩
 ·have b:=Qlq wa ha k k0;exact Ql2 wa k k0 (by omega) (by omega)
theorem Qtz{a b:Qd}(wa:a.wf)(wb:b.wf)(ha:a=Qp∨reg a)(hb:b=Qp∨reg b):(Wg a b).wf∧Qx (Wg a b)=true:=by
 unfold Wg;rcases ha with rfl|ha
 ·exact⟨Z5,rfl⟩
 ·rcases hb with rfl|hb
  ·simp only [Qp,Bool.or_true,if_true];exact⟨Z5,rfl⟩
  ·simp only [ha.1,hb.1,Bool.or_self,Bool.false_eq_true,if_false];obtain⟨a0,a1,a2,a3,a4,a5⟩:=wa;obtain⟨b0,b1,b2,b3,b4,b5⟩:=wb;have g0:=QT a.st b.st;have g1:=Jo a.st b.st 4294967295 a4 b4 (by omega) (by omega)
   have:=ha.2.2.1;have:=hb.2.2.1;by_cases c:4294967295 < a.hi+b.hi
   ·rw [if_pos c];exact⟨Z5,rfl⟩
   ·rw [if_neg c];exact⟨Z7 _ _ _ (by omega) (by omega) (by omega) (by omega) g0 (by omega),Z6 _ _ _ (by omega) (by omega) g0⟩
theorem QtX{a b:Qd}(wa:a.wf)(wb:b.wf)(ha:a=Qp∨reg a)(hb:b=Qp∨reg b):(WB a b).wf∧Qx (WB a b)=true:=by
 unfold WB;rcases ha with rfl|ha
 ·exact⟨Z5,rfl⟩
 ·rcases hb with rfl|hb
  ·simp only [Qp,Bool.or_true,if_true];exact⟨Z5,rfl⟩
  ·simp only [ha.1,hb.1,Bool.or_self,Bool.false_eq_true,if_false];obtain⟨a0,a1,a2,a3,a4,a5⟩:=wa;obtain⟨b0,b1,b2,b3,b4,b5⟩:=wb;have g0:=QT a.st b.st;have g1:=Jo a.st b.st 4294967295 a4 b4 (by omega) (by omega)
   have:=ha.2.2.1;have:=hb.2.2.1;by_cases c:a.lo < b.hi
   ·rw [if_pos c];exact⟨Z5,rfl⟩
   ·rw [if_neg c];exact⟨Z7 _ _ _ (by omega) (by omega) (by omega) (by omega) g0 (by omega),Z6 _ _ _ (by omega) (by omega) g0⟩
theorem Qoe(op:Int){a b:Qd}(wa:a.wf)(wb:b.wf)(va:Qx a=true)(vb:Qx b=true):(Qbk op a b).wf∧Qx (Qbk op a b)=true:=by
 unfold Qbk;by_cases c0:op < 3∨15 < op
 ·rw [if_pos c0];exact⟨Z5,rfl⟩
 rw [if_neg c0];cases ea:a.e
 ·cases eb:b.e
  ·simp only [Bool.or_self,Bool.false_eq_true,if_false]
   have ha:a=Qp∨reg a:=by
    rcases Zc va with h|rfl|h
    ·exact .inl h
    ·cases ea
    ·exact .inr h
   have hb:b=Qp∨reg b:=by
    rcases Zc vb with h|rfl|h
    ·exact .inl h
    ·cases eb
    ·exact .inr h
   obtain⟨a0,a1,a2,a3,a4,a5⟩:=wa;obtain⟨b0,b1,b2,b3,b4,b5⟩:=wb;cases q:Xk a && Xk b
   ·simp only [Bool.false_eq_true,if_false];by_cases c1:12≤op
    ·rw [if_pos c1];exact⟨Z7 _ _ _ (by omega) (by omega) (by omega) (by omega) (by omega) (by omega),Z6 _ _ _ (by omega) (by omega) (by omega)⟩
    rw [if_neg c1];have g0:=QT a.st b.st;have g1:=Jo a.st b.st 4294967295 a4 b4 (by omega) (by omega)
    by_cases c2:op=3
    ·rw [if_pos c2];exact Qtz ⟨a0,a1,a2,a3,a4,a5⟩ ⟨b0,b1,b2,b3,b4,b5⟩ ha hb
    rw [if_neg c2];by_cases c3:op=4
    ·rw [if_pos c3];exact QtX ⟨a0,a1,a2,a3,a4,a5⟩ ⟨b0,b1,b2,b3,b4,b5⟩ ha hb
    rw [if_neg c3];cases Xk b
    ·exact⟨Z5,rfl⟩
    ·simp only [if_true];have p:=QaW b.lo b0;by_cases c4:op=5
     ·rw [if_pos c4];exact Qca ⟨a0,a1,a2,a3,a4,a5⟩ ha _ b0
     rw [if_neg c4];by_cases c5:op=9
     ·rw [if_pos c5];exact Qca ⟨a0,a1,a2,a3,a4,a5⟩ ha _ (by omega)
     rw [if_neg c5];by_cases c6:op=6
     ·rw [if_pos c6];unfold J6;have lb:=QkW b.lo b0 b1;cases a.t
      ·simp only [Bool.false_eq_true,if_false];exact⟨Z7 _ _ _ (by omega) (by omega) (by omega) (by omega) (by omega) (by omega),Z6 _ _ _ (by omega) (by omega) (by omega)⟩
      ·simp only [if_true];exact⟨Z7 _ _ _ (by omega) (by omega) (by omega) (by omega) (by omega) (by omega),Z6 _ _ _ (by omega) (by omega) (by omega)⟩
     rw [if_neg c6];by_cases c7:op=10
     ·rw [if_pos c7];unfold Qiw;cases a.t
      ·simp only [Bool.false_eq_true,if_false];have d1:=K2 7 a.lo b.lo a0 a1 b0 b1;have d2:=K2 7 a.hi b.lo a2 a3 b0 b1;have e1:Kk 7 a.lo b.lo=W8 a.lo b.lo:=rfl;have e2:Kk 7 a.hi b.lo=W8 a.hi b.lo:=rfl;rw [e1]at d1;rw [e2]at d2;exact⟨Z7 _ _ _ d1.1 d1.2 d2.1 d2.2 (by omega) (by omega),Z6 _ _ _ d1.1 d2.2 (by omega)⟩
      ·exact⟨Z5,rfl⟩
     rw [if_neg c7];exact⟨Z5,rfl⟩
   ·simp only [if_true];have k:=K2 (op - 3).toNat a.lo b.lo a0 a1 b0 b1;exact⟨WQ k.1 k.2,YT _⟩
  ·simp only [Bool.or_true,if_true];exact⟨Ji,rfl⟩
 ·simp only [Bool.true_or,if_true];exact⟨Ji,rfl⟩
def We(s:Qd)(i:Nat):Int:=s.lo+i * s.st
def XI(s:Qd):List Int:=(List.range (Q6 s).toNat).map (We s)
def ZM(b out:Qd)(n:Int):Qd:=if Qw b n then Jp out (Zs n)else out
def YJ(a b:Qd):Qd:=(XI a).foldl (ZM b) Qt
def XD(a:Qd)(lo:Int):Int:=a.lo+(lo - a.lo+a.st - 1) / a.st * a.st
def VW(a b:Qd):Qd:=
 if b.t then a else if a.t then b
 else if Q6 a≤64 then YJ a b else if Q6 b≤64 then YJ b a
 else if(if a.hi < b.hi then a.hi else b.hi) < XD a (if a.lo < b.lo then b.lo else a.lo)then Qt
 else Qj (XD a (if a.lo < b.lo then b.lo else a.lo)) (if a.hi < b.hi then a.hi else b.hi) a.st
def VV(a b:Qd):Qd:=VW (Zb a) (Zb b)
theorem WH{s:Qd}(ws:s.wf)(h:reg s):1≤Q6 s∧Q6 s=(s.hi - s.lo) / s.st+1:=by
 have e:Q6 s=(s.hi - s.lo) / s.st+1:=by
  unfold Q6;simp only [h.1,h.2.1,Bool.false_eq_true,if_false];by_cases c:s.st=0
  ·rw [c];simp
  ·have:(s.st==0)=false:=by rw [beq_eq_false_iff_ne];exact c
   rw [this];simp
 have:=Int.ediv_nonneg (a:=s.hi - s.lo) (b:=s.st) (by have:=h.2.2.1;omega) ws.2.2.2.2.1
 omega
theorem Qq3{s:Qd}(ws:s.wf)(h:reg s)(i:Nat)(hi:(i:Int) < Q6 s):Qw s (We s i)=true∧s.lo≤We s i∧We s i≤s.hi:=by
 obtain⟨l0,l1,h0,h1,s0,s1⟩:=ws;rw [(WH ⟨l0,l1,h0,h1,s0,s1⟩ h).2]at hi;have hd:=h.2.2.2.1;have hle:=h.2.2.1
 have k:(i:Int) * s.st≤s.hi - s.lo:=by
  have e:=Int.ediv_mul_cancel hd;have:=Int.mul_le_mul_of_nonneg_right (show(i:Int)≤(s.hi - s.lo) / s.st by omega) s0
  omega
 have k2:=Int.mul_nonneg (Int.natCast_nonneg i) s0;unfold We;refine⟨(Xi h _).2 ⟨by omega,by omega,?_⟩,by omega,by omega⟩
 have:s.lo+(i:Int) * s.st - s.lo=(i:Int) * s.st:=by omega
 rw [this];exact Int.dvd_mul_left _ _
theorem QnC{s:Qd}(ws:s.wf)(vs:Qx s=true)(i:Nat)(hi:(i:Int) < Q6 s)(hc:Q6 s≤64):0≤We s i∧We s i < 4294967296∧Qw s (We s i)=true∧reg s:=by
 rcases Zc vs with rfl|rfl|hs
 ·have:Q6 Qp=4294967296:=rfl;omega
 ·have:Q6 Qt=0:=rfl;omega
 ·have:=Qq3 ws hs i hi;obtain⟨l0,l1,h0,h1,s0,s1⟩:=ws;exact⟨by omega,by omega,this.1,hs⟩
theorem WI{s:Qd}(ws:s.wf)(vs:Qx s=true)(hc:Q6 s≤64)(x:Int)(hx:x∈XI s):0≤x∧x < 4294967296∧Qw s x=true:=by
 obtain⟨i,hi,rfl⟩:=List.mem_map.1 hx;rw [List.mem_range]at hi;have:=QnC ws vs i (by omega) hc
 exact⟨this.1,this.2.1,this.2.2.1⟩
theorem QqI{a b:Qd}(va:Qx a=true)(vb:Qx b=true):Jp a b=QX a b:=by unfold Jp;rw [Zl va,Zl vb]
theorem QsJ{b out:Qd}(wo:out.wf)(vo:Qx out=true)(n:Int)(n0:0≤n)(n1:n < 4294967296):(ZM b out n).wf∧Qx (ZM b out n)=true:=by
 unfold ZM;cases Qw b n
 ·exact⟨wo,vo⟩
 ·simp only [if_true];rw [QqI vo (YT n)];exact⟨Jd wo (WQ n0 n1),X6 wo (WQ n0 n1) vo (YT n)⟩
theorem Qf8(b:Qd):∀(l:List Int) (out:Qd),out.wf→Qx out=true→(∀x∈l,0≤x∧x < 4294967296)→(l.foldl (ZM b) out).wf∧Qx (l.foldl (ZM b) out)=true
 | [],out,wo,vo,_=>⟨wo,vo⟩
 |n :: l,out,wo,vo,hl=>by
  have hn:=hl n (List.mem_cons.2 (.inl rfl));have s:=QsJ (b:=b) wo vo n hn.1 hn.2;exact Qf8 b l _ s.1 s.2 fun x hx=>hl x (List.mem_cons.2 (.inr hx))
theorem QeF{a b:Qd}(wa:a.wf)(va:Qx a=true)(hc:Q6 a≤64):(YJ a b).wf∧Qx (YJ a b)=true:=
 Qf8 b _ _ Ji rfl fun x hx=>by have:=WI wa va hc x hx;exact⟨this.1,this.2.1⟩
theorem QcJ{a:Qd}(wa:a.wf)(st:a.st≠0)(lo:Int)(hl:a.lo≤lo)(h1:lo < 4294967296):lo≤XD a lo∧XD a lo < lo+a.st∧a.st∣XD a lo - a.lo∧0≤(lo - a.lo+a.st - 1) / a.st * a.st∧(lo - a.lo+a.st - 1) / a.st * a.st≤lo - a.lo+a.st - 1∧0≤(lo - a.lo+a.st - 1) / a.st∧(lo - a.lo+a.st - 1) / a.st≤lo - a.lo+a.st - 1:=by
 obtain⟨l0,l1,h0,h2,s0,s1⟩:=wa;unfold XD;have e:=Int.mul_ediv_add_emod (lo - a.lo+a.st - 1) a.st;rw [Int.mul_comm]at e;have m1:=Int.emod_nonneg (lo - a.lo+a.st - 1) st;have m2:=Int.emod_lt_of_pos (lo - a.lo+a.st - 1) (by omega:0 < a.st)
 have m3:=Int.ediv_nonneg (a:=lo - a.lo+a.st - 1) (b:=a.st) (by omega) s0
 have m4:=Int.ediv_le_self (b:=a.st) (a:=lo - a.lo+a.st - 1) (by omega)
 have m5:=Int.mul_nonneg m3 s0;refine⟨by omega,by omega,?_,m5,by omega,m3,m4⟩
 have:a.lo+(lo - a.lo+a.st - 1) / a.st * a.st - a.lo=(lo - a.lo+a.st - 1) / a.st * a.st:=by omega
 rw [this];exact Int.dvd_mul_left _ _
theorem Qcq{a:Qd}(wa:a.wf)(va:Qx a=true)(h:¬Q6 a≤64)(ht:a.t=false):reg a∧a.st≠0:=by
 rcases Zc va with rfl|rfl|ha
 ·cases ht
 ·have:Q6 Qt=0:=rfl;omega
 ·refine⟨ha,fun c=>?_⟩
  have:=(WH wa ha).2;rw [c,Int.ediv_zero]at this;omega
theorem QqW{a b:Qd}(wa:a.wf)(wb:b.wf)(va:Qx a=true)(vb:Qx b=true):(VW a b).wf∧Qx (VW a b)=true:=by
 unfold VW;cases tb:b.t
 ·cases ta:a.t
  ·simp only [Bool.false_eq_true,if_false];by_cases c1:Q6 a≤64
   ·rw [if_pos c1];exact QeF wa va c1
   rw [if_neg c1];by_cases c2:Q6 b≤64
   ·rw [if_pos c2];exact QeF wb vb c2
   rw [if_neg c2];obtain⟨ha,sa⟩:=Qcq wa va c1 ta;obtain⟨hb,sb⟩:=Qcq wb vb c2 tb;have f:=QcJ wa sa (if a.lo < b.lo then b.lo else a.lo) (by omega) (by have:=wa.2.1;have:=wb.2.1;omega)
   obtain⟨l0,l1,h0,h1,s0,s1⟩:=wa;obtain⟨m0,m1,n0,n1,t0,t1⟩:=wb;by_cases c3:(if a.hi < b.hi then a.hi else b.hi) < XD a (if a.lo < b.lo then b.lo else a.lo)
   ·rw [if_pos c3];exact⟨Ji,rfl⟩
   ·rw [if_neg c3];exact⟨Z7 _ _ _ (by omega) (by omega) (by omega) (by omega) s0 s1,Z6 _ _ _ (by omega) (by omega) s0⟩
  ·simp only [Bool.false_eq_true,if_false,if_true];exact⟨wb,vb⟩
 ·simp only [if_true];exact⟨wa,va⟩
end Go.Proofs.YteplnamfpodmlaaGreat
