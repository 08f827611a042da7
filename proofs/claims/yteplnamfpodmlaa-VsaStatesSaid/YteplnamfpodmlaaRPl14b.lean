/-
  Part of the proof.
-/
import Derived.Test.YteplnamfpodmlaaRVaE
import Derived.Test.YteplnamfpodmlaaRKit
set_option linter.unusedVariables false
set_option linter.unusedSimpArgs false
set_option maxRecDepth 100000
open Go.ChangeShapes Go.WideShapes Go.ChangeAt Go.RowKit
namespace Go.Proofs.Yteplnamfpodmlaa
theorem Qvi{s:Qd}(hv:Qq s=true):s=Qy∨s=Q4∨(s.t=false∧s.e=false∧s.lo≤s.hi∧s.st∣s.hi - s.lo∧(s.st=0↔s.lo=s.hi)∧¬(s.lo=0∧s.hi=4294967295∧s.st=1)):=by
 obtain⟨e,t,lo,hi,st⟩:=s
 by_cases h:t=true∨e=true
 ·rw [Qct e t lo hi st h,Bool.or_eq_true]at hv
  rcases hv with h|h
  ·exact .inl (of_decide_eq_true h)
  ·exact .inr (.inl (of_decide_eq_true h))
 ·obtain rfl:t=false:=by cases t <;> simp_all
  obtain rfl:e=false:=by cases e <;> simp_all
  refine .inr (.inr ⟨rfl,rfl,?_⟩)
  dsimp only
  rcases Yo lo hi st hv with ⟨rfl,rfl⟩|⟨h1,h2,h3,h4⟩
  ·exact⟨Int.le_refl _,by rw [Int.sub_self];exact Int.dvd_zero _,by simp,by omega⟩
  ·exact⟨by omega,Int.dvd_of_emod_eq_zero h3,by omega,by omega⟩
def reg(s:Qd):Prop:=s.t=false∧s.e=false∧s.lo≤s.hi∧s.st∣s.hi - s.lo∧(s.st=0↔s.lo=s.hi)∧¬(s.lo=0∧s.hi=4294967295∧s.st=1)
theorem QfA(x:Int):Qm Qy x=true:=rfl
theorem QnY(x:Int):Qm Q4 x=false:=rfl
theorem QZ{s:Qd}(h:reg s)(x:Int):Qm s x=true↔s.lo≤x∧x≤s.hi∧s.st∣x - s.lo:=by
 obtain⟨h1,h2,h3,h4,h5,h6⟩:=h
 unfold Qm
 simp only [h1,h2,Bool.or_self,Bool.false_eq_true,if_false]
 by_cases c:s.st=0
 ·rw [c];simp only [beq_self_eq_true,if_true,beq_iff_eq,Int.zero_dvd];have:=h5.1 c;omega
 ·have:(s.st==0)=false:=by rw [beq_eq_false_iff_ne];exact c
  rw [this];simp only [Bool.false_eq_true,if_false,Bool.and_eq_true,decide_eq_true_eq,beq_iff_eq,Int.dvd_iff_emod_eq_zero]
theorem QcQ(n x:Int):Qm (X2 n) x=true↔x=n:=by
 show(x==n)=true↔_
 exact beq_iff_eq
theorem ZX(lo hi st x:Int)(s0:0≤st)(x0:0≤x)(x1:x < 4294967296):Qm (Qs lo hi st) x=true↔lo≤x∧x≤hi∧st∣x - lo:=by
 rcases Jt lo hi st with ⟨h,e⟩|⟨h1,h2,e⟩|⟨c1,c2,c3,⟨h1,h2,h3,e⟩|⟨h1,e⟩⟩ <;> rw [e]
 ·rw [QnY];constructor
  ·intro h;cases h
  ·omega
 ·rw [QcQ]
  constructor
  ·rintro rfl;exact⟨Int.le_refl _,h1,by rw [Int.sub_self];exact Int.dvd_zero _⟩
  ·rintro⟨a1,a2,a3⟩
   rcases h2 with rfl|h2
   ·rw [Int.zero_dvd]at a3;omega
   ·have:=Int.eq_zero_of_dvd_of_natAbs_lt_natAbs a3 (by omega);omega
 ·rw [QfA];subst h1 h2 h3
  exact⟨fun _=>⟨x0,by omega,Int.one_dvd _⟩,fun _=>rfl⟩
 ·have m1:=Int.emod_nonneg (hi - lo) c2
  have m2:=Int.emod_lt_of_pos (hi - lo) (by omega:0 < st)
  show(if(false || false)=true then false else if(st==0)=true then x==lo else decide (lo≤x) && (decide (x≤hi - (hi - lo) % st) && ((x - lo) % st==0)))=true↔_
  have:(st==0)=false:=by rw [beq_eq_false_iff_ne];exact c2
  rw [this];simp only [Bool.or_self,Bool.false_eq_true,if_false,Bool.and_eq_true,decide_eq_true_eq,beq_iff_eq,Int.dvd_iff_emod_eq_zero]
  constructor
  ·rintro⟨a1,a2,a3⟩;exact⟨a1,by omega,a3⟩
  ·rintro⟨a1,a2,a3⟩
   refine⟨a1,?_,a3⟩
   have d:(hi - (hi - lo) % st - x) % st=0:=by
    have e1:hi - (hi - lo) % st - x=((hi - lo) - (hi - lo) % st) - (x - lo):=by omega
    rw [e1]
    exact Int.emod_eq_zero_of_dvd (Int.dvd_sub Int.dvd_self_sub_emod (Int.dvd_of_emod_eq_zero a3))
   have d2:=Int.dvd_of_emod_eq_zero d
   rcases Int.lt_or_le (hi - (hi - lo) % st) x with hlt|hle
   ·exfalso
    have d3:st∣x - (hi - (hi - lo) % st):=by have:=(Int.dvd_neg).2 d2;rwa [Int.neg_sub]at this
    have:=Int.le_of_dvd (by omega) d3
    omega
   ·exact hle
theorem QQ{s:Qd}(hv:Qq s=true):s=Qy∨s=Q4∨reg s:=Qvi hv
theorem Qba{n m:Qd}(m0:0≤m.st)(hn:reg n)(hm:reg m):QL n m=true↔m.lo≤n.lo∧n.hi≤m.hi∧m.st∣n.lo - m.lo∧m.st∣n.st:=by
 have k1:=QZ hm n.lo
 have k2:=QZ hm n.hi
 obtain⟨h1,h2,h3,h4,h5,h6⟩:=hn
 obtain⟨g1,g2,g3,g4,g5,g6⟩:=hm
 unfold QL
 simp only [h1,h2,g1,g2,Bool.or_self,Bool.false_eq_true,if_false,Bool.and_eq_true,k1,k2,Bool.or_eq_true,decide_eq_true_eq,beq_iff_eq]
 constructor
 ·rintro⟨⟨a1,a2,a3⟩,⟨a4,a5,a6⟩,a7⟩
  refine⟨a1,a5,a3,?_⟩
  rcases a7 with a7|⟨_,a7⟩
  ·rw [a7];exact Int.dvd_zero _
  ·exact Int.dvd_of_emod_eq_zero a7
 ·rintro⟨a1,a2,a3,a4⟩
  refine⟨⟨a1,by omega,a3⟩,⟨by omega,a2,?_⟩,?_⟩
  ·have:n.hi - m.lo=(n.hi - n.lo)+(n.lo - m.lo):=by omega
   rw [this];exact Int.dvd_add (Int.dvd_trans a4 h4) a3
  ·by_cases c:n.st=0
   ·exact .inl c
   ·refine .inr ⟨?_,Int.emod_eq_zero_of_dvd a4⟩
    rcases Int.lt_or_eq_of_le m0 with h|h
    ·exact h
    ·rw [←h,Int.zero_dvd]at a4;exact absurd a4 c
theorem Qly(n:Qd):QL n Qy=true:=by unfold QL;simp [Qy]
theorem Qbb{n m:Qd}(wm:m.wf)(vn:Qq n=true)(vm:Qq m=true)(h:QL n m=true)(x:Int)(hx:Qm n x=true):Qm m x=true:=by
 rcases QQ vn with rfl|rfl|hn
 ·rcases QQ vm with rfl|rfl|hm
  ·exact QfA x
  ·cases h
  ·obtain⟨g1,g2,_⟩:=hm
   exfalso
   have:QL Qy m=false:=by unfold QL;simp [g1,Qy]
   rw [this]at h;cases h
 ·cases hx
 ·rcases QQ vm with rfl|rfl|hm
  ·exact QfA x
  ·obtain⟨g1,g2,_⟩:=hn
   exfalso
   have:QL n Q4=false:=by unfold QL;simp [g1,g2,Q4]
   rw [this]at h;cases h
  ·rw [Qba wm.2.2.2.2.1 hn hm]at h
   rw [QZ hn]at hx
   rw [QZ hm]
   obtain⟨a1,a2,a3,a4⟩:=h
   obtain⟨b1,b2,b3⟩:=hx
   refine⟨by omega,by omega,?_⟩
   have:x - m.lo=(x - n.lo)+(n.lo - m.lo):=by omega
   rw [this];exact Int.dvd_add (Int.dvd_trans a4 b3) a3
theorem VQ{n m:Qd}(wn:n.wf)(wm:m.wf)(vn:Qq n=true)(vm:Qq m=true)(h:∀x,0≤x→x < 4294967296→Qm n x=true→Qm m x=true):QL n m=true:=by
 obtain⟨n0,n1,n2,n3,n4,n5⟩:=wn
 obtain⟨m0,m1,m2,m3,m4,m5⟩:=wm
 rcases QQ vm with rfl|rfl|hm
 ·exact Qly n
 ·rcases QQ vn with rfl|rfl|hn
  ·exact h 0 (by omega) (by omega) rfl
  ·rfl
  ·have:=h n.lo n0 n1 ((QZ hn _).2 ⟨Int.le_refl _,hn.2.2.1,by rw [Int.sub_self];exact Int.dvd_zero _⟩)
   cases this
 ·rcases QQ vn with rfl|rfl|hn
  ·have a:=(QZ hm _).1 (h 0 (by omega) (by omega) rfl)
   have b:=(QZ hm _).1 (h 1 (by omega) (by omega) rfl)
   have c:=(QZ hm _).1 (h 4294967295 (by omega) (by omega) rfl)
   exfalso
   apply hm.2.2.2.2.2
   have e1:m.lo=0:=by omega
   refine⟨e1,by omega,?_⟩
   have d:=b.2.2
   rw [e1,Int.sub_zero]at d
   have:=Int.le_of_dvd (by omega) d
   have z:m.st≠0:=by intro z;rw [z,Int.zero_dvd]at d;omega
   omega
  ·rfl
  ·rw [Qba m4 hn hm]
   have l0:=(QZ hn n.lo).2 ⟨Int.le_refl _,hn.2.2.1,by rw [Int.sub_self];exact Int.dvd_zero _⟩
   have l1:=(QZ hn n.hi).2 ⟨hn.2.2.1,Int.le_refl _,hn.2.2.2.1⟩
   have a:=(QZ hm _).1 (h n.lo n0 n1 l0)
   have b:=(QZ hm _).1 (h n.hi n2 n3 l1)
   refine⟨a.1,b.2.1,a.2.2,?_⟩
   by_cases c:n.st=0
   ·rw [c];exact Int.dvd_zero _
   ·have lt:n.lo < n.hi:=by
     rcases Int.lt_or_eq_of_le hn.2.2.1 with q|q
     ·exact q
     ·exact absurd (hn.2.2.2.2.1.2 q) c
    have le:=Int.le_of_dvd (by omega) hn.2.2.2.1
    have l2:=(QZ hn (n.lo+n.st)).2 ⟨by omega,by omega,by rw [show n.lo+n.st - n.lo=n.st by omega];exact Int.dvd_refl _⟩
    have d:=(QZ hm _).1 (h (n.lo+n.st) (by omega) (by omega) l2)
    have:n.st=(n.lo+n.st - m.lo) - (n.lo - m.lo):=by omega
    rw [this]
    exact Int.dvd_sub d.2.2 a.2.2
theorem Qiz{n:Qd}(wn:n.wf)(vn:Qq n=true):QL n n=true:=VQ wn wn vn vn fun _ _ _ h=>h
theorem Wv{a b c:Qd}(wa:a.wf)(wb:b.wf)(wc:c.wf)(va:Qq a=true)(vb:Qq b=true)(vc:Qq c=true)(h1:QL a b=true)(h2:QL b c=true):QL a c=true:=
 VQ wa wc va vc fun x _ _ h=>Qbb wc vb vc h2 x (Qbb wb va vb h1 x h)
theorem QhB{a b:Qd}(h1:a.t=false)(h2:a.e=false)(h3:b.t=false)(h4:b.e=false) :
 Za a b=Qs (if b.lo < a.lo then b.lo else a.lo) (if a.hi < b.hi then b.hi else a.hi) (Xg (Xg a.st b.st) ((if a.lo < b.lo then b.lo else a.lo) - if b.lo < a.lo then b.lo else a.lo)):=by
 unfold Za;simp only [h1,h2,h3,h4,Bool.or_self,Bool.false_eq_true,if_false]
theorem Qd7{a b:Qd}(wa:a.wf)(wb:b.wf)(va:Qq a=true)(vb:Qq b=true)(x:Int)(x0:0≤x)(x1:x < 4294967296)(h:Qm a x=true∨Qm b x=true):Qm (Za a b) x=true:=by
 rcases QQ va with rfl|rfl|ha
 ·rfl
 ·rcases QQ vb with rfl|rfl|hb
  ·rfl
  ·rcases h with h|h <;> cases h
  ·have:Za Q4 b=b:=by unfold Za;simp [hb.1,Q4]
   rw [this]
   rcases h with h|h
   ·cases h
   ·exact h
 ·rcases QQ vb with rfl|rfl|hb
  ·have:Za a Qy=Qy:=by unfold Za;simp [Qy]
   rw [this];rfl
  ·have:Za a Q4=a:=by unfold Za;simp [ha.1,ha.2.1,Q4]
   rw [this]
   rcases h with h|h
   ·exact h
   ·cases h
  ·rw [QhB ha.1 ha.2.1 hb.1 hb.2.1]
   obtain⟨a0,a1,a2,a3,a4,a5⟩:=wa
   obtain⟨b0,b1,b2,b3,b4,b5⟩:=wb
   rw [ZX _ _ _ _ (Zd _ _) x0 x1]
   rw [QZ ha,QZ hb]at h
   have g1:=KP a.st b.st a4
   have g2:=XY a.st b.st b4
   have g3:=KP (Xg a.st b.st) ((if a.lo < b.lo then b.lo else a.lo) - if b.lo < a.lo then b.lo else a.lo) (Zd _ _)
   have g4:=XY (Xg a.st b.st) ((if a.lo < b.lo then b.lo else a.lo) - if b.lo < a.lo then b.lo else a.lo) (by omega)
   generalize Xg (Xg a.st b.st) ((if a.lo < b.lo then b.lo else a.lo) - if b.lo < a.lo then b.lo else a.lo)=G at *
   generalize Xg a.st b.st=K at *
   have d:G∣a.lo - (if b.lo < a.lo then b.lo else a.lo)∧G∣b.lo - (if b.lo < a.lo then b.lo else a.lo):=by
    by_cases c:b.lo < a.lo
    ·rw [if_pos c,if_neg (by omega)]at g4
     rw [if_pos c]
     exact⟨g4,by rw [Int.sub_self];exact Int.dvd_zero _⟩
    ·by_cases c2:a.lo < b.lo
     ·rw [if_neg c,if_pos c2]at g4
      rw [if_neg c]
      exact⟨by rw [Int.sub_self];exact Int.dvd_zero _,g4⟩
     ·have:a.lo=b.lo:=by omega
      rw [if_neg c,this,Int.sub_self];exact⟨Int.dvd_zero _,Int.dvd_zero _⟩
   rcases h with ⟨k1,k2,k3⟩|⟨k1,k2,k3⟩
   ·refine⟨by omega,by omega,?_⟩
    have:x - (if b.lo < a.lo then b.lo else a.lo)=(x - a.lo)+(a.lo - (if b.lo < a.lo then b.lo else a.lo)):=by omega
    rw [this];exact Int.dvd_add (Int.dvd_trans (Int.dvd_trans g3 g1) k3) d.1
   ·refine⟨by omega,by omega,?_⟩
    have:x - (if b.lo < a.lo then b.lo else a.lo)=(x - b.lo)+(b.lo - (if b.lo < a.lo then b.lo else a.lo)):=by omega
    rw [this];exact Int.dvd_add (Int.dvd_trans (Int.dvd_trans g3 g2) k3) d.2
theorem QfC(a b:Int)(ha:0≤a)(hb:0≤b):0≤a % b∧a % b≤a:=by
 by_cases c:b=0
 ·subst c;rw [Int.emod_zero];omega
 ·have h1:=Int.emod_nonneg a c
  have h2:=Int.mul_ediv_add_emod a b
  have h3:=Int.mul_nonneg hb (Int.ediv_nonneg ha hb)
  omega
theorem Qan{a b:Qd}(wa:a.wf)(wb:b.wf)(va:Qq a=true)(vb:Qq b=true):(VY a b).wf:=by
 unfold VY
 cases q:QL b a
 ·simp only [Bool.false_eq_true,if_false]
  cases a.e
  ·simp only [Bool.false_eq_true,if_false]
   cases p:a.t || b.t
   ·simp only [Bool.false_eq_true,if_false]
    have wj:=Jw wa wb
    cases t:(Za a b).t
    ·simp only [Bool.false_eq_true,if_false]
     obtain⟨c0,c1,c2,c3,c4,c5⟩:=wj
     have m0:=QfC (Za a b).lo (Za a b).st c0 c4
     exact ZW _ _ _ (by split <;> omega) (by split <;> omega) (by split <;> omega) (by split <;> omega) c4 c5
    ·simp only [if_true];exact wj
   ·simp only [if_true];exact Z5
  ·simp only [if_true];exact wb
 ·simp only [if_true];exact wa
theorem Vx{a b:Qd}(wa:a.wf)(wb:b.wf)(va:Qq a=true)(vb:Qq b=true):Qq (VY a b)=true:=by
 unfold VY
 cases q:QL b a
 ·simp only [Bool.false_eq_true,if_false]
  cases a.e
  ·simp only [Bool.false_eq_true,if_false]
   cases p:a.t || b.t
   ·simp only [Bool.false_eq_true,if_false]
    have wj:=Jw wa wb
    cases t:(Za a b).t
    ·simp only [Bool.false_eq_true,if_false]
     obtain⟨c0,c1,c2,c3,c4,c5⟩:=wj
     have m0:=QfC (Za a b).lo (Za a b).st c0 c4
     exact Zo _ _ _ (by split <;> omega) (by split <;> omega) c4
    ·simp only [if_true];exact XN wa wb va vb
   ·rfl
  ·simp only [if_true];exact vb
 ·simp only [if_true];exact va
theorem Qc7{a b:Qd}(wa:a.wf)(wb:b.wf)(va:Qq a=true)(vb:Qq b=true):QL a (Za a b)=true∧QL b (Za a b)=true:=
 ⟨VQ wa (Jw wa wb) va (XN wa wb va vb) fun x x0 x1 h=>Qd7 wa wb va vb x x0 x1 (.inl h),
  VQ wb (Jw wa wb) vb (XN wa wb va vb) fun x x0 x1 h=>Qd7 wa wb va vb x x0 x1 (.inr h)⟩
def Xd(s:Qd):Bool:= !s.t && (!s.e && (s.st==0))
def XQ(a:Qd)(k:Int):Qd:=if a.t then Qy else if 4294967295 < a.hi * k then Qy else Qs (a.lo * k) (a.hi * k) (a.st * k)
def WD(n:Int):Int:=bits .and .u32 n ((0 - n) % 4294967296)
def JU(a:Qd)(n:Int):Qd:=Qs 0 (if a.t then n else if a.hi < n then a.hi else n) (WD n)
def Qcz(a b:Qd):Qd:=if a.t || b.t then Qy else if 4294967295 < a.hi+b.hi then Qy else Qs (a.lo+b.lo) (a.hi+b.hi) (Xg a.st b.st)
def QcE(a b:Qd):Qd:=if a.t || b.t then Qy else if a.lo < b.hi then Qy else Qs (a.lo - b.hi) (a.hi - b.lo) (Xg a.st b.st)
def Qfx(a b:Qd):Qd:=if a.t then Qy else Qs (Qar a.lo b.lo) (Qar a.hi b.lo) 1
def W1(op:Int)(a b:Qd):Qd:=
 if op < 3∨15 < op then Qy
 else if a.e || b.e then Q4
 else if Xd a && Xd b then X2 (XI (op - 3).toNat a.lo b.lo)
 else if 12≤op then Qs 0 1 1
 else if op=3 then Qcz a b
 else if op=4 then QcE a b
 else if Xd b then
  if op=5 then XQ a b.lo
  else if op=9 then XQ a (2 ^ (b.lo % 32).toNat)
  else if op=6 then JU a b.lo
  else if op=10 then Qfx a b
  else Qy
 else Qy
def JW(op:Int)(a b:Qd):Qd:=W1 op (ZO a) (ZO b)
theorem QkI(k q:Nat)(h:2 ^ k * (2 * q+1) < 4294967296):(2 ^ k * (2 * q+1)) &&& (4294967296 - 2 ^ k * (2 * q+1))=2 ^ k:=by
 have hp:0 < 2 ^ k:=Nat.two_pow_pos k
 have e1:2 ^ k * (2 * q+1)=(2 ^ k * (2 * q+1) - 1)+1:=by
  have:0 < 2 ^ k * (2 * q+1):=Nat.mul_pos hp (by omega)
  omega
 have e2:2 ^ k * (2 * q+1) - 1=2 ^ k * (2 * q)+(2 ^ k - 1):=by
  have:2 ^ k * (2 * q+1)=2 ^ k * (2 * q)+2 ^ k:=by rw [Nat.mul_add,Nat.mul_one]
  omega
 have e3:(4294967296:Nat)=2 ^ 32:=by decide
 apply Nat.eq_of_testBit_eq
 intro i
 rw [Nat.testBit_and,Nat.testBit_two_pow]
 have t1:(4294967296 - 2 ^ k * (2 * q+1)).testBit i=(decide (i < 32) && !(2 ^ k * (2 * q+1) - 1).testBit i):=by
  conv=>lhs;rw [e1,e3]
  exact Nat.testBit_two_pow_sub_succ (by omega) i
 have t2:(2 ^ k * (2 * q)+(2 ^ k - 1)).testBit i=if i < k then(2 ^ k - 1).testBit i else(2 * q).testBit (i - k):=Nat.testBit_two_pow_mul_add _ (by omega) i
 have t3:(2 ^ k * (2 * q+1)).testBit i=if i < k then(0:Nat).testBit i else(2 * q+1).testBit (i - k):=by
  have:=Nat.testBit_two_pow_mul_add (2 * q+1) (i:=k) (b:=0) (by omega) i
  rwa [Nat.add_zero]at this
 rw [t1,e2,t2,t3]
 by_cases c:i < k
 ·rw [if_pos c,Nat.zero_testBit,Bool.false_and]
  symm;rw [decide_eq_false_iff_not];omega
 ·rw [if_neg c,if_neg c]
  by_cases d:i=k
  ·subst d
   have k32:i < 32:=by
    rcases Nat.lt_or_ge i 32 with h1|h1
    ·exact h1
    ·exfalso
     have:=Nat.pow_le_pow_right (n:=2) (by omega) h1
     have h2:2 ^ i≤2 ^ i * (2 * q+1):=Nat.le_mul_of_pos_right _ (by omega)
     omega
   rw [Nat.sub_self,decide_eq_true k32,decide_eq_true rfl]
   simp only [Nat.testBit_zero]
   have a1:(2 * q+1) % 2=1:=by omega
   have a2:(2 * q) % 2=0:=by omega
   rw [a1,a2];rfl
  ·have a:(2 * q+1).testBit (i - k)=(2 * q).testBit (i - k):=by
    obtain⟨j,hj⟩:∃j,i - k=j+1:=⟨i - k - 1,by omega⟩
    rw [hj,Nat.testBit_succ,Nat.testBit_succ]
    have a1:(2 * q+1) / 2=q:=by omega
    have a2:(2 * q) / 2=q:=by omega
    rw [a1,a2]
   rw [a]
   have:decide (k=i)=false:=by rw [decide_eq_false_iff_not];omega
   rw [this]
   cases (2 * q).testBit (i - k) <;> simp
theorem Qsr(n:Nat)(h:0 < n):∃k q,n=2 ^ k * (2 * q+1):=by
 induction n using Nat.strongRecOn with
 |_ n ih=>
  by_cases c:n % 2=1
  ·exact⟨0,n / 2,by rw [Nat.pow_zero,Nat.one_mul];omega⟩
  ·obtain⟨k,q,e⟩:=ih (n / 2) (by omega) (by omega)
   refine⟨k+1,q,?_⟩
   rw [Nat.pow_succ,Nat.mul_assoc,Nat.mul_left_comm,←e];omega
theorem Qn9(n:Int)(h0:0 < n)(h1:n < 4294967296):∃k q:Nat,n=((2 ^ k * (2 * q+1):Nat):Int)∧WD n=((2 ^ k:Nat):Int):=by
 obtain⟨N,rfl⟩:=Int.eq_ofNat_of_zero_le (by omega:0≤n)
 obtain⟨k,q,e⟩:=Qsr N (by omega)
 refine⟨k,q,by rw [e],?_⟩
 unfold WD
 have e2:(0 - (N:Int)) % 4294967296=((4294967296 - N:Nat):Int):=by omega
 rw [e2,u32_and_nat _ _ (by omega) (by omega)]
 subst e
 rw [QkI k q (by omega)]
theorem QhJ:WD 0=0:=by decide+kernel
theorem QkH(n:Int)(h0:0≤n)(h1:n < 4294967296):0≤WD n∧WD n≤n:=by
 by_cases c:n=0
 ·subst c;rw [QhJ];omega
 ·obtain⟨k,q,e1,e2⟩:=Qn9 n (by omega) h1
  rw [e2,e1]
  have:2 ^ k≤2 ^ k * (2 * q+1):=Nat.le_mul_of_pos_right _ (by omega)
  exact⟨Int.natCast_nonneg _,Int.ofNat_le.2 this⟩
theorem Qx8(n:Int)(h0:0 < n)(h1:n < 4294967296)(j:Nat)(d:n % 2 ^ j=0)(d2:n % (2 * 2 ^ j)≠0):WD n=2 ^ j:=by
 obtain⟨k,q,e1,e2⟩:=Qn9 n h0 h1
 rw [e2]
 have hn:n=2 ^ k * (2 * (q:Int)+1):=by rw [e1];simp [Int.natCast_mul,Int.natCast_pow]
 have d':=Int.dvd_of_emod_eq_zero d
 have hk:k=j:=by
  rcases Nat.lt_trichotomy k j with h|h|h
  ·exfalso
   obtain⟨m,rfl⟩:∃m,j=k+1+m:=⟨j - k - 1,by omega⟩
   have h2:(2:Int) ^ (k+1)∣n:=Int.dvd_trans ⟨2 ^ m,by rw [←Int.pow_add]⟩ d'
   obtain⟨c,hc⟩:=h2
   rw [hn,Int.pow_succ,Int.mul_assoc]at hc
   have:=Int.eq_of_mul_eq_mul_left (by have:(0:Int) < 2 ^ k:=Int.pow_pos (by omega);omega) hc
   omega
  ·exact h
  ·exfalso
   apply d2
   apply Int.emod_eq_zero_of_dvd
   obtain⟨m,rfl⟩:∃m,k=j+1+m:=⟨k - j - 1,by omega⟩
   rw [hn]
   exact⟨2 ^ m * (2 * (q:Int)+1),by rw [Int.pow_add,Int.pow_succ,Int.mul_comm (2 ^ j) 2,Int.mul_assoc]⟩
 subst hk
 simp [Int.natCast_pow]
theorem Qnm(x n:Int)(x0:0≤x)(x1:x < 4294967296)(h0:0≤n)(h1:n < 4294967296):0≤bits .and .u32 x n∧bits .and .u32 x n≤x∧bits .and .u32 x n≤n∧WD n∣bits .and .u32 x n:=by
 obtain⟨X,rfl⟩:=Int.eq_ofNat_of_zero_le x0
 obtain⟨N,rfl⟩:=Int.eq_ofNat_of_zero_le h0
 rw [u32_and_nat _ _ (by omega) (by omega)]
 have a1:=Nat.and_le_left (n:=X) (m:=N)
 have a2:=Nat.and_le_right (n:=X) (m:=N)
 refine⟨by omega,by omega,by omega,?_⟩
 by_cases c:(N:Int)=0
 ·rw [c,QhJ]
  have:N=0:=by omega
  subst this
  simp
 ·obtain⟨k,q,e1,e2⟩:=Qn9 N (by omega) h1
  rw [e2]
  apply Int.natCast_dvd_natCast.2
  apply Nat.dvd_of_mod_eq_zero
  rw [Nat.and_mod_two_pow]
  have:N=2 ^ k * (2 * q+1):=by omega
  rw [this,Nat.mul_mod_right,Nat.and_zero]
theorem Qsq(b:Bool):0≤tr b∧tr b≤1:=by cases b <;> simp [tr]
theorem WJ(y:Int)(y0:0≤y):(1:Int)≤2 ^ (y % 32).toNat∧(2:Int) ^ (y % 32).toNat≤2147483648:=by
 have h:(y % 32).toNat≤31:=by omega
 have h1:(2:Nat) ^ (y % 32).toNat≤2 ^ 31:=Nat.pow_le_pow_right (by omega) h
 have h2:0 < (2:Nat) ^ (y % 32).toNat:=Nat.two_pow_pos _
 have e:((2:Int) ^ (y % 32).toNat)=((2 ^ (y % 32).toNat:Nat):Int):=by simp [Int.natCast_pow]
 rw [e];omega
theorem KB(k:Nat)(a b:Int)(a0:0≤a)(a1:a < 4294967296)(b0:0≤b)(b1:b < 4294967296):0≤XI k a b∧XI k a b < 4294967296:=by
 unfold XI
 have t:∀c:Bool,0≤tr c∧tr c < 4294967296:=fun c=>by have:=Qsq c;omega
 split
 ·omega
 ·omega
 ·exact⟨Int.emod_nonneg _ (by omega),Int.emod_lt_of_pos _ (by omega)⟩
 ·have:=Qnm a b a0 a1 b0 b1;omega
 ·rw [u32_or _ _ a0 a1 b0 b1]
  have:a.toNat ||| b.toNat < 2 ^ 32:=Nat.or_lt_two_pow (by omega) (by omega)
  omega
 ·rw [u32_xor _ _ a0 a1 b0 b1]
  have:a.toNat ^^^ b.toNat < 2 ^ 32:=Nat.xor_lt_two_pow (by omega) (by omega)
  omega
 ·exact⟨Int.emod_nonneg _ (by omega),Int.emod_lt_of_pos _ (by omega)⟩
 ·have p:=WJ b b0
  unfold Qar
  have:=Int.ediv_le_self (2 ^ (b % 32).toNat) a0
  exact⟨Int.ediv_nonneg a0 (by omega),by omega⟩
 ·exact⟨Int.emod_nonneg _ (by omega),Int.emod_lt_of_pos _ (by omega)⟩
 ·exact t _
 ·exact t _
 ·exact t _
 ·exact t _
 ·omega
theorem QaR{b:Qd}(h:Xd b=true):b.t=false∧b.e=false∧b.st=0:=by
 unfold Xd at h
 simp only [Bool.and_eq_true,Bool.not_eq_true',beq_iff_eq]at h
 exact h
theorem Qai{n:Int}(h0:0≤n)(h1:n < 4294967296):(X2 n).wf:=QhQ h0 h1 h0 h1 (by omega) (by omega)
theorem JZ(n:Int):Qq (X2 n)=true:=by show(n==n)=true;exact beq_self_eq_true n
theorem Qlg{a:Qd}(wa:a.wf)(k:Int)(k0:0≤k)(st:4294967295 < a.hi * k∨a.st * k < 4294967296)(lo:4294967295 < a.hi * k∨a.lo * k < 4294967296):(XQ a k).wf∧Qq (XQ a k)=true:=by
 unfold XQ
 cases a.t
 ·simp only [Bool.false_eq_true,if_false]
  by_cases c:4294967295 < a.hi * k
  ·rw [if_pos c];exact⟨Z5,rfl⟩
  ·rw [if_neg c]
   obtain⟨a0,a1,a2,a3,a4,a5⟩:=wa
   have m1:=Int.mul_nonneg a0 k0
   have m2:=Int.mul_nonneg a2 k0
   have m3:=Int.mul_nonneg a4 k0
   exact⟨ZW _ _ _ m1 (by omega) m2 (by omega) m3 (by omega),Zo _ _ _ m1 (by omega) m3⟩
 ·exact⟨Z5,rfl⟩
theorem QrI{a:Qd}(wa:a.wf)(ha:reg a)(k:Int)(k0:0≤k):a.lo * k≤a.hi * k∧a.st * k≤a.hi * k:=by
 obtain⟨a0,a1,a2,a3,a4,a5⟩:=wa
 obtain⟨_,_,h3,h4,h5,_⟩:=ha
 refine⟨Int.mul_le_mul_of_nonneg_right h3 k0,Int.mul_le_mul_of_nonneg_right ?_ k0⟩
 by_cases c:a.lo=a.hi
 ·rw [h5.2 c];omega
 ·have:=Int.le_of_dvd (by omega) h4;omega
theorem QcC{a:Qd}(wa:a.wf)(ha:a=Qy∨reg a)(k:Int)(k0:0≤k):(XQ a k).wf∧Qq (XQ a k)=true:=by
 rcases ha with rfl|ha
 ·exact⟨Z5,rfl⟩
 ·have b:=QrI wa ha k k0
  exact Qlg wa k k0 (by omega) (by omega)
theorem Quo{a b:Qd}(wa:a.wf)(wb:b.wf)(ha:a=Qy∨reg a)(hb:b=Qy∨reg b):(Qcz a b).wf∧Qq (Qcz a b)=true:=by
 unfold Qcz
 rcases ha with rfl|ha
 ·exact⟨Z5,rfl⟩
 ·rcases hb with rfl|hb
  ·simp only [Qy,Bool.or_true,if_true];exact⟨Z5,rfl⟩
  ·simp only [ha.1,hb.1,Bool.or_self,Bool.false_eq_true,if_false]
   obtain⟨a0,a1,a2,a3,a4,a5⟩:=wa
   obtain⟨b0,b1,b2,b3,b4,b5⟩:=wb
   have g0:=Zd a.st b.st
   have g1:=Vr a.st b.st 4294967295 a4 b4 (by omega) (by omega)
   have:=ha.2.2.1
   have:=hb.2.2.1
   by_cases c:4294967295 < a.hi+b.hi
   ·rw [if_pos c];exact⟨Z5,rfl⟩
   ·rw [if_neg c]
    exact⟨ZW _ _ _ (by omega) (by omega) (by omega) (by omega) g0 (by omega),Zo _ _ _ (by omega) (by omega) g0⟩
theorem QuQ{a b:Qd}(wa:a.wf)(wb:b.wf)(ha:a=Qy∨reg a)(hb:b=Qy∨reg b):(QcE a b).wf∧Qq (QcE a b)=true:=by
 unfold QcE
 rcases ha with rfl|ha
 ·exact⟨Z5,rfl⟩
 ·rcases hb with rfl|hb
  ·simp only [Qy,Bool.or_true,if_true];exact⟨Z5,rfl⟩
  ·simp only [ha.1,hb.1,Bool.or_self,Bool.false_eq_true,if_false]
   obtain⟨a0,a1,a2,a3,a4,a5⟩:=wa
   obtain⟨b0,b1,b2,b3,b4,b5⟩:=wb
   have g0:=Zd a.st b.st
   have g1:=Vr a.st b.st 4294967295 a4 b4 (by omega) (by omega)
   have:=ha.2.2.1
   have:=hb.2.2.1
   by_cases c:a.lo < b.hi
   ·rw [if_pos c];exact⟨Z5,rfl⟩
   ·rw [if_neg c]
    exact⟨ZW _ _ _ (by omega) (by omega) (by omega) (by omega) g0 (by omega),Zo _ _ _ (by omega) (by omega) g0⟩
theorem QnT(op:Int){a b:Qd}(wa:a.wf)(wb:b.wf)(va:Qq a=true)(vb:Qq b=true):(W1 op a b).wf∧Qq (W1 op a b)=true:=by
 unfold W1
 by_cases c0:op < 3∨15 < op
 ·rw [if_pos c0];exact⟨Z5,rfl⟩
 rw [if_neg c0]
 cases ea:a.e
 ·cases eb:b.e
  ·simp only [Bool.or_self,Bool.false_eq_true,if_false]
   have ha:a=Qy∨reg a:=by
    rcases QQ va with h|rfl|h
    ·exact .inl h
    ·cases ea
    ·exact .inr h
   have hb:b=Qy∨reg b:=by
    rcases QQ vb with h|rfl|h
    ·exact .inl h
    ·cases eb
    ·exact .inr h
   obtain⟨a0,a1,a2,a3,a4,a5⟩:=wa
   obtain⟨b0,b1,b2,b3,b4,b5⟩:=wb
   cases q:Xd a && Xd b
   ·simp only [Bool.false_eq_true,if_false]
    by_cases c1:12≤op
    ·rw [if_pos c1];exact⟨ZW _ _ _ (by omega) (by omega) (by omega) (by omega) (by omega) (by omega),Zo _ _ _ (by omega) (by omega) (by omega)⟩
    rw [if_neg c1]
    have g0:=Zd a.st b.st
    have g1:=Vr a.st b.st 4294967295 a4 b4 (by omega) (by omega)
    by_cases c2:op=3
    ·rw [if_pos c2];exact Quo ⟨a0,a1,a2,a3,a4,a5⟩ ⟨b0,b1,b2,b3,b4,b5⟩ ha hb
    rw [if_neg c2]
    by_cases c3:op=4
    ·rw [if_pos c3];exact QuQ ⟨a0,a1,a2,a3,a4,a5⟩ ⟨b0,b1,b2,b3,b4,b5⟩ ha hb
    rw [if_neg c3]
    cases Xd b
    ·exact⟨Z5,rfl⟩
    ·simp only [if_true]
     have p:=WJ b.lo b0
     by_cases c4:op=5
     ·rw [if_pos c4];exact QcC ⟨a0,a1,a2,a3,a4,a5⟩ ha _ b0
     rw [if_neg c4]
     by_cases c5:op=9
     ·rw [if_pos c5];exact QcC ⟨a0,a1,a2,a3,a4,a5⟩ ha _ (by omega)
     rw [if_neg c5]
     by_cases c6:op=6
     ·rw [if_pos c6]
      unfold JU
      have lb:=QkH b.lo b0 b1
      cases a.t
      ·simp only [Bool.false_eq_true,if_false]
       exact⟨ZW _ _ _ (by omega) (by omega) (by omega) (by omega) (by omega) (by omega),Zo _ _ _ (by omega) (by omega) (by omega)⟩
      ·simp only [if_true]
       exact⟨ZW _ _ _ (by omega) (by omega) (by omega) (by omega) (by omega) (by omega),Zo _ _ _ (by omega) (by omega) (by omega)⟩
     rw [if_neg c6]
     by_cases c7:op=10
     ·rw [if_pos c7];unfold Qfx
      cases a.t
      ·simp only [Bool.false_eq_true,if_false]
       have d1:=KB 7 a.lo b.lo a0 a1 b0 b1
       have d2:=KB 7 a.hi b.lo a2 a3 b0 b1
       have e1:XI 7 a.lo b.lo=Qar a.lo b.lo:=rfl
       have e2:XI 7 a.hi b.lo=Qar a.hi b.lo:=rfl
       rw [e1]at d1
       rw [e2]at d2
       exact⟨ZW _ _ _ d1.1 d1.2 d2.1 d2.2 (by omega) (by omega),Zo _ _ _ d1.1 d2.2 (by omega)⟩
      ·exact⟨Z5,rfl⟩
     rw [if_neg c7];exact⟨Z5,rfl⟩
   ·simp only [if_true]
    have k:=KB (op - 3).toNat a.lo b.lo a0 a1 b0 b1
    exact⟨Qai k.1 k.2,JZ _⟩
  ·simp only [Bool.or_true,if_true];exact⟨XW,rfl⟩
 ·simp only [Bool.true_or,if_true];exact⟨XW,rfl⟩
def Yc(s:Qd)(i:Nat):Int:=s.lo+i * s.st
def Jv(s:Qd):List Int:=(List.range (QO s).toNat).map (Yc s)
def ZU(b out:Qd)(n:Int):Qd:=if Qm b n then Va out (X2 n)else out
def Qdm(a b:Qd):Qd:=(Jv a).foldl (ZU b) Q4
def Jn(a:Qd)(lo:Int):Int:=a.lo+(lo - a.lo+a.st - 1) / a.st * a.st
def WG(a b:Qd):Qd:=
 if b.t then a else if a.t then b
 else if QO a≤64 then Qdm a b else if QO b≤64 then Qdm b a
 else if(if a.hi < b.hi then a.hi else b.hi) < Jn a (if a.lo < b.lo then b.lo else a.lo)then Q4
 else Qs (Jn a (if a.lo < b.lo then b.lo else a.lo)) (if a.hi < b.hi then a.hi else b.hi) a.st
def WF(a b:Qd):Qd:=WG (ZO a) (ZO b)
theorem WZ{s:Qd}(ws:s.wf)(h:reg s):1≤QO s∧QO s=(s.hi - s.lo) / s.st+1:=by
 have e:QO s=(s.hi - s.lo) / s.st+1:=by
  unfold QO
  simp only [h.1,h.2.1,Bool.false_eq_true,if_false]
  by_cases c:s.st=0
  ·rw [c];simp
  ·have:(s.st==0)=false:=by rw [beq_eq_false_iff_ne];exact c
   rw [this];simp
 have:=Int.ediv_nonneg (a:=s.hi - s.lo) (b:=s.st) (by have:=h.2.2.1;omega) ws.2.2.2.2.1
 omega
theorem QqF{s:Qd}(ws:s.wf)(h:reg s)(i:Nat)(hi:(i:Int) < QO s):Qm s (Yc s i)=true∧s.lo≤Yc s i∧Yc s i≤s.hi:=by
 obtain⟨l0,l1,h0,h1,s0,s1⟩:=ws
 rw [(WZ ⟨l0,l1,h0,h1,s0,s1⟩ h).2]at hi
 have hd:=h.2.2.2.1
 have hle:=h.2.2.1
 have k:(i:Int) * s.st≤s.hi - s.lo:=by
  have e:=Int.ediv_mul_cancel hd
  have:=Int.mul_le_mul_of_nonneg_right (show(i:Int)≤(s.hi - s.lo) / s.st by omega) s0
  omega
 have k2:=Int.mul_nonneg (Int.natCast_nonneg i) s0
 unfold Yc
 refine⟨(QZ h _).2 ⟨by omega,by omega,?_⟩,by omega,by omega⟩
 have:s.lo+(i:Int) * s.st - s.lo=(i:Int) * s.st:=by omega
 rw [this];exact Int.dvd_mul_left _ _
theorem Qnu{s:Qd}(ws:s.wf)(vs:Qq s=true)(i:Nat)(hi:(i:Int) < QO s)(hc:QO s≤64):0≤Yc s i∧Yc s i < 4294967296∧Qm s (Yc s i)=true∧reg s:=by
 rcases QQ vs with rfl|rfl|hs
 ·have:QO Qy=4294967296:=rfl
  omega
 ·have:QO Q4=0:=rfl
  omega
 ·have:=QqF ws hs i hi
  obtain⟨l0,l1,h0,h1,s0,s1⟩:=ws
  exact⟨by omega,by omega,this.1,hs⟩
theorem Qaa{s:Qd}(ws:s.wf)(vs:Qq s=true)(hc:QO s≤64)(x:Int)(hx:x∈Jv s):0≤x∧x < 4294967296∧Qm s x=true:=by
 obtain⟨i,hi,rfl⟩:=List.mem_map.1 hx
 rw [List.mem_range]at hi
 have:=Qnu ws vs i (by omega) hc
 exact⟨this.1,this.2.1,this.2.2.1⟩
theorem Qh8{a b:Qd}(va:Qq a=true)(vb:Qq b=true):Va a b=Za a b:=by unfold Va;rw [Zm va,Zm vb]
theorem QnN{b out:Qd}(wo:out.wf)(vo:Qq out=true)(n:Int)(n0:0≤n)(n1:n < 4294967296):(ZU b out n).wf∧Qq (ZU b out n)=true:=by
 unfold ZU
 cases Qm b n
 ·exact⟨wo,vo⟩
 ·simp only [if_true]
  rw [Qh8 vo (JZ n)]
  exact⟨Jw wo (Qai n0 n1),XN wo (Qai n0 n1) vo (JZ n)⟩
theorem QfG(b:Qd):∀(l:List Int) (out:Qd),out.wf→Qq out=true→(∀x∈l,0≤x∧x < 4294967296)→(l.foldl (ZU b) out).wf∧Qq (l.foldl (ZU b) out)=true
 | [],out,wo,vo,_=>⟨wo,vo⟩
 |n :: l,out,wo,vo,hl=>by
  have hn:=hl n (List.mem_cons.2 (.inl rfl))
  have s:=QnN (b:=b) wo vo n hn.1 hn.2
  exact QfG b l _ s.1 s.2 fun x hx=>hl x (List.mem_cons.2 (.inr hx))
theorem QeY{a b:Qd}(wa:a.wf)(va:Qq a=true)(hc:QO a≤64):(Qdm a b).wf∧Qq (Qdm a b)=true:=
 QfG b _ _ XW rfl fun x hx=>by have:=Qaa wa va hc x hx;exact⟨this.1,this.2.1⟩
theorem Qdw{a:Qd}(wa:a.wf)(st:a.st≠0)(lo:Int)(hl:a.lo≤lo)(h1:lo < 4294967296):lo≤Jn a lo∧Jn a lo < lo+a.st∧a.st∣Jn a lo - a.lo∧0≤(lo - a.lo+a.st - 1) / a.st * a.st∧(lo - a.lo+a.st - 1) / a.st * a.st≤lo - a.lo+a.st - 1∧0≤(lo - a.lo+a.st - 1) / a.st∧(lo - a.lo+a.st - 1) / a.st≤lo - a.lo+a.st - 1:=by
 obtain⟨l0,l1,h0,h2,s0,s1⟩:=wa
 unfold Jn
 have e:=Int.mul_ediv_add_emod (lo - a.lo+a.st - 1) a.st
 rw [Int.mul_comm]at e
 have m1:=Int.emod_nonneg (lo - a.lo+a.st - 1) st
 have m2:=Int.emod_lt_of_pos (lo - a.lo+a.st - 1) (by omega:0 < a.st)
 have m3:=Int.ediv_nonneg (a:=lo - a.lo+a.st - 1) (b:=a.st) (by omega) s0
 have m4:=Int.ediv_le_self (b:=a.st) (a:=lo - a.lo+a.st - 1) (by omega)
 have m5:=Int.mul_nonneg m3 s0
 refine⟨by omega,by omega,?_,m5,by omega,m3,m4⟩
 have:a.lo+(lo - a.lo+a.st - 1) / a.st * a.st - a.lo=(lo - a.lo+a.st - 1) / a.st * a.st:=by omega
 rw [this];exact Int.dvd_mul_left _ _
theorem Qb0{a:Qd}(wa:a.wf)(va:Qq a=true)(h:¬QO a≤64)(ht:a.t=false):reg a∧a.st≠0:=by
 rcases QQ va with rfl|rfl|ha
 ·cases ht
 ·have:QO Q4=0:=rfl
  omega
 ·refine⟨ha,fun c=>?_⟩
  have:=(WZ wa ha).2
  rw [c,Int.ediv_zero]at this
  omega
theorem Qrt{a b:Qd}(wa:a.wf)(wb:b.wf)(va:Qq a=true)(vb:Qq b=true):(WG a b).wf∧Qq (WG a b)=true:=by
 unfold WG
 cases tb:b.t
 ·cases ta:a.t
  ·simp only [Bool.false_eq_true,if_false]
   by_cases c1:QO a≤64
   ·rw [if_pos c1];exact QeY wa va c1
   rw [if_neg c1]
   by_cases c2:QO b≤64
   ·rw [if_pos c2];exact QeY wb vb c2
   rw [if_neg c2]
   obtain⟨ha,sa⟩:=Qb0 wa va c1 ta
   obtain⟨hb,sb⟩:=Qb0 wb vb c2 tb
   have f:=Qdw wa sa (if a.lo < b.lo then b.lo else a.lo) (by omega) (by have:=wa.2.1;have:=wb.2.1;omega)
   obtain⟨l0,l1,h0,h1,s0,s1⟩:=wa
   obtain⟨m0,m1,n0,n1,t0,t1⟩:=wb
   by_cases c3:(if a.hi < b.hi then a.hi else b.hi) < Jn a (if a.lo < b.lo then b.lo else a.lo)
   ·rw [if_pos c3];exact⟨XW,rfl⟩
   ·rw [if_neg c3]
    exact⟨ZW _ _ _ (by omega) (by omega) (by omega) (by omega) s0 s1,Zo _ _ _ (by omega) (by omega) s0⟩
  ·simp only [Bool.false_eq_true,if_false,if_true];exact⟨wb,vb⟩
 ·simp only [if_true];exact⟨wa,va⟩
end Go.Proofs.Yteplnamfpodmlaa
