/-
  Part of the proof.
-/
import Derived.Test.YteplnamfpodmlaaRVal20
import Derived.Test.YteplnamfpodmlaaRVal21
set_option linter.unusedVariables false
set_option linter.unusedSimpArgs false
set_option maxRecDepth 100000
open Go.ChangeShapes Go.WideShapes Go.ChangeAt Go.RowKit
namespace Go.Proofs.Yteplnamfpodmlaa
theorem Qhi(op:Int)(n m:Qd)(P:Qd→Prop)
 (h_out:(op < 3∨(¬op < 3∧15 < op))→P Qy)
 (h_empty:¬op < 3→¬15 < op→(n.e=true∨(n.e=false∧m.e=true))→P Q4)
 (h_one:¬op < 3→¬15 < op→n.e=false→m.e=false→n.t=false→m.t=false→n.st=0→m.st=0→P (X2 (XI (op - 3).toNat n.lo m.lo)))
 (h_cmp:(op=12∨op=13∨op=14∨op=15)→n.e=false→m.e=false→QaQ n m→P (Qs 0 1 1))
 (h_top:(op=7∨op=8∨op=11)→n.e=false→m.e=false→QaQ n m→P Qy)
 (h_sum:op=3→n.e=false→m.e=false→QaQ n m→P (Qcz n m))
 (h_diff:op=4→n.e=false→m.e=false→QaQ n m→P (QcE n m))
 (h_many:(op=5∨op=9∨op=6∨op=10)→n.e=false→m.e=false→(m.t=true∨(m.t=false∧(m.st==0)=false))→P Qy)
 (h_mul:op=5→n.e=false→m.e=false→m.t=false→m.st=0→(n.t=true∨(n.t=false∧(n.st==0)=false))→P (XQ n m.lo))
 (h_shl:op=9→n.e=false→m.e=false→m.t=false→m.st=0→(n.t=true∨(n.t=false∧(n.st==0)=false))→P (XQ n (2 ^ (m.lo % 32).toNat)))
 (h_and:op=6→n.e=false→m.e=false→m.t=false→m.st=0→(n.t=true∨(n.t=false∧(n.st==0)=false))→P (JU n m.lo))
 (h_shr:op=10→n.e=false→m.e=false→m.t=false→m.st=0→(n.t=true∨(n.t=false∧(n.st==0)=false))→P (Qfx n m)) :
 P (W1 op n m):=by
 unfold W1
 by_cases c0:op < 3∨15 < op
 ·rw [if_pos c0];exact h_out (by omega)
 rw [if_neg c0]
 have o1:¬op < 3:=by omega
 have o2:¬15 < op:=by omega
 cases en:n.e
 ·cases em:m.e
  ·simp only [Bool.or_self,Bool.false_eq_true,if_false]
   cases sm:Xd m
   ·have hm:m.t=true∨(m.t=false∧(m.st==0)=false):=by
     unfold Xd at sm
     rw [em]at sm
     cases tm:m.t
     ·rw [tm]at sm;exact .inr ⟨rfl,by simpa using sm⟩
     ·exact .inl rfl
    have hs:QaQ n m:=by
     rcases hm with h|h
     ·exact .inl h
     ·exact .inr (.inl h)
    simp only [Bool.and_false,Bool.false_eq_true,if_false]
    by_cases c1:12≤op
    ·rw [if_pos c1];exact h_cmp (by omega) en em hs
    rw [if_neg c1]
    by_cases c2:op=3
    ·rw [if_pos c2];exact h_sum c2 en em hs
    rw [if_neg c2]
    by_cases c3:op=4
    ·rw [if_pos c3];exact h_diff c3 en em hs
    rw [if_neg c3]
    by_cases c4:op=7∨op=8∨op=11
    ·exact h_top c4 en em hs
    ·exact h_many (by omega) en em hm
   ·obtain⟨tm,_,stm⟩:=QaR sm
    cases sn:Xd n
    ·have hn:n.t=true∨(n.t=false∧(n.st==0)=false):=by
      unfold Xd at sn
      rw [en]at sn
      cases tn:n.t
      ·rw [tn]at sn;exact .inr ⟨rfl,by simpa using sn⟩
      ·exact .inl rfl
     have hs:QaQ n m:=by
      rcases hn with h|h
      ·exact .inr (.inr (.inl ⟨tm,stm,h⟩))
      ·exact .inr (.inr (.inr ⟨tm,stm,h.1,h.2⟩))
     simp only [Bool.false_and,Bool.false_eq_true,if_false]
     by_cases c1:12≤op
     ·rw [if_pos c1];exact h_cmp (by omega) en em hs
     rw [if_neg c1]
     by_cases c2:op=3
     ·rw [if_pos c2];exact h_sum c2 en em hs
     rw [if_neg c2]
     by_cases c3:op=4
     ·rw [if_pos c3];exact h_diff c3 en em hs
     rw [if_neg c3,if_pos trivial]
     by_cases c5:op=5
     ·rw [if_pos c5];exact h_mul c5 en em tm stm hn
     rw [if_neg c5]
     by_cases c9:op=9
     ·rw [if_pos c9];exact h_shl c9 en em tm stm hn
     rw [if_neg c9]
     by_cases c6:op=6
     ·rw [if_pos c6];exact h_and c6 en em tm stm hn
     rw [if_neg c6]
     by_cases c10:op=10
     ·rw [if_pos c10];exact h_shr c10 en em tm stm hn
     rw [if_neg c10]
     exact h_top (by omega) en em hs
    ·obtain⟨tn,_,stn⟩:=QaR sn
     simp only [Bool.and_self,if_true]
     exact h_one o1 o2 en em tn tm stn stm
  ·simp only [Bool.or_true,if_true];exact h_empty o1 o2 (.inr ⟨en,em⟩)
 ·simp only [Bool.true_or,if_true];exact h_empty o1 o2 (.inl en)
theorem Qek{n:Qd}(hv:Qq n=true)(he:n.e=false):n=Qy∨reg n:=by
 rcases QQ hv with h|h|h
 ·exact .inl h
 ·rw [h]at he;cases he
 ·exact .inr h
theorem Qx9(op:Int)(a b:Qd)(ha:a.wf)(hb:b.wf)(w:World):Calls Try.prog 60 #[.int .i64 op,a.val,b.val] w (Ret (JW op a b).val w):=by
 have wn:=QJ ha
 have wm:=QJ hb
 have vn:=Q2 a
 have vm:=Q2 b
 have x:=Qv1 a ha
 have y:=Qv1 b hb
 unfold JW
 generalize ZO a=n at *
 generalize ZO b=m at *
 have p:=WJ m.lo wm.1
 refine Qhi op n m (fun R=>Calls Try.prog 60 #[.int .i64 op,a.val,b.val] w (Ret R.val w)) ?_ ?_ ?_ ?_ ?_ ?_ ?_ ?_ ?_ ?_ ?_ ?_
 ·intro h;exact QyE op h a b n m x y w
 ·intro o1 o2 h;exact Qya op o1 o2 a b n m h x y w
 ·intro o1 o2 en em tn tm sn sm
  exact QyD op o1 o2 a b n m (QF en) (QF em) (QF tn) (QF tm) (QF sn) (QF sm) _ (fun w=>QoJ op n.lo m.lo (by omega) (by omega) wn.1 wn.2.1 wm.1 wm.2.1 w) x y w
 ·intro h en em hs;exact QyB op h a b n m (QF en) (QF em) (QF hs) x y w
 ·intro h en em hs;exact QyI op h a b n m (QF en) (QF em) (QF hs) x y w
 ·intro h en em hs
  subst h
  exact QyH a b n m (QF en) (QF em) (QF hs) _ (QyK n m wn wm (Qek vn en) (Qek vm em)) x y w
 ·intro h en em hs
  subst h
  exact Qyv a b n m (QF en) (QF em) (QF hs) _ (QvN n m wn wm (Qek vn en) (Qek vm em)) x y w
 ·intro h en em hs;exact Qyw op h a b n m (QF en) (QF em) (QF hs) x y w
 ·intro h en em tm sm hs
  subst h
  exact QyC a b n m (QF en) (QF em) (QF tm) (QF sm) wm.1 wm.2.1 (QF hs) _ (QvK n wn (Qek vn en) m.lo wm.1 wm.2.1) x y w
 ·intro h en em tm sm hs
  subst h
  exact QyF a b n m (QF en) (QF em) (QF tm) (QF sm) wm.1 wm.2.1 (QF hs) _ (fun w=>(Qww m.lo wm.1 wm.2.1 w).mono fun e w' h=>⟨h.1,h.2.symm⟩) _ (QvK n wn (Qek vn en) _ (by omega) (by omega)) x y w
 ·intro h en em tm sm hs
  subst h
  exact QyA a b n m (QF en) (QF em) (QF tm) (QF sm) wm.1 wm.2.1 (QF hs) _ (Qyt n wn m.lo wm.1 wm.2.1) x y w
 ·intro h en em tm sm hs
  subst h
  unfold Qfx
  rcases hs with tn|⟨tn,sn⟩
  ·rw [tn]
   exact QwX a b n m (QF en) (QF em) (QF tm) (QF sm) (QF tn) x y w
  ·rw [tn]
   have k1:=KB 7 n.lo m.lo wn.1 wn.2.1 wm.1 wm.2.1
   have k2:=KB 7 n.hi m.lo wn.2.2.1 wn.2.2.2.1 wm.1 wm.2.1
   have e1:XI 7 n.lo m.lo=Qar n.lo m.lo:=rfl
   have e2:XI 7 n.hi m.lo=Qar n.hi m.lo:=rfl
   rw [e1]at k1
   rw [e2]at k2
   exact QyG a b n m wn (QF en) (QF em) (QF tm) (QF sm) wm.1 wm.2.1 (QF tn) (QF sn) _ (by omega) p.2 (Qww m.lo wm.1 wm.2.1) _ (Qvy (Qar n.lo m.lo) (Qar n.hi m.lo) 1 k1.1 (by omega) k2.1 k2.2 (by omega) (by omega)) x y w
end Go.Proofs.Yteplnamfpodmlaa
