/-
  Part of the proof.
-/
import Derived.Test.YteplnamfpodmlaaRVal18
import Derived.Test.YteplnamfpodmlaaRVal24
import Derived.Test.YteplnamfpodmlaaRVal26
set_option linter.unusedVariables false
set_option linter.unusedSimpArgs false
set_option maxRecDepth 100000
open Go.ChangeShapes Go.WideShapes Go.ChangeAt Go.RowKit
namespace Go.Proofs.Yteplnamfpodmlaa
theorem KN{s:Qd}(h1:s.t=false)(h2:s.e=false)(h3:s.st=0):Xd s=true:=by
 unfold Xd;rw [h1,h2,h3];rfl
theorem JA{s:Qd}(h:s.t=true∨(s.t=false∧(s.st==0)=false)):Xd s=false:=by
 unfold Xd
 rcases h with h|⟨_,h⟩
 ·rw [h];rfl
 ·rw [h,Bool.and_false,Bool.and_false]
theorem XT{n m:Qd}(h:QaQ n m):(Xd n && Xd m)=false:=by
 rcases h with h|h|⟨_,_,h⟩|⟨_,_,h⟩
 ·rw [JA (.inl h),Bool.and_false]
 ·rw [JA (.inr h),Bool.and_false]
 ·rw [JA (.inl h),Bool.false_and]
 ·rw [JA (.inr h),Bool.false_and]
theorem QnU(op:Int)(a b:Qd)(ha:a.wf)(hb:b.wf)(w:World):Calls Try.prog 50 #[.int .i64 op,a.val,b.val] w (Ret (JW op a b).val w):=by
 have wn:=QJ ha
 have wm:=QJ hb
 have vn:=Q2 a
 have vm:=Q2 b
 have x:=Xu a ha
 have y:=Xu b hb
 unfold JW
 generalize ZO a=n at *
 generalize ZO b=m at *
 have p:=WJ m.lo wm.1
 have s1:=Qee n
 have s2:=Qee m
 refine Qhi op n m (fun R=>Calls Try.prog 50 #[.int .i64 op,a.val,b.val] w (Ret R.val w)) ?_ ?_ ?_ ?_ ?_ ?_ ?_ ?_ ?_ ?_ ?_ ?_
 ·intro h;exact Quw op h a b n m x y w
 ·intro o1 o2 h;exact Qq3 op o1 o2 a b n m h x y w
 ·intro o1 o2 en em tn tm sn sm
  rw [KN tn en sn]at s1
  rw [KN tm em sm]at s2
  exact Quv op o1 o2 a b n m (QF en) (QF em) s1 s2 _ (fun w=>Qq5 op n.lo m.lo (by omega) (by omega) wn.1 wn.2.1 wm.1 wm.2.1 w) x y w
 ·intro h en em hs;exact Qut op h a b n m (QF en) (QF em) _ _ s1 s2 (QF (XT hs)) x y w
 ·intro h en em hs;exact Qu0 op h a b n m (QF en) (QF em) _ _ s1 s2 (QF (XT hs)) x y w
 ·intro h en em hs
  subst h
  unfold Qcz
  cases tn:n.t
  ·cases tm:m.t
   ·simp only [Bool.or_self,Bool.false_eq_true,if_false]
    by_cases c:4294967295 < n.hi+m.hi
    ·rw [if_pos c]
     exact Qdb a b n m (QF en) (QF em) _ _ s1 s2 (QF (XT hs)) (QF (.inr (.inr ⟨tn,tm,c⟩))) ⟨wn.2.2.1,wn.2.2.2.1,wm.2.2.1,wm.2.2.2.1⟩ x y w
    ·rw [if_neg c]
     exact Qur a b n m (QF en) (QF em) _ _ s1 s2 (QF (XT hs)) wn wm (QF tn) (QF tm) (YV vn tn en) (YV vm tm em) (by omega) _ (QF rfl) x y w
   ·simp only [Bool.or_true,if_true]
    exact Qdb a b n m (QF en) (QF em) _ _ s1 s2 (QF (XT hs)) (QF (.inr (.inl ⟨tn,tm⟩))) ⟨wn.2.2.1,wn.2.2.2.1,wm.2.2.1,wm.2.2.2.1⟩ x y w
  ·simp only [Bool.true_or,if_true]
   exact Qdb a b n m (QF en) (QF em) _ _ s1 s2 (QF (XT hs)) (QF (.inl tn)) ⟨wn.2.2.1,wn.2.2.2.1,wm.2.2.1,wm.2.2.2.1⟩ x y w
 ·intro h en em hs
  subst h
  unfold QcE
  cases tn:n.t
  ·cases tm:m.t
   ·simp only [Bool.or_self,Bool.false_eq_true,if_false]
    by_cases c:n.lo < m.hi
    ·rw [if_pos c]
     exact Qdc a b n m (QF en) (QF em) _ _ s1 s2 (QF (XT hs)) (QF (.inr (.inr ⟨tn,tm,c⟩))) x y w
    ·rw [if_neg c]
     exact Quz a b n m (QF en) (QF em) _ _ s1 s2 (QF (XT hs)) wn wm (QF tn) (QF tm) (YV vn tn en) (YV vm tm em) (by omega) _ (QF rfl) x y w
   ·simp only [Bool.or_true,if_true]
    exact Qdc a b n m (QF en) (QF em) _ _ s1 s2 (QF (XT hs)) (QF (.inr (.inl ⟨tn,tm⟩))) x y w
  ·simp only [Bool.true_or,if_true]
   exact Qdc a b n m (QF en) (QF em) _ _ s1 s2 (QF (XT hs)) (QF (.inl tn)) x y w
 ·intro h en em hs
  rw [JA hs]at s2
  exact Qte op h a b n m (QF en) (QF em) _ s1 s2 x y w
 ·intro h en em tm sm hs
  subst h
  rw [JA hs]at s1
  rw [KN tm em sm]at s2
  exact Quu a b n m (QF en) (QF em) s1 s2 _ (Qeb n wn (Qek vn en) m.lo wm.1 wm.2.1) x y w
 ·intro h en em tm sm hs
  subst h
  rw [JA hs]at s1
  rw [KN tm em sm]at s2
  have e:QoV 1 m.lo=2 ^ (m.lo % 32).toNat:=by unfold QoV;rw [Int.one_mul];exact Int.emod_eq_of_lt (by omega) (by omega)
  exact Qux a b n m (QF en) (QF em) (QF tm) s1 s2 _ (fun w=>by have:=QnI 1 m.lo w wm.1 wm.2.1;rwa [e]at this) _ (Qeb n wn (Qek vn en) _ (by omega) (by omega)) x y w
 ·intro h en em tm sm hs
  subst h
  rw [JA hs]at s1
  rw [KN tm em sm]at s2
  exact Qus a b n m (QF en) (QF em) s1 s2 _ (QkJ n wn m.lo wm.1 wm.2.1) x y w
 ·intro h en em tm sm hs
  subst h
  have hs':=hs
  rw [JA hs]at s1
  rw [KN tm em sm]at s2
  unfold Qfx
  rcases hs with tn|⟨tn,sn⟩
  ·rw [tn]
   exact Qkg a b n m (QF en) (QF em) (QF tn) s1 s2 x y w
  ·rw [tn]
   have k1:=KB 7 n.lo m.lo wn.1 wn.2.1 wm.1 wm.2.1
   have k2:=KB 7 n.hi m.lo wn.2.2.1 wn.2.2.2.1 wm.1 wm.2.1
   have e1:XI 7 n.lo m.lo=Qar n.lo m.lo:=rfl
   have e2:XI 7 n.hi m.lo=Qar n.hi m.lo:=rfl
   rw [e1]at k1
   rw [e2]at k2
   exact Quy a b n m (QF en) (QF em) (QF tn) (QF tm) s1 s2 _ _ (fun w=>Qgj n.lo m.lo w wm.1 wm.2.1) (fun w=>Qgj n.hi m.lo w wm.1 wm.2.1) _ (ZI (Qar n.lo m.lo) (Qar n.hi m.lo) 1 k1.1 k1.2 k2.1 k2.2 (by omega) (by omega)) x y w
end Go.Proofs.Yteplnamfpodmlaa
