/-
  Part of the proof.
-/
import Derived.Test.YteplnamfpodmlaaGreatQVal18
import Derived.Test.YteplnamfpodmlaaGreatQVal24
import Derived.Test.YteplnamfpodmlaaGreatQVal26
set_option linter.unusedVariables false
set_option linter.unusedSimpArgs false
set_option maxRecDepth 100000
open Go.ChangeShapes Go.WideShapes Go.ChangeAt Go.RowKit
namespace Go.Proofs.YteplnamfpodmlaaGreat
theorem KF{s:Qd}(h1:s.t=false)(h2:s.e=false)(h3:s.st=0):Xk s=true:=by
 unfold Xk;rw [h1,h2,h3];rfl
theorem JC{s:Qd}(h:s.t=true∨(s.t=false∧(s.st==0)=false)):Xk s=false:=by
 unfold Xk;rcases h with h|⟨_,h⟩
 ·rw [h];rfl
 ·rw [h,Bool.and_false,Bool.and_false]
theorem XE{n m:Qd}(h:JX n m):(Xk n && Xk m)=false:=by
 rcases h with h|h|⟨_,_,h⟩|⟨_,_,h⟩
 ·rw [JC (.inl h),Bool.and_false]
 ·rw [JC (.inr h),Bool.and_false]
 ·rw [JC (.inl h),Bool.false_and]
 ·rw [JC (.inr h),Bool.false_and]
theorem Qof(op:Int)(a b:Qd)(ha:a.wf)(hb:b.wf)(w:World):Calls Tryz.prog 35 #[.int .i64 op,a.val,b.val] w (Ret (Js op a b).val w):=by
 have wn:=Q8 ha;have wm:=Q8 hb;have vn:=Qz a;have vm:=Qz b;have x:=ZS a ha;have y:=ZS b hb;unfold Js;generalize Zb a=n at *;generalize Zb b=m at *;have p:=QaW m.lo wm.1;have s1:=Qd0 n;have s2:=Qd0 m;refine QbL op n m (fun R=>Calls Tryz.prog 35 #[.int .i64 op,a.val,b.val] w (Ret R.val w)) ?_ ?_ ?_ ?_ ?_ ?_ ?_ ?_ ?_ ?_ ?_ ?_
 ·intro h;exact Qt7 op h a b n m x y w
 ·intro o1 o2 h;exact Qqq op o1 o2 a b n m h x y w
 ·intro o1 o2 en em tn tm sn sm;rw [KF tn en sn]at s1;rw [KF tm em sm]at s2;exact Qt6 op o1 o2 a b n m (Qq en) (Qq em) s1 s2 _ (fun w=>Qqv op n.lo m.lo (by omega) (by omega) wn.1 wn.2.1 wm.1 wm.2.1 w) x y w
 ·intro h en em hs;exact Qt4 op h a b n m (Qq en) (Qq em) _ _ s1 s2 (Qq (XE hs)) x y w
 ·intro h en em hs;exact QtB op h a b n m (Qq en) (Qq em) _ _ s1 s2 (Qq (XE hs)) x y w
 ·intro h en em hs;subst h;unfold Wg;cases tn:n.t
  ·cases tm:m.t
   ·simp only [Bool.or_self,Bool.false_eq_true,if_false];by_cases c:4294967295 < n.hi+m.hi
    ·rw [if_pos c];exact Qcz a b n m (Qq en) (Qq em) _ _ s1 s2 (Qq (XE hs)) (Qq (.inr (.inr ⟨tn,tm,c⟩))) ⟨wn.2.2.1,wn.2.2.2.1,wm.2.2.1,wm.2.2.2.1⟩ x y w
    ·rw [if_neg c];exact Qt2 a b n m (Qq en) (Qq em) _ _ s1 s2 (Qq (XE hs)) wn wm (Qq tn) (Qq tm) (YB vn tn en) (YB vm tm em) (by omega) _ (Qq rfl) x y w
   ·simp only [Bool.or_true,if_true];exact Qcz a b n m (Qq en) (Qq em) _ _ s1 s2 (Qq (XE hs)) (Qq (.inr (.inl ⟨tn,tm⟩))) ⟨wn.2.2.1,wn.2.2.2.1,wm.2.2.1,wm.2.2.2.1⟩ x y w
  ·simp only [Bool.true_or,if_true];exact Qcz a b n m (Qq en) (Qq em) _ _ s1 s2 (Qq (XE hs)) (Qq (.inl tn)) ⟨wn.2.2.1,wn.2.2.2.1,wm.2.2.1,wm.2.2.2.1⟩ x y w
 ·intro h en em hs;subst h;unfold WB;cases tn:n.t
  ·cases tm:m.t
   ·simp only [Bool.or_self,Bool.false_eq_true,if_false];by_cases c:n.lo < m.hi
    ·rw [if_pos c];exact Qc0 a b n m (Qq en) (Qq em) _ _ s1 s2 (Qq (XE hs)) (Qq (.inr (.inr ⟨tn,tm,c⟩))) x y w
    ·rw [if_neg c];exact QtA a b n m (Qq en) (Qq em) _ _ s1 s2 (Qq (XE hs)) wn wm (Qq tn) (Qq tm) (YB vn tn en) (YB vm tm em) (by omega) _ (Qq rfl) x y w
   ·simp only [Bool.or_true,if_true];exact Qc0 a b n m (Qq en) (Qq em) _ _ s1 s2 (Qq (XE hs)) (Qq (.inr (.inl ⟨tn,tm⟩))) x y w
  ·simp only [Bool.true_or,if_true];exact Qc0 a b n m (Qq en) (Qq em) _ _ s1 s2 (Qq (XE hs)) (Qq (.inl tn)) x y w
 ·intro h en em hs;rw [JC hs]at s2;exact Qsk op h a b n m (Qq en) (Qq em) _ s1 s2 x y w
 ·intro h en em tm sm hs;subst h;rw [JC hs]at s1;rw [KF tm em sm]at s2;exact Qt5 a b n m (Qq en) (Qq em) s1 s2 _ (Qdx n wn (J0 vn en) m.lo wm.1 wm.2.1) x y w
 ·intro h en em tm sm hs;subst h;rw [JC hs]at s1;rw [KF tm em sm]at s2;have e:QoT 1 m.lo=2 ^ (m.lo % 32).toNat:=by unfold QoT;rw [Int.one_mul];exact Int.emod_eq_of_lt (by omega) (by omega)
  exact Qt8 a b n m (Qq en) (Qq em) (Qq tm) s1 s2 _ (fun w=>by have:=QnW 1 m.lo w wm.1 wm.2.1;rwa [e]at this) _ (Qdx n wn (J0 vn en) _ (by omega) (by omega)) x y w
 ·intro h en em tm sm hs;subst h;rw [JC hs]at s1;rw [KF tm em sm]at s2;exact Qt3 a b n m (Qq en) (Qq em) s1 s2 _ (Qla n wn m.lo wm.1 wm.2.1) x y w
 ·intro h en em tm sm hs;subst h;have hs':=hs;rw [JC hs]at s1;rw [KF tm em sm]at s2;unfold Qiw;rcases hs with tn|⟨tn,sn⟩
  ·rw [tn];exact Qky a b n m (Qq en) (Qq em) (Qq tn) s1 s2 x y w
  ·rw [tn];have k1:=K2 7 n.lo m.lo wn.1 wn.2.1 wm.1 wm.2.1;have k2:=K2 7 n.hi m.lo wn.2.2.1 wn.2.2.2.1 wm.1 wm.2.1;have e1:Kk 7 n.lo m.lo=W8 n.lo m.lo:=rfl;have e2:Kk 7 n.hi m.lo=W8 n.hi m.lo:=rfl;rw [e1]at k1;rw [e2]at k2
   exact Qt9 a b n m (Qq en) (Qq em) (Qq tn) (Qq tm) s1 s2 _ _ (fun w=>Qgi n.lo m.lo w wm.1 wm.2.1) (fun w=>Qgi n.hi m.lo w wm.1 wm.2.1) _ (Z8 (W8 n.lo m.lo) (W8 n.hi m.lo) 1 k1.1 k1.2 k2.1 k2.2 (by omega) (by omega)) x y w
end Go.Proofs.YteplnamfpodmlaaGreat
