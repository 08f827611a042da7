/-
  Part of the proof.
-/
import Derived.Test.YteplnamfpodmlaaQVaE
import Derived.Test.YteplnamfpodmlaaQPl14b
import Derived.Deep.LoopGhost
import Derived.StillTailTactics
set_option linter.unusedVariables false
set_option linter.unusedSimpArgs false
set_option maxRecDepth 100000
open Go.ChangeShapes Go.WideShapes Go.ChangeAt Go.RowKit
section
namespace Go.Proofs.Yteplnamfpodmlaa
theorem Qee(s:Qd)(w:World):Calls Try.prog 89 #[s.val] w (Ret (.bool (Xd s)) w):=by
 obtain⟨e,t,lo,hi,st⟩:=s
 cases t
 ·cases e
  ·show Calls Try.prog 89 #[.agg #[.bool false,.bool false,.int .u32 lo,.int .u32 hi,.int .u32 st]] w (Ret (.bool (st==0)) w)
   go_enter Try.func89,Try.ntmps89
   go_wp2
   go_returns
   exact⟨rfl,by go_grown⟩
  ·show Calls Try.prog 89 #[.agg #[.bool true,.bool false,.int .u32 lo,.int .u32 hi,.int .u32 st]] w (Ret (.bool false) w)
   go_enter Try.func89,Try.ntmps89
   go_wp2
   go_returns
   exact⟨rfl,by go_grown⟩
 ·show Calls Try.prog 89 #[.agg #[.bool e,.bool true,.int .u32 lo,.int .u32 hi,.int .u32 st]] w (Ret (.bool false) w)
  go_enter Try.func89,Try.ntmps89
  go_wp2
  go_returns
  exact⟨rfl,by go_grown⟩
theorem QuE(a b:Int)(a0:0≤a)(a1:a < 4294967296)(b0:0≤b)(b1:b < 4294967296):0≤a * b∧a * b≤18446744065119617025:=by
 refine⟨Int.mul_nonneg a0 b0,?_⟩
 have h1:=Int.mul_le_mul (show a≤4294967295 by omega) (show b≤4294967295 by omega) b0 (by omega)
 exact Int.le_trans h1 (by decide)
set_option maxHeartbeats 2000000 in
theorem Qeb(a:Qd)(wa:a.wf)(ha:a=Qy∨reg a)(k:Int)(k0:0≤k)(k1:k < 4294967296)(w:World):Calls Try.prog 92 #[a.val,.int .u32 k] w (Ret (XQ a k).val w):=by
 rcases ha with rfl|ha
 ·show Calls Try.prog 92 #[.agg #[.bool false,.bool true,.int .u32 0,.int .u32 0,.int .u32 0],.int .u32 k] w (Ret Qy.val w)
  go_enter Try.func92,Try.ntmps92
  go_wp2_with (go_at_call 52;(with_reducible refine(XG _).mono ?_);rintro e w1 ⟨rfl,hb1⟩;(have hC1:=(Blk.new _ _ _).call hb1);simp only [World.size_alloc]at hC1;obtain⟨hc1,hf1⟩:=hC1.walk;(have hg1:=after (w:=w) (by go_grown) hb1);(have hs1:=hg1.size))
  exact bodyPost_ret (v:=Qy.val) (Qt rfl rfl (hC1.put (a:=QV) Qy)) rfl ⟨rfl,Qh hg1 (by omega) Qy⟩
 ·have b:=QrI wa ha k k0
  have p:=QuE a.hi k wa.2.2.1 wa.2.2.2.1 k0 k1
  have q0:=Int.mul_nonneg wa.1 k0
  have q1:=Int.mul_nonneg wa.2.2.2.2.1 k0
  obtain⟨R,hR⟩:∃R,R=XQ a k:=⟨_,rfl⟩
  rw [←hR]
  unfold XQ at hR
  simp only [ha.1,Bool.false_eq_true,if_false]at hR
  have ht:=ha.1
  have he:=ha.2.1
  clear ha
  obtain⟨a0,a1,a2,a3,a4,a5⟩:=wa
  obtain⟨e,t,lo,hi,st⟩:=a
  dsimp only at *
  subst ht he
  obtain⟨p0,p1⟩:=p
  obtain⟨b0,b1⟩:=b
  by_cases c:4294967295 < hi * k
  ·rw [if_pos c]at hR
   subst hR
   go_enter Try.func92,Try.ntmps92
   go_wp2_with (go_at_call 52;(with_reducible refine(XG _).mono ?_);rintro e w1 ⟨rfl,hb1⟩;(have hC1:=(Blk.new _ _ _).call hb1);simp only [World.size_alloc]at hC1;obtain⟨hc1,hf1⟩:=hC1.walk;(have hg1:=after (w:=w) (by go_grown) hb1);(have hs1:=hg1.size))
   exact bodyPost_ret (v:=Qy.val) (Qt rfl rfl (hC1.put (a:=QV) Qy)) rfl ⟨rfl,Qh hg1 (by omega) Qy⟩
  ·rw [if_neg c]at hR
   have B:=ZI (lo * k) (hi * k) (st * k) q0 (by omega) p0 (by omega) q1 (by omega)
   rw [←hR]at B
   clear hR
   have p2:hi * k < 4294967296:=by omega
   have p3:lo * k < 4294967296:=by omega
   have p4:st * k < 4294967296:=by omega
   go_enter Try.func92,Try.ntmps92
   go_wp2_with (go_at_call 51;(with_reducible refine(B _).mono ?_);rintro e w1 ⟨rfl,hb1⟩;(have hC1:=(Blk.new _ _ _).call hb1);simp only [World.size_alloc]at hC1;obtain⟨hc1,hf1⟩:=hC1.walk;(have hg1:=after (w:=w) (by go_grown) hb1);(have hs1:=hg1.size))
   exact bodyPost_ret (v:=R.val) (Qt rfl rfl (hC1.put (a:=QV) R)) rfl ⟨rfl,Qh hg1 (by omega) R⟩
end Go.Proofs.Yteplnamfpodmlaa
end
section
namespace Go.Proofs.Yteplnamfpodmlaa
theorem Qo7(n:Int)(h0:0≤n)(h1:n < 4294967296):bits .and .u32 n (-n % 4294967296)=WD n:=by
 unfold WD;rw [Int.zero_sub]
set_option maxHeartbeats 2000000 in
theorem QkJ(a:Qd)(wa:a.wf)(k:Int)(k0:0≤k)(k1:k < 4294967296)(w:World):Calls Try.prog 94 #[a.val,.int .u32 k] w (Ret (JU a k).val w):=by
 have lb:=QkH k k0 k1
 have B:∀U:Int,0≤U→U < 4294967296→∀w,Calls Try.prog 51 #[.int .u32 0,.int .u32 U,.int .u32 (bits .and .u32 k (-k % 4294967296))] w (Ret (Qs 0 U (WD k)).val w):=fun U u0 u1 w=>by
  rw [Qo7 k k0 k1]
  exact ZI 0 U (WD k) (by omega) (by omega) u0 u1 (by omega) (by omega) w
 clear lb
 obtain⟨a0,a1,a2,a3,a4,a5⟩:=wa
 obtain⟨e,t,lo,hi,st⟩:=a
 dsimp only at *
 cases t
 ·by_cases c:hi < k
  ·have B1:=B hi a2 a3
   have E:JU ⟨e,false,lo,hi,st⟩ k=Qs 0 hi (WD k):=by unfold JU;simp only [Bool.false_eq_true,if_false];rw [if_pos c]
   rw [E]
   clear E B
   generalize Qs 0 hi (WD k)=R at *
   go_enter Try.func94,Try.ntmps94
   go_wp2_with (go_at_call 51;(with_reducible refine(B1 _).mono ?_);rintro e w1 ⟨rfl,hb1⟩;(have hC1:=(Blk.new _ _ _).call hb1);simp only [World.size_alloc]at hC1;obtain⟨hc1,hf1⟩:=hC1.walk;(have hg1:=after (w:=w) (by go_grown) hb1);(have hs1:=hg1.size))
   exact bodyPost_ret (v:=(R).val) (Qt rfl rfl (hC1.put (a:=QV) R)) rfl ⟨rfl,Qh hg1 (by omega) R⟩
  ·have B1:=B k k0 k1
   have E:JU ⟨e,false,lo,hi,st⟩ k=Qs 0 k (WD k):=by unfold JU;simp only [Bool.false_eq_true,if_false];rw [if_neg c]
   rw [E]
   clear E B
   generalize Qs 0 k (WD k)=R at *
   go_enter Try.func94,Try.ntmps94
   go_wp2_with (go_at_call 51;(with_reducible refine(B1 _).mono ?_);rintro e w1 ⟨rfl,hb1⟩;(have hC1:=(Blk.new _ _ _).call hb1);simp only [World.size_alloc]at hC1;obtain⟨hc1,hf1⟩:=hC1.walk;(have hg1:=after (w:=w) (by go_grown) hb1);(have hs1:=hg1.size))
   exact bodyPost_ret (v:=(R).val) (Qt rfl rfl (hC1.put (a:=QV) R)) rfl ⟨rfl,Qh hg1 (by omega) R⟩
 ·have B1:=B k k0 k1
  have E:JU ⟨e,true,lo,hi,st⟩ k=Qs 0 k (WD k):=by unfold JU;simp only [if_true]
  rw [E]
  clear E B
  generalize Qs 0 k (WD k)=R at *
  go_enter Try.func94,Try.ntmps94
  go_wp2_with (go_at_call 51;(with_reducible refine(B1 _).mono ?_);rintro e w1 ⟨rfl,hb1⟩;(have hC1:=(Blk.new _ _ _).call hb1);simp only [World.size_alloc]at hC1;obtain⟨hc1,hf1⟩:=hC1.walk;(have hg1:=after (w:=w) (by go_grown) hb1);(have hs1:=hg1.size))
  exact bodyPost_ret (v:=(R).val) (Qt rfl rfl (hC1.put (a:=QV) R)) rfl ⟨rfl,Qh hg1 (by omega) R⟩
end Go.Proofs.Yteplnamfpodmlaa
end
section
namespace Go.Proofs.Yteplnamfpodmlaa
end Go.Proofs.Yteplnamfpodmlaa
end
