/-
  Part of the proof.
-/
import Derived.Test.YteplnamfpodmlaaRVaE
import Derived.Test.YteplnamfpodmlaaRPl14b
import Derived.Deep.LoopGhost
import Derived.StillTailTactics
set_option linter.unusedVariables false
set_option linter.unusedSimpArgs false
set_option maxRecDepth 100000
open Go.ChangeShapes Go.WideShapes Go.ChangeAt Go.RowKit
section
namespace Go.Proofs.Yteplnamfpodmlaa
theorem Qee(s:Qd)(w:World):Calls Try.prog 89 #[s.val] w (Ret (.bool (Xd s)) w):=by
 obtain⟨e,t,lo,hi,st⟩:=s
 cases t
 ·cases e
  ·show Calls Try.prog 89 #[.agg #[.bool false,.bool false,.int .u32 lo,.int .u32 hi,.int .u32 st]] w (Ret (.bool (st==0)) w)
   go_enter Try.func89,Try.ntmps89
   go_wp2
   go_returns
   exact⟨rfl,by go_grown⟩
  ·show Calls Try.prog 89 #[.agg #[.bool true,.bool false,.int .u32 lo,.int .u32 hi,.int .u32 st]] w (Ret (.bool false) w)
   go_enter Try.func89,Try.ntmps89
   go_wp2
   go_returns
   exact⟨rfl,by go_grown⟩
 ·show Calls Try.prog 89 #[.agg #[.bool e,.bool true,.int .u32 lo,.int .u32 hi,.int .u32 st]] w (Ret (.bool false) w)
  go_enter Try.func89,Try.ntmps89
  go_wp2
  go_returns
  exact⟨rfl,by go_grown⟩
theorem QuE(a b:Int)(a0:0≤a)(a1:a < 4294967296)(b0:0≤b)(b1:b < 4294967296):0≤a * b∧a * b≤18446744065119617025:=by
 refine⟨Int.mul_nonneg a0 b0,?_⟩
 have h1:=Int.mul_le_mul (show a≤4294967295 by omega) (show b≤4294967295 by omega) b0 (by omega)
 exact Int.le_trans h1 (by decide)
set_option maxHeartbeats 2000000 in
theorem Qeb(a:Qd)(wa:a.wf)(ha:a=Qy∨reg a)(k:Int)(k0:0≤k)(k1:k < 4294967296)(w:World):Calls Try.prog 92 #[a.val,.int .u32 k] w (Ret (XQ a k).val w):=by
 rcases ha with rfl|ha
 ·show Calls Try.prog 92 #[.agg #[.bool false,.bool true,.int .u32 0,.int .u32 0,.int .u32 0],.int .u32 k] w (Ret Qy.val w)
  go_enter Try.func92,Try.ntmps92
  go_wp2_with (go_at_call 52;(with_reducible refine(XG _).mono ?_);rintro e w1 ⟨rfl,hb1⟩;(have hC1:=(Blk.new _ _ _).call hb1);simp only [World.size_alloc]at hC1;obtain⟨hc1,hf1⟩:=hC1.walk;(have hg1:=after (w:=w) (by go_grown) hb1);(have hs1:=hg1.size))
  exact bodyPost_ret (v:=Qy.val) (Qt rfl rfl (hC1.put (a:=QV) Qy)) rfl ⟨rfl,Qh hg1 (by omega) Qy⟩
 ·have b:=QrI wa ha k k0
  have p:=QuE a.hi k wa.2.2.1 wa.2.2.2.1 k0 k1
  have q0:=Int.mul_nonneg wa.1 k0
  have q1:=Int.mul_nonneg wa.2.2.2.2.1 k0
  obtain⟨R,hR⟩:∃R,R=XQ a k:=⟨_,rfl⟩
  rw [←hR]
  unfold XQ at hR
  simp only [ha.1,Bool.false_eq_true,if_false]at hR
  have ht:=ha.1
  have he:=ha.2.1
  clear ha
  obtain⟨a0,a1,a2,a3,a4,a5⟩:=wa
  obtain⟨e,t,lo,hi,st⟩:=a
  dsimp only at *
  subst ht he
  obtain⟨p0,p1⟩:=p
  obtain⟨b0,b1⟩:=b
  by_cases c:4294967295 < hi * k
  ·rw [if_pos c]at hR
   subst hR
   go_enter Try.func92,Try.ntmps92
   go_wp2_with (go_at_call 52;(with_reducible refine(XG _).mono ?_);rintro e w1 ⟨rfl,hb1⟩;(have hC1:=(Blk.new _ _ _).call hb1);simp only [World.size_alloc]at hC1;obtain⟨hc1,hf1⟩:=hC1.walk;(have hg1:=after (w:=w) (by go_grown) hb1);(have hs1:=hg1.size))
   exact bodyPost_ret (v:=Qy.val) (Qt rfl rfl (hC1.put (a:=QV) Qy)) rfl ⟨rfl,Qh hg1 (by omega) Qy⟩
  ·rw [if_neg c]at hR
   have B:=ZI (lo * k) (hi * k) (st * k) q0 (by omega) p0 (by omega) q1 (by omega)
   rw [←hR]at B
   clear hR
   have p2:hi * k < 4294967296:=by omega
   have p3:lo * k < 4294967296:=by omega
   have p4:st * k < 4294967296:=by omega
   go_enter Try.func92,Try.ntmps92
   go_wp2_with (go_at_call 51;(with_reducible refine(B _).mono ?_);rintro e w1 ⟨rfl,hb1⟩;(have hC1:=(Blk.new _ _ _).call hb1);simp only [World.size_alloc]at hC1;obtain⟨hc1,hf1⟩:=hC1.walk;(have hg1:=after (w:=w) (by go_grown) hb1);(have hs1:=hg1.size))
   exact bodyPost_ret (v:=R.val) (Qt rfl rfl (hC1.put (a:=QV) R)) rfl ⟨rfl,Qh hg1 (by omega) R⟩
set_option maxHeartbeats 2000000 in
theorem QvK(a:Qd)(wa:a.wf)(ha:a=Qy∨reg a)(k:Int)(k0:0≤k)(k1:k < 4294967296)(w:World):Calls Try.prog 102 #[a.val,.int .i64 k] w (Ret (XQ a k).val w):=by
 rcases ha with rfl|ha
 ·show Calls Try.prog 102 #[.agg #[.bool false,.bool true,.int .u32 0,.int .u32 0,.int .u32 0],.int .i64 k] w (Ret Qy.val w)
  go_enter Try.func102,Try.ntmps102
  go_wp2_with fail
  go_quiet (fail)
  go_wp2_with (go_at_call 63;(with_reducible refine(QdV _).mono ?_);rintro e w1 ⟨rfl,hb1⟩;(have hC1:=(J3 (Blk.new _ _ _) nq).call hb1);simp only [World.size_alloc]at hC1;obtain⟨hc1,hf1⟩:=hC1.walk;(have hg1:=after (w:=w) (Qo (by go_grown) nq) hb1);(have hs1:=hg1.size))
  exact bodyPost_ret (v:=Qy.val) (Qt rfl rfl (hC1.put (a:=QV) Qy)) rfl ⟨rfl,Qh hg1 (by omega) Qy⟩
 ·have b:=QrI wa ha k k0
  have p:=QuE a.hi k wa.2.2.1 wa.2.2.2.1 k0 k1
  have q0:=Int.mul_nonneg wa.1 k0
  have q1:=Int.mul_nonneg wa.2.2.2.2.1 k0
  have d:0 < k→(4294967295 / k < a.hi↔4294967295 < a.hi * k):=fun h=>Int.ediv_lt_iff_lt_mul h
  have d2:0≤4294967295 / k:=Int.ediv_nonneg (by omega) k0
  obtain⟨R,hR⟩:∃R,R=XQ a k:=⟨_,rfl⟩
  rw [←hR]
  unfold XQ at hR
  simp only [ha.1,Bool.false_eq_true,if_false]at hR
  have ht:=ha.1
  have he:=ha.2.1
  clear ha
  obtain⟨a0,a1,a2,a3,a4,a5⟩:=wa
  obtain⟨e,t,lo,hi,st⟩:=a
  dsimp only at *
  subst ht he
  obtain⟨p0,p1⟩:=p
  obtain⟨b0,b1⟩:=b
  by_cases c:4294967295 < hi * k
  ·rw [if_pos c]at hR
   subst hR
   have kp:0 < k:=by
    rcases Int.lt_or_eq_of_le k0 with h|h
    ·exact h
    ·rw [←h,Int.mul_zero]at c;omega
   have c':=(d kp).2 c
   have kn:k≠0:=by omega
   clear d c
   go_enter Try.func102,Try.ntmps102
   go_wp2_with fail
   go_quiet (fail)
   go_wp2_with (go_at_call 63;(with_reducible refine(QdV _).mono ?_);rintro e w1 ⟨rfl,hb1⟩;(have hC1:=(J3 (Blk.new _ _ _) nq).call hb1);simp only [World.size_alloc]at hC1;obtain⟨hc1,hf1⟩:=hC1.walk;(have hg1:=after (w:=w) (Qo (by go_grown) nq) hb1);(have hs1:=hg1.size))
   exact bodyPost_ret (v:=Qy.val) (Qt rfl rfl (hC1.put (a:=QV) Qy)) rfl ⟨rfl,Qh hg1 (by omega) Qy⟩
  ·rw [if_neg c]at hR
   have B:=Qvy (lo * k) (hi * k) (st * k) q0 (by omega) p0 (by omega) q1 (by omega)
   rw [←hR]at B
   clear hR
   have p2:hi * k < 4294967296:=by omega
   have p3:lo * k < 4294967296:=by omega
   have p4:st * k < 4294967296:=by omega
   by_cases kp:0 < k
   ·have c':¬4294967295 / k < hi:=fun h=>c ((d kp).1 h)
    clear d c
    go_enter Try.func102,Try.ntmps102
    go_wp2_with fail
    go_quiet (fail)
    go_wp2_with (go_at_call 98;(with_reducible refine(B _).mono ?_);rintro e w1 ⟨rfl,hb1⟩;(have hC1:=(J3 (Blk.new _ _ _) nq).call hb1);simp only [World.size_alloc]at hC1;obtain⟨hc1,hf1⟩:=hC1.walk;(have hg1:=after (w:=w) (Qo (by go_grown) nq) hb1);(have hs1:=hg1.size))
    exact bodyPost_ret (v:=R.val) (Qt rfl rfl (hC1.put (a:=QV) R)) rfl ⟨rfl,Qh hg1 (by omega) R⟩
   ·have k00:k=0:=by omega
    clear d c d2
    subst k00
    simp only [Int.mul_zero]at B
    go_enter Try.func102,Try.ntmps102
    go_wp2_with fail
    go_quiet (fail)
    go_wp2_with (go_at_call 98;(with_reducible refine(B _).mono ?_);rintro e w1 ⟨rfl,hb1⟩;(have hC1:=(J3 (Blk.new _ _ _) nq).call hb1);simp only [World.size_alloc]at hC1;obtain⟨hc1,hf1⟩:=hC1.walk;(have hg1:=after (w:=w) (Qo (by go_grown) nq) hb1);(have hs1:=hg1.size))
    exact bodyPost_ret (v:=R.val) (Qt rfl rfl (hC1.put (a:=QV) R)) rfl ⟨rfl,Qh hg1 (by omega) R⟩
end Go.Proofs.Yteplnamfpodmlaa
end
section
namespace Go.Proofs.Yteplnamfpodmlaa
theorem Qo7(n:Int)(h0:0≤n)(h1:n < 4294967296):bits .and .u32 n (-n % 4294967296)=WD n:=by
 unfold WD;rw [Int.zero_sub]
set_option maxHeartbeats 2000000 in
theorem QkJ(a:Qd)(wa:a.wf)(k:Int)(k0:0≤k)(k1:k < 4294967296)(w:World):Calls Try.prog 94 #[a.val,.int .u32 k] w (Ret (JU a k).val w):=by
 have lb:=QkH k k0 k1
 have B:∀U:Int,0≤U→U < 4294967296→∀w,Calls Try.prog 51 #[.int .u32 0,.int .u32 U,.int .u32 (bits .and .u32 k (-k % 4294967296))] w (Ret (Qs 0 U (WD k)).val w):=fun U u0 u1 w=>by
  rw [Qo7 k k0 k1]
  exact ZI 0 U (WD k) (by omega) (by omega) u0 u1 (by omega) (by omega) w
 clear lb
 obtain⟨a0,a1,a2,a3,a4,a5⟩:=wa
 obtain⟨e,t,lo,hi,st⟩:=a
 dsimp only at *
 cases t
 ·by_cases c:hi < k
  ·have B1:=B hi a2 a3
   have E:JU ⟨e,false,lo,hi,st⟩ k=Qs 0 hi (WD k):=by unfold JU;simp only [Bool.false_eq_true,if_false];rw [if_pos c]
   rw [E]
   clear E B
   generalize Qs 0 hi (WD k)=R at *
   go_enter Try.func94,Try.ntmps94
   go_wp2_with (go_at_call 51;(with_reducible refine(B1 _).mono ?_);rintro e w1 ⟨rfl,hb1⟩;(have hC1:=(Blk.new _ _ _).call hb1);simp only [World.size_alloc]at hC1;obtain⟨hc1,hf1⟩:=hC1.walk;(have hg1:=after (w:=w) (by go_grown) hb1);(have hs1:=hg1.size))
   exact bodyPost_ret (v:=(R).val) (Qt rfl rfl (hC1.put (a:=QV) R)) rfl ⟨rfl,Qh hg1 (by omega) R⟩
  ·have B1:=B k k0 k1
   have E:JU ⟨e,false,lo,hi,st⟩ k=Qs 0 k (WD k):=by unfold JU;simp only [Bool.false_eq_true,if_false];rw [if_neg c]
   rw [E]
   clear E B
   generalize Qs 0 k (WD k)=R at *
   go_enter Try.func94,Try.ntmps94
   go_wp2_with (go_at_call 51;(with_reducible refine(B1 _).mono ?_);rintro e w1 ⟨rfl,hb1⟩;(have hC1:=(Blk.new _ _ _).call hb1);simp only [World.size_alloc]at hC1;obtain⟨hc1,hf1⟩:=hC1.walk;(have hg1:=after (w:=w) (by go_grown) hb1);(have hs1:=hg1.size))
   exact bodyPost_ret (v:=(R).val) (Qt rfl rfl (hC1.put (a:=QV) R)) rfl ⟨rfl,Qh hg1 (by omega) R⟩
 ·have B1:=B k k0 k1
  have E:JU ⟨e,true,lo,hi,st⟩ k=Qs 0 k (WD k):=by unfold JU;simp only [if_true]
  rw [E]
  clear E B
  generalize Qs 0 k (WD k)=R at *
  go_enter Try.func94,Try.ntmps94
  go_wp2_with (go_at_call 51;(with_reducible refine(B1 _).mono ?_);rintro e w1 ⟨rfl,hb1⟩;(have hC1:=(Blk.new _ _ _).call hb1);simp only [World.size_alloc]at hC1;obtain⟨hc1,hf1⟩:=hC1.walk;(have hg1:=after (w:=w) (by go_grown) hb1);(have hs1:=hg1.size))
  exact bodyPost_ret (v:=(R).val) (Qt rfl rfl (hC1.put (a:=QV) R)) rfl ⟨rfl,Qh hg1 (by omega) R⟩
theorem Qww(n:Int)(n0:0≤n)(n1:n < 4294967296)(w:World):Calls Try.prog 103 #[.int .u32 n] w fun e w'=>e= .returned (.int .i64 (2 ^ (n % 32).toNat))∧w=w':=by
 have hm:n.tmod 32=n % 32:=Int.tmod_eq_emod_of_nonneg n0
 have hp:∀k:Nat,(k:Int)≤n % 32→(1:Int)≤2 ^ k∧(2:Int) ^ k≤2147483648:=fun k hk=>by
  have h1:(2:Nat) ^ k≤2 ^ 31:=Nat.pow_le_pow_right (by omega) (by omega)
  have h2:0 < (2:Nat) ^ k:=Nat.two_pow_pos _
  have e:((2:Int) ^ k)=((2 ^ k:Nat):Int):=by simp [Int.natCast_pow]
  rw [e];omega
 have HP:=QF hp
 clear hp
 go_enter Try.func103,Try.ntmps103
 go_wp2
 go_loop [3,4] (fun p i=>∃(k:Nat) (q:Int),(k:Int)≤n % 32∧i= .int .u32 k∧Hid (q=2 ^ k)∧p= .int .i64 q) (fun _ i=>((n % 32) - intOf i).toNat)
 case atStart=>exact⟨0,1,by omega,rfl,QF rfl,rfl⟩
 case round=>
  obtain⟨k,q,hk,rfl,hq,rfl⟩:=hrel
  have hb:=HP.out k hk
  rw [←hq.out]at hb
  by_cases hlt:(k:Int) < n % 32
  ·go_wp2
   go_round
   case rel=>exact⟨k+1,2 * q,by omega,by go_num,QF (by rw [hq.out,Int.pow_succ,Int.mul_comm]),by go_num⟩
   case measure=>simp [intOf];omega
  ·go_wp2
   go_returns
   have e:k=(n % 32).toNat:=by omega
   have e2:=hq.out
   rw [e]at e2
   exact⟨QyJ e2,rfl⟩
theorem Qv4{P:Program}{id:Nat}{Q:Exit→Act→World→Prop}{a:Act}{w:World}{l:List Oper}(n:Nat)(hm:P.follows .mixedOrders=true)(hB:Region.lexTailB .any l.toArray n=true)
 (h:wpStill P l.toArray w.drew (fun a'=>wpList P l.toArray Q (l.drop n) a' w.drew) (l.take n) a):(Code.region id l.toArray true).wp P Q a w:=wp_region_still_tail n hm hB h
set_option maxHeartbeats 4000000 in
theorem QyK(a b:Qd)(wa:a.wf)(wb:b.wf)(ha:a=Qy∨reg a)(hb:b=Qy∨reg b)(w:World):Calls Try.prog 100 #[a.val,b.val] w (Ret (Qcz a b).val w):=by
 rcases ha with rfl|ha
 ·obtain⟨be,bt,blo,bhi,bst⟩:=b
  show Calls Try.prog 100 #[.agg #[.bool false,.bool true,.int .u32 0,.int .u32 0,.int .u32 0],.agg #[.bool be,.bool bt,.int .u32 blo,.int .u32 bhi,.int .u32 bst]] w (Ret Qy.val w)
  clear hb wa wb
  go_enter Try.func100,Try.ntmps100
  go_wp2_with (go_at_call 63;(with_reducible refine(QdV _).mono ?_);rintro e w1 ⟨rfl,hb1⟩;(have hC1:=(Blk.new _ _ _).call hb1);simp only [World.size_alloc]at hC1;obtain⟨hc1,hf1⟩:=hC1.walk;(have hg1:=after (w:=w) (by go_grown) hb1);(have hs1:=hg1.size))
  exact bodyPost_ret (v:=(Qy).val) (Qt rfl rfl (hC1.put (a:=QV) Qy)) rfl ⟨rfl,Qh hg1 (by omega) Qy⟩
 ·rcases hb with rfl|hb
  ·have E:Qcz a Qy=Qy:=by unfold Qcz;simp [Qy]
   rw [E]
   obtain⟨ae,at',alo,ahi,ast⟩:=a
   have h1:=ha.1
   dsimp only at h1
   subst h1
   show Calls Try.prog 100 #[.agg #[.bool ae,.bool false,.int .u32 alo,.int .u32 ahi,.int .u32 ast],.agg #[.bool false,.bool true,.int .u32 0,.int .u32 0,.int .u32 0]] w (Ret Qy.val w)
   clear ha wa wb E
   go_enter Try.func100,Try.ntmps100
   go_wp2_with (go_at_call 63;(with_reducible refine(QdV _).mono ?_);rintro e w1 ⟨rfl,hb1⟩;(have hC1:=(Blk.new _ _ _).call hb1);simp only [World.size_alloc]at hC1;obtain⟨hc1,hf1⟩:=hC1.walk;(have hg1:=after (w:=w) (by go_grown) hb1);(have hs1:=hg1.size))
   exact bodyPost_ret (v:=(Qy).val) (Qt rfl rfl (hC1.put (a:=QV) Qy)) rfl ⟨rfl,Qh hg1 (by omega) Qy⟩
  ·obtain⟨R,hR⟩:∃R,R=Qcz a b:=⟨_,rfl⟩
   rw [←hR]
   unfold Qcz at hR
   simp only [ha.1,hb.1,Bool.or_self,Bool.false_eq_true,if_false]at hR
   obtain⟨a0,a1,a2,a3,a4,a5⟩:=wa
   obtain⟨b0,b1,b2,b3,b4,b5⟩:=wb
   have g0:=Zd a.st b.st
   have g1:=Vr a.st b.st 4294967295 a4 b4 (by omega) (by omega)
   have l1:=ha.2.2.1
   have l2:=hb.2.2.1
   obtain⟨ae,at',alo,ahi,ast⟩:=a
   obtain⟨be,bt,blo,bhi,bst⟩:=b
   have h1:=ha.1
   have h2:=hb.1
   have h3:=ha.2.1
   have h4:=hb.2.1
   dsimp only at *
   subst h1 h2 h3 h4
   clear ha hb
   by_cases c:4294967295 < ahi+bhi
   ·rw [if_pos c]at hR
    subst hR
    clear g0 g1
    go_enter Try.func100,Try.ntmps100
    go_wp2_with (go_at_call 63;(with_reducible refine(QdV _).mono ?_);rintro e w1 ⟨rfl,hb1⟩;(have hC1:=(Blk.new _ _ _).call hb1);simp only [World.size_alloc]at hC1;obtain⟨hc1,hf1⟩:=hC1.walk;(have hg1:=after (w:=w) (by go_grown) hb1);(have hs1:=hg1.size))
    exact bodyPost_ret (v:=(Qy).val) (Qt rfl rfl (hC1.put (a:=QV) Qy)) rfl ⟨rfl,Qh hg1 (by omega) Qy⟩
   ·rw [if_neg c]at hR
    have B:=Qvy (alo+blo) (ahi+bhi) (Xg ast bst) (by omega) (by omega) (by omega) (by omega) g0 (by omega)
    have z0:=Qv3 ast bst a4 a5 b4 b5
    rw [←hR]at B
    clear hR
    generalize Xg ast bst=G at *
    have zz:∀x y w,x=ast→y=bst→Calls Try.prog 97 #[.int .i64 x,.int .i64 y] w fun e w'=>e= .returned (.int .i64 G)∧w'=w:=fun x y w hx hy=>by subst hx hy;exact(z0 w).mono fun e w' h=>⟨h.1,h.2.symm⟩
    have B0:=B
    clear B
    have B:∀p q r w,p=alo+blo→q=ahi+bhi→r=G→Calls Try.prog 98 #[.int .i64 p,.int .i64 q,.int .i64 r] w (Ret R.val w):=fun p q r w hp hq hr=>by subst hp hq hr;exact B0 w
    clear B0 z0
    go_enter Try.func100,Try.ntmps100
    go_wp2_with fail
    refine Qv4 21 (by kernel_rfl) (by kernel_rfl) ?_
    simp only [List.take_succ_cons,List.take_zero,List.drop_succ_cons,List.drop_zero]
    repeat (first|(refine wpStill_step (fun K hK=>?_);go_simp;refine⟨_,zz _ _ _ (by first|rfl|omega|(simp only [IntKind.wrap_i64];omega)) (by first|rfl|omega|(simp only [IntKind.wrap_i64];omega)),hK _ ?_⟩;clear hK K)|still_step)
    refine wpStill_nil ?_
    go_wp2_with (go_at_call 98;(with_reducible refine(B _ _ _ _ (by first|rfl|omega|(simp only [IntKind.wrap_i64];omega)) (by first|rfl|omega|(simp only [IntKind.wrap_i64];omega)) rfl).mono ?_);rintro e w1 ⟨rfl,hb1⟩;(have hC1:=(Blk.new _ _ _).drew.call hb1);simp only [World.size_alloc]at hC1;(have hg1:=after (w:=w) (by go_grown) hb1);(have hs1:=hg1.size);obtain⟨hc1,hf1⟩:=hC1.walk)
    exact bodyPost_ret (v:=R.val) (Qt rfl rfl (hC1.put (a:=QV) R)) rfl ⟨rfl,Qh hg1 (by omega) R⟩
set_option maxHeartbeats 4000000 in
theorem QvN(a b:Qd)(wa:a.wf)(wb:b.wf)(ha:a=Qy∨reg a)(hb:b=Qy∨reg b)(w:World):Calls Try.prog 101 #[a.val,b.val] w (Ret (QcE a b).val w):=by
 rcases ha with rfl|ha
 ·obtain⟨be,bt,blo,bhi,bst⟩:=b
  show Calls Try.prog 101 #[.agg #[.bool false,.bool true,.int .u32 0,.int .u32 0,.int .u32 0],.agg #[.bool be,.bool bt,.int .u32 blo,.int .u32 bhi,.int .u32 bst]] w (Ret Qy.val w)
  clear hb wa wb
  go_enter Try.func101,Try.ntmps101
  go_wp2_with (go_at_call 63;(with_reducible refine(QdV _).mono ?_);rintro e w1 ⟨rfl,hb1⟩;(have hC1:=(Blk.new _ _ _).call hb1);simp only [World.size_alloc]at hC1;obtain⟨hc1,hf1⟩:=hC1.walk;(have hg1:=after (w:=w) (by go_grown) hb1);(have hs1:=hg1.size))
  exact bodyPost_ret (v:=(Qy).val) (Qt rfl rfl (hC1.put (a:=QV) Qy)) rfl ⟨rfl,Qh hg1 (by omega) Qy⟩
 ·rcases hb with rfl|hb
  ·have E:QcE a Qy=Qy:=by unfold QcE;simp [Qy]
   rw [E]
   obtain⟨ae,at',alo,ahi,ast⟩:=a
   have h1:=ha.1
   dsimp only at h1
   subst h1
   show Calls Try.prog 101 #[.agg #[.bool ae,.bool false,.int .u32 alo,.int .u32 ahi,.int .u32 ast],.agg #[.bool false,.bool true,.int .u32 0,.int .u32 0,.int .u32 0]] w (Ret Qy.val w)
   clear ha wa wb E
   go_enter Try.func101,Try.ntmps101
   go_wp2_with (go_at_call 63;(with_reducible refine(QdV _).mono ?_);rintro e w1 ⟨rfl,hb1⟩;(have hC1:=(Blk.new _ _ _).call hb1);simp only [World.size_alloc]at hC1;obtain⟨hc1,hf1⟩:=hC1.walk;(have hg1:=after (w:=w) (by go_grown) hb1);(have hs1:=hg1.size))
   exact bodyPost_ret (v:=(Qy).val) (Qt rfl rfl (hC1.put (a:=QV) Qy)) rfl ⟨rfl,Qh hg1 (by omega) Qy⟩
  ·obtain⟨R,hR⟩:∃R,R=QcE a b:=⟨_,rfl⟩
   rw [←hR]
   unfold QcE at hR
   simp only [ha.1,hb.1,Bool.or_self,Bool.false_eq_true,if_false]at hR
   obtain⟨a0,a1,a2,a3,a4,a5⟩:=wa
   obtain⟨b0,b1,b2,b3,b4,b5⟩:=wb
   have g0:=Zd a.st b.st
   have g1:=Vr a.st b.st 4294967295 a4 b4 (by omega) (by omega)
   have l1:=ha.2.2.1
   have l2:=hb.2.2.1
   obtain⟨ae,at',alo,ahi,ast⟩:=a
   obtain⟨be,bt,blo,bhi,bst⟩:=b
   have h1:=ha.1
   have h2:=hb.1
   have h3:=ha.2.1
   have h4:=hb.2.1
   dsimp only at *
   subst h1 h2 h3 h4
   clear ha hb
   by_cases c:alo < bhi
   ·rw [if_pos c]at hR
    subst hR
    clear g0 g1
    go_enter Try.func101,Try.ntmps101
    go_wp2_with (go_at_call 63;(with_reducible refine(QdV _).mono ?_);rintro e w1 ⟨rfl,hb1⟩;(have hC1:=(Blk.new _ _ _).call hb1);simp only [World.size_alloc]at hC1;obtain⟨hc1,hf1⟩:=hC1.walk;(have hg1:=after (w:=w) (by go_grown) hb1);(have hs1:=hg1.size))
    exact bodyPost_ret (v:=(Qy).val) (Qt rfl rfl (hC1.put (a:=QV) Qy)) rfl ⟨rfl,Qh hg1 (by omega) Qy⟩
   ·rw [if_neg c]at hR
    have d1:0≤alo - bhi:=by omega
    have d2:0≤ahi - blo:=by omega
    have B:=Qvy (alo - bhi) (ahi - blo) (Xg ast bst) (by omega) (by omega) (by omega) (by omega) g0 (by omega)
    have z0:=Qv3 ast bst a4 a5 b4 b5
    rw [←hR]at B
    clear hR
    generalize Xg ast bst=G at *
    have zz:∀x y w,x=ast→y=bst→Calls Try.prog 97 #[.int .i64 x,.int .i64 y] w fun e w'=>e= .returned (.int .i64 G)∧w'=w:=fun x y w hx hy=>by subst hx hy;exact(z0 w).mono fun e w' h=>⟨h.1,h.2.symm⟩
    have B0:=B
    clear B
    have B:∀p q r w,p=alo - bhi→q=ahi - blo→r=G→Calls Try.prog 98 #[.int .i64 p,.int .i64 q,.int .i64 r] w (Ret R.val w):=fun p q r w hp hq hr=>by subst hp hq hr;exact B0 w
    clear B0 z0
    go_enter Try.func101,Try.ntmps101
    go_wp2_with fail
    refine Qv4 19 (by kernel_rfl) (by kernel_rfl) ?_
    simp only [List.take_succ_cons,List.take_zero,List.drop_succ_cons,List.drop_zero]
    repeat (first|(refine wpStill_step (fun K hK=>?_);go_simp;refine⟨_,zz _ _ _ (by first|rfl|omega|(simp only [IntKind.wrap_i64];omega)) (by first|rfl|omega|(simp only [IntKind.wrap_i64];omega)),hK _ ?_⟩;clear hK K)|still_step)
    refine wpStill_nil ?_
    go_wp2_with (go_at_call 98;(with_reducible refine(B _ _ _ _ (by first|rfl|omega|(simp only [IntKind.wrap_i64];omega)) (by first|rfl|omega|(simp only [IntKind.wrap_i64];omega)) rfl).mono ?_);rintro e w1 ⟨rfl,hb1⟩;(have hC1:=(Blk.new _ _ _).drew.call hb1);simp only [World.size_alloc]at hC1;(have hg1:=after (w:=w) (by go_grown) hb1);(have hs1:=hg1.size);obtain⟨hc1,hf1⟩:=hC1.walk)
    exact bodyPost_ret (v:=R.val) (Qt rfl rfl (hC1.put (a:=QV) R)) rfl ⟨rfl,Qh hg1 (by omega) R⟩
end Go.Proofs.Yteplnamfpodmlaa
end
section
namespace Go.Proofs.Yteplnamfpodmlaa
theorem Qv2(n q:Int)(j:Nat)(hn:0 < n)(hq:q=2 ^ j)(hd:n % q=0):1≤q∧q≤n:=by
 have h1:0 < q:=by rw [hq];exact Int.pow_pos (by omega)
 exact⟨by omega,Int.le_of_dvd hn (Int.dvd_of_emod_eq_zero hd)⟩
set_option maxHeartbeats 4000000 in
theorem Qyt(a:Qd)(wa:a.wf)(n:Int)(k0:0≤n)(k1:n < 4294967296)(w:World):Calls Try.prog 104 #[a.val,.int .i64 n] w (Ret (JU a n).val w):=by
 obtain⟨a0,a1,a2,a3,a4,a5⟩:=wa
 obtain⟨e,t,lo,hi,st⟩:=a
 dsimp only at *
 have lb:=QkH n k0 k1
 obtain⟨R,hR⟩:∃R,R=JU ⟨e,t,lo,hi,st⟩ n:=⟨_,rfl⟩
 rw [←hR]
 unfold JU at hR
 by_cases n0:n=0
 ·subst n0
  rw [QhJ]at hR
  have hR2:R=X2 0:=by
   rw [hR]
   cases t
   ·simp only [Bool.false_eq_true,if_false]
    rw [if_neg (by omega)];rfl
   ·rfl
  subst hR2
  clear hR lb
  go_enter Try.func104,Try.ntmps104
  go_wp2_with (go_at_call 58;(with_reducible refine(QvA _ _).mono ?_);rintro e w1 ⟨rfl,hb1⟩;(have hC1:=(Blk.new _ _ _).call hb1);simp only [World.size_alloc]at hC1;obtain⟨hc1,hf1⟩:=hC1.walk;(have hg1:=after (w:=w) (by go_grown) hb1);(have hs1:=hg1.size))
  exact bodyPost_ret (v:=(X2 0).val) (Qt rfl rfl (hC1.put (a:=QV) (X2 0))) rfl ⟨rfl,Qh hg1 (by omega) (X2 0)⟩
 have n0':(n==0)=false:=by rw [beq_eq_false_iff_ne];exact n0
 have np:0 < n:=by omega
 clear n0
 cases t
 ·simp only [Bool.false_eq_true,if_false]at hR
  by_cases c:hi < n
  ·rw [if_pos c]at hR
   have B:=Qvy 0 hi (WD n) (by omega) (by omega) (by omega) (by omega) (by omega) (by omega)
   rw [←hR]at B
   clear hR lb
   go_enter Try.func104,Try.ntmps104
   go_wp2_with fail
   go_loop [5] (fun s=>∃(j:Nat) (q:Int),Hid (q=2 ^ j)∧Hid (n % q=0)∧s= .int .i64 q) (fun s=>(n - intOf s).toNat)
   case atStart=>exact⟨0,1,QF rfl,QF (Int.emod_one n),rfl⟩
   case round=>
    obtain⟨j,q,hq,hd,rfl⟩:=hrel
    obtain⟨q1,q2⟩:=Qv2 n q j np hq.out hd.out
    by_cases h2:n % (2 * q)=0
    ·have HD:=QF h2
     have HB:=Qv2 n (2 * q) (j+1) np (by rw [hq.out,Int.pow_succ,Int.mul_comm]) h2
     have h2':(n % (2 * q)==0)=true:=by rw [beq_iff_eq];exact h2
     clear h2
     go_wp2_with fail
     go_round
     case rel=>exact⟨j+1,2 * q,QF (by rw [hq.out,Int.pow_succ,Int.mul_comm]),HD,by go_num⟩
     case measure=>simp [intOf];omega
    ·have E:=Qx8 n np k1 j (by rw [←hq.out];exact hd.out) (by rw [←hq.out];exact h2)
     rw [←hq.out]at E
     rw [E]at B
     have h2':(n % (2 * q)==0)=false:=by rw [beq_eq_false_iff_ne];exact h2
     clear h2 E
     go_wp2_with (go_at_call 98;(with_reducible refine(B _).mono ?_);rintro e w1 ⟨rfl,hb1⟩;(have hC1:=(Blk.new _ _ _).call hb1);simp only [World.size_alloc]at hC1;obtain⟨hc1,hf1⟩:=hC1.walk;(have hg1:=after (w:=w) (by go_grown) hb1);(have hs1:=hg1.size))
     exact bodyPost_ret (v:=R.val) (Qt rfl rfl (hC1.put (a:=QV) R)) rfl ⟨rfl,Qh hg1 (by omega) R⟩
  ·rw [if_neg c]at hR
   have B:=Qvy 0 n (WD n) (by omega) (by omega) (by omega) (by omega) (by omega) (by omega)
   rw [←hR]at B
   clear hR lb
   go_enter Try.func104,Try.ntmps104
   go_wp2_with fail
   go_loop [5] (fun s=>∃(j:Nat) (q:Int),Hid (q=2 ^ j)∧Hid (n % q=0)∧s= .int .i64 q) (fun s=>(n - intOf s).toNat)
   case atStart=>exact⟨0,1,QF rfl,QF (Int.emod_one n),rfl⟩
   case round=>
    obtain⟨j,q,hq,hd,rfl⟩:=hrel
    obtain⟨q1,q2⟩:=Qv2 n q j np hq.out hd.out
    by_cases h2:n % (2 * q)=0
    ·have HD:=QF h2
     have HB:=Qv2 n (2 * q) (j+1) np (by rw [hq.out,Int.pow_succ,Int.mul_comm]) h2
     have h2':(n % (2 * q)==0)=true:=by rw [beq_iff_eq];exact h2
     clear h2
     go_wp2_with fail
     go_round
     case rel=>exact⟨j+1,2 * q,QF (by rw [hq.out,Int.pow_succ,Int.mul_comm]),HD,by go_num⟩
     case measure=>simp [intOf];omega
    ·have E:=Qx8 n np k1 j (by rw [←hq.out];exact hd.out) (by rw [←hq.out];exact h2)
     rw [←hq.out]at E
     rw [E]at B
     have h2':(n % (2 * q)==0)=false:=by rw [beq_eq_false_iff_ne];exact h2
     clear h2 E
     go_wp2_with (go_at_call 98;(with_reducible refine(B _).mono ?_);rintro e w1 ⟨rfl,hb1⟩;(have hC1:=(Blk.new _ _ _).call hb1);simp only [World.size_alloc]at hC1;obtain⟨hc1,hf1⟩:=hC1.walk;(have hg1:=after (w:=w) (by go_grown) hb1);(have hs1:=hg1.size))
     exact bodyPost_ret (v:=R.val) (Qt rfl rfl (hC1.put (a:=QV) R)) rfl ⟨rfl,Qh hg1 (by omega) R⟩
 ·simp only [if_true]at hR
  have B:=Qvy 0 n (WD n) (by omega) (by omega) (by omega) (by omega) (by omega) (by omega)
  rw [←hR]at B
  clear hR lb
  go_enter Try.func104,Try.ntmps104
  go_wp2_with fail
  go_loop [5] (fun s=>∃(j:Nat) (q:Int),Hid (q=2 ^ j)∧Hid (n % q=0)∧s= .int .i64 q) (fun s=>(n - intOf s).toNat)
  case atStart=>exact⟨0,1,QF rfl,QF (Int.emod_one n),rfl⟩
  case round=>
   obtain⟨j,q,hq,hd,rfl⟩:=hrel
   obtain⟨q1,q2⟩:=Qv2 n q j np hq.out hd.out
   by_cases h2:n % (2 * q)=0
   ·have HD:=QF h2
    have HB:=Qv2 n (2 * q) (j+1) np (by rw [hq.out,Int.pow_succ,Int.mul_comm]) h2
    have h2':(n % (2 * q)==0)=true:=by rw [beq_iff_eq];exact h2
    clear h2
    go_wp2_with fail
    go_round
    case rel=>exact⟨j+1,2 * q,QF (by rw [hq.out,Int.pow_succ,Int.mul_comm]),HD,by go_num⟩
    case measure=>simp [intOf];omega
   ·have E:=Qx8 n np k1 j (by rw [←hq.out];exact hd.out) (by rw [←hq.out];exact h2)
    rw [←hq.out]at E
    rw [E]at B
    have h2':(n % (2 * q)==0)=false:=by rw [beq_eq_false_iff_ne];exact h2
    clear h2 E
    go_wp2_with (go_at_call 98;(with_reducible refine(B _).mono ?_);rintro e w1 ⟨rfl,hb1⟩;(have hC1:=(Blk.new _ _ _).call hb1);simp only [World.size_alloc]at hC1;obtain⟨hc1,hf1⟩:=hC1.walk;(have hg1:=after (w:=w) (by go_grown) hb1);(have hs1:=hg1.size))
    exact bodyPost_ret (v:=R.val) (Qt rfl rfl (hC1.put (a:=QV) R)) rfl ⟨rfl,Qh hg1 (by omega) R⟩
end Go.Proofs.Yteplnamfpodmlaa
end
