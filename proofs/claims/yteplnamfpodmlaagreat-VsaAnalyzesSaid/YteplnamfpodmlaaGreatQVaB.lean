/-
  Part of the proof.
-/
import Derived.Test.YteplnamfpodmlaaGreatQVaE
import Derived.Test.YteplnamfpodmlaaGreatQPl14b
import Derived.Deep.LoopGhost
import Derived.StillTailTactics
set_option linter.unusedVariables false
set_option linter.unusedSimpArgs false
set_option maxRecDepth 100000
open Go.ChangeShapes Go.WideShapes Go.ChangeAt Go.RowKit
section
namespace Go.Proofs.YteplnamfpodmlaaGreat
theorem Qd0(s:Qd)(w:World):Calls Tryz.prog 58 #[s.val] w (Ret (.bool (Xk s)) w):=by
 obtain⟨e,t,lo,hi,st⟩:=s;cases t
 ·cases e
  ·show Calls Tryz.prog 58 #[.agg #[.bool false,.bool false,.int .u32 lo,.int .u32 hi,.int .u32 st]] w (Ret (.bool (st==0)) w)
   go_enter Tryz.func58,Tryz.ntmps58
   go_wp2
   go_returns
   exact⟨rfl,by go_grown⟩
  ·show Calls Tryz.prog 58 #[.agg #[.bool true,.bool false,.int .u32 lo,.int .u32 hi,.int .u32 st]] w (Ret (.bool false) w)
   go_enter Tryz.func58,Tryz.ntmps58
   go_wp2
   go_returns
   exact⟨rfl,by go_grown⟩
 ·show Calls Tryz.prog 58 #[.agg #[.bool e,.bool true,.int .u32 lo,.int .u32 hi,.int .u32 st]] w (Ret (.bool false) w)
  go_enter Tryz.func58,Tryz.ntmps58
  go_wp2
  go_returns
  exact⟨rfl,by go_grown⟩
theorem QqZ(a b:Int)(a0:0≤a)(a1:a < 4294967296)(b0:0≤b)(b1:b < 4294967296):0≤a * b∧a * b≤18446744065119617025:=by
 refine⟨Int.mul_nonneg a0 b0,?_⟩;have h1:=Int.mul_le_mul (show a≤4294967295 by omega) (show b≤4294967295 by omega) b0 (by omega)
 exact Int.le_trans h1 (by decide)
set_option maxHeartbeats 2000000 in
theorem Qdx(a:Qd)(wa:a.wf)(ha:a=Qp∨reg a)(k:Int)(k0:0≤k)(k1:k < 4294967296)(w:World):Calls Tryz.prog 61 #[a.val,.int .u32 k] w (Ret (XT a k).val w):=by
 rcases ha with rfl|ha
 ·show Calls Tryz.prog 61 #[.agg #[.bool false,.bool true,.int .u32 0,.int .u32 0,.int .u32 0],.int .u32 k] w (Ret Qp.val w)
  go_enter Tryz.func61,Tryz.ntmps61
  go_wp2_with (go_at_call 36;(with_reducible refine(Xy _).mono ?_);rintro e w1 ⟨rfl,hb1⟩;(have hC1:=(Blk.new _ _ _).call hb1);simp only [World.size_alloc]at hC1;obtain⟨hc1,hf1⟩:=hC1.walk;(have hg1:=after (w:=w) (by go_grown) hb1);(have hs1:=hg1.size))
  exact bodyPost_ret (v:=Qp.val) (Qf rfl rfl (hC1.put (a:=Qs) Qp)) rfl ⟨rfl,Qe hg1 (by omega) Qp⟩
 ·have b:=Qlq wa ha k k0;have p:=QqZ a.hi k wa.2.2.1 wa.2.2.2.1 k0 k1;have q0:=Int.mul_nonneg wa.1 k0;have q1:=Int.mul_nonneg wa.2.2.2.2.1 k0;obtain⟨R,hR⟩:∃R,R=XT a k:=⟨_,rfl⟩;rw [←hR];unfold XT at hR;simp only [ha.1,Bool.false_eq_true,if_false]at hR;have ht:=ha.1;have he:=ha.2.1;clear ha;obtain⟨a0,a1,a2,a3,a4,a5⟩:=wa;obtain⟨e,t,lo,hi,st⟩:=a
  dsimp only at *
  subst ht he;obtain⟨p0,p1⟩:=p;obtain⟨b0,b1⟩:=b;by_cases c:4294967295 < hi * k
  ·rw [if_pos c]at hR;subst hR
   go_enter Tryz.func61,Tryz.ntmps61
   go_wp2_with (go_at_call 36;(with_reducible refine(Xy _).mono ?_);rintro e w1 ⟨rfl,hb1⟩;(have hC1:=(Blk.new _ _ _).call hb1);simp only [World.size_alloc]at hC1;obtain⟨hc1,hf1⟩:=hC1.walk;(have hg1:=after (w:=w) (by go_grown) hb1);(have hs1:=hg1.size))
   exact bodyPost_ret (v:=Qp.val) (Qf rfl rfl (hC1.put (a:=Qs) Qp)) rfl ⟨rfl,Qe hg1 (by omega) Qp⟩
  ·rw [if_neg c]at hR;have B:=Z8 (lo * k) (hi * k) (st * k) q0 (by omega) p0 (by omega) q1 (by omega)
   rw [←hR]at B;clear hR;have p2:hi * k < 4294967296:=by omega
   have p3:lo * k < 4294967296:=by omega
   have p4:st * k < 4294967296:=by omega
   go_enter Tryz.func61,Tryz.ntmps61
   go_wp2_with (go_at_call 31;(with_reducible refine(B _).mono ?_);rintro e w1 ⟨rfl,hb1⟩;(have hC1:=(Blk.new _ _ _).call hb1);simp only [World.size_alloc]at hC1;obtain⟨hc1,hf1⟩:=hC1.walk;(have hg1:=after (w:=w) (by go_grown) hb1);(have hs1:=hg1.size))
   exact bodyPost_ret (v:=R.val) (Qf rfl rfl (hC1.put (a:=Qs) R)) rfl ⟨rfl,Qe hg1 (by omega) R⟩
set_option maxHeartbeats 2000000 in
theorem QbY(a:Qd)(wa:a.wf)(ha:a=Qp∨reg a)(k:Int)(k0:0≤k)(k1:k < 4294967296)(w:World):Calls Tryz.prog 110 #[a.val,.int .i64 k] w (Ret (XT a k).val w):=by
 rcases ha with rfl|ha
 ·show Calls Tryz.prog 110 #[.agg #[.bool false,.bool true,.int .u32 0,.int .u32 0,.int .u32 0],.int .i64 k] w (Ret Qp.val w)
  go_enter Tryz.func110,Tryz.ntmps110
  go_wp2_with fail
  go_quiet (fail)
  go_wp2_with (go_at_call 19;(with_reducible refine(Z1 _).mono ?_);rintro e w1 ⟨rfl,hb1⟩;(have hC1:=(Xm (Blk.new _ _ _) nq).call hb1);simp only [World.size_alloc]at hC1;obtain⟨hc1,hf1⟩:=hC1.walk;(have hg1:=after (w:=w) (Qn (by go_grown) nq) hb1);(have hs1:=hg1.size))
  exact bodyPost_ret (v:=Qp.val) (Qf rfl rfl (hC1.put (a:=Qs) Qp)) rfl ⟨rfl,Qe hg1 (by omega) Qp⟩
 ·have b:=Qlq wa ha k k0;have p:=QqZ a.hi k wa.2.2.1 wa.2.2.2.1 k0 k1;have q0:=Int.mul_nonneg wa.1 k0;have q1:=Int.mul_nonneg wa.2.2.2.2.1 k0;have d:0 < k→(4294967295 / k < a.hi↔4294967295 < a.hi * k):=fun h=>Int.ediv_lt_iff_lt_mul h
  have d2:0≤4294967295 / k:=Int.ediv_nonneg (by omega) k0
  obtain⟨R,hR⟩:∃R,R=XT a k:=⟨_,rfl⟩;rw [←hR];unfold XT at hR;simp only [ha.1,Bool.false_eq_true,if_false]at hR;have ht:=ha.1;have he:=ha.2.1;clear ha;obtain⟨a0,a1,a2,a3,a4,a5⟩:=wa;obtain⟨e,t,lo,hi,st⟩:=a
  dsimp only at *
  subst ht he;obtain⟨p0,p1⟩:=p;obtain⟨b0,b1⟩:=b;by_cases c:4294967295 < hi * k
  ·rw [if_pos c]at hR;subst hR
   have kp:0 < k:=by
    rcases Int.lt_or_eq_of_le k0 with h|h
    ·exact h
    ·rw [←h,Int.mul_zero]at c;omega
   have c':=(d kp).2 c;have kn:k≠0:=by omega
   clear d c
   go_enter Tryz.func110,Tryz.ntmps110
   go_wp2_with fail
   go_quiet (fail)
   go_wp2_with (go_at_call 19;(with_reducible refine(Z1 _).mono ?_);rintro e w1 ⟨rfl,hb1⟩;(have hC1:=(Xm (Blk.new _ _ _) nq).call hb1);simp only [World.size_alloc]at hC1;obtain⟨hc1,hf1⟩:=hC1.walk;(have hg1:=after (w:=w) (Qn (by go_grown) nq) hb1);(have hs1:=hg1.size))
   exact bodyPost_ret (v:=Qp.val) (Qf rfl rfl (hC1.put (a:=Qs) Qp)) rfl ⟨rfl,Qe hg1 (by omega) Qp⟩
  ·rw [if_neg c]at hR;have B:=QN (lo * k) (hi * k) (st * k) q0 (by omega) p0 (by omega) q1 (by omega)
   rw [←hR]at B;clear hR;have p2:hi * k < 4294967296:=by omega
   have p3:lo * k < 4294967296:=by omega
   have p4:st * k < 4294967296:=by omega
   by_cases kp:0 < k
   ·have c':¬4294967295 / k < hi:=fun h=>c ((d kp).1 h)
    clear d c
    go_enter Tryz.func110,Tryz.ntmps110
    go_wp2_with fail
    go_quiet (fail)
    go_wp2_with (go_at_call 73;(with_reducible refine(B _).mono ?_);rintro e w1 ⟨rfl,hb1⟩;(have hC1:=(Xm (Blk.new _ _ _) nq).call hb1);simp only [World.size_alloc]at hC1;obtain⟨hc1,hf1⟩:=hC1.walk;(have hg1:=after (w:=w) (Qn (by go_grown) nq) hb1);(have hs1:=hg1.size))
    exact bodyPost_ret (v:=R.val) (Qf rfl rfl (hC1.put (a:=Qs) R)) rfl ⟨rfl,Qe hg1 (by omega) R⟩
   ·have k00:k=0:=by omega
    clear d c d2;subst k00;simp only [Int.mul_zero]at B
    go_enter Tryz.func110,Tryz.ntmps110
    go_wp2_with fail
    go_quiet (fail)
    go_wp2_with (go_at_call 73;(with_reducible refine(B _).mono ?_);rintro e w1 ⟨rfl,hb1⟩;(have hC1:=(Xm (Blk.new _ _ _) nq).call hb1);simp only [World.size_alloc]at hC1;obtain⟨hc1,hf1⟩:=hC1.walk;(have hg1:=after (w:=w) (Qn (by go_grown) nq) hb1);(have hs1:=hg1.size))
    exact bodyPost_ret (v:=R.val) (Qf rfl rfl (hC1.put (a:=Qs) R)) rfl ⟨rfl,Qe hg1 (by omega) R⟩
end Go.Proofs.YteplnamfpodmlaaGreat
end
section
namespace Go.Proofs.YteplnamfpodmlaaGreat
theorem Qo8(n:Int)(h0:0≤n)(h1:n < 4294967296):bits .and .u32 n (-n % 4294967296)=Yj n:=by
 unfold Yj;rw [Int.zero_sub]
set_option maxHeartbeats 2000000 in
theorem Qla(a:Qd)(wa:a.wf)(k:Int)(k0:0≤k)(k1:k < 4294967296)(w:World):Calls Tryz.prog 63 #[a.val,.int .u32 k] w (Ret (J6 a k).val w):=by
 have lb:=QkW k k0 k1
 have B:∀U:Int,0≤U→U < 4294967296→∀w,Calls Tryz.prog 31 #[.int .u32 0,.int .u32 U,.int .u32 (bits .and .u32 k (-k % 4294967296))] w (Ret (Qj 0 U (Yj k)).val w):=fun U u0 u1 w=>by
  rw [Qo8 k k0 k1];exact Z8 0 U (Yj k) (by omega) (by omega) u0 u1 (by omega) (by omega) w
 clear lb;obtain⟨a0,a1,a2,a3,a4,a5⟩:=wa;obtain⟨e,t,lo,hi,st⟩:=a
 dsimp only at *
 cases t
 ·by_cases c:hi < k
  ·have B1:=B hi a2 a3;have E:J6 ⟨e,false,lo,hi,st⟩ k=Qj 0 hi (Yj k):=by unfold J6;simp only [Bool.false_eq_true,if_false];rw [if_pos c]
   rw [E];clear E B;generalize Qj 0 hi (Yj k)=R at *
   go_enter Tryz.func63,Tryz.ntmps63
   go_wp2_with (go_at_call 31;(with_reducible refine(B1 _).mono ?_);rintro e w1 ⟨rfl,hb1⟩;(have hC1:=(Blk.new _ _ _).call hb1);simp only [World.size_alloc]at hC1;obtain⟨hc1,hf1⟩:=hC1.walk;(have hg1:=after (w:=w) (by go_grown) hb1);(have hs1:=hg1.size))
   exact bodyPost_ret (v:=(R).val) (Qf rfl rfl (hC1.put (a:=Qs) R)) rfl ⟨rfl,Qe hg1 (by omega) R⟩
  ·have B1:=B k k0 k1;have E:J6 ⟨e,false,lo,hi,st⟩ k=Qj 0 k (Yj k):=by unfold J6;simp only [Bool.false_eq_true,if_false];rw [if_neg c]
   rw [E];clear E B;generalize Qj 0 k (Yj k)=R at *
   go_enter Tryz.func63,Tryz.ntmps63
   go_wp2_with (go_at_call 31;(with_reducible refine(B1 _).mono ?_);rintro e w1 ⟨rfl,hb1⟩;(have hC1:=(Blk.new _ _ _).call hb1);simp only [World.size_alloc]at hC1;obtain⟨hc1,hf1⟩:=hC1.walk;(have hg1:=after (w:=w) (by go_grown) hb1);(have hs1:=hg1.size))
   exact bodyPost_ret (v:=(R).val) (Qf rfl rfl (hC1.put (a:=Qs) R)) rfl ⟨rfl,Qe hg1 (by omega) R⟩
 ·have B1:=B k k0 k1;have E:J6 ⟨e,true,lo,hi,st⟩ k=Qj 0 k (Yj k):=by unfold J6;simp only [if_true]
  rw [E];clear E B;generalize Qj 0 k (Yj k)=R at *
  go_enter Tryz.func63,Tryz.ntmps63
  go_wp2_with (go_at_call 31;(with_reducible refine(B1 _).mono ?_);rintro e w1 ⟨rfl,hb1⟩;(have hC1:=(Blk.new _ _ _).call hb1);simp only [World.size_alloc]at hC1;obtain⟨hc1,hf1⟩:=hC1.walk;(have hg1:=after (w:=w) (by go_grown) hb1);(have hs1:=hg1.size))
  exact bodyPost_ret (v:=(R).val) (Qf rfl rfl (hC1.put (a:=Qs) R)) rfl ⟨rfl,Qe hg1 (by omega) R⟩
theorem Qfh(n:Int)(n0:0≤n)(n1:n < 4294967296)(w:World):Calls Tryz.prog 111 #[.int .u32 n] w fun e w'=>e= .returned (.int .i64 (2 ^ (n % 32).toNat))∧w=w':=by
 have hm:n.tmod 32=n % 32:=Int.tmod_eq_emod_of_nonneg n0
 have hp:∀k:Nat,(k:Int)≤n % 32→(1:Int)≤2 ^ k∧(2:Int) ^ k≤2147483648:=fun k hk=>by
  have h1:(2:Nat) ^ k≤2 ^ 31:=Nat.pow_le_pow_right (by omega) (by omega)
  have h2:0 < (2:Nat) ^ k:=Nat.two_pow_pos _;have e:((2:Int) ^ k)=((2 ^ k:Nat):Int):=by simp [Int.natCast_pow]
  rw [e];omega
 have HP:=Qq hp;clear hp
 go_enter Tryz.func111,Tryz.ntmps111
 go_wp2
 go_loop [3,4] (fun p i=>∃(k:Nat) (q:Int),(k:Int)≤n % 32∧i= .int .u32 k∧Hid (q=2 ^ k)∧p= .int .i64 q) (fun _ i=>((n % 32) - intOf i).toNat)
 case atStart=>exact⟨0,1,by omega,rfl,Qq rfl,rfl⟩
 case round=>
  obtain⟨k,q,hk,rfl,hq,rfl⟩:=hrel;have hb:=HP.out k hk;rw [←hq.out]at hb;by_cases hlt:(k:Int) < n % 32
  ·go_wp2
   go_round
   case rel=>exact⟨k+1,2 * q,by omega,by go_num,Qq (by rw [hq.out,Int.pow_succ,Int.mul_comm]),by go_num⟩
   case measure=>simp [intOf];omega
  ·go_wp2
   go_returns
   have e:k=(n % 32).toNat:=by omega
   have e2:=hq.out;rw [e]at e2;exact⟨QsD e2,rfl⟩
theorem Vi{P:Program}{id:Nat}{Q:Exit→Act→World→Prop}{a:Act}{w:World}{l:List Oper}(n:Nat)(hm:P.follows .mixedOrders=true)(hB:Region.lexTailB .any l.toArray n=true)
 (h:wpStill P l.toArray w.drew (fun a'=>wpList P l.toArray Q (l.drop n) a' w.drew) (l.take n) a):(Code.region id l.toArray true).wp P Q a w:=wp_region_still_tail n hm hB h
set_option maxHeartbeats 4000000 in
theorem QsK(a b:Qd)(wa:a.wf)(wb:b.wf)(ha:a=Qp∨reg a)(hb:b=Qp∨reg b)(w:World):Calls Tryz.prog 108 #[a.val,b.val] w (Ret (Wg a b).val w):=by
 rcases ha with rfl|ha
 ·obtain⟨be,bt,blo,bhi,bst⟩:=b;show Calls Tryz.prog 108 #[.agg #[.bool false,.bool true,.int .u32 0,.int .u32 0,.int .u32 0],.agg #[.bool be,.bool bt,.int .u32 blo,.int .u32 bhi,.int .u32 bst]] w (Ret Qp.val w);clear hb wa wb
  go_enter Tryz.func108,Tryz.ntmps108
  go_wp2_with (go_at_call 19;(with_reducible refine(Z1 _).mono ?_);rintro e w1 ⟨rfl,hb1⟩;(have hC1:=(Blk.new _ _ _).call hb1);simp only [World.size_alloc]at hC1;obtain⟨hc1,hf1⟩:=hC1.walk;(have hg1:=after (w:=w) (by go_grown) hb1);(have hs1:=hg1.size))
  exact bodyPost_ret (v:=(Qp).val) (Qf rfl rfl (hC1.put (a:=Qs) Qp)) rfl ⟨rfl,Qe hg1 (by omega) Qp⟩
 ·rcases hb with rfl|hb
  ·have E:Wg a Qp=Qp:=by unfold Wg;simp [Qp]
   rw [E];obtain⟨ae,at',alo,ahi,ast⟩:=a;have h1:=ha.1
   dsimp only at h1
   subst h1;show Calls Tryz.prog 108 #[.agg #[.bool ae,.bool false,.int .u32 alo,.int .u32 ahi,.int .u32 ast],.agg #[.bool false,.bool true,.int .u32 0,.int .u32 0,.int .u32 0]] w (Ret Qp.val w);clear ha wa wb E
   go_enter Tryz.func108,Tryz.ntmps108
   go_wp2_with (go_at_call 19;(with_reducible refine(Z1 _).mono ?_);rintro e w1 ⟨rfl,hb1⟩;(have hC1:=(Blk.new _ _ _).call hb1);simp only [World.size_alloc]at hC1;obtain⟨hc1,hf1⟩:=hC1.walk;(have hg1:=after (w:=w) (by go_grown) hb1);(have hs1:=hg1.size))
   exact bodyPost_ret (v:=(Qp).val) (Qf rfl rfl (hC1.put (a:=Qs) Qp)) rfl ⟨rfl,Qe hg1 (by omega) Qp⟩
  ·obtain⟨R,hR⟩:∃R,R=Wg a b:=⟨_,rfl⟩;rw [←hR];unfold Wg at hR;simp only [ha.1,hb.1,Bool.or_self,Bool.false_eq_true,if_false]at hR;obtain⟨a0,a1,a2,a3,a4,a5⟩:=wa;obtain⟨b0,b1,b2,b3,b4,b5⟩:=wb;have g0:=QT a.st b.st;have g1:=Jo a.st b.st 4294967295 a4 b4 (by omega) (by omega)
   have l1:=ha.2.2.1;have l2:=hb.2.2.1;obtain⟨ae,at',alo,ahi,ast⟩:=a;obtain⟨be,bt,blo,bhi,bst⟩:=b;have h1:=ha.1;have h2:=hb.1;have h3:=ha.2.1;have h4:=hb.2.1
   dsimp only at *
   subst h1 h2 h3 h4;clear ha hb;by_cases c:4294967295 < ahi+bhi
   ·rw [if_pos c]at hR;subst hR;clear g0 g1
    go_enter Tryz.func108,Tryz.ntmps108
    go_wp2_with (go_at_call 19;(with_reducible refine(Z1 _).mono ?_);rintro e w1 ⟨rfl,hb1⟩;(have hC1:=(Blk.new _ _ _).call hb1);simp only [World.size_alloc]at hC1;obtain⟨hc1,hf1⟩:=hC1.walk;(have hg1:=after (w:=w) (by go_grown) hb1);(have hs1:=hg1.size))
    exact bodyPost_ret (v:=(Qp).val) (Qf rfl rfl (hC1.put (a:=Qs) Qp)) rfl ⟨rfl,Qe hg1 (by omega) Qp⟩
   ·rw [if_neg c]at hR;have B:=QN (alo+blo) (ahi+bhi) (Zr ast bst) (by omega) (by omega) (by omega) (by omega) g0 (by omega)
    have z0:=KC ast bst a4 a5 b4 b5;rw [←hR]at B;clear hR;generalize Zr ast bst=G at *;have zz:∀x y w,x=ast→y=bst→Calls Tryz.prog 72 #[.int .i64 x,.int .i64 y] w fun e w'=>e= .returned (.int .i64 G)∧w'=w:=fun x y w hx hy=>by subst hx hy;exact(z0 w).mono fun e w' h=>⟨h.1,h.2.symm⟩
    have B0:=B;clear B;have B:∀p q r w,p=alo+blo→q=ahi+bhi→r=G→Calls Tryz.prog 73 #[.int .i64 p,.int .i64 q,.int .i64 r] w (Ret R.val w):=fun p q r w hp hq hr=>by subst hp hq hr;exact B0 w
    clear B0 z0
    go_enter Tryz.func108,Tryz.ntmps108
    go_wp2_with fail
    refine Vi 21 (by kernel_rfl) (by kernel_rfl) ?_
    simp only [List.take_succ_cons,List.take_zero,List.drop_succ_cons,List.drop_zero]
    repeat (first|(refine wpStill_step (fun K hK=>?_);go_simp;refine⟨_,zz _ _ _ (by first|rfl|omega|(simp only [IntKind.wrap_i64];omega)) (by first|rfl|omega|(simp only [IntKind.wrap_i64];omega)),hK _ ?_⟩;clear hK K)|still_step)
    refine wpStill_nil ?_
    go_wp2_with (go_at_call 73;(with_reducible refine(B _ _ _ _ (by first|rfl|omega|(simp only [IntKind.wrap_i64];omega)) (by first|rfl|omega|(simp only [IntKind.wrap_i64];omega)) rfl).mono ?_);rintro e w1 ⟨rfl,hb1⟩;(have hC1:=(Blk.new _ _ _).drew.call hb1);simp only [World.size_alloc]at hC1;(have hg1:=after (w:=w) (by go_grown) hb1);(have hs1:=hg1.size);obtain⟨hc1,hf1⟩:=hC1.walk)
    exact bodyPost_ret (v:=R.val) (Qf rfl rfl (hC1.put (a:=Qs) R)) rfl ⟨rfl,Qe hg1 (by omega) R⟩
set_option maxHeartbeats 4000000 in
theorem QcD(a b:Qd)(wa:a.wf)(wb:b.wf)(ha:a=Qp∨reg a)(hb:b=Qp∨reg b)(w:World):Calls Tryz.prog 109 #[a.val,b.val] w (Ret (WB a b).val w):=by
 rcases ha with rfl|ha
 ·obtain⟨be,bt,blo,bhi,bst⟩:=b;show Calls Tryz.prog 109 #[.agg #[.bool false,.bool true,.int .u32 0,.int .u32 0,.int .u32 0],.agg #[.bool be,.bool bt,.int .u32 blo,.int .u32 bhi,.int .u32 bst]] w (Ret Qp.val w);clear hb wa wb
  go_enter Tryz.func109,Tryz.ntmps109
  go_wp2_with (go_at_call 19;(with_reducible refine(Z1 _).mono ?_);rintro e w1 ⟨rfl,hb1⟩;(have hC1:=(Blk.new _ _ _).call hb1);simp only [World.size_alloc]at hC1;obtain⟨hc1,hf1⟩:=hC1.walk;(have hg1:=after (w:=w) (by go_grown) hb1);(have hs1:=hg1.size))
  exact bodyPost_ret (v:=(Qp).val) (Qf rfl rfl (hC1.put (a:=Qs) Qp)) rfl ⟨rfl,Qe hg1 (by omega) Qp⟩
 ·rcases hb with rfl|hb
  ·have E:WB a Qp=Qp:=by unfold WB;simp [Qp]
   rw [E];obtain⟨ae,at',alo,ahi,ast⟩:=a;have h1:=ha.1
   dsimp only at h1
   subst h1;show Calls Tryz.prog 109 #[.agg #[.bool ae,.bool false,.int .u32 alo,.int .u32 ahi,.int .u32 ast],.agg #[.bool false,.bool true,.int .u32 0,.int .u32 0,.int .u32 0]] w (Ret Qp.val w);clear ha wa wb E
   go_enter Tryz.func109,Tryz.ntmps109
   go_wp2_with (go_at_call 19;(with_reducible refine(Z1 _).mono ?_);rintro e w1 ⟨rfl,hb1⟩;(have hC1:=(Blk.new _ _ _).call hb1);simp only [World.size_alloc]at hC1;obtain⟨hc1,hf1⟩:=hC1.walk;(have hg1:=after (w:=w) (by go_grown) hb1);(have hs1:=hg1.size))
   exact bodyPost_ret (v:=(Qp).val) (Qf rfl rfl (hC1.put (a:=Qs) Qp)) rfl ⟨rfl,Qe hg1 (by omega) Qp⟩
  ·obtain⟨R,hR⟩:∃R,R=WB a b:=⟨_,rfl⟩;rw [←hR];unfold WB at hR;simp only [ha.1,hb.1,Bool.or_self,Bool.false_eq_true,if_false]at hR;obtain⟨a0,a1,a2,a3,a4,a5⟩:=wa;obtain⟨b0,b1,b2,b3,b4,b5⟩:=wb;have g0:=QT a.st b.st;have g1:=Jo a.st b.st 4294967295 a4 b4 (by omega) (by omega)
   have l1:=ha.2.2.1;have l2:=hb.2.2.1;obtain⟨ae,at',alo,ahi,ast⟩:=a;obtain⟨be,bt,blo,bhi,bst⟩:=b;have h1:=ha.1;have h2:=hb.1;have h3:=ha.2.1;have h4:=hb.2.1
   dsimp only at *
   subst h1 h2 h3 h4;clear ha hb;by_cases c:alo < bhi
   ·rw [if_pos c]at hR;subst hR;clear g0 g1
    go_enter Tryz.func109,Tryz.ntmps109
    go_wp2_with (go_at_call 19;(with_reducible refine(Z1 _).mono ?_);rintro e w1 ⟨rfl,hb1⟩;(have hC1:=(Blk.new _ _ _).call hb1);simp only [World.size_alloc]at hC1;obtain⟨hc1,hf1⟩:=hC1.walk;(have hg1:=after (w:=w) (by go_grown) hb1);(have hs1:=hg1.size))
    exact bodyPost_ret (v:=(Qp).val) (Qf rfl rfl (hC1.put (a:=Qs) Qp)) rfl ⟨rfl,Qe hg1 (by omega) Qp⟩
   ·rw [if_neg c]at hR;have d1:0≤alo - bhi:=by omega
    have d2:0≤ahi - blo:=by omega
    have B:=QN (alo - bhi) (ahi - blo) (Zr ast bst) (by omega) (by omega) (by omega) (by omega) g0 (by omega)
    have z0:=KC ast bst a4 a5 b4 b5;rw [←hR]at B;clear hR;generalize Zr ast bst=G at *;have zz:∀x y w,x=ast→y=bst→Calls Tryz.prog 72 #[.int .i64 x,.int .i64 y] w fun e w'=>e= .returned (.int .i64 G)∧w'=w:=fun x y w hx hy=>by subst hx hy;exact(z0 w).mono fun e w' h=>⟨h.1,h.2.symm⟩
    have B0:=B;clear B;have B:∀p q r w,p=alo - bhi→q=ahi - blo→r=G→Calls Tryz.prog 73 #[.int .i64 p,.int .i64 q,.int .i64 r] w (Ret R.val w):=fun p q r w hp hq hr=>by subst hp hq hr;exact B0 w
    clear B0 z0
    go_enter Tryz.func109,Tryz.ntmps109
    go_wp2_with fail
    refine Vi 19 (by kernel_rfl) (by kernel_rfl) ?_
    simp only [List.take_succ_cons,List.take_zero,List.drop_succ_cons,List.drop_zero]
    repeat (first|(refine wpStill_step (fun K hK=>?_);go_simp;refine⟨_,zz _ _ _ (by first|rfl|omega|(simp only [IntKind.wrap_i64];omega)) (by first|rfl|omega|(simp only [IntKind.wrap_i64];omega)),hK _ ?_⟩;clear hK K)|still_step)
    refine wpStill_nil ?_
    go_wp2_with (go_at_call 73;(with_reducible refine(B _ _ _ _ (by first|rfl|omega|(simp only [IntKind.wrap_i64];omega)) (by first|rfl|omega|(simp only [IntKind.wrap_i64];omega)) rfl).mono ?_);rintro e w1 ⟨rfl,hb1⟩;(have hC1:=(Blk.new _ _ _).drew.call hb1);simp only [World.size_alloc]at hC1;(have hg1:=after (w:=w) (by go_grown) hb1);(have hs1:=hg1.size);obtain⟨hc1,hf1⟩:=hC1.walk)
    exact bodyPost_ret (v:=R.val) (Qf rfl rfl (hC1.put (a:=Qs) R)) rfl ⟨rfl,Qe hg1 (by omega) R⟩
end Go.Proofs.YteplnamfpodmlaaGreat
end
section
namespace Go.Proofs.YteplnamfpodmlaaGreat
theorem KA(n q:Int)(j:Nat)(hn:0 < n)(hq:q=2 ^ j)(hd:n % q=0):1≤q∧q≤n:=by
 have h1:0 < q:=by rw [hq];exact Int.pow_pos (by omega)
 exact⟨by omega,Int.le_of_dvd hn (Int.dvd_of_emod_eq_zero hd)⟩
set_option maxHeartbeats 4000000 in
theorem QqV(a:Qd)(wa:a.wf)(n:Int)(k0:0≤n)(k1:n < 4294967296)(w:World):Calls Tryz.prog 112 #[a.val,.int .i64 n] w (Ret (J6 a n).val w):=by
 obtain⟨a0,a1,a2,a3,a4,a5⟩:=wa;obtain⟨e,t,lo,hi,st⟩:=a
 dsimp only at *
 have lb:=QkW n k0 k1;obtain⟨R,hR⟩:∃R,R=J6 ⟨e,t,lo,hi,st⟩ n:=⟨_,rfl⟩;rw [←hR];unfold J6 at hR;by_cases n0:n=0
 ·subst n0;rw [Qda]at hR
  have hR2:R=Zs 0:=by
   rw [hR];cases t
   ·simp only [Bool.false_eq_true,if_false];rw [if_neg (by omega)];rfl
   ·rfl
  subst hR2;clear hR lb
  go_enter Tryz.func112,Tryz.ntmps112
  go_wp2_with (go_at_call 76;(with_reducible refine(YV _ _).mono ?_);rintro e w1 ⟨rfl,hb1⟩;(have hC1:=(Blk.new _ _ _).call hb1);simp only [World.size_alloc]at hC1;obtain⟨hc1,hf1⟩:=hC1.walk;(have hg1:=after (w:=w) (by go_grown) hb1);(have hs1:=hg1.size))
  exact bodyPost_ret (v:=(Zs 0).val) (Qf rfl rfl (hC1.put (a:=Qs) (Zs 0))) rfl ⟨rfl,Qe hg1 (by omega) (Zs 0)⟩
 have n0':(n==0)=false:=by rw [beq_eq_false_iff_ne];exact n0
 have np:0 < n:=by omega
 clear n0;cases t
 ·simp only [Bool.false_eq_true,if_false]at hR;by_cases c:hi < n
  ·rw [if_pos c]at hR;have B:=QN 0 hi (Yj n) (by omega) (by omega) (by omega) (by omega) (by omega) (by omega)
   rw [←hR]at B;clear hR lb
   go_enter Tryz.func112,Tryz.ntmps112
   go_wp2_with fail
   go_loop [5] (fun s=>∃(j:Nat) (q:Int),Hid (q=2 ^ j)∧Hid (n % q=0)∧s= .int .i64 q) (fun s=>(n - intOf s).toNat)
   case atStart=>exact⟨0,1,Qq rfl,Qq (Int.emod_one n),rfl⟩
   case round=>
    obtain⟨j,q,hq,hd,rfl⟩:=hrel;obtain⟨q1,q2⟩:=KA n q j np hq.out hd.out;by_cases h2:n % (2 * q)=0
    ·have HD:=Qq h2;have HB:=KA n (2 * q) (j+1) np (by rw [hq.out,Int.pow_succ,Int.mul_comm]) h2
     have h2':(n % (2 * q)==0)=true:=by rw [beq_iff_eq];exact h2
     clear h2
     go_wp2_with fail
     go_round
     case rel=>exact⟨j+1,2 * q,Qq (by rw [hq.out,Int.pow_succ,Int.mul_comm]),HD,by go_num⟩
     case measure=>simp [intOf];omega
    ·have E:=QkX n np k1 j (by rw [←hq.out];exact hd.out) (by rw [←hq.out];exact h2)
     rw [←hq.out]at E;rw [E]at B;have h2':(n % (2 * q)==0)=false:=by rw [beq_eq_false_iff_ne];exact h2
     clear h2 E
     go_wp2_with (go_at_call 73;(with_reducible refine(B _).mono ?_);rintro e w1 ⟨rfl,hb1⟩;(have hC1:=(Blk.new _ _ _).call hb1);simp only [World.size_alloc]at hC1;obtain⟨hc1,hf1⟩:=hC1.walk;(have hg1:=after (w:=w) (by go_grown) hb1);(have hs1:=hg1.size))
     exact bodyPost_ret (v:=R.val) (Qf rfl rfl (hC1.put (a:=Qs) R)) rfl ⟨rfl,Qe hg1 (by omega) R⟩
  ·rw [if_neg c]at hR;have B:=QN 0 n (Yj n) (by omega) (by omega) (by omega) (by omega) (by omega) (by omega)
   rw [←hR]at B;clear hR lb
   go_enter Tryz.func112,Tryz.ntmps112
   go_wp2_with fail
   go_loop [5] (fun s=>∃(j:Nat) (q:Int),Hid (q=2 ^ j)∧Hid (n % q=0)∧s= .int .i64 q) (fun s=>(n - intOf s).toNat)
   case atStart=>exact⟨0,1,Qq rfl,Qq (Int.emod_one n),rfl⟩
   case round=>
    obtain⟨j,q,hq,hd,rfl⟩:=hrel;obtain⟨q1,q2⟩:=KA n q j np hq.out hd.out;by_cases h2:n % (2 * q)=0
    ·have HD:=Qq h2;have HB:=KA n (2 * q) (j+1) np (by rw [hq.out,Int.pow_succ,Int.mul_comm]) h2
     have h2':(n % (2 * q)==0)=true:=by rw [beq_iff_eq];exact h2
     clear h2
     go_wp2_with fail
     go_round
     case rel=>exact⟨j+1,2 * q,Qq (by rw [hq.out,Int.pow_succ,Int.mul_comm]),HD,by go_num⟩
     case measure=>simp [intOf];omega
    ·have E:=QkX n np k1 j (by rw [←hq.out];exact hd.out) (by rw [←hq.out];exact h2)
     rw [←hq.out]at E;rw [E]at B;have h2':(n % (2 * q)==0)=false:=by rw [beq_eq_false_iff_ne];exact h2
     clear h2 E
     go_wp2_with (go_at_call 73;(with_reducible refine(B _).mono ?_);rintro e w1 ⟨rfl,hb1⟩;(have hC1:=(Blk.new _ _ _).call hb1);simp only [World.size_alloc]at hC1;obtain⟨hc1,hf1⟩:=hC1.walk;(have hg1:=after (w:=w) (by go_grown) hb1);(have hs1:=hg1.size))
     exact bodyPost_ret (v:=R.val) (Qf rfl rfl (hC1.put (a:=Qs) R)) rfl ⟨rfl,Qe hg1 (by omega) R⟩
 ·simp only [if_true]at hR;have B:=QN 0 n (Yj n) (by omega) (by omega) (by omega) (by omega) (by omega) (by omega)
  rw [←hR]at B;clear hR lb
  go_enter Tryz.func112,Tryz.ntmps112
  go_wp2_with fail
  go_loop [5] (fun s=>∃(j:Nat) (q:Int),Hid (q=2 ^ j)∧Hid (n % q=0)∧s= .int .i64 q) (fun s=>(n - intOf s).toNat)
  case atStart=>exact⟨0,1,Qq rfl,Qq (Int.emod_one n),rfl⟩
  case round=>
   obtain⟨j,q,hq,hd,rfl⟩:=hrel;obtain⟨q1,q2⟩:=KA n q j np hq.out hd.out;by_cases h2:n % (2 * q)=0
   ·have HD:=Qq h2;have HB:=KA n (2 * q) (j+1) np (by rw [hq.out,Int.pow_succ,Int.mul_comm]) h2
    have h2':(n % (2 * q)==0)=true:=by rw [beq_iff_eq];exact h2
    clear h2
    go_wp2_with fail
    go_round
    case rel=>exact⟨j+1,2 * q,Qq (by rw [hq.out,Int.pow_succ,Int.mul_comm]),HD,by go_num⟩
    case measure=>simp [intOf];omega
   ·have E:=QkX n np k1 j (by rw [←hq.out];exact hd.out) (by rw [←hq.out];exact h2)
    rw [←hq.out]at E;rw [E]at B;have h2':(n % (2 * q)==0)=false:=by rw [beq_eq_false_iff_ne];exact h2
    clear h2 E
    go_wp2_with (go_at_call 73;(with_reducible refine(B _).mono ?_);rintro e w1 ⟨rfl,hb1⟩;(have hC1:=(Blk.new _ _ _).call hb1);simp only [World.size_alloc]at hC1;obtain⟨hc1,hf1⟩:=hC1.walk;(have hg1:=after (w:=w) (by go_grown) hb1);(have hs1:=hg1.size))
    exact bodyPost_ret (v:=R.val) (Qf rfl rfl (hC1.put (a:=Qs) R)) rfl ⟨rfl,Qe hg1 (by omega) R⟩
end Go.Proofs.YteplnamfpodmlaaGreat
end
section
namespace Go.Proofs.YteplnamfpodmlaaGreat
def JX(n m:Qd):Prop:=m.t=true∨(m.t=false∧(m.st==0)=false)∨(m.t=false∧m.st=0∧n.t=true)∨(m.t=false∧m.st=0∧n.t=false∧(n.st==0)=false)
set_option maxRecDepth 100000 in
set_option maxHeartbeats 8000000 in
theorem Qs7(op:Int)(ho:op < 3∨(¬op < 3∧15 < op))(a b n m:Qd)(x:∀w,Calls Tryz.prog 71 #[a.val] w (Ret n.val w))(y:∀w,Calls Tryz.prog 71 #[b.val] w (Ret m.val w))(w:World) :
 Calls Tryz.prog 78 #[.int .i64 op,a.val,b.val] w (Ret Qp.val w):=by
 go_enter Tryz.func78,Tryz.ntmps78
 go_upto_region 1 with fail
 go_cut [6] (fun s6 wx=>s6= .pointer (some ⟨w.heap.size+1+1,0,none⟩)∧Blk wx w.heap.size 34 n.cs∧Blk wx (w.heap.size+1) 34 b.cs∧Blk wx (w.heap.size+1+1) 34 Qs.cs∧Below w.heap.size w wx)
 case first=>
  go_wp2_with (go_at_call 71;(with_reducible refine(x _).mono ?_);rintro e w1 ⟨rfl,hb1⟩;(have hA1:=(((Blk.new _ _ _).alloc _).alloc _).call hb1);(have hB1:=((Blk.new _ _ _).alloc _).call hb1);(have hC1:=(Blk.new _ _ _).call hb1);simp only [World.size_alloc]at hB1 hC1;obtain⟨hc1,hf1⟩:=hA1.walk;obtain⟨hc2,hf2⟩:=hB1.walk;(have hg1:=after (w:=w) (by go_grown) hb1);(have hs1:=hg1.size);(have hz1:w.heap.size+1+1 < w1.heap.size:=hC1.lt))
  go_meet
  exact⟨rfl,Blk.put (a:=a) hA1 n,Blk.put_far hB1 (by omega) n,Blk.put_far hC1 (by omega) n,Qe hg1 (by omega) n⟩
 obtain⟨rfl,hA,hB,hC,hg⟩:=hcut;obtain⟨hc,hf⟩:=hA.walk;obtain⟨hc2,hf2⟩:=hB.walk;obtain⟨hc3,hf3⟩:=hC.walk;have hs:=hg.size;have hz:w.heap.size+1+1 < wc.heap.size:=hC.lt
 go_upto_region 2 with fail
 go_cut [6] (fun s6 wx=>s6= .pointer (some ⟨w.heap.size+1+1,0,none⟩)∧Blk wx w.heap.size 34 n.cs∧Blk wx (w.heap.size+1) 34 m.cs∧Blk wx (w.heap.size+1+1) 34 Qs.cs∧Below w.heap.size w wx)
 case first=>
  go_wp2_with (go_at_call 71;(with_reducible refine(y _).mono ?_);rintro e w2 ⟨rfl,hb2⟩;(have hA2:=hA.call hb2);(have hB2:=hB.call hb2);(have hC2:=hC.call hb2);clear hc hf hc2 hf2 hc3 hf3;obtain⟨hc,hf⟩:=hA2.walk;obtain⟨hc2,hf2⟩:=hB2.walk;obtain⟨hc3,hf3⟩:=hC2.walk;(have hg2:=after hg hb2);(have hs2:=hg2.size);(have hz2:w.heap.size+1+1 < w2.heap.size:=hC2.lt))
  go_meet
  exact⟨rfl,Blk.put_far hA2 (by omega) m,Blk.put (a:=b) hB2 m,Blk.put_far hC2 (by omega) m,Qe hg2 (by omega) m⟩
 clear hA hB hC hg hc hf hc2 hf2 hc3 hf3 hs hz x y;obtain⟨rfl,hA,hB,hC,hg⟩:=hcut;obtain⟨hc,hf⟩:=hA.walk;obtain⟨hc2,hf2⟩:=hB.walk;obtain⟨hc3,hf3⟩:=hC.walk;have hs:=hg.size;have hz:w.heap.size+1+1 < wc.heap.size:=hC.lt;have HBr:Below wc.heap.size wc wc:=Below.refl _ _;obtain⟨ne,nt,nlo,nhi,nst⟩:=n;obtain⟨me,mt,mlo,mhi,mst⟩:=m
 try dsimp only at *
 simp only [Qd.cs]at hc hc2 hc3;rcases ho with ho|⟨ho,ho2⟩
 ·go_wp2_with (go_at_call 19;(with_reducible refine(Z1 _).mono ?_);rintro e wk ⟨rfl,hb⟩;(first|(replace HB:=after HB hb)|(have HB:=hb));clear hc hf hc2 hf2 hc3 hf3;obtain⟨hc,hf⟩:=(hA.call HB).walk;obtain⟨hc2,hf2⟩:=(hB.call HB).walk;obtain⟨hc3,hf3⟩:=(hC.call HB).walk;simp only [Qd.cs]at hc hc2 hc3)
  exact bodyPost_ret (v:=(Qp).val) (Qf rfl rfl ((hC.call HB).put (a:=Qs) Qp)) rfl ⟨rfl,Qe (after hg HB) (by omega) Qp⟩
 ·go_wp2_with (go_at_call 19;(with_reducible refine(Z1 _).mono ?_);rintro e wk ⟨rfl,hb⟩;(first|(replace HB:=after HB hb)|(have HB:=hb));clear hc hf hc2 hf2 hc3 hf3;obtain⟨hc,hf⟩:=(hA.call HB).walk;obtain⟨hc2,hf2⟩:=(hB.call HB).walk;obtain⟨hc3,hf3⟩:=(hC.call HB).walk;simp only [Qd.cs]at hc hc2 hc3)
  exact bodyPost_ret (v:=(Qp).val) (Qf rfl rfl ((hC.call HB).put (a:=Qs) Qp)) rfl ⟨rfl,Qe (after hg HB) (by omega) Qp⟩
set_option maxRecDepth 100000 in
set_option maxHeartbeats 8000000 in
theorem QoI(op:Int)(o1:¬op < 3)(o2:¬15 < op)(a b n m:Qd)(he:n.e=true∨(n.e=false∧m.e=true))(x:∀w,Calls Tryz.prog 71 #[a.val] w (Ret n.val w))(y:∀w,Calls Tryz.prog 71 #[b.val] w (Ret m.val w))(w:World) :
 Calls Tryz.prog 78 #[.int .i64 op,a.val,b.val] w (Ret Qt.val w):=by
 go_enter Tryz.func78,Tryz.ntmps78
 go_upto_region 1 with fail
 go_cut [6] (fun s6 wx=>s6= .pointer (some ⟨w.heap.size+1+1,0,none⟩)∧Blk wx w.heap.size 34 n.cs∧Blk wx (w.heap.size+1) 34 b.cs∧Blk wx (w.heap.size+1+1) 34 Qs.cs∧Below w.heap.size w wx)
 case first=>
  go_wp2_with (go_at_call 71;(with_reducible refine(x _).mono ?_);rintro e w1 ⟨rfl,hb1⟩;(have hA1:=(((Blk.new _ _ _).alloc _).alloc _).call hb1);(have hB1:=((Blk.new _ _ _).alloc _).call hb1);(have hC1:=(Blk.new _ _ _).call hb1);simp only [World.size_alloc]at hB1 hC1;obtain⟨hc1,hf1⟩:=hA1.walk;obtain⟨hc2,hf2⟩:=hB1.walk;(have hg1:=after (w:=w) (by go_grown) hb1);(have hs1:=hg1.size);(have hz1:w.heap.size+1+1 < w1.heap.size:=hC1.lt))
  go_meet
  exact⟨rfl,Blk.put (a:=a) hA1 n,Blk.put_far hB1 (by omega) n,Blk.put_far hC1 (by omega) n,Qe hg1 (by omega) n⟩
 obtain⟨rfl,hA,hB,hC,hg⟩:=hcut;obtain⟨hc,hf⟩:=hA.walk;obtain⟨hc2,hf2⟩:=hB.walk;obtain⟨hc3,hf3⟩:=hC.walk;have hs:=hg.size;have hz:w.heap.size+1+1 < wc.heap.size:=hC.lt
 go_upto_region 2 with fail
 go_cut [6] (fun s6 wx=>s6= .pointer (some ⟨w.heap.size+1+1,0,none⟩)∧Blk wx w.heap.size 34 n.cs∧Blk wx (w.heap.size+1) 34 m.cs∧Blk wx (w.heap.size+1+1) 34 Qs.cs∧Below w.heap.size w wx)
 case first=>
  go_wp2_with (go_at_call 71;(with_reducible refine(y _).mono ?_);rintro e w2 ⟨rfl,hb2⟩;(have hA2:=hA.call hb2);(have hB2:=hB.call hb2);(have hC2:=hC.call hb2);clear hc hf hc2 hf2 hc3 hf3;obtain⟨hc,hf⟩:=hA2.walk;obtain⟨hc2,hf2⟩:=hB2.walk;obtain⟨hc3,hf3⟩:=hC2.walk;(have hg2:=after hg hb2);(have hs2:=hg2.size);(have hz2:w.heap.size+1+1 < w2.heap.size:=hC2.lt))
  go_meet
  exact⟨rfl,Blk.put_far hA2 (by omega) m,Blk.put (a:=b) hB2 m,Blk.put_far hC2 (by omega) m,Qe hg2 (by omega) m⟩
 clear hA hB hC hg hc hf hc2 hf2 hc3 hf3 hs hz x y;obtain⟨rfl,hA,hB,hC,hg⟩:=hcut;obtain⟨hc,hf⟩:=hA.walk;obtain⟨hc2,hf2⟩:=hB.walk;obtain⟨hc3,hf3⟩:=hC.walk;have hs:=hg.size;have hz:w.heap.size+1+1 < wc.heap.size:=hC.lt;have HBr:Below wc.heap.size wc wc:=Below.refl _ _;obtain⟨ne,nt,nlo,nhi,nst⟩:=n;obtain⟨me,mt,mlo,mhi,mst⟩:=m
 try dsimp only at *
 simp only [Qd.cs]at hc hc2 hc3;rcases he with rfl|⟨rfl,rfl⟩
 ·go_wp2_with (go_at_call 18;(with_reducible refine(KB _).mono ?_);rintro e wk ⟨rfl,hb⟩;(first|(replace HB:=after HB hb)|(have HB:=hb));clear hc hf hc2 hf2 hc3 hf3;obtain⟨hc,hf⟩:=(hA.call HB).walk;obtain⟨hc2,hf2⟩:=(hB.call HB).walk;obtain⟨hc3,hf3⟩:=(hC.call HB).walk;simp only [Qd.cs]at hc hc2 hc3)
  exact bodyPost_ret (v:=(Qt).val) (Qf rfl rfl ((hC.call HB).put (a:=Qs) Qt)) rfl ⟨rfl,Qe (after hg HB) (by omega) Qt⟩
 ·go_wp2_with (go_at_call 18;(with_reducible refine(KB _).mono ?_);rintro e wk ⟨rfl,hb⟩;(first|(replace HB:=after HB hb)|(have HB:=hb));clear hc hf hc2 hf2 hc3 hf3;obtain⟨hc,hf⟩:=(hA.call HB).walk;obtain⟨hc2,hf2⟩:=(hB.call HB).walk;obtain⟨hc3,hf3⟩:=(hC.call HB).walk;simp only [Qd.cs]at hc hc2 hc3)
  exact bodyPost_ret (v:=(Qt).val) (Qf rfl rfl ((hC.call HB).put (a:=Qs) Qt)) rfl ⟨rfl,Qe (after hg HB) (by omega) Qt⟩
set_option maxRecDepth 100000 in
set_option maxHeartbeats 8000000 in
theorem Qs6(op:Int)(o1:¬op < 3)(o2:¬15 < op)(a b n m:Qd)(en:Hid (n.e=false))(em:Hid (m.e=false))(tn:Hid (n.t=false))(tm:Hid (m.t=false))(sn:Hid (n.st=0))(sm:Hid (m.st=0))(V:Int)
 (z:∀w,Calls Tryz.prog 107 #[.int .i64 op,.int .u32 n.lo,.int .u32 m.lo] w (Ret (.tuple #[.int .u32 V,.int .i64 0]) w))
 (x:∀w,Calls Tryz.prog 71 #[a.val] w (Ret n.val w)) (y:∀w,Calls Tryz.prog 71 #[b.val] w (Ret m.val w)) (w:World) :
 Calls Tryz.prog 78 #[.int .i64 op,a.val,b.val] w (Ret (Zs V).val w):=by
 go_enter Tryz.func78,Tryz.ntmps78
 go_upto_region 1 with fail
 go_cut [6] (fun s6 wx=>s6= .pointer (some ⟨w.heap.size+1+1,0,none⟩)∧Blk wx w.heap.size 34 n.cs∧Blk wx (w.heap.size+1) 34 b.cs∧Blk wx (w.heap.size+1+1) 34 Qs.cs∧Below w.heap.size w wx)
 case first=>
  go_wp2_with (go_at_call 71;(with_reducible refine(x _).mono ?_);rintro e w1 ⟨rfl,hb1⟩;(have hA1:=(((Blk.new _ _ _).alloc _).alloc _).call hb1);(have hB1:=((Blk.new _ _ _).alloc _).call hb1);(have hC1:=(Blk.new _ _ _).call hb1);simp only [World.size_alloc]at hB1 hC1;obtain⟨hc1,hf1⟩:=hA1.walk;obtain⟨hc2,hf2⟩:=hB1.walk;(have hg1:=after (w:=w) (by go_grown) hb1);(have hs1:=hg1.size);(have hz1:w.heap.size+1+1 < w1.heap.size:=hC1.lt))
  go_meet
  exact⟨rfl,Blk.put (a:=a) hA1 n,Blk.put_far hB1 (by omega) n,Blk.put_far hC1 (by omega) n,Qe hg1 (by omega) n⟩
 obtain⟨rfl,hA,hB,hC,hg⟩:=hcut;obtain⟨hc,hf⟩:=hA.walk;obtain⟨hc2,hf2⟩:=hB.walk;obtain⟨hc3,hf3⟩:=hC.walk;have hs:=hg.size;have hz:w.heap.size+1+1 < wc.heap.size:=hC.lt
 go_upto_region 2 with fail
 go_cut [6] (fun s6 wx=>s6= .pointer (some ⟨w.heap.size+1+1,0,none⟩)∧Blk wx w.heap.size 34 n.cs∧Blk wx (w.heap.size+1) 34 m.cs∧Blk wx (w.heap.size+1+1) 34 Qs.cs∧Below w.heap.size w wx)
 case first=>
  go_wp2_with (go_at_call 71;(with_reducible refine(y _).mono ?_);rintro e w2 ⟨rfl,hb2⟩;(have hA2:=hA.call hb2);(have hB2:=hB.call hb2);(have hC2:=hC.call hb2);clear hc hf hc2 hf2 hc3 hf3;obtain⟨hc,hf⟩:=hA2.walk;obtain⟨hc2,hf2⟩:=hB2.walk;obtain⟨hc3,hf3⟩:=hC2.walk;(have hg2:=after hg hb2);(have hs2:=hg2.size);(have hz2:w.heap.size+1+1 < w2.heap.size:=hC2.lt))
  go_meet
  exact⟨rfl,Blk.put_far hA2 (by omega) m,Blk.put (a:=b) hB2 m,Blk.put_far hC2 (by omega) m,Qe hg2 (by omega) m⟩
 clear hA hB hC hg hc hf hc2 hf2 hc3 hf3 hs hz x y;obtain⟨rfl,hA,hB,hC,hg⟩:=hcut;obtain⟨hc,hf⟩:=hA.walk;obtain⟨hc2,hf2⟩:=hB.walk;obtain⟨hc3,hf3⟩:=hC.walk;have hs:=hg.size;have hz:w.heap.size+1+1 < wc.heap.size:=hC.lt;have HBr:Below wc.heap.size wc wc:=Below.refl _ _;obtain⟨ne,nt,nlo,nhi,nst⟩:=n;obtain⟨me,mt,mlo,mhi,mst⟩:=m
 try dsimp only at *
 simp only [Qd.cs]at hc hc2 hc3;replace en:=en.out
 try dsimp only at en
 replace em:=em.out
 try dsimp only at em
 replace tn:=tn.out
 try dsimp only at tn
 replace tm:=tm.out
 try dsimp only at tm
 replace sn:=sn.out
 try dsimp only at sn
 replace sm:=sm.out
 try dsimp only at sm
 subst en em tn tm sn sm
 go_wp2_with (first|(go_at_call 107;(with_reducible refine(z _).mono ?_);rintro e wk ⟨rfl,hb⟩;(first|(replace HB:=after HB hb)|(have HB:=hb));clear hc hf hc2 hf2 hc3 hf3;obtain⟨hc,hf⟩:=(hA.call HB).walk;obtain⟨hc2,hf2⟩:=(hB.call HB).walk;obtain⟨hc3,hf3⟩:=(hC.call HB).walk;simp only [Qd.cs]at hc hc2 hc3)|(go_at_call 76;(with_reducible refine(YV _ _).mono ?_);rintro e wk ⟨rfl,hb⟩;(first|(replace HB:=after HB hb)|(have HB:=hb));clear hc hf hc2 hf2 hc3 hf3;obtain⟨hc,hf⟩:=(hA.call HB).walk;obtain⟨hc2,hf2⟩:=(hB.call HB).walk;obtain⟨hc3,hf3⟩:=(hC.call HB).walk;simp only [Qd.cs]at hc hc2 hc3))
 exact bodyPost_ret (v:=((Zs V)).val) (Qf rfl rfl ((hC.call HB).put (a:=Qs) (Zs V))) rfl ⟨rfl,Qe (after hg HB) (by omega) (Zs V)⟩
set_option maxRecDepth 100000 in
set_option maxHeartbeats 8000000 in
theorem Qs4(op:Int)(ho:op=12∨op=13∨op=14∨op=15)(a b n m:Qd)(en:Hid (n.e=false))(em:Hid (m.e=false))(hs:Hid (JX n m))
 (x:∀w,Calls Tryz.prog 71 #[a.val] w (Ret n.val w)) (y:∀w,Calls Tryz.prog 71 #[b.val] w (Ret m.val w)) (w:World) :
 Calls Tryz.prog 78 #[.int .i64 op,a.val,b.val] w (Ret (Qj 0 1 1).val w):=by
 have B:=QN 0 1 1 (by omega) (by omega) (by omega) (by omega) (by omega) (by omega)
 generalize Qj 0 1 1=R at *
 go_enter Tryz.func78,Tryz.ntmps78
 go_upto_region 1 with fail
 go_cut [6] (fun s6 wx=>s6= .pointer (some ⟨w.heap.size+1+1,0,none⟩)∧Blk wx w.heap.size 34 n.cs∧Blk wx (w.heap.size+1) 34 b.cs∧Blk wx (w.heap.size+1+1) 34 Qs.cs∧Below w.heap.size w wx)
 case first=>
  go_wp2_with (go_at_call 71;(with_reducible refine(x _).mono ?_);rintro e w1 ⟨rfl,hb1⟩;(have hA1:=(((Blk.new _ _ _).alloc _).alloc _).call hb1);(have hB1:=((Blk.new _ _ _).alloc _).call hb1);(have hC1:=(Blk.new _ _ _).call hb1);simp only [World.size_alloc]at hB1 hC1;obtain⟨hc1,hf1⟩:=hA1.walk;obtain⟨hc2,hf2⟩:=hB1.walk;(have hg1:=after (w:=w) (by go_grown) hb1);(have hs1:=hg1.size);(have hz1:w.heap.size+1+1 < w1.heap.size:=hC1.lt))
  go_meet
  exact⟨rfl,Blk.put (a:=a) hA1 n,Blk.put_far hB1 (by omega) n,Blk.put_far hC1 (by omega) n,Qe hg1 (by omega) n⟩
 obtain⟨rfl,hA,hB,hC,hg⟩:=hcut;obtain⟨hc,hf⟩:=hA.walk;obtain⟨hc2,hf2⟩:=hB.walk;obtain⟨hc3,hf3⟩:=hC.walk;have hs:=hg.size;have hz:w.heap.size+1+1 < wc.heap.size:=hC.lt
 go_upto_region 2 with fail
 go_cut [6] (fun s6 wx=>s6= .pointer (some ⟨w.heap.size+1+1,0,none⟩)∧Blk wx w.heap.size 34 n.cs∧Blk wx (w.heap.size+1) 34 m.cs∧Blk wx (w.heap.size+1+1) 34 Qs.cs∧Below w.heap.size w wx)
 case first=>
  go_wp2_with (go_at_call 71;(with_reducible refine(y _).mono ?_);rintro e w2 ⟨rfl,hb2⟩;(have hA2:=hA.call hb2);(have hB2:=hB.call hb2);(have hC2:=hC.call hb2);clear hc hf hc2 hf2 hc3 hf3;obtain⟨hc,hf⟩:=hA2.walk;obtain⟨hc2,hf2⟩:=hB2.walk;obtain⟨hc3,hf3⟩:=hC2.walk;(have hg2:=after hg hb2);(have hs2:=hg2.size);(have hz2:w.heap.size+1+1 < w2.heap.size:=hC2.lt))
  go_meet
  exact⟨rfl,Blk.put_far hA2 (by omega) m,Blk.put (a:=b) hB2 m,Blk.put_far hC2 (by omega) m,Qe hg2 (by omega) m⟩
 clear hA hB hC hg hc hf hc2 hf2 hc3 hf3 hs hz x y;obtain⟨rfl,hA,hB,hC,hg⟩:=hcut;obtain⟨hc,hf⟩:=hA.walk;obtain⟨hc2,hf2⟩:=hB.walk;obtain⟨hc3,hf3⟩:=hC.walk;have hs:=hg.size;have hz:w.heap.size+1+1 < wc.heap.size:=hC.lt;have HBr:Below wc.heap.size wc wc:=Below.refl _ _;obtain⟨ne,nt,nlo,nhi,nst⟩:=n;obtain⟨me,mt,mlo,mhi,mst⟩:=m
 try dsimp only at *
 simp only [Qd.cs]at hc hc2 hc3;replace en:=en.out
 try dsimp only at en
 replace em:=em.out
 try dsimp only at em
 subst en em;replace hs:=hs.out;unfold JX at hs
 try dsimp only at hs
 rcases ho with rfl|rfl|rfl|rfl
 all_goals
  rcases hs with rfl|⟨rfl,h⟩|⟨rfl,rfl,rfl⟩|⟨rfl,rfl,rfl,h⟩
  all_goals
   go_wp2_with (go_at_call 73;(with_reducible refine(B _).mono ?_);rintro e wk ⟨rfl,hb⟩;(first|(replace HB:=after HB hb)|(have HB:=hb));clear hc hf hc2 hf2 hc3 hf3;obtain⟨hc,hf⟩:=(hA.call HB).walk;obtain⟨hc2,hf2⟩:=(hB.call HB).walk;obtain⟨hc3,hf3⟩:=(hC.call HB).walk;simp only [Qd.cs]at hc hc2 hc3)
   exact bodyPost_ret (v:=(R).val) (Qf rfl rfl ((hC.call HB).put (a:=Qs) R)) rfl ⟨rfl,Qe (after hg HB) (by omega) R⟩
set_option maxRecDepth 100000 in
set_option maxHeartbeats 8000000 in
theorem QsB(op:Int)(ho:op=7∨op=8∨op=11)(a b n m:Qd)(en:Hid (n.e=false))(em:Hid (m.e=false))(hs:Hid (JX n m))
 (x:∀w,Calls Tryz.prog 71 #[a.val] w (Ret n.val w)) (y:∀w,Calls Tryz.prog 71 #[b.val] w (Ret m.val w)) (w:World) :
 Calls Tryz.prog 78 #[.int .i64 op,a.val,b.val] w (Ret Qp.val w):=by
 go_enter Tryz.func78,Tryz.ntmps78
 go_upto_region 1 with fail
 go_cut [6] (fun s6 wx=>s6= .pointer (some ⟨w.heap.size+1+1,0,none⟩)∧Blk wx w.heap.size 34 n.cs∧Blk wx (w.heap.size+1) 34 b.cs∧Blk wx (w.heap.size+1+1) 34 Qs.cs∧Below w.heap.size w wx)
 case first=>
  go_wp2_with (go_at_call 71;(with_reducible refine(x _).mono ?_);rintro e w1 ⟨rfl,hb1⟩;(have hA1:=(((Blk.new _ _ _).alloc _).alloc _).call hb1);(have hB1:=((Blk.new _ _ _).alloc _).call hb1);(have hC1:=(Blk.new _ _ _).call hb1);simp only [World.size_alloc]at hB1 hC1;obtain⟨hc1,hf1⟩:=hA1.walk;obtain⟨hc2,hf2⟩:=hB1.walk;(have hg1:=after (w:=w) (by go_grown) hb1);(have hs1:=hg1.size);(have hz1:w.heap.size+1+1 < w1.heap.size:=hC1.lt))
  go_meet
  exact⟨rfl,Blk.put (a:=a) hA1 n,Blk.put_far hB1 (by omega) n,Blk.put_far hC1 (by omega) n,Qe hg1 (by omega) n⟩
 obtain⟨rfl,hA,hB,hC,hg⟩:=hcut;obtain⟨hc,hf⟩:=hA.walk;obtain⟨hc2,hf2⟩:=hB.walk;obtain⟨hc3,hf3⟩:=hC.walk;have hs:=hg.size;have hz:w.heap.size+1+1 < wc.heap.size:=hC.lt
 go_upto_region 2 with fail
 go_cut [6] (fun s6 wx=>s6= .pointer (some ⟨w.heap.size+1+1,0,none⟩)∧Blk wx w.heap.size 34 n.cs∧Blk wx (w.heap.size+1) 34 m.cs∧Blk wx (w.heap.size+1+1) 34 Qs.cs∧Below w.heap.size w wx)
 case first=>
  go_wp2_with (go_at_call 71;(with_reducible refine(y _).mono ?_);rintro e w2 ⟨rfl,hb2⟩;(have hA2:=hA.call hb2);(have hB2:=hB.call hb2);(have hC2:=hC.call hb2);clear hc hf hc2 hf2 hc3 hf3;obtain⟨hc,hf⟩:=hA2.walk;obtain⟨hc2,hf2⟩:=hB2.walk;obtain⟨hc3,hf3⟩:=hC2.walk;(have hg2:=after hg hb2);(have hs2:=hg2.size);(have hz2:w.heap.size+1+1 < w2.heap.size:=hC2.lt))
  go_meet
  exact⟨rfl,Blk.put_far hA2 (by omega) m,Blk.put (a:=b) hB2 m,Blk.put_far hC2 (by omega) m,Qe hg2 (by omega) m⟩
 clear hA hB hC hg hc hf hc2 hf2 hc3 hf3 hs hz x y;obtain⟨rfl,hA,hB,hC,hg⟩:=hcut;obtain⟨hc,hf⟩:=hA.walk;obtain⟨hc2,hf2⟩:=hB.walk;obtain⟨hc3,hf3⟩:=hC.walk;have hs:=hg.size;have hz:w.heap.size+1+1 < wc.heap.size:=hC.lt;have HBr:Below wc.heap.size wc wc:=Below.refl _ _;obtain⟨ne,nt,nlo,nhi,nst⟩:=n;obtain⟨me,mt,mlo,mhi,mst⟩:=m
 try dsimp only at *
 simp only [Qd.cs]at hc hc2 hc3;replace en:=en.out
 try dsimp only at en
 replace em:=em.out
 try dsimp only at em
 subst en em;replace hs:=hs.out;unfold JX at hs
 try dsimp only at hs
 rcases ho with rfl|rfl|rfl
 all_goals
  rcases hs with rfl|⟨rfl,h⟩|⟨rfl,rfl,rfl⟩|⟨rfl,rfl,rfl,h⟩
  all_goals
   go_wp2_with (go_at_call 19;(with_reducible refine(Z1 _).mono ?_);rintro e wk ⟨rfl,hb⟩;(first|(replace HB:=after HB hb)|(have HB:=hb));clear hc hf hc2 hf2 hc3 hf3;obtain⟨hc,hf⟩:=(hA.call HB).walk;obtain⟨hc2,hf2⟩:=(hB.call HB).walk;obtain⟨hc3,hf3⟩:=(hC.call HB).walk;simp only [Qd.cs]at hc hc2 hc3)
   exact bodyPost_ret (v:=(Qp).val) (Qf rfl rfl ((hC.call HB).put (a:=Qs) Qp)) rfl ⟨rfl,Qe (after hg HB) (by omega) Qp⟩
set_option maxRecDepth 100000 in
set_option maxHeartbeats 8000000 in
theorem QsA(a b n m:Qd)(en:Hid (n.e=false))(em:Hid (m.e=false))(hs:Hid (JX n m))(R:Qd)(z:∀w,Calls Tryz.prog 108 #[n.val,m.val] w (Ret R.val w))
 (x:∀w,Calls Tryz.prog 71 #[a.val] w (Ret n.val w)) (y:∀w,Calls Tryz.prog 71 #[b.val] w (Ret m.val w)) (w:World) :
 Calls Tryz.prog 78 #[.int .i64 3,a.val,b.val] w (Ret R.val w):=by
 go_enter Tryz.func78,Tryz.ntmps78
 go_upto_region 1 with fail
 go_cut [6] (fun s6 wx=>s6= .pointer (some ⟨w.heap.size+1+1,0,none⟩)∧Blk wx w.heap.size 34 n.cs∧Blk wx (w.heap.size+1) 34 b.cs∧Blk wx (w.heap.size+1+1) 34 Qs.cs∧Below w.heap.size w wx)
 case first=>
  go_wp2_with (go_at_call 71;(with_reducible refine(x _).mono ?_);rintro e w1 ⟨rfl,hb1⟩;(have hA1:=(((Blk.new _ _ _).alloc _).alloc _).call hb1);(have hB1:=((Blk.new _ _ _).alloc _).call hb1);(have hC1:=(Blk.new _ _ _).call hb1);simp only [World.size_alloc]at hB1 hC1;obtain⟨hc1,hf1⟩:=hA1.walk;obtain⟨hc2,hf2⟩:=hB1.walk;(have hg1:=after (w:=w) (by go_grown) hb1);(have hs1:=hg1.size);(have hz1:w.heap.size+1+1 < w1.heap.size:=hC1.lt))
  go_meet
  exact⟨rfl,Blk.put (a:=a) hA1 n,Blk.put_far hB1 (by omega) n,Blk.put_far hC1 (by omega) n,Qe hg1 (by omega) n⟩
 obtain⟨rfl,hA,hB,hC,hg⟩:=hcut;obtain⟨hc,hf⟩:=hA.walk;obtain⟨hc2,hf2⟩:=hB.walk;obtain⟨hc3,hf3⟩:=hC.walk;have hs:=hg.size;have hz:w.heap.size+1+1 < wc.heap.size:=hC.lt
 go_upto_region 2 with fail
 go_cut [6] (fun s6 wx=>s6= .pointer (some ⟨w.heap.size+1+1,0,none⟩)∧Blk wx w.heap.size 34 n.cs∧Blk wx (w.heap.size+1) 34 m.cs∧Blk wx (w.heap.size+1+1) 34 Qs.cs∧Below w.heap.size w wx)
 case first=>
  go_wp2_with (go_at_call 71;(with_reducible refine(y _).mono ?_);rintro e w2 ⟨rfl,hb2⟩;(have hA2:=hA.call hb2);(have hB2:=hB.call hb2);(have hC2:=hC.call hb2);clear hc hf hc2 hf2 hc3 hf3;obtain⟨hc,hf⟩:=hA2.walk;obtain⟨hc2,hf2⟩:=hB2.walk;obtain⟨hc3,hf3⟩:=hC2.walk;(have hg2:=after hg hb2);(have hs2:=hg2.size);(have hz2:w.heap.size+1+1 < w2.heap.size:=hC2.lt))
  go_meet
  exact⟨rfl,Blk.put_far hA2 (by omega) m,Blk.put (a:=b) hB2 m,Blk.put_far hC2 (by omega) m,Qe hg2 (by omega) m⟩
 clear hA hB hC hg hc hf hc2 hf2 hc3 hf3 hs hz x y;obtain⟨rfl,hA,hB,hC,hg⟩:=hcut;obtain⟨hc,hf⟩:=hA.walk;obtain⟨hc2,hf2⟩:=hB.walk;obtain⟨hc3,hf3⟩:=hC.walk;have hs:=hg.size;have hz:w.heap.size+1+1 < wc.heap.size:=hC.lt;have HBr:Below wc.heap.size wc wc:=Below.refl _ _;obtain⟨ne,nt,nlo,nhi,nst⟩:=n;obtain⟨me,mt,mlo,mhi,mst⟩:=m
 try dsimp only at *
 simp only [Qd.cs]at hc hc2 hc3;replace en:=en.out
 try dsimp only at en
 replace em:=em.out
 try dsimp only at em
 subst en em;simp only [Qd.val]at z;replace hs:=hs.out;unfold JX at hs
 try dsimp only at hs
 rcases hs with rfl|⟨rfl,h⟩|⟨rfl,rfl,rfl⟩|⟨rfl,rfl,rfl,h⟩
 all_goals
  go_wp2_with (go_at_call 108;(with_reducible refine(z _).mono ?_);rintro e wk ⟨rfl,hb⟩;(first|(replace HB:=after HB hb)|(have HB:=hb));clear hc hf hc2 hf2 hc3 hf3;obtain⟨hc,hf⟩:=(hA.call HB).walk;obtain⟨hc2,hf2⟩:=(hB.call HB).walk;obtain⟨hc3,hf3⟩:=(hC.call HB).walk;simp only [Qd.cs]at hc hc2 hc3)
  exact bodyPost_ret (v:=(R).val) (Qf rfl rfl ((hC.call HB).put (a:=Qs) R)) rfl ⟨rfl,Qe (after hg HB) (by omega) R⟩
set_option maxRecDepth 100000 in
set_option maxHeartbeats 8000000 in
theorem Qrk(a b n m:Qd)(en:Hid (n.e=false))(em:Hid (m.e=false))(hs:Hid (JX n m))(R:Qd)(z:∀w,Calls Tryz.prog 109 #[n.val,m.val] w (Ret R.val w))
 (x:∀w,Calls Tryz.prog 71 #[a.val] w (Ret n.val w)) (y:∀w,Calls Tryz.prog 71 #[b.val] w (Ret m.val w)) (w:World) :
 Calls Tryz.prog 78 #[.int .i64 4,a.val,b.val] w (Ret R.val w):=by
 go_enter Tryz.func78,Tryz.ntmps78
 go_upto_region 1 with fail
 go_cut [6] (fun s6 wx=>s6= .pointer (some ⟨w.heap.size+1+1,0,none⟩)∧Blk wx w.heap.size 34 n.cs∧Blk wx (w.heap.size+1) 34 b.cs∧Blk wx (w.heap.size+1+1) 34 Qs.cs∧Below w.heap.size w wx)
 case first=>
  go_wp2_with (go_at_call 71;(with_reducible refine(x _).mono ?_);rintro e w1 ⟨rfl,hb1⟩;(have hA1:=(((Blk.new _ _ _).alloc _).alloc _).call hb1);(have hB1:=((Blk.new _ _ _).alloc _).call hb1);(have hC1:=(Blk.new _ _ _).call hb1);simp only [World.size_alloc]at hB1 hC1;obtain⟨hc1,hf1⟩:=hA1.walk;obtain⟨hc2,hf2⟩:=hB1.walk;(have hg1:=after (w:=w) (by go_grown) hb1);(have hs1:=hg1.size);(have hz1:w.heap.size+1+1 < w1.heap.size:=hC1.lt))
  go_meet
  exact⟨rfl,Blk.put (a:=a) hA1 n,Blk.put_far hB1 (by omega) n,Blk.put_far hC1 (by omega) n,Qe hg1 (by omega) n⟩
 obtain⟨rfl,hA,hB,hC,hg⟩:=hcut;obtain⟨hc,hf⟩:=hA.walk;obtain⟨hc2,hf2⟩:=hB.walk;obtain⟨hc3,hf3⟩:=hC.walk;have hs:=hg.size;have hz:w.heap.size+1+1 < wc.heap.size:=hC.lt
 go_upto_region 2 with fail
 go_cut [6] (fun s6 wx=>s6= .pointer (some ⟨w.heap.size+1+1,0,none⟩)∧Blk wx w.heap.size 34 n.cs∧Blk wx (w.heap.size+1) 34 m.cs∧Blk wx (w.heap.size+1+1) 34 Qs.cs∧Below w.heap.size w wx)
 case first=>
  go_wp2_with (go_at_call 71;(with_reducible refine(y _).mono ?_);rintro e w2 ⟨rfl,hb2⟩;(have hA2:=hA.call hb2);(have hB2:=hB.call hb2);(have hC2:=hC.call hb2);clear hc hf hc2 hf2 hc3 hf3;obtain⟨hc,hf⟩:=hA2.walk;obtain⟨hc2,hf2⟩:=hB2.walk;obtain⟨hc3,hf3⟩:=hC2.walk;(have hg2:=after hg hb2);(have hs2:=hg2.size);(have hz2:w.heap.size+1+1 < w2.heap.size:=hC2.lt))
  go_meet
  exact⟨rfl,Blk.put_far hA2 (by omega) m,Blk.put (a:=b) hB2 m,Blk.put_far hC2 (by omega) m,Qe hg2 (by omega) m⟩
 clear hA hB hC hg hc hf hc2 hf2 hc3 hf3 hs hz x y;obtain⟨rfl,hA,hB,hC,hg⟩:=hcut;obtain⟨hc,hf⟩:=hA.walk;obtain⟨hc2,hf2⟩:=hB.walk;obtain⟨hc3,hf3⟩:=hC.walk;have hs:=hg.size;have hz:w.heap.size+1+1 < wc.heap.size:=hC.lt;have HBr:Below wc.heap.size wc wc:=Below.refl _ _;obtain⟨ne,nt,nlo,nhi,nst⟩:=n;obtain⟨me,mt,mlo,mhi,mst⟩:=m
 try dsimp only at *
 simp only [Qd.cs]at hc hc2 hc3;replace en:=en.out
 try dsimp only at en
 replace em:=em.out
 try dsimp only at em
 subst en em;simp only [Qd.val]at z;replace hs:=hs.out;unfold JX at hs
 try dsimp only at hs
 rcases hs with rfl|⟨rfl,h⟩|⟨rfl,rfl,rfl⟩|⟨rfl,rfl,rfl,h⟩
 all_goals
  go_wp2_with (go_at_call 109;(with_reducible refine(z _).mono ?_);rintro e wk ⟨rfl,hb⟩;(first|(replace HB:=after HB hb)|(have HB:=hb));clear hc hf hc2 hf2 hc3 hf3;obtain⟨hc,hf⟩:=(hA.call HB).walk;obtain⟨hc2,hf2⟩:=(hB.call HB).walk;obtain⟨hc3,hf3⟩:=(hC.call HB).walk;simp only [Qd.cs]at hc hc2 hc3)
  exact bodyPost_ret (v:=(R).val) (Qf rfl rfl ((hC.call HB).put (a:=Qs) R)) rfl ⟨rfl,Qe (after hg HB) (by omega) R⟩
end Go.Proofs.YteplnamfpodmlaaGreat
end
section
namespace Go.Proofs.YteplnamfpodmlaaGreat
set_option maxRecDepth 100000 in
set_option maxHeartbeats 8000000 in
theorem Qrl(op:Int)(ho:op=5∨op=9∨op=6∨op=10)(a b n m:Qd)(en:Hid (n.e=false))(em:Hid (m.e=false))(hs:Hid (m.t=true∨(m.t=false∧(m.st==0)=false)))
 (x:∀w,Calls Tryz.prog 71 #[a.val] w (Ret n.val w)) (y:∀w,Calls Tryz.prog 71 #[b.val] w (Ret m.val w)) (w:World) :
 Calls Tryz.prog 78 #[.int .i64 op,a.val,b.val] w (Ret Qp.val w):=by
 go_enter Tryz.func78,Tryz.ntmps78
 go_upto_region 1 with fail
 go_cut [6] (fun s6 wx=>s6= .pointer (some ⟨w.heap.size+1+1,0,none⟩)∧Blk wx w.heap.size 34 n.cs∧Blk wx (w.heap.size+1) 34 b.cs∧Blk wx (w.heap.size+1+1) 34 Qs.cs∧Below w.heap.size w wx)
 case first=>
  go_wp2_with (go_at_call 71;(with_reducible refine(x _).mono ?_);rintro e w1 ⟨rfl,hb1⟩;(have hA1:=(((Blk.new _ _ _).alloc _).alloc _).call hb1);(have hB1:=((Blk.new _ _ _).alloc _).call hb1);(have hC1:=(Blk.new _ _ _).call hb1);simp only [World.size_alloc]at hB1 hC1;obtain⟨hc1,hf1⟩:=hA1.walk;obtain⟨hc2,hf2⟩:=hB1.walk;(have hg1:=after (w:=w) (by go_grown) hb1);(have hs1:=hg1.size);(have hz1:w.heap.size+1+1 < w1.heap.size:=hC1.lt))
  go_meet
  exact⟨rfl,Blk.put (a:=a) hA1 n,Blk.put_far hB1 (by omega) n,Blk.put_far hC1 (by omega) n,Qe hg1 (by omega) n⟩
 obtain⟨rfl,hA,hB,hC,hg⟩:=hcut;obtain⟨hc,hf⟩:=hA.walk;obtain⟨hc2,hf2⟩:=hB.walk;obtain⟨hc3,hf3⟩:=hC.walk;have hs:=hg.size;have hz:w.heap.size+1+1 < wc.heap.size:=hC.lt
 go_upto_region 2 with fail
 go_cut [6] (fun s6 wx=>s6= .pointer (some ⟨w.heap.size+1+1,0,none⟩)∧Blk wx w.heap.size 34 n.cs∧Blk wx (w.heap.size+1) 34 m.cs∧Blk wx (w.heap.size+1+1) 34 Qs.cs∧Below w.heap.size w wx)
 case first=>
  go_wp2_with (go_at_call 71;(with_reducible refine(y _).mono ?_);rintro e w2 ⟨rfl,hb2⟩;(have hA2:=hA.call hb2);(have hB2:=hB.call hb2);(have hC2:=hC.call hb2);clear hc hf hc2 hf2 hc3 hf3;obtain⟨hc,hf⟩:=hA2.walk;obtain⟨hc2,hf2⟩:=hB2.walk;obtain⟨hc3,hf3⟩:=hC2.walk;(have hg2:=after hg hb2);(have hs2:=hg2.size);(have hz2:w.heap.size+1+1 < w2.heap.size:=hC2.lt))
  go_meet
  exact⟨rfl,Blk.put_far hA2 (by omega) m,Blk.put (a:=b) hB2 m,Blk.put_far hC2 (by omega) m,Qe hg2 (by omega) m⟩
 clear hA hB hC hg hc hf hc2 hf2 hc3 hf3 hs hz x y;obtain⟨rfl,hA,hB,hC,hg⟩:=hcut;obtain⟨hc,hf⟩:=hA.walk;obtain⟨hc2,hf2⟩:=hB.walk;obtain⟨hc3,hf3⟩:=hC.walk;have hs:=hg.size;have hz:w.heap.size+1+1 < wc.heap.size:=hC.lt;have HBr:Below wc.heap.size wc wc:=Below.refl _ _;obtain⟨ne,nt,nlo,nhi,nst⟩:=n;obtain⟨me,mt,mlo,mhi,mst⟩:=m
 try dsimp only at *
 simp only [Qd.cs]at hc hc2 hc3;replace en:=en.out
 try dsimp only at en
 replace em:=em.out
 try dsimp only at em
 subst en em;replace hs:=hs.out
 try dsimp only at hs
 rcases ho with rfl|rfl|rfl|rfl
 all_goals
  rcases hs with rfl|⟨rfl,h⟩
  all_goals
   go_wp2_with (go_at_call 19;(with_reducible refine(Z1 _).mono ?_);rintro e wk ⟨rfl,hb⟩;(first|(replace HB:=after HB hb)|(have HB:=hb));clear hc hf hc2 hf2 hc3 hf3;obtain⟨hc,hf⟩:=(hA.call HB).walk;obtain⟨hc2,hf2⟩:=(hB.call HB).walk;obtain⟨hc3,hf3⟩:=(hC.call HB).walk;simp only [Qd.cs]at hc hc2 hc3)
   exact bodyPost_ret (v:=(Qp).val) (Qf rfl rfl ((hC.call HB).put (a:=Qs) Qp)) rfl ⟨rfl,Qe (after hg HB) (by omega) Qp⟩
set_option maxRecDepth 100000 in
set_option maxHeartbeats 8000000 in
theorem Qs5(a b n m:Qd)(en:Hid (n.e=false))(em:Hid (m.e=false))(tm:Hid (m.t=false))(sm:Hid (m.st=0))(m0:0≤m.lo)(m1:m.lo < 4294967296)(hs:Hid (n.t=true∨(n.t=false∧(n.st==0)=false)))(R:Qd)(z:∀w,Calls Tryz.prog 110 #[n.val,.int .i64 m.lo] w (Ret R.val w))
 (x:∀w,Calls Tryz.prog 71 #[a.val] w (Ret n.val w)) (y:∀w,Calls Tryz.prog 71 #[b.val] w (Ret m.val w)) (w:World) :
 Calls Tryz.prog 78 #[.int .i64 5,a.val,b.val] w (Ret R.val w):=by
 go_enter Tryz.func78,Tryz.ntmps78
 go_upto_region 1 with fail
 go_cut [6] (fun s6 wx=>s6= .pointer (some ⟨w.heap.size+1+1,0,none⟩)∧Blk wx w.heap.size 34 n.cs∧Blk wx (w.heap.size+1) 34 b.cs∧Blk wx (w.heap.size+1+1) 34 Qs.cs∧Below w.heap.size w wx)
 case first=>
  go_wp2_with (go_at_call 71;(with_reducible refine(x _).mono ?_);rintro e w1 ⟨rfl,hb1⟩;(have hA1:=(((Blk.new _ _ _).alloc _).alloc _).call hb1);(have hB1:=((Blk.new _ _ _).alloc _).call hb1);(have hC1:=(Blk.new _ _ _).call hb1);simp only [World.size_alloc]at hB1 hC1;obtain⟨hc1,hf1⟩:=hA1.walk;obtain⟨hc2,hf2⟩:=hB1.walk;(have hg1:=after (w:=w) (by go_grown) hb1);(have hs1:=hg1.size);(have hz1:w.heap.size+1+1 < w1.heap.size:=hC1.lt))
  go_meet
  exact⟨rfl,Blk.put (a:=a) hA1 n,Blk.put_far hB1 (by omega) n,Blk.put_far hC1 (by omega) n,Qe hg1 (by omega) n⟩
 obtain⟨rfl,hA,hB,hC,hg⟩:=hcut;obtain⟨hc,hf⟩:=hA.walk;obtain⟨hc2,hf2⟩:=hB.walk;obtain⟨hc3,hf3⟩:=hC.walk;have hs:=hg.size;have hz:w.heap.size+1+1 < wc.heap.size:=hC.lt
 go_upto_region 2 with fail
 go_cut [6] (fun s6 wx=>s6= .pointer (some ⟨w.heap.size+1+1,0,none⟩)∧Blk wx w.heap.size 34 n.cs∧Blk wx (w.heap.size+1) 34 m.cs∧Blk wx (w.heap.size+1+1) 34 Qs.cs∧Below w.heap.size w wx)
 case first=>
  go_wp2_with (go_at_call 71;(with_reducible refine(y _).mono ?_);rintro e w2 ⟨rfl,hb2⟩;(have hA2:=hA.call hb2);(have hB2:=hB.call hb2);(have hC2:=hC.call hb2);clear hc hf hc2 hf2 hc3 hf3;obtain⟨hc,hf⟩:=hA2.walk;obtain⟨hc2,hf2⟩:=hB2.walk;obtain⟨hc3,hf3⟩:=hC2.walk;(have hg2:=after hg hb2);(have hs2:=hg2.size);(have hz2:w.heap.size+1+1 < w2.heap.size:=hC2.lt))
  go_meet
  exact⟨rfl,Blk.put_far hA2 (by omega) m,Blk.put (a:=b) hB2 m,Blk.put_far hC2 (by omega) m,Qe hg2 (by omega) m⟩
 clear hA hB hC hg hc hf hc2 hf2 hc3 hf3 hs hz x y;obtain⟨rfl,hA,hB,hC,hg⟩:=hcut;obtain⟨hc,hf⟩:=hA.walk;obtain⟨hc2,hf2⟩:=hB.walk;obtain⟨hc3,hf3⟩:=hC.walk;have hs:=hg.size;have hz:w.heap.size+1+1 < wc.heap.size:=hC.lt;have HBr:Below wc.heap.size wc wc:=Below.refl _ _;obtain⟨ne,nt,nlo,nhi,nst⟩:=n;obtain⟨me,mt,mlo,mhi,mst⟩:=m
 try dsimp only at *
 simp only [Qd.cs]at hc hc2 hc3;replace en:=en.out
 try dsimp only at en
 replace em:=em.out
 try dsimp only at em
 replace tm:=tm.out
 try dsimp only at tm
 replace sm:=sm.out
 try dsimp only at sm
 subst en em tm sm;simp only [Qd.val]at z;replace hs:=hs.out
 try dsimp only at hs
 rcases hs with rfl|⟨rfl,h⟩
 all_goals
  go_wp2_with (go_at_call 110;(with_reducible refine(z _).mono ?_);rintro e wk ⟨rfl,hb⟩;(first|(replace HB:=after HB hb)|(have HB:=hb));clear hc hf hc2 hf2 hc3 hf3;obtain⟨hc,hf⟩:=(hA.call HB).walk;obtain⟨hc2,hf2⟩:=(hB.call HB).walk;obtain⟨hc3,hf3⟩:=(hC.call HB).walk;simp only [Qd.cs]at hc hc2 hc3)
  exact bodyPost_ret (v:=(R).val) (Qf rfl rfl ((hC.call HB).put (a:=Qs) R)) rfl ⟨rfl,Qe (after hg HB) (by omega) R⟩
set_option maxRecDepth 100000 in
set_option maxHeartbeats 8000000 in
theorem Qs3(a b n m:Qd)(en:Hid (n.e=false))(em:Hid (m.e=false))(tm:Hid (m.t=false))(sm:Hid (m.st=0))(m0:0≤m.lo)(m1:m.lo < 4294967296)(hs:Hid (n.t=true∨(n.t=false∧(n.st==0)=false)))(R:Qd)(z:∀w,Calls Tryz.prog 112 #[n.val,.int .i64 m.lo] w (Ret R.val w))
 (x:∀w,Calls Tryz.prog 71 #[a.val] w (Ret n.val w)) (y:∀w,Calls Tryz.prog 71 #[b.val] w (Ret m.val w)) (w:World) :
 Calls Tryz.prog 78 #[.int .i64 6,a.val,b.val] w (Ret R.val w):=by
 go_enter Tryz.func78,Tryz.ntmps78
 go_upto_region 1 with fail
 go_cut [6] (fun s6 wx=>s6= .pointer (some ⟨w.heap.size+1+1,0,none⟩)∧Blk wx w.heap.size 34 n.cs∧Blk wx (w.heap.size+1) 34 b.cs∧Blk wx (w.heap.size+1+1) 34 Qs.cs∧Below w.heap.size w wx)
 case first=>
  go_wp2_with (go_at_call 71;(with_reducible refine(x _).mono ?_);rintro e w1 ⟨rfl,hb1⟩;(have hA1:=(((Blk.new _ _ _).alloc _).alloc _).call hb1);(have hB1:=((Blk.new _ _ _).alloc _).call hb1);(have hC1:=(Blk.new _ _ _).call hb1);simp only [World.size_alloc]at hB1 hC1;obtain⟨hc1,hf1⟩:=hA1.walk;obtain⟨hc2,hf2⟩:=hB1.walk;(have hg1:=after (w:=w) (by go_grown) hb1);(have hs1:=hg1.size);(have hz1:w.heap.size+1+1 < w1.heap.size:=hC1.lt))
  go_meet
  exact⟨rfl,Blk.put (a:=a) hA1 n,Blk.put_far hB1 (by omega) n,Blk.put_far hC1 (by omega) n,Qe hg1 (by omega) n⟩
 obtain⟨rfl,hA,hB,hC,hg⟩:=hcut;obtain⟨hc,hf⟩:=hA.walk;obtain⟨hc2,hf2⟩:=hB.walk;obtain⟨hc3,hf3⟩:=hC.walk;have hs:=hg.size;have hz:w.heap.size+1+1 < wc.heap.size:=hC.lt
 go_upto_region 2 with fail
 go_cut [6] (fun s6 wx=>s6= .pointer (some ⟨w.heap.size+1+1,0,none⟩)∧Blk wx w.heap.size 34 n.cs∧Blk wx (w.heap.size+1) 34 m.cs∧Blk wx (w.heap.size+1+1) 34 Qs.cs∧Below w.heap.size w wx)
 case first=>
  go_wp2_with (go_at_call 71;(with_reducible refine(y _).mono ?_);rintro e w2 ⟨rfl,hb2⟩;(have hA2:=hA.call hb2);(have hB2:=hB.call hb2);(have hC2:=hC.call hb2);clear hc hf hc2 hf2 hc3 hf3;obtain⟨hc,hf⟩:=hA2.walk;obtain⟨hc2,hf2⟩:=hB2.walk;obtain⟨hc3,hf3⟩:=hC2.walk;(have hg2:=after hg hb2);(have hs2:=hg2.size);(have hz2:w.heap.size+1+1 < w2.heap.size:=hC2.lt))
  go_meet
  exact⟨rfl,Blk.put_far hA2 (by omega) m,Blk.put (a:=b) hB2 m,Blk.put_far hC2 (by omega) m,Qe hg2 (by omega) m⟩
 clear hA hB hC hg hc hf hc2 hf2 hc3 hf3 hs hz x y;obtain⟨rfl,hA,hB,hC,hg⟩:=hcut;obtain⟨hc,hf⟩:=hA.walk;obtain⟨hc2,hf2⟩:=hB.walk;obtain⟨hc3,hf3⟩:=hC.walk;have hs:=hg.size;have hz:w.heap.size+1+1 < wc.heap.size:=hC.lt;have HBr:Below wc.heap.size wc wc:=Below.refl _ _;obtain⟨ne,nt,nlo,nhi,nst⟩:=n;obtain⟨me,mt,mlo,mhi,mst⟩:=m
 try dsimp only at *
 simp only [Qd.cs]at hc hc2 hc3;replace en:=en.out
 try dsimp only at en
 replace em:=em.out
 try dsimp only at em
 replace tm:=tm.out
 try dsimp only at tm
 replace sm:=sm.out
 try dsimp only at sm
 subst en em tm sm;simp only [Qd.val]at z;replace hs:=hs.out
 try dsimp only at hs
 rcases hs with rfl|⟨rfl,h⟩
 all_goals
  go_wp2_with (go_at_call 112;(with_reducible refine(z _).mono ?_);rintro e wk ⟨rfl,hb⟩;(first|(replace HB:=after HB hb)|(have HB:=hb));clear hc hf hc2 hf2 hc3 hf3;obtain⟨hc,hf⟩:=(hA.call HB).walk;obtain⟨hc2,hf2⟩:=(hB.call HB).walk;obtain⟨hc3,hf3⟩:=(hC.call HB).walk;simp only [Qd.cs]at hc hc2 hc3)
  exact bodyPost_ret (v:=(R).val) (Qf rfl rfl ((hC.call HB).put (a:=Qs) R)) rfl ⟨rfl,Qe (after hg HB) (by omega) R⟩
set_option maxRecDepth 100000 in
set_option maxHeartbeats 8000000 in
theorem Qs8(a b n m:Qd)(en:Hid (n.e=false))(em:Hid (m.e=false))(tm:Hid (m.t=false))(sm:Hid (m.st=0))(m0:0≤m.lo)(m1:m.lo < 4294967296)(hs:Hid (n.t=true∨(n.t=false∧(n.st==0)=false)))(P:Int)(p:∀w,Calls Tryz.prog 111 #[.int .u32 m.lo] w fun e w'=>e= .returned (.int .i64 P)∧w'=w)(R:Qd)(z:∀w,Calls Tryz.prog 110 #[n.val,.int .i64 P] w (Ret R.val w))
 (x:∀w,Calls Tryz.prog 71 #[a.val] w (Ret n.val w)) (y:∀w,Calls Tryz.prog 71 #[b.val] w (Ret m.val w)) (w:World) :
 Calls Tryz.prog 78 #[.int .i64 9,a.val,b.val] w (Ret R.val w):=by
 go_enter Tryz.func78,Tryz.ntmps78
 go_upto_region 1 with fail
 go_cut [6] (fun s6 wx=>s6= .pointer (some ⟨w.heap.size+1+1,0,none⟩)∧Blk wx w.heap.size 34 n.cs∧Blk wx (w.heap.size+1) 34 b.cs∧Blk wx (w.heap.size+1+1) 34 Qs.cs∧Below w.heap.size w wx)
 case first=>
  go_wp2_with (go_at_call 71;(with_reducible refine(x _).mono ?_);rintro e w1 ⟨rfl,hb1⟩;(have hA1:=(((Blk.new _ _ _).alloc _).alloc _).call hb1);(have hB1:=((Blk.new _ _ _).alloc _).call hb1);(have hC1:=(Blk.new _ _ _).call hb1);simp only [World.size_alloc]at hB1 hC1;obtain⟨hc1,hf1⟩:=hA1.walk;obtain⟨hc2,hf2⟩:=hB1.walk;(have hg1:=after (w:=w) (by go_grown) hb1);(have hs1:=hg1.size);(have hz1:w.heap.size+1+1 < w1.heap.size:=hC1.lt))
  go_meet
  exact⟨rfl,Blk.put (a:=a) hA1 n,Blk.put_far hB1 (by omega) n,Blk.put_far hC1 (by omega) n,Qe hg1 (by omega) n⟩
 obtain⟨rfl,hA,hB,hC,hg⟩:=hcut;obtain⟨hc,hf⟩:=hA.walk;obtain⟨hc2,hf2⟩:=hB.walk;obtain⟨hc3,hf3⟩:=hC.walk;have hs:=hg.size;have hz:w.heap.size+1+1 < wc.heap.size:=hC.lt
 go_upto_region 2 with fail
 go_cut [6] (fun s6 wx=>s6= .pointer (some ⟨w.heap.size+1+1,0,none⟩)∧Blk wx w.heap.size 34 n.cs∧Blk wx (w.heap.size+1) 34 m.cs∧Blk wx (w.heap.size+1+1) 34 Qs.cs∧Below w.heap.size w wx)
 case first=>
  go_wp2_with (go_at_call 71;(with_reducible refine(y _).mono ?_);rintro e w2 ⟨rfl,hb2⟩;(have hA2:=hA.call hb2);(have hB2:=hB.call hb2);(have hC2:=hC.call hb2);clear hc hf hc2 hf2 hc3 hf3;obtain⟨hc,hf⟩:=hA2.walk;obtain⟨hc2,hf2⟩:=hB2.walk;obtain⟨hc3,hf3⟩:=hC2.walk;(have hg2:=after hg hb2);(have hs2:=hg2.size);(have hz2:w.heap.size+1+1 < w2.heap.size:=hC2.lt))
  go_meet
  exact⟨rfl,Blk.put_far hA2 (by omega) m,Blk.put (a:=b) hB2 m,Blk.put_far hC2 (by omega) m,Qe hg2 (by omega) m⟩
 clear hA hB hC hg hc hf hc2 hf2 hc3 hf3 hs hz x y;obtain⟨rfl,hA,hB,hC,hg⟩:=hcut;obtain⟨hc,hf⟩:=hA.walk;obtain⟨hc2,hf2⟩:=hB.walk;obtain⟨hc3,hf3⟩:=hC.walk;have hs:=hg.size;have hz:w.heap.size+1+1 < wc.heap.size:=hC.lt;have HBr:Below wc.heap.size wc wc:=Below.refl _ _;obtain⟨ne,nt,nlo,nhi,nst⟩:=n;obtain⟨me,mt,mlo,mhi,mst⟩:=m
 try dsimp only at *
 simp only [Qd.cs]at hc hc2 hc3;replace en:=en.out
 try dsimp only at en
 replace em:=em.out
 try dsimp only at em
 replace tm:=tm.out
 try dsimp only at tm
 replace sm:=sm.out
 try dsimp only at sm
 subst en em tm sm;simp only [Qd.val]at z;replace hs:=hs.out
 try dsimp only at hs
 rcases hs with rfl|⟨rfl,h⟩
 all_goals
  go_wp2_with fail
  refine Vi 4 (by kernel_rfl) (by kernel_rfl) ?_
  simp only [List.take_succ_cons,List.take_zero,List.drop_succ_cons,List.drop_zero]
  repeat (first|(refine wpStill_step (fun K hK=>?_);go_simp;refine⟨_,p _,hK _ ?_⟩;clear hK K)|still_step)
  refine wpStill_nil ?_;have HB:=(Below.refl wc.heap.size wc).drew
  go_wp2_with (go_at_call 110;(with_reducible refine(z _).mono ?_);rintro e wk ⟨rfl,hb⟩;(first|(replace HB:=after HB hb)|(have HB:=hb));clear hc hf hc2 hf2 hc3 hf3;obtain⟨hc,hf⟩:=(hA.call HB).walk;obtain⟨hc2,hf2⟩:=(hB.call HB).walk;obtain⟨hc3,hf3⟩:=(hC.call HB).walk;simp only [Qd.cs]at hc hc2 hc3)
  exact bodyPost_ret (v:=(R).val) (Qf rfl rfl ((hC.call HB).put (a:=Qs) R)) rfl ⟨rfl,Qe (after hg HB) (by omega) R⟩
set_option maxRecDepth 100000 in
set_option maxHeartbeats 8000000 in
theorem Qig(a b n m:Qd)(en:Hid (n.e=false))(em:Hid (m.e=false))(tm:Hid (m.t=false))(sm:Hid (m.st=0))(tn:Hid (n.t=true))
 (x:∀w,Calls Tryz.prog 71 #[a.val] w (Ret n.val w)) (y:∀w,Calls Tryz.prog 71 #[b.val] w (Ret m.val w)) (w:World) :
 Calls Tryz.prog 78 #[.int .i64 10,a.val,b.val] w (Ret Qp.val w):=by
 go_enter Tryz.func78,Tryz.ntmps78
 go_upto_region 1 with fail
 go_cut [6] (fun s6 wx=>s6= .pointer (some ⟨w.heap.size+1+1,0,none⟩)∧Blk wx w.heap.size 34 n.cs∧Blk wx (w.heap.size+1) 34 b.cs∧Blk wx (w.heap.size+1+1) 34 Qs.cs∧Below w.heap.size w wx)
 case first=>
  go_wp2_with (go_at_call 71;(with_reducible refine(x _).mono ?_);rintro e w1 ⟨rfl,hb1⟩;(have hA1:=(((Blk.new _ _ _).alloc _).alloc _).call hb1);(have hB1:=((Blk.new _ _ _).alloc _).call hb1);(have hC1:=(Blk.new _ _ _).call hb1);simp only [World.size_alloc]at hB1 hC1;obtain⟨hc1,hf1⟩:=hA1.walk;obtain⟨hc2,hf2⟩:=hB1.walk;(have hg1:=after (w:=w) (by go_grown) hb1);(have hs1:=hg1.size);(have hz1:w.heap.size+1+1 < w1.heap.size:=hC1.lt))
  go_meet
  exact⟨rfl,Blk.put (a:=a) hA1 n,Blk.put_far hB1 (by omega) n,Blk.put_far hC1 (by omega) n,Qe hg1 (by omega) n⟩
 obtain⟨rfl,hA,hB,hC,hg⟩:=hcut;obtain⟨hc,hf⟩:=hA.walk;obtain⟨hc2,hf2⟩:=hB.walk;obtain⟨hc3,hf3⟩:=hC.walk;have hs:=hg.size;have hz:w.heap.size+1+1 < wc.heap.size:=hC.lt
 go_upto_region 2 with fail
 go_cut [6] (fun s6 wx=>s6= .pointer (some ⟨w.heap.size+1+1,0,none⟩)∧Blk wx w.heap.size 34 n.cs∧Blk wx (w.heap.size+1) 34 m.cs∧Blk wx (w.heap.size+1+1) 34 Qs.cs∧Below w.heap.size w wx)
 case first=>
  go_wp2_with (go_at_call 71;(with_reducible refine(y _).mono ?_);rintro e w2 ⟨rfl,hb2⟩;(have hA2:=hA.call hb2);(have hB2:=hB.call hb2);(have hC2:=hC.call hb2);clear hc hf hc2 hf2 hc3 hf3;obtain⟨hc,hf⟩:=hA2.walk;obtain⟨hc2,hf2⟩:=hB2.walk;obtain⟨hc3,hf3⟩:=hC2.walk;(have hg2:=after hg hb2);(have hs2:=hg2.size);(have hz2:w.heap.size+1+1 < w2.heap.size:=hC2.lt))
  go_meet
  exact⟨rfl,Blk.put_far hA2 (by omega) m,Blk.put (a:=b) hB2 m,Blk.put_far hC2 (by omega) m,Qe hg2 (by omega) m⟩
 clear hA hB hC hg hc hf hc2 hf2 hc3 hf3 hs hz x y;obtain⟨rfl,hA,hB,hC,hg⟩:=hcut;obtain⟨hc,hf⟩:=hA.walk;obtain⟨hc2,hf2⟩:=hB.walk;obtain⟨hc3,hf3⟩:=hC.walk;have hs:=hg.size;have hz:w.heap.size+1+1 < wc.heap.size:=hC.lt;have HBr:Below wc.heap.size wc wc:=Below.refl _ _;obtain⟨ne,nt,nlo,nhi,nst⟩:=n;obtain⟨me,mt,mlo,mhi,mst⟩:=m
 try dsimp only at *
 simp only [Qd.cs]at hc hc2 hc3;replace en:=en.out
 try dsimp only at en
 replace em:=em.out
 try dsimp only at em
 replace tm:=tm.out
 try dsimp only at tm
 replace sm:=sm.out
 try dsimp only at sm
 replace tn:=tn.out
 try dsimp only at tn
 subst en em tm sm tn
 go_wp2_with (go_at_call 19;(with_reducible refine(Z1 _).mono ?_);rintro e wk ⟨rfl,hb⟩;(first|(replace HB:=after HB hb)|(have HB:=hb));clear hc hf hc2 hf2 hc3 hf3;obtain⟨hc,hf⟩:=(hA.call HB).walk;obtain⟨hc2,hf2⟩:=(hB.call HB).walk;obtain⟨hc3,hf3⟩:=(hC.call HB).walk;simp only [Qd.cs]at hc hc2 hc3)
 exact bodyPost_ret (v:=(Qp).val) (Qf rfl rfl ((hC.call HB).put (a:=Qs) Qp)) rfl ⟨rfl,Qe (after hg HB) (by omega) Qp⟩
set_option maxRecDepth 100000 in
set_option maxHeartbeats 8000000 in
theorem Qs9(a b n m:Qd)(hn:n.wf)(en:Hid (n.e=false))(em:Hid (m.e=false))(tm:Hid (m.t=false))(sm:Hid (m.st=0))(m0:0≤m.lo)(m1:m.lo < 4294967296)(tn:Hid (n.t=false))(sn:Hid ((n.st==0)=false))(P:Int)(P0:1≤P)(P1:P≤2147483648)(p:∀w,Calls Tryz.prog 111 #[.int .u32 m.lo] w fun e w'=>e= .returned (.int .i64 P)∧w=w')(R:Qd)(z:∀w,Calls Tryz.prog 73 #[.int .i64 (n.lo / P),.int .i64 (n.hi / P),.int .i64 1] w (Ret R.val w))
 (x:∀w,Calls Tryz.prog 71 #[a.val] w (Ret n.val w)) (y:∀w,Calls Tryz.prog 71 #[b.val] w (Ret m.val w)) (w:World) :
 Calls Tryz.prog 78 #[.int .i64 10,a.val,b.val] w (Ret R.val w):=by
 obtain⟨n0,n1,n2,n3,n4,n5⟩:=hn;have Pn:P≠0:=by omega
 go_enter Tryz.func78,Tryz.ntmps78
 go_upto_region 1 with fail
 go_cut [6] (fun s6 wx=>s6= .pointer (some ⟨w.heap.size+1+1,0,none⟩)∧Blk wx w.heap.size 34 n.cs∧Blk wx (w.heap.size+1) 34 b.cs∧Blk wx (w.heap.size+1+1) 34 Qs.cs∧Below w.heap.size w wx)
 case first=>
  go_wp2_with (go_at_call 71;(with_reducible refine(x _).mono ?_);rintro e w1 ⟨rfl,hb1⟩;(have hA1:=(((Blk.new _ _ _).alloc _).alloc _).call hb1);(have hB1:=((Blk.new _ _ _).alloc _).call hb1);(have hC1:=(Blk.new _ _ _).call hb1);simp only [World.size_alloc]at hB1 hC1;obtain⟨hc1,hf1⟩:=hA1.walk;obtain⟨hc2,hf2⟩:=hB1.walk;(have hg1:=after (w:=w) (by go_grown) hb1);(have hs1:=hg1.size);(have hz1:w.heap.size+1+1 < w1.heap.size:=hC1.lt))
  go_meet
  exact⟨rfl,Blk.put (a:=a) hA1 n,Blk.put_far hB1 (by omega) n,Blk.put_far hC1 (by omega) n,Qe hg1 (by omega) n⟩
 obtain⟨rfl,hA,hB,hC,hg⟩:=hcut;obtain⟨hc,hf⟩:=hA.walk;obtain⟨hc2,hf2⟩:=hB.walk;obtain⟨hc3,hf3⟩:=hC.walk;have hs:=hg.size;have hz:w.heap.size+1+1 < wc.heap.size:=hC.lt
 go_upto_region 2 with fail
 go_cut [6] (fun s6 wx=>s6= .pointer (some ⟨w.heap.size+1+1,0,none⟩)∧Blk wx w.heap.size 34 n.cs∧Blk wx (w.heap.size+1) 34 m.cs∧Blk wx (w.heap.size+1+1) 34 Qs.cs∧Below w.heap.size w wx)
 case first=>
  go_wp2_with (go_at_call 71;(with_reducible refine(y _).mono ?_);rintro e w2 ⟨rfl,hb2⟩;(have hA2:=hA.call hb2);(have hB2:=hB.call hb2);(have hC2:=hC.call hb2);clear hc hf hc2 hf2 hc3 hf3;obtain⟨hc,hf⟩:=hA2.walk;obtain⟨hc2,hf2⟩:=hB2.walk;obtain⟨hc3,hf3⟩:=hC2.walk;(have hg2:=after hg hb2);(have hs2:=hg2.size);(have hz2:w.heap.size+1+1 < w2.heap.size:=hC2.lt))
  go_meet
  exact⟨rfl,Blk.put_far hA2 (by omega) m,Blk.put (a:=b) hB2 m,Blk.put_far hC2 (by omega) m,Qe hg2 (by omega) m⟩
 clear hA hB hC hg hc hf hc2 hf2 hc3 hf3 hs hz x y;obtain⟨rfl,hA,hB,hC,hg⟩:=hcut;obtain⟨hc,hf⟩:=hA.walk;obtain⟨hc2,hf2⟩:=hB.walk;obtain⟨hc3,hf3⟩:=hC.walk;have hs:=hg.size;have hz:w.heap.size+1+1 < wc.heap.size:=hC.lt;have HBr:Below wc.heap.size wc wc:=Below.refl _ _;obtain⟨ne,nt,nlo,nhi,nst⟩:=n;obtain⟨me,mt,mlo,mhi,mst⟩:=m
 try dsimp only at *
 simp only [Qd.cs]at hc hc2 hc3;replace en:=en.out
 try dsimp only at en
 replace em:=em.out
 try dsimp only at em
 replace tm:=tm.out
 try dsimp only at tm
 replace sm:=sm.out
 try dsimp only at sm
 replace tn:=tn.out
 try dsimp only at tn
 subst en em tm sm tn;replace sn:=sn.out
 try dsimp only at sn
 go_wp2_with (go_at_call 111;(with_reducible refine(p _).mono ?_);rintro e w3 ⟨rfl,rfl⟩)
 have q1:=IntWalk.i64_quo nlo P ⟨n0,by omega,P0⟩
 have q2:=IntWalk.i64_quo nhi P ⟨n2,by omega,P0⟩
 have q3:=IntWalk.i64_in nlo ⟨by omega,by omega⟩
 have q4:=IntWalk.i64_in nhi ⟨by omega,by omega⟩
 refine Vi 10 (by kernel_rfl) (by kernel_rfl) ?_
 simp only [List.take_succ_cons,List.take_zero,List.drop_succ_cons,List.drop_zero]
 repeat still_step
 refine wpStill_nil ?_;clear q1 q2 q3 q4;have HB:=(Below.refl wc.heap.size wc).drew
 go_wp2_with (go_at_call 73;(with_reducible refine(z _).mono ?_);rintro e wk ⟨rfl,hb⟩;(first|(replace HB:=after HB hb)|(have HB:=hb));clear hc hf hc2 hf2 hc3 hf3;obtain⟨hc,hf⟩:=(hA.call HB).walk;obtain⟨hc2,hf2⟩:=(hB.call HB).walk;obtain⟨hc3,hf3⟩:=(hC.call HB).walk;simp only [Qd.cs]at hc hc2 hc3)
 exact bodyPost_ret (v:=(R).val) (Qf rfl rfl ((hC.call HB).put (a:=Qs) R)) rfl ⟨rfl,Qe (after hg HB) (by omega) R⟩
end Go.Proofs.YteplnamfpodmlaaGreat
end
section
namespace Go.Proofs.YteplnamfpodmlaaGreat
theorem QbL(op:Int)(n m:Qd)(P:Qd→Prop)
 (h_out:(op < 3∨(¬op < 3∧15 < op))→P Qp)
 (h_empty:¬op < 3→¬15 < op→(n.e=true∨(n.e=false∧m.e=true))→P Qt)
 (h_one:¬op < 3→¬15 < op→n.e=false→m.e=false→n.t=false→m.t=false→n.st=0→m.st=0→P (Zs (Kk (op - 3).toNat n.lo m.lo)))
 (h_cmp:(op=12∨op=13∨op=14∨op=15)→n.e=false→m.e=false→JX n m→P (Qj 0 1 1))
 (h_top:(op=7∨op=8∨op=11)→n.e=false→m.e=false→JX n m→P Qp)
 (h_sum:op=3→n.e=false→m.e=false→JX n m→P (Wg n m))
 (h_diff:op=4→n.e=false→m.e=false→JX n m→P (WB n m))
 (h_many:(op=5∨op=9∨op=6∨op=10)→n.e=false→m.e=false→(m.t=true∨(m.t=false∧(m.st==0)=false))→P Qp)
 (h_mul:op=5→n.e=false→m.e=false→m.t=false→m.st=0→(n.t=true∨(n.t=false∧(n.st==0)=false))→P (XT n m.lo))
 (h_shl:op=9→n.e=false→m.e=false→m.t=false→m.st=0→(n.t=true∨(n.t=false∧(n.st==0)=false))→P (XT n (2 ^ (m.lo % 32).toNat)))
 (h_and:op=6→n.e=false→m.e=false→m.t=false→m.st=0→(n.t=true∨(n.t=false∧(n.st==0)=false))→P (J6 n m.lo))
 (h_shr:op=10→n.e=false→m.e=false→m.t=false→m.st=0→(n.t=true∨(n.t=false∧(n.st==0)=false))→P (Qiw n m)) :
 P (Qbk op n m):=by
 unfold Qbk;by_cases c0:op < 3∨15 < op
 ·rw [if_pos c0];exact h_out (by omega)
 rw [if_neg c0];have o1:¬op < 3:=by omega
 have o2:¬15 < op:=by omega
 cases en:n.e
 ·cases em:m.e
  ·simp only [Bool.or_self,Bool.false_eq_true,if_false];cases sm:Xk m
   ·have hm:m.t=true∨(m.t=false∧(m.st==0)=false):=by
     unfold Xk at sm;rw [em]at sm;cases tm:m.t
     ·rw [tm]at sm;exact .inr ⟨rfl,by simpa using sm⟩
     ·exact .inl rfl
    have hs:JX n m:=by
     rcases hm with h|h
     ·exact .inl h
     ·exact .inr (.inl h)
    simp only [Bool.and_false,Bool.false_eq_true,if_false];by_cases c1:12≤op
    ·rw [if_pos c1];exact h_cmp (by omega) en em hs
    rw [if_neg c1];by_cases c2:op=3
    ·rw [if_pos c2];exact h_sum c2 en em hs
    rw [if_neg c2];by_cases c3:op=4
    ·rw [if_pos c3];exact h_diff c3 en em hs
    rw [if_neg c3];by_cases c4:op=7∨op=8∨op=11
    ·exact h_top c4 en em hs
    ·exact h_many (by omega) en em hm
   ·obtain⟨tm,_,stm⟩:=Qd1 sm;cases sn:Xk n
    ·have hn:n.t=true∨(n.t=false∧(n.st==0)=false):=by
      unfold Xk at sn;rw [en]at sn;cases tn:n.t
      ·rw [tn]at sn;exact .inr ⟨rfl,by simpa using sn⟩
      ·exact .inl rfl
     have hs:JX n m:=by
      rcases hn with h|h
      ·exact .inr (.inr (.inl ⟨tm,stm,h⟩))
      ·exact .inr (.inr (.inr ⟨tm,stm,h.1,h.2⟩))
     simp only [Bool.false_and,Bool.false_eq_true,if_false];by_cases c1:12≤op
     ·rw [if_pos c1];exact h_cmp (by omega) en em hs
     rw [if_neg c1];by_cases c2:op=3
     ·rw [if_pos c2];exact h_sum c2 en em hs
     rw [if_neg c2];by_cases c3:op=4
     ·rw [if_pos c3];exact h_diff c3 en em hs
     rw [if_neg c3,if_pos trivial];by_cases c5:op=5
     ·rw [if_pos c5];exact h_mul c5 en em tm stm hn
     rw [if_neg c5];by_cases c9:op=9
     ·rw [if_pos c9];exact h_shl c9 en em tm stm hn
     rw [if_neg c9];by_cases c6:op=6
     ·rw [if_pos c6];exact h_and c6 en em tm stm hn
     rw [if_neg c6];by_cases c10:op=10
     ·rw [if_pos c10];exact h_shr c10 en em tm stm hn
     rw [if_neg c10];exact h_top (by omega) en em hs
    ·obtain⟨tn,_,stn⟩:=Qd1 sn;simp only [Bool.and_self,if_true];exact h_one o1 o2 en em tn tm stn stm
  ·simp only [Bool.or_true,if_true];exact h_empty o1 o2 (.inr ⟨en,em⟩)
 ·simp only [Bool.true_or,if_true];exact h_empty o1 o2 (.inl en)
theorem J0{n:Qd}(hv:Qx n=true)(he:n.e=false):n=Qp∨reg n:=by
 rcases Zc hv with h|h|h
 ·exact .inl h
 ·rw [h]at he;cases he
 ·exact .inr h
theorem Qlm(op:Int)(a b:Qd)(ha:a.wf)(hb:b.wf)(w:World):Calls Tryz.prog 78 #[.int .i64 op,a.val,b.val] w (Ret (Js op a b).val w):=by
 have wn:=Q8 ha;have wm:=Q8 hb;have vn:=Qz a;have vm:=Qz b;have x:=Je a ha;have y:=Je b hb;unfold Js;generalize Zb a=n at *;generalize Zb b=m at *;have p:=QaW m.lo wm.1;refine QbL op n m (fun R=>Calls Tryz.prog 78 #[.int .i64 op,a.val,b.val] w (Ret R.val w)) ?_ ?_ ?_ ?_ ?_ ?_ ?_ ?_ ?_ ?_ ?_ ?_
 ·intro h;exact Qs7 op h a b n m x y w
 ·intro o1 o2 h;exact QoI op o1 o2 a b n m h x y w
 ·intro o1 o2 en em tn tm sn sm;exact Qs6 op o1 o2 a b n m (Qq en) (Qq em) (Qq tn) (Qq tm) (Qq sn) (Qq sm) _ (fun w=>QoJ op n.lo m.lo (by omega) (by omega) wn.1 wn.2.1 wm.1 wm.2.1 w) x y w
 ·intro h en em hs;exact Qs4 op h a b n m (Qq en) (Qq em) (Qq hs) x y w
 ·intro h en em hs;exact QsB op h a b n m (Qq en) (Qq em) (Qq hs) x y w
 ·intro h en em hs;subst h;exact QsA a b n m (Qq en) (Qq em) (Qq hs) _ (QsK n m wn wm (J0 vn en) (J0 vm em)) x y w
 ·intro h en em hs;subst h;exact Qrk a b n m (Qq en) (Qq em) (Qq hs) _ (QcD n m wn wm (J0 vn en) (J0 vm em)) x y w
 ·intro h en em hs;exact Qrl op h a b n m (Qq en) (Qq em) (Qq hs) x y w
 ·intro h en em tm sm hs;subst h;exact Qs5 a b n m (Qq en) (Qq em) (Qq tm) (Qq sm) wm.1 wm.2.1 (Qq hs) _ (QbY n wn (J0 vn en) m.lo wm.1 wm.2.1) x y w
 ·intro h en em tm sm hs;subst h;exact Qs8 a b n m (Qq en) (Qq em) (Qq tm) (Qq sm) wm.1 wm.2.1 (Qq hs) _ (fun w=>(Qfh m.lo wm.1 wm.2.1 w).mono fun e w' h=>⟨h.1,h.2.symm⟩) _ (QbY n wn (J0 vn en) _ (by omega) (by omega)) x y w
 ·intro h en em tm sm hs;subst h;exact Qs3 a b n m (Qq en) (Qq em) (Qq tm) (Qq sm) wm.1 wm.2.1 (Qq hs) _ (QqV n wn m.lo wm.1 wm.2.1) x y w
 ·intro h en em tm sm hs;subst h;unfold Qiw;rcases hs with tn|⟨tn,sn⟩
  ·rw [tn];exact Qig a b n m (Qq en) (Qq em) (Qq tm) (Qq sm) (Qq tn) x y w
  ·rw [tn];have k1:=K2 7 n.lo m.lo wn.1 wn.2.1 wm.1 wm.2.1;have k2:=K2 7 n.hi m.lo wn.2.2.1 wn.2.2.2.1 wm.1 wm.2.1;have e1:Kk 7 n.lo m.lo=W8 n.lo m.lo:=rfl;have e2:Kk 7 n.hi m.lo=W8 n.hi m.lo:=rfl;rw [e1]at k1;rw [e2]at k2
   exact Qs9 a b n m wn (Qq en) (Qq em) (Qq tm) (Qq sm) wm.1 wm.2.1 (Qq tn) (Qq sn) _ (by omega) p.2 (Qfh m.lo wm.1 wm.2.1) _ (QN (W8 n.lo m.lo) (W8 n.hi m.lo) 1 k1.1 (by omega) k2.1 k2.2 (by omega) (by omega)) x y w
end Go.Proofs.YteplnamfpodmlaaGreat
end
