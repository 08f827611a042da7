/-
  Part of the proof.
-/
import Derived.Test.YteplnamfpodmlaaGreatQVaA
set_option linter.unusedVariables false
set_option linter.unusedSimpArgs false
set_option maxRecDepth 100000
open Go.ChangeShapes Go.WideShapes Go.ChangeAt Go.RowKit
section
namespace Go.Proofs.YteplnamfpodmlaaGreat
theorem Q8{s:Qd}(h:s.wf):(Zb s).wf:=by
 unfold Zb;cases Qx s
 ·show(0:Int)≤0∧(0:Int) < 4294967296∧(0:Int)≤0∧(0:Int) < 4294967296∧(0:Int)≤0∧(0:Int) < 4294967296;omega
 ·exact h
theorem Qz(s:Qd):Qx (Zb s)=true:=by
 unfold Zb;cases h:Qx s
 ·rfl
 ·exact h
theorem Zl{s:Qd}(h:Qx s=true):Zb s=s:=by unfold Zb;rw [h];rfl
theorem Ki(lo hi st:Int)(hv:Qx ⟨false,false,lo,hi,st⟩=true):(st=0∧lo=hi)∨(st≠0∧lo < hi∧(hi - lo) % st=0∧(0 < lo∨hi < 4294967295∨1 < st)):=by
 by_cases c:st=0
 ·subst c;rw [Qbd,beq_iff_eq]at hv;exact .inl ⟨rfl,hv⟩
 ·rw [Qbc lo hi st c]at hv;simp only [Bool.and_eq_true,Bool.or_eq_true,decide_eq_true_eq,beq_iff_eq]at hv;exact .inr ⟨c,hv.1.1,hv.1.2,by rcases hv.2 with (h|h)|h;exact .inl h;exact .inr (.inl h);exact .inr (.inr h)⟩
def Qw(s:Qd)(n:Int):Bool:=
 if s.t || s.e then s.t else if s.st==0 then n==s.lo else decide (s.lo≤n) && (decide (n≤s.hi) && ((n - s.lo) % s.st==0))
def K4(s:Qd)(n:Int):Bool:=Qw (Zb s) n
def Q6(s:Qd):Int:=if s.t then 4294967296 else if s.e then 0 else if s.st==0 then 1 else(s.hi - s.lo) / s.st+1
def JF(s:Qd):Int:=Q6 (Zb s)
set_option maxHeartbeats 1000000 in
theorem QdR(s n:Qd)(hn:n.wf)(hv:Qx n=true)(x:∀w,Calls Tryz.prog 52 #[s.val] w (Ret n.val w))(k:Int)(k0:0≤k)(k1:k < 4294967296)(w:World) :
 Calls Tryz.prog 55 #[s.val,.int .u32 k] w (Ret (.bool (Qw n k)) w):=by
 obtain⟨e,t,lo,hi,st⟩:=n;obtain⟨l0,l1,h0,h1,s0,s1⟩:=hn
 dsimp only at l0 l1 h0 h1 s0 s1
 have y:∀w,Calls Tryz.prog 52 #[s.val] w (Ret (.agg #[.bool e,.bool t,.int .u32 lo,.int .u32 hi,.int .u32 st]) w):=x;clear x;cases t
 ·cases e
  ·rcases Ki lo hi st hv with ⟨rfl,rfl⟩|⟨c,d,m,_⟩
   ·clear hv;show Calls Tryz.prog 55 _ _ (Ret (.bool (k==lo)) w)
    go_enter Tryz.func55,Tryz.ntmps55
    go_wp2_with (first|(go_at_call 52;(with_reducible refine(y _).mono ?_);rintro e w1 ⟨rfl,hb1⟩;(have hB:=(Blk.new _ _ _).call hb1);obtain⟨hc,hf⟩:=hB.walk;(have hg:=after (w:=w) (by go_grown) hb1);(have hs1:=hg.size)))
    go_returns
    exact⟨rfl,by go_grown⟩
   ·clear hv;have c1:(st==0)=false:=by rw [beq_eq_false_iff_ne];exact c
    have E:Qw ⟨false,false,lo,hi,st⟩ k=(decide (lo≤k) && (decide (k≤hi) && ((k - lo) % st==0))):=by
     unfold Qw;simp only [Bool.or_self,Bool.false_eq_true,if_false,c1]
    rw [E];clear E m;by_cases g1:lo≤k
    ·rw [decide_eq_true g1];have g3:0≤k - lo:=by omega
     by_cases g2:k≤hi
     ·rw [decide_eq_true g2];show Calls Tryz.prog 55 _ _ (Ret (.bool ((k - lo) % st==0)) w)
      go_enter Tryz.func55,Tryz.ntmps55
      go_wp2_with (first|(go_at_call 52;(with_reducible refine(y _).mono ?_);rintro e w1 ⟨rfl,hb1⟩;(have hB:=(Blk.new _ _ _).call hb1);obtain⟨hc,hf⟩:=hB.walk;(have hg:=after (w:=w) (by go_grown) hb1);(have hs1:=hg.size)))
      go_returns
      exact⟨rfl,by go_grown⟩
     ·rw [decide_eq_false g2];show Calls Tryz.prog 55 _ _ (Ret (.bool false) w)
      go_enter Tryz.func55,Tryz.ntmps55
      go_wp2_with (first|(go_at_call 52;(with_reducible refine(y _).mono ?_);rintro e w1 ⟨rfl,hb1⟩;(have hB:=(Blk.new _ _ _).call hb1);obtain⟨hc,hf⟩:=hB.walk;(have hg:=after (w:=w) (by go_grown) hb1);(have hs1:=hg.size)))
      go_returns
      exact⟨rfl,by go_grown⟩
    ·rw [decide_eq_false g1];show Calls Tryz.prog 55 _ _ (Ret (.bool false) w)
     go_enter Tryz.func55,Tryz.ntmps55
     go_wp2_with (first|(go_at_call 52;(with_reducible refine(y _).mono ?_);rintro e w1 ⟨rfl,hb1⟩;(have hB:=(Blk.new _ _ _).call hb1);obtain⟨hc,hf⟩:=hB.walk;(have hg:=after (w:=w) (by go_grown) hb1);(have hs1:=hg.size)))
     go_returns
     exact⟨rfl,by go_grown⟩
  ·clear hv;show Calls Tryz.prog 55 _ _ (Ret (.bool false) w)
   go_enter Tryz.func55,Tryz.ntmps55
   go_wp2_with (first|(go_at_call 52;(with_reducible refine(y _).mono ?_);rintro e w1 ⟨rfl,hb1⟩;(have hB:=(Blk.new _ _ _).call hb1);obtain⟨hc,hf⟩:=hB.walk;(have hg:=after (w:=w) (by go_grown) hb1);(have hs1:=hg.size)))
   go_returns
   exact⟨rfl,by go_grown⟩
 ·clear hv;show Calls Tryz.prog 55 _ _ (Ret (.bool true) w)
  go_enter Tryz.func55,Tryz.ntmps55
  go_wp2_with (first|(go_at_call 52;(with_reducible refine(y _).mono ?_);rintro e w1 ⟨rfl,hb1⟩;(have hB:=(Blk.new _ _ _).call hb1);obtain⟨hc,hf⟩:=hB.walk;(have hg:=after (w:=w) (by go_grown) hb1);(have hs1:=hg.size)))
  go_returns
  exact⟨rfl,by go_grown⟩
theorem Vh(s:Qd)(hs:s.wf)(k:Int)(k0:0≤k)(k1:k < 4294967296)(w:World) :
 Calls Tryz.prog 55 #[s.val,.int .u32 k] w (Ret (.bool (K4 s k)) w):=
 QdR s _ (Q8 hs) (Qz s) (ZS s hs) k k0 k1 w
set_option maxHeartbeats 1000000 in
theorem Qk4(s n:Qd)(hn:n.wf)(hv:Qx n=true)(x:∀w,Calls Tryz.prog 52 #[s.val] w (Ret n.val w))(w:World) :
 Calls Tryz.prog 53 #[s.val] w (Ret (.int .i64 (Q6 n)) w):=by
 obtain⟨e,t,lo,hi,st⟩:=n;obtain⟨l0,l1,h0,h1,s0,s1⟩:=hn
 dsimp only at l0 l1 h0 h1 s0 s1
 have y:∀w,Calls Tryz.prog 52 #[s.val] w (Ret (.agg #[.bool e,.bool t,.int .u32 lo,.int .u32 hi,.int .u32 st]) w):=x;clear x;cases t
 ·cases e
  ·rcases Ki lo hi st hv with ⟨rfl,rfl⟩|⟨c,d,m,_⟩
   ·clear hv;show Calls Tryz.prog 53 _ _ (Ret (.int .i64 1) w)
    go_enter Tryz.func53,Tryz.ntmps53
    go_wp2_with (first|(go_at_call 52;(with_reducible refine(y _).mono ?_);rintro e w1 ⟨rfl,hb1⟩;(have hB:=(Blk.new _ _ _).call hb1);obtain⟨hc,hf⟩:=hB.walk;(have hg:=after (w:=w) (by go_grown) hb1);(have hs1:=hg.size)))
    go_returns
    exact⟨rfl,by go_grown⟩
   ·clear hv;have c1:(st==0)=false:=by rw [beq_eq_false_iff_ne];exact c
    have E:Q6 ⟨false,false,lo,hi,st⟩=(hi - lo) / st+1:=by
     unfold Q6;simp only [Bool.false_eq_true,if_false,c1]
    rw [E];clear E m;have g3:0≤hi - lo:=by omega
    have g4:1≤st:=by omega
    have g5:0≤(hi - lo) / st:=Int.ediv_nonneg g3 s0;have g6:(hi - lo) / st≤hi - lo:=Int.ediv_le_self _ g3;show Calls Tryz.prog 53 _ _ (Ret (.int .i64 ((hi - lo) / st+1)) w)
    go_enter Tryz.func53,Tryz.ntmps53
    go_wp2_with (first|(go_at_call 52;(with_reducible refine(y _).mono ?_);rintro e w1 ⟨rfl,hb1⟩;(have hB:=(Blk.new _ _ _).call hb1);obtain⟨hc,hf⟩:=hB.walk;(have hg:=after (w:=w) (by go_grown) hb1);(have hs1:=hg.size)))
    go_returns
    exact⟨rfl,by go_grown⟩
  ·clear hv;show Calls Tryz.prog 53 _ _ (Ret (.int .i64 0) w)
   go_enter Tryz.func53,Tryz.ntmps53
   go_wp2_with (first|(go_at_call 52;(with_reducible refine(y _).mono ?_);rintro e w1 ⟨rfl,hb1⟩;(have hB:=(Blk.new _ _ _).call hb1);obtain⟨hc,hf⟩:=hB.walk;(have hg:=after (w:=w) (by go_grown) hb1);(have hs1:=hg.size)))
   go_returns
   exact⟨rfl,by go_grown⟩
 ·clear hv;have E:Q6 ⟨e,true,lo,hi,st⟩=4294967296:=rfl;rw [E];clear E;show Calls Tryz.prog 53 _ _ (Ret (.int .i64 4294967296) w)
  go_enter Tryz.func53,Tryz.ntmps53
  go_wp2_with (first|(go_at_call 52;(with_reducible refine(y _).mono ?_);rintro e w1 ⟨rfl,hb1⟩;(have hB:=(Blk.new _ _ _).call hb1);obtain⟨hc,hf⟩:=hB.walk;(have hg:=after (w:=w) (by go_grown) hb1);(have hs1:=hg.size)))
  go_returns
  exact⟨rfl,by go_grown⟩
theorem Qbm(s:Qd)(hs:s.wf)(w:World) :
 Calls Tryz.prog 53 #[s.val] w (Ret (.int .i64 (JF s)) w):=
 Qk4 s _ (Q8 hs) (Qz s) (ZS s hs) w
end Go.Proofs.YteplnamfpodmlaaGreat
end
section
namespace Go.Proofs.YteplnamfpodmlaaGreat
set_option maxHeartbeats 1000000 in
theorem Qdk(s n:Qd)(hn:n.wf)(hv:Qx n=true)(x:∀w,Calls Tryz.prog 71 #[s.val] w (Ret n.val w))(k:Int)(k0:0≤k)(k1:k < 4294967296)(w:World) :
 Calls Tryz.prog 113 #[s.val,.int .u32 k] w (Ret (.bool (Qw n k)) w):=by
 obtain⟨e,t,lo,hi,st⟩:=n;obtain⟨l0,l1,h0,h1,s0,s1⟩:=hn
 dsimp only at l0 l1 h0 h1 s0 s1
 have y:∀w,Calls Tryz.prog 71 #[s.val] w (Ret (.agg #[.bool e,.bool t,.int .u32 lo,.int .u32 hi,.int .u32 st]) w):=x;clear x;cases t
 ·cases e
  ·rcases Ki lo hi st hv with ⟨rfl,rfl⟩|⟨c,d,m,_⟩
   ·clear hv;by_cases g1:k < lo
    ·have E:Qw ⟨false,false,lo,lo,0⟩ k=false:=by show(k==lo)=false;rw [beq_eq_false_iff_ne];omega
     rw [E];clear E;show Calls Tryz.prog 113 _ _ (Ret (.bool false) w)
     go_enter Tryz.func113,Tryz.ntmps113
     go_wp2_with (first|(go_at_call 71;(with_reducible refine(y _).mono ?_);rintro e w1 ⟨rfl,hb1⟩;(have hB:=(Blk.new _ _ _).call hb1);obtain⟨hc,hf⟩:=hB.walk;(have hg:=after (w:=w) (by go_grown) hb1);(have hs1:=hg.size)))
     go_returns
     exact⟨rfl,by go_grown⟩
    ·by_cases g2:lo < k
     ·have E:Qw ⟨false,false,lo,lo,0⟩ k=false:=by show(k==lo)=false;rw [beq_eq_false_iff_ne];omega
      rw [E];clear E;show Calls Tryz.prog 113 _ _ (Ret (.bool false) w)
      go_enter Tryz.func113,Tryz.ntmps113
      go_wp2_with (first|(go_at_call 71;(with_reducible refine(y _).mono ?_);rintro e w1 ⟨rfl,hb1⟩;(have hB:=(Blk.new _ _ _).call hb1);obtain⟨hc,hf⟩:=hB.walk;(have hg:=after (w:=w) (by go_grown) hb1);(have hs1:=hg.size)))
      go_returns
      exact⟨rfl,by go_grown⟩
     ·have E:Qw ⟨false,false,lo,lo,0⟩ k=true:=by show(k==lo)=true;rw [beq_iff_eq];omega
      rw [E];clear E;show Calls Tryz.prog 113 _ _ (Ret (.bool true) w)
      go_enter Tryz.func113,Tryz.ntmps113
      go_wp2_with (first|(go_at_call 71;(with_reducible refine(y _).mono ?_);rintro e w1 ⟨rfl,hb1⟩;(have hB:=(Blk.new _ _ _).call hb1);obtain⟨hc,hf⟩:=hB.walk;(have hg:=after (w:=w) (by go_grown) hb1);(have hs1:=hg.size)))
      go_returns
      exact⟨rfl,by go_grown⟩
   ·clear hv;have c1:(st==0)=false:=by rw [beq_eq_false_iff_ne];exact c
    have E:Qw ⟨false,false,lo,hi,st⟩ k=(decide (lo≤k) && (decide (k≤hi) && ((k - lo) % st==0))):=by
     unfold Qw;simp only [Bool.or_self,Bool.false_eq_true,if_false,c1]
    rw [E];clear E m;by_cases g1:lo≤k
    ·rw [decide_eq_true g1];have g3:0≤k - lo:=by omega
     by_cases g2:k≤hi
     ·rw [decide_eq_true g2];show Calls Tryz.prog 113 _ _ (Ret (.bool ((k - lo) % st==0)) w)
      go_enter Tryz.func113,Tryz.ntmps113
      go_wp2_with (first|(go_at_call 71;(with_reducible refine(y _).mono ?_);rintro e w1 ⟨rfl,hb1⟩;(have hB:=(Blk.new _ _ _).call hb1);obtain⟨hc,hf⟩:=hB.walk;(have hg:=after (w:=w) (by go_grown) hb1);(have hs1:=hg.size)))
      go_returns
      exact⟨rfl,by go_grown⟩
     ·rw [decide_eq_false g2];show Calls Tryz.prog 113 _ _ (Ret (.bool false) w)
      go_enter Tryz.func113,Tryz.ntmps113
      go_wp2_with (first|(go_at_call 71;(with_reducible refine(y _).mono ?_);rintro e w1 ⟨rfl,hb1⟩;(have hB:=(Blk.new _ _ _).call hb1);obtain⟨hc,hf⟩:=hB.walk;(have hg:=after (w:=w) (by go_grown) hb1);(have hs1:=hg.size)))
      go_returns
      exact⟨rfl,by go_grown⟩
    ·rw [decide_eq_false g1];show Calls Tryz.prog 113 _ _ (Ret (.bool false) w)
     go_enter Tryz.func113,Tryz.ntmps113
     go_wp2_with (first|(go_at_call 71;(with_reducible refine(y _).mono ?_);rintro e w1 ⟨rfl,hb1⟩;(have hB:=(Blk.new _ _ _).call hb1);obtain⟨hc,hf⟩:=hB.walk;(have hg:=after (w:=w) (by go_grown) hb1);(have hs1:=hg.size)))
     go_returns
     exact⟨rfl,by go_grown⟩
  ·clear hv;show Calls Tryz.prog 113 _ _ (Ret (.bool false) w)
   go_enter Tryz.func113,Tryz.ntmps113
   go_wp2_with (first|(go_at_call 71;(with_reducible refine(y _).mono ?_);rintro e w1 ⟨rfl,hb1⟩;(have hB:=(Blk.new _ _ _).call hb1);obtain⟨hc,hf⟩:=hB.walk;(have hg:=after (w:=w) (by go_grown) hb1);(have hs1:=hg.size)))
   go_returns
   exact⟨rfl,by go_grown⟩
 ·clear hv;show Calls Tryz.prog 113 _ _ (Ret (.bool true) w)
  go_enter Tryz.func113,Tryz.ntmps113
  go_wp2_with (first|(go_at_call 71;(with_reducible refine(y _).mono ?_);rintro e w1 ⟨rfl,hb1⟩;(have hB:=(Blk.new _ _ _).call hb1);obtain⟨hc,hf⟩:=hB.walk;(have hg:=after (w:=w) (by go_grown) hb1);(have hs1:=hg.size)))
  go_returns
  exact⟨rfl,by go_grown⟩
theorem Yl(s:Qd)(hs:s.wf)(k:Int)(k0:0≤k)(k1:k < 4294967296)(w:World) :
 Calls Tryz.prog 113 #[s.val,.int .u32 k] w (Ret (.bool (K4 s k)) w):=
 Qdk s _ (Q8 hs) (Qz s) (Je s hs) k k0 k1 w
set_option maxHeartbeats 1000000 in
theorem Qii(s n:Qd)(hn:n.wf)(hv:Qx n=true)(x:∀w,Calls Tryz.prog 71 #[s.val] w (Ret n.val w))(w:World) :
 Calls Tryz.prog 120 #[s.val] w (Ret (.int .i64 (Q6 n)) w):=by
 obtain⟨e,t,lo,hi,st⟩:=n;obtain⟨l0,l1,h0,h1,s0,s1⟩:=hn
 dsimp only at l0 l1 h0 h1 s0 s1
 have y:∀w,Calls Tryz.prog 71 #[s.val] w (Ret (.agg #[.bool e,.bool t,.int .u32 lo,.int .u32 hi,.int .u32 st]) w):=x;clear x;cases t
 ·cases e
  ·rcases Ki lo hi st hv with ⟨rfl,rfl⟩|⟨c,d,m,_⟩
   ·clear hv;show Calls Tryz.prog 120 _ _ (Ret (.int .i64 1) w)
    go_enter Tryz.func120,Tryz.ntmps120
    go_wp2_with (first|(go_at_call 71;(with_reducible refine(y _).mono ?_);rintro e w1 ⟨rfl,hb1⟩;(have hB:=(Blk.new _ _ _).call hb1);obtain⟨hc,hf⟩:=hB.walk;(have hg:=after (w:=w) (by go_grown) hb1);(have hs1:=hg.size)))
    go_returns
    exact⟨rfl,by go_grown⟩
   ·clear hv;have c1:(st==0)=false:=by rw [beq_eq_false_iff_ne];exact c
    have E:Q6 ⟨false,false,lo,hi,st⟩=(hi - lo) / st+1:=by
     unfold Q6;simp only [Bool.false_eq_true,if_false,c1]
    rw [E];clear E m;have g3:0≤hi - lo:=by omega
    have g4:1≤st:=by omega
    have g5:0≤(hi - lo) / st:=Int.ediv_nonneg g3 s0;have g6:(hi - lo) / st≤hi - lo:=Int.ediv_le_self _ g3;show Calls Tryz.prog 120 _ _ (Ret (.int .i64 ((hi - lo) / st+1)) w)
    go_enter Tryz.func120,Tryz.ntmps120
    go_wp2_with (first|(go_at_call 71;(with_reducible refine(y _).mono ?_);rintro e w1 ⟨rfl,hb1⟩;(have hB:=(Blk.new _ _ _).call hb1);obtain⟨hc,hf⟩:=hB.walk;(have hg:=after (w:=w) (by go_grown) hb1);(have hs1:=hg.size)))
    go_returns
    exact⟨rfl,by go_grown⟩
  ·clear hv;show Calls Tryz.prog 120 _ _ (Ret (.int .i64 0) w)
   go_enter Tryz.func120,Tryz.ntmps120
   go_wp2_with (first|(go_at_call 71;(with_reducible refine(y _).mono ?_);rintro e w1 ⟨rfl,hb1⟩;(have hB:=(Blk.new _ _ _).call hb1);obtain⟨hc,hf⟩:=hB.walk;(have hg:=after (w:=w) (by go_grown) hb1);(have hs1:=hg.size)))
   go_returns
   exact⟨rfl,by go_grown⟩
 ·clear hv;have E:Q6 ⟨e,true,lo,hi,st⟩=4294967296:=rfl;rw [E];clear E;show Calls Tryz.prog 120 _ _ (Ret (.int .i64 4294967296) w)
  go_enter Tryz.func120,Tryz.ntmps120
  go_wp2_with (first|(go_at_call 71;(with_reducible refine(y _).mono ?_);rintro e w1 ⟨rfl,hb1⟩;(have hB:=(Blk.new _ _ _).call hb1);obtain⟨hc,hf⟩:=hB.walk;(have hg:=after (w:=w) (by go_grown) hb1);(have hs1:=hg.size)))
  go_returns
  exact⟨rfl,by go_grown⟩
theorem Qau(s:Qd)(hs:s.wf)(w:World) :
 Calls Tryz.prog 120 #[s.val] w (Ret (.int .i64 (JF s)) w):=
 Qii s _ (Q8 hs) (Qz s) (Je s hs) w
set_option maxHeartbeats 1000000 in
theorem QN(lo hi st:Int)(l0:0≤lo)(l1:lo < 1099511627776)(h0:0≤hi)(h1:hi < 4294967296)(s0:0≤st)(s1:st < 4294967296)(w:World) :
 Calls Tryz.prog 73 #[.int .i64 lo,.int .i64 hi,.int .i64 st] w (Ret (Qj lo hi st).val w):=by
 by_cases c1:hi < lo
 ·have e:Qj lo hi st=Qt:=by unfold Qj;rw [if_pos c1]
  rw [e];clear e
  go_enter Tryz.func73,Tryz.ntmps73
  go_wp2
  go_returns
  exact⟨rfl,by go_grown⟩
 have l2:lo < 4294967296:=by omega
 have l3:lo % 4294967296=lo:=by omega
 by_cases c2:st=0
 ·have e:Qj lo hi st=Zs lo:=by unfold Qj;rw [if_neg c1,if_pos c2]
  rw [e];clear e;subst c2
  go_enter Tryz.func73,Tryz.ntmps73
  go_wp2
  go_returns
  exact⟨rfl,by go_grown⟩
 have c3':(st==0)=false:=by rw [beq_eq_false_iff_ne];exact c2
 have g1:1≤st:=by omega
 have g2:0≤hi - lo:=by omega
 have g3:0≤(hi - lo) / st * st:=Int.mul_nonneg (Int.ediv_nonneg g2 s0) s0;have g4:(hi - lo) / st * st≤hi - lo:=Int.ediv_mul_le _ c2;have g7:0≤(hi - lo) / st:=Int.ediv_nonneg g2 s0;have g8:(hi - lo) / st≤hi - lo:=Int.ediv_le_self _ g2;by_cases c3:hi - lo < st
 ·have e:Qj lo hi st=Zs lo:=by unfold Qj;rw [if_neg c1,if_neg c2,if_pos c3]
  rw [e];clear e;have g5:(hi - lo) / st=0:=Int.ediv_eq_zero_of_lt g2 c3;clear g3 g4 g7 g8
  go_enter Tryz.func73,Tryz.ntmps73
  go_wp2
  go_returns
  exact⟨rfl,by go_grown⟩
 have g6:(lo==lo+(hi - lo) / st * st)=false:=by
  rw [beq_eq_false_iff_ne];have a1:1≤(hi - lo) / st:=(Int.le_ediv_iff_mul_le (by omega)).2 (by omega)
  have a2:1 * st≤(hi - lo) / st * st:=Int.mul_le_mul_of_nonneg_right a1 s0;omega
 by_cases c4:lo=0∧hi=4294967295∧st=1
 ·have e:Qj lo hi st=Qp:=by unfold Qj;rw [if_neg c1,if_neg c2,if_neg c3,if_pos c4]
  rw [e];clear e;obtain⟨rfl,rfl,rfl⟩:=c4;clear g3 g4 g6 g7 g8
  go_enter Tryz.func73,Tryz.ntmps73
  go_wp2
  go_returns
  exact⟨rfl,by go_grown⟩
 have e:Qj lo hi st=⟨false,false,lo,lo+(hi - lo) / st * st,st⟩:=by
  unfold Qj;rw [if_neg c1,if_neg c2,if_neg c3,if_neg c4];have:=Int.emod_def (hi - lo) st;rw [this,Int.mul_comm];congr 1;omega
 rw [e];clear e
 have c6:(lo==0)=false∨(lo==0)=true∧(lo+(hi - lo) / st * st==4294967295)=false∨(lo==0)=true∧(lo+(hi - lo) / st * st==4294967295)=true∧(st==1)=false:=by
  cases h1:(lo==0)
  ·exact .inl rfl
  ·cases h2:(lo+(hi - lo) / st * st==4294967295)
   ·exact .inr (.inl ⟨rfl,rfl⟩)
   ·refine .inr (.inr ⟨rfl,rfl,?_⟩);rw [beq_eq_false_iff_ne];rw [beq_iff_eq]at h1 h2;intro h3;exact c4 ⟨h1,by omega,h3⟩
 have m1:lo+(hi - lo) / st * st < 4294967296:=by omega
 have m2:0≤lo+(hi - lo) / st * st:=by omega
 have m3:(lo+(hi - lo) / st * st) % 4294967296=lo+(hi - lo) / st * st:=Int.emod_eq_of_lt m2 m1;clear c4;rcases c6 with d1|⟨d1,d2⟩|⟨d1,d2,d3⟩
 ·go_enter Tryz.func73,Tryz.ntmps73
  go_wp2
  go_returns
  exact⟨rfl,by go_grown⟩
 ·go_enter Tryz.func73,Tryz.ntmps73
  go_wp2
  go_returns
  exact⟨rfl,by go_grown⟩
 ·go_enter Tryz.func73,Tryz.ntmps73
  go_wp2
  go_returns
  exact⟨rfl,by go_grown⟩
theorem QfR(lo hi st:Int)(l0:0≤lo)(l1:lo < 4294967296)(h0:0≤hi)(h1:hi < 4294967296)(s0:0≤st)(s1:st < 4294967296)(w:World) :
 Calls Tryz.prog 82 #[.int .u32 lo,.int .u32 hi,.int .u32 st] w (Ret (Qj lo hi st).val w):=by
 have x:=QN lo hi st l0 (by omega) h0 h1 s0 s1
 go_enter Tryz.func82,Tryz.ntmps82
 go_wp2_with (first|(go_at_call 73;(with_reducible refine(x _).mono ?_);rintro e w1 ⟨rfl,hb1⟩;(have hB:=(Blk.new _ _ _).call hb1);obtain⟨hc,hf⟩:=hB.walk;(have hg:=after (w:=w) (by go_grown) hb1);(have hs1:=hg.size)))
 exact bodyPost_ret (v:=(Qj lo hi st).val) (Qf rfl rfl (hB.put (a:=⟨false,false,0,0,0⟩) (Qj lo hi st))) rfl ⟨rfl,Qe hg (by omega) _⟩
end Go.Proofs.YteplnamfpodmlaaGreat
end
