/-
  Part of the proof.
-/
import Derived.Test.YteplnamfpodmlaaQVaA
set_option linter.unusedVariables false
set_option linter.unusedSimpArgs false
set_option maxRecDepth 100000
open Go.ChangeShapes Go.WideShapes Go.ChangeAt Go.RowKit
section
namespace Go.Proofs.Yteplnamfpodmlaa
theorem QJ{s:Qd}(h:s.wf):(ZO s).wf:=by
 unfold ZO
 cases Qq s
 ·show(0:Int)≤0∧(0:Int) < 4294967296∧(0:Int)≤0∧(0:Int) < 4294967296∧(0:Int)≤0∧(0:Int) < 4294967296;omega
 ·exact h
theorem Q2(s:Qd):Qq (ZO s)=true:=by
 unfold ZO
 cases h:Qq s
 ·rfl
 ·exact h
theorem Zm{s:Qd}(h:Qq s=true):ZO s=s:=by unfold ZO;rw [h];rfl
theorem Yo(lo hi st:Int)(hv:Qq ⟨false,false,lo,hi,st⟩=true):(st=0∧lo=hi)∨(st≠0∧lo < hi∧(hi - lo) % st=0∧(0 < lo∨hi < 4294967295∨1 < st)):=by
 by_cases c:st=0
 ·subst c;rw [QbD,beq_iff_eq]at hv;exact .inl ⟨rfl,hv⟩
 ·rw [QbC lo hi st c]at hv
  simp only [Bool.and_eq_true,Bool.or_eq_true,decide_eq_true_eq,beq_iff_eq]at hv
  exact .inr ⟨c,hv.1.1,hv.1.2,by rcases hv.2 with (h|h)|h;exact .inl h;exact .inr (.inl h);exact .inr (.inr h)⟩
def Qm(s:Qd)(n:Int):Bool:=
 if s.t || s.e then s.t else if s.st==0 then n==s.lo else decide (s.lo≤n) && (decide (n≤s.hi) && ((n - s.lo) % s.st==0))
def Qz(s:Qd)(n:Int):Bool:=Qm (ZO s) n
def QO(s:Qd):Int:=if s.t then 4294967296 else if s.e then 0 else if s.st==0 then 1 else(s.hi - s.lo) / s.st+1
def Vl(s:Qd):Int:=QO (ZO s)
set_option maxHeartbeats 1000000 in
theorem Qex(s n:Qd)(hn:n.wf)(hv:Qq n=true)(x:∀w,Calls Try.prog 87 #[s.val] w (Ret n.val w))(k:Int)(k0:0≤k)(k1:k < 4294967296)(w:World) :
 Calls Try.prog 68 #[s.val,.int .u32 k] w (Ret (.bool (Qm n k)) w):=by
 obtain⟨e,t,lo,hi,st⟩:=n
 obtain⟨l0,l1,h0,h1,s0,s1⟩:=hn
 dsimp only at l0 l1 h0 h1 s0 s1
 have y:∀w,Calls Try.prog 87 #[s.val] w (Ret (.agg #[.bool e,.bool t,.int .u32 lo,.int .u32 hi,.int .u32 st]) w):=x
 clear x
 cases t
 ·cases e
  ·rcases Yo lo hi st hv with ⟨rfl,rfl⟩|⟨c,d,m,_⟩
   ·clear hv
    show Calls Try.prog 68 _ _ (Ret (.bool (k==lo)) w)
    go_enter Try.func68,Try.ntmps68
    go_wp2_with (first|(go_at_call 87;(with_reducible refine(y _).mono ?_);rintro e w1 ⟨rfl,hb1⟩;(have hB:=(Blk.new _ _ _).call hb1);obtain⟨hc,hf⟩:=hB.walk;(have hg:=after (w:=w) (by go_grown) hb1);(have hs1:=hg.size)))
    go_returns
    exact⟨rfl,by go_grown⟩
   ·clear hv
    have c1:(st==0)=false:=by rw [beq_eq_false_iff_ne];exact c
    have E:Qm ⟨false,false,lo,hi,st⟩ k=(decide (lo≤k) && (decide (k≤hi) && ((k - lo) % st==0))):=by
     unfold Qm;simp only [Bool.or_self,Bool.false_eq_true,if_false,c1]
    rw [E]
    clear E m
    by_cases g1:lo≤k
    ·rw [decide_eq_true g1]
     have g3:0≤k - lo:=by omega
     by_cases g2:k≤hi
     ·rw [decide_eq_true g2]
      show Calls Try.prog 68 _ _ (Ret (.bool ((k - lo) % st==0)) w)
      go_enter Try.func68,Try.ntmps68
      go_wp2_with (first|(go_at_call 87;(with_reducible refine(y _).mono ?_);rintro e w1 ⟨rfl,hb1⟩;(have hB:=(Blk.new _ _ _).call hb1);obtain⟨hc,hf⟩:=hB.walk;(have hg:=after (w:=w) (by go_grown) hb1);(have hs1:=hg.size)))
      go_returns
      exact⟨rfl,by go_grown⟩
     ·rw [decide_eq_false g2]
      show Calls Try.prog 68 _ _ (Ret (.bool false) w)
      go_enter Try.func68,Try.ntmps68
      go_wp2_with (first|(go_at_call 87;(with_reducible refine(y _).mono ?_);rintro e w1 ⟨rfl,hb1⟩;(have hB:=(Blk.new _ _ _).call hb1);obtain⟨hc,hf⟩:=hB.walk;(have hg:=after (w:=w) (by go_grown) hb1);(have hs1:=hg.size)))
      go_returns
      exact⟨rfl,by go_grown⟩
    ·rw [decide_eq_false g1]
     show Calls Try.prog 68 _ _ (Ret (.bool false) w)
     go_enter Try.func68,Try.ntmps68
     go_wp2_with (first|(go_at_call 87;(with_reducible refine(y _).mono ?_);rintro e w1 ⟨rfl,hb1⟩;(have hB:=(Blk.new _ _ _).call hb1);obtain⟨hc,hf⟩:=hB.walk;(have hg:=after (w:=w) (by go_grown) hb1);(have hs1:=hg.size)))
     go_returns
     exact⟨rfl,by go_grown⟩
  ·clear hv
   show Calls Try.prog 68 _ _ (Ret (.bool false) w)
   go_enter Try.func68,Try.ntmps68
   go_wp2_with (first|(go_at_call 87;(with_reducible refine(y _).mono ?_);rintro e w1 ⟨rfl,hb1⟩;(have hB:=(Blk.new _ _ _).call hb1);obtain⟨hc,hf⟩:=hB.walk;(have hg:=after (w:=w) (by go_grown) hb1);(have hs1:=hg.size)))
   go_returns
   exact⟨rfl,by go_grown⟩
 ·clear hv
  show Calls Try.prog 68 _ _ (Ret (.bool true) w)
  go_enter Try.func68,Try.ntmps68
  go_wp2_with (first|(go_at_call 87;(with_reducible refine(y _).mono ?_);rintro e w1 ⟨rfl,hb1⟩;(have hB:=(Blk.new _ _ _).call hb1);obtain⟨hc,hf⟩:=hB.walk;(have hg:=after (w:=w) (by go_grown) hb1);(have hs1:=hg.size)))
  go_returns
  exact⟨rfl,by go_grown⟩
theorem Kt(s:Qd)(hs:s.wf)(k:Int)(k0:0≤k)(k1:k < 4294967296)(w:World) :
 Calls Try.prog 68 #[s.val,.int .u32 k] w (Ret (.bool (Qz s k)) w):=
 Qex s _ (QJ hs) (Q2 s) (Xu s hs) k k0 k1 w
set_option maxHeartbeats 1000000 in
theorem Qko(s n:Qd)(hn:n.wf)(hv:Qq n=true)(x:∀w,Calls Try.prog 87 #[s.val] w (Ret n.val w))(w:World) :
 Calls Try.prog 121 #[s.val] w (Ret (.int .i64 (QO n)) w):=by
 obtain⟨e,t,lo,hi,st⟩:=n
 obtain⟨l0,l1,h0,h1,s0,s1⟩:=hn
 dsimp only at l0 l1 h0 h1 s0 s1
 have y:∀w,Calls Try.prog 87 #[s.val] w (Ret (.agg #[.bool e,.bool t,.int .u32 lo,.int .u32 hi,.int .u32 st]) w):=x
 clear x
 cases t
 ·cases e
  ·rcases Yo lo hi st hv with ⟨rfl,rfl⟩|⟨c,d,m,_⟩
   ·clear hv
    show Calls Try.prog 121 _ _ (Ret (.int .i64 1) w)
    go_enter Try.func121,Try.ntmps121
    go_wp2_with (first|(go_at_call 87;(with_reducible refine(y _).mono ?_);rintro e w1 ⟨rfl,hb1⟩;(have hB:=(Blk.new _ _ _).call hb1);obtain⟨hc,hf⟩:=hB.walk;(have hg:=after (w:=w) (by go_grown) hb1);(have hs1:=hg.size)))
    go_returns
    exact⟨rfl,by go_grown⟩
   ·clear hv
    have c1:(st==0)=false:=by rw [beq_eq_false_iff_ne];exact c
    have E:QO ⟨false,false,lo,hi,st⟩=(hi - lo) / st+1:=by
     unfold QO;simp only [Bool.false_eq_true,if_false,c1]
    rw [E]
    clear E m
    have g3:0≤hi - lo:=by omega
    have g4:1≤st:=by omega
    have g5:0≤(hi - lo) / st:=Int.ediv_nonneg g3 s0
    have g6:(hi - lo) / st≤hi - lo:=Int.ediv_le_self _ g3
    show Calls Try.prog 121 _ _ (Ret (.int .i64 ((hi - lo) / st+1)) w)
    go_enter Try.func121,Try.ntmps121
    go_wp2_with (first|(go_at_call 87;(with_reducible refine(y _).mono ?_);rintro e w1 ⟨rfl,hb1⟩;(have hB:=(Blk.new _ _ _).call hb1);obtain⟨hc,hf⟩:=hB.walk;(have hg:=after (w:=w) (by go_grown) hb1);(have hs1:=hg.size)))
    go_returns
    exact⟨rfl,by go_grown⟩
  ·clear hv
   show Calls Try.prog 121 _ _ (Ret (.int .i64 0) w)
   go_enter Try.func121,Try.ntmps121
   go_wp2_with (first|(go_at_call 87;(with_reducible refine(y _).mono ?_);rintro e w1 ⟨rfl,hb1⟩;(have hB:=(Blk.new _ _ _).call hb1);obtain⟨hc,hf⟩:=hB.walk;(have hg:=after (w:=w) (by go_grown) hb1);(have hs1:=hg.size)))
   go_returns
   exact⟨rfl,by go_grown⟩
 ·clear hv
  have E:QO ⟨e,true,lo,hi,st⟩=4294967296:=rfl
  rw [E]
  clear E
  show Calls Try.prog 121 _ _ (Ret (.int .i64 4294967296) w)
  go_enter Try.func121,Try.ntmps121
  go_wp2_with (first|(go_at_call 87;(with_reducible refine(y _).mono ?_);rintro e w1 ⟨rfl,hb1⟩;(have hB:=(Blk.new _ _ _).call hb1);obtain⟨hc,hf⟩:=hB.walk;(have hg:=after (w:=w) (by go_grown) hb1);(have hs1:=hg.size)))
  go_returns
  exact⟨rfl,by go_grown⟩
theorem QbO(s:Qd)(hs:s.wf)(w:World) :
 Calls Try.prog 121 #[s.val] w (Ret (.int .i64 (Vl s)) w):=
 Qko s _ (QJ hs) (Q2 s) (Xu s hs) w
end Go.Proofs.Yteplnamfpodmlaa
end
section
namespace Go.Proofs.Yteplnamfpodmlaa
end Go.Proofs.Yteplnamfpodmlaa
end
