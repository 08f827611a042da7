/-
  What the functions of package bits return, and the functions of decompilerref01 beside them: one contract each, for every argument.
-/
import Derived.Test.YtdcpechhjfbipaaProg
import Derived.Test.YtdcpechhjfbipaaKit
namespace Go.Proofs.Ytdcpechhjfbipaa
open Go.ChangeShapes Go.WideShapes Go.ChangeAt Go.RowKit

/-- The flags as a value. -/
abbrev fl (z n c v : Bool) : Value := .agg #[.bool z, .bool n, .bool c, .bool v]
/-- The sign of a 32-bit number. -/
def sg (a : Int) : Bool := decide (2147483648 ≤ a)
def subV (a b : Int) : Bool := (sg a != sg b) && (sg a != sg ((a - b) % 4294967296))
def addV (a b : Int) : Bool := (sg a != sg ((a + b) % 4294967296)) && (sg b != sg ((a + b) % 4294967296))
def subZ (a b : Int) : Bool := (a - b) % 4294967296 == 0
def subN (a b : Int) : Bool := sg ((a - b) % 4294967296)
def subC (a b : Int) : Bool := decide (a < b)
def addZ (a b : Int) : Bool := (a + b) % 4294967296 == 0
def addN (a b : Int) : Bool := sg ((a + b) % 4294967296)
def addC (a b : Int) : Bool := decide ((a + b) % 4294967296 < a)

theorem u32_mask31 (n : Int) (h0 : 0 ≤ n) (h1 : n < 4294967296) : bits .and .u32 n 31 = n % 32 := by
  rw [u32_and n 31 h0 h1 (by omega) (by omega)]
  have e : ((31 : Int).toNat) = 2 ^ 5 - 1 := rfl
  rw [e, Nat.and_two_pow_sub_one_eq_mod]; omega

theorem sub_any (a b : Int) (w : World) (a0 : 0 ≤ a) (a1 : a < 4294967296) (b0 : 0 ≤ b) (b1 : b < 4294967296) :
    Calls Try.prog 12 #[.int .u32 a, .int .u32 b] w (Ret (.tuple #[.int .u32 ((a - b) % 4294967296), fl (subZ a b) (subN a b) (subC a b) (subV a b)]) w) := by
  have e := u32_sign ((a - b) % 4294967296) (by omega) (by omega)
  have e2 := u32_over a b a ((a - b) % 4294967296) a0 a1 b0 b1 a0 a1 (by omega) (by omega)
  go_enter Try.func12, Try.ntmps12
  go_wp2
  go_region
  go_wp2
  go_returns
  exact ⟨rfl, by go_grown⟩

theorem add_any (a b : Int) (w : World) (a0 : 0 ≤ a) (a1 : a < 4294967296) (b0 : 0 ≤ b) (b1 : b < 4294967296) :
    Calls Try.prog 15 #[.int .u32 a, .int .u32 b] w (Ret (.tuple #[.int .u32 ((a + b) % 4294967296), fl (addZ a b) (addN a b) (addC a b) (addV a b)]) w) := by
  have e := u32_sign ((a + b) % 4294967296) (by omega) (by omega)
  have e2 := u32_over a ((a + b) % 4294967296) b ((a + b) % 4294967296) a0 a1 (by omega) (by omega) b0 b1 (by omega) (by omega)
  go_enter Try.func15, Try.ntmps15
  go_wp2
  go_region
  go_wp2
  go_returns
  exact ⟨rfl, by go_grown⟩

theorem logic_any (a : Int) (w : World) (a0 : 0 ≤ a) (a1 : a < 4294967296) :
    Calls Try.prog 24 #[.int .u32 a] w (Ret (fl (a == 0) (sg a) false false) w) := by
  have e := u32_sign a a0 a1
  go_enter Try.func24, Try.ntmps24
  go_wp2
  go_returns
  exact ⟨rfl, by go_grown⟩
theorem rlogic_any (a : Int) (w : World) :
    Calls Try.prog 25 #[.int .u32 a] w (Ret (fl (a == 0) (sg a) false false) w) := by
  go_enter Try.func25, Try.ntmps25
  go_wp2
  go_returns
  exact ⟨rfl, by go_grown⟩
theorem negative_any (a : Int) (w : World) :
    Calls Try.prog 35 #[.int .u32 a] w (Ret (.bool (sg a)) w) := by
  go_enter Try.func35, Try.ntmps35
  go_wp2
  go_returns
  exact ⟨rfl, by go_grown⟩

/-- Shl, Shr, Sar -/
def shlL (a n : Int) : Int := a * 2 ^ (n % 32).toNat % 4294967296
def shrL (a n : Int) : Int := a / 2 ^ (n % 32).toNat
def sarL (a n : Int) : Int := wrap32 a / 2 ^ (n % 32).toNat % 4294967296

theorem min32 (n : Int) : min (n % 32).toNat 32 = (n % 32).toNat := by omega

theorem shl_any (a n : Int) (w : World) (n0 : 0 ≤ n) (n1 : n < 4294967296) :
    Calls Try.prog 26 #[.int .u32 a, .int .u32 n] w (Ret (.int .u32 (shlL a n)) w) := by
  have e := u32_mask31 n n0 n1
  have e2 : 0 ≤ n % 32 := by omega
  have e3 := min32 n
  go_enter Try.func26, Try.ntmps26
  go_wp2
  go_returns
  exact ⟨rfl, by go_grown⟩
theorem shr_any (a n : Int) (w : World) (n0 : 0 ≤ n) (n1 : n < 4294967296) :
    Calls Try.prog 28 #[.int .u32 a, .int .u32 n] w (Ret (.int .u32 (shrL a n)) w) := by
  have e := u32_mask31 n n0 n1
  have e2 : 0 ≤ n % 32 := by omega
  have e3 := min32 n
  go_enter Try.func28, Try.ntmps28
  go_wp2
  go_returns
  exact ⟨rfl, by go_grown⟩
theorem sar_any (a n : Int) (w : World) (n0 : 0 ≤ n) (n1 : n < 4294967296) :
    Calls Try.prog 30 #[.int .u32 a, .int .u32 n] w (Ret (.int .u32 (sarL a n)) w) := by
  have e := u32_mask31 n n0 n1
  have e2 : 0 ≤ n % 32 := by omega
  have e3 := min32 n
  go_enter Try.func30, Try.ntmps30
  go_wp2
  go_returns
  exact ⟨rfl, by go_grown⟩

def extL (a k : Int) : Int := if k = 1 then IntKind.i8.wrap a % 4294967296 else if k = 2 then IntKind.i16.wrap a % 4294967296 else a
theorem extend_any (a k : Int) (w : World) :
    Calls Try.prog 16 #[.int .u32 a, .int .i64 k] w (Ret (.int .u32 (extL a k)) w) := by
  by_cases h1 : k = 1
  · subst h1
    go_enter Try.func16, Try.ntmps16
    go_wp2
    go_returns
    exact ⟨rfl, by go_grown⟩
  by_cases h2 : k = 2
  · subst h2
    go_enter Try.func16, Try.ntmps16
    go_wp2
    go_returns
    exact ⟨rfl, by go_grown⟩
  have e : a = extL a k := by unfold extL; rw [if_neg h1, if_neg h2]
  rw [← e]
  clear e
  go_enter Try.func16, Try.ntmps16
  go_wp2
  go_returns
  exact ⟨rfl, by go_grown⟩
def truncL (a k : Int) : Int := if k = 1 then a % 256 else if k = 2 then a % 65536 else a
theorem truncate_any (a k : Int) (w : World) :
    Calls Try.prog 17 #[.int .u32 a, .int .i64 k] w (Ret (.int .u32 (truncL a k)) w) := by
  by_cases h1 : k = 1
  · subst h1
    go_enter Try.func17, Try.ntmps17
    go_wp2
    go_returns
    exact ⟨rfl, by go_grown⟩
  by_cases h2 : k = 2
  · subst h2
    have e : IntKind.u16.wrap a % 4294967296 = a % 65536 := by rw [IntKind.wrap_u16]; omega
    go_enter Try.func17, Try.ntmps17
    go_wp2
    go_returns
    refine ⟨?_, by go_grown⟩
    show Ending.returned (.int .u32 (IntKind.u16.wrap a % 4294967296)) = _
    rw [e]
    rfl
  have e : a = truncL a k := by unfold truncL; rw [if_neg h1, if_neg h2]
  rw [← e]
  clear e
  go_enter Try.func17, Try.ntmps17
  go_wp2
  go_returns
  exact ⟨rfl, by go_grown⟩
def tr (b : Bool) : Int := if b then 1 else 0
theorem truth_any (b : Bool) (w : World) : Calls Try.prog 33 #[.bool b] w (Ret (.int .u32 (tr b)) w) := by
  cases b
  all_goals
    go_enter Try.func33, Try.ntmps33
    go_wp2
    go_returns
    exact ⟨rfl, by go_grown⟩
theorem number_any (b : Bool) (w : World) : Calls Try.prog 34 #[.bool b] w (Ret (.int .u32 (tr b)) w) := by
  cases b
  all_goals
    go_enter Try.func34, Try.ntmps34
    go_wp2
    go_returns
    exact ⟨rfl, by go_grown⟩

/-- Whether condition k holds. -/
def holdsK (k : Nat) (z n c v : Bool) : Bool :=
  match k with
  | 0 => true | 1 => z | 2 => !z | 3 => n != v | 4 => !(n != v) | 5 => z || n != v | 6 => !z && !(n != v)
  | 7 => c | 8 => !c | 9 => c || z | 10 => !c && !z | 11 => n | 12 => !n | 13 => v | 14 => !v | _ => false
def holdsL (k : Int) (z n c v : Bool) : Bool := if 0 ≤ k then holdsK k.toNat z n c v else false
theorem holdsL_out (k : Int) (z n c v : Bool) (h : k < 0 ∨ 15 ≤ k) : holdsL k z n c v = false := by
  unfold holdsL
  by_cases h0 : 0 ≤ k
  · rw [if_pos h0]
    obtain ⟨K, rfl⟩ := Int.eq_ofNat_of_zero_le h0
    have hk : 15 ≤ K := by omega
    obtain ⟨m, rfl⟩ := Nat.exists_eq_add_of_le' hk
    rfl
  · rw [if_neg h0]
theorem holdsL_in (k : Int) (z n c v : Bool) (h : 0 ≤ k) : holdsL k z n c v = holdsK k.toNat z n c v := by
  unfold holdsL; rw [if_pos h]
theorem holds_pick (z n c v : Bool) (k : Int) (hk : 0 ≤ k) (hk2 : k < 15) (l : List Value)
    (hl : l = [.bool true, .bool z, .bool !z, .bool (n != v), .bool !(n != v), .bool (z || n != v), .bool (!z && !(n != v)), .bool c, .bool !c, .bool (c || z), .bool (!c && !z), .bool n, .bool !n, .bool v, .bool !v])
    (hk3 : k.toNat < l.length) : Ending.returned l[k.toNat] = Ending.returned (.bool (holdsL k z n c v)) := by
  rw [holdsL_in k z n c v hk]
  obtain ⟨K, rfl⟩ := Int.eq_ofNat_of_zero_le hk
  simp only [Int.toNat_natCast] at hk3 ⊢
  subst hl
  have hk' : K = 0 ∨ K = 1 ∨ K = 2 ∨ K = 3 ∨ K = 4 ∨ K = 5 ∨ K = 6 ∨ K = 7 ∨ K = 8 ∨ K = 9 ∨ K = 10 ∨ K = 11 ∨ K = 12 ∨ K = 13 ∨ K = 14 := by omega
  rcases hk' with rfl | rfl | rfl | rfl | rfl | rfl | rfl | rfl | rfl | rfl | rfl | rfl | rfl | rfl | rfl <;> rfl
set_option maxHeartbeats 2000000 in
theorem holds_any (k : Int) (z n c v : Bool) (w : World) :
    Calls Try.prog 13 #[.int .i64 k, fl z n c v] w (Ret (.bool (holdsL k z n c v)) w) := by
  unfold fl
  have ho := holdsL_out k
  cases z <;> cases c
  all_goals
    have HO := hide ho
    clear ho
    go_enter Try.func13, Try.ntmps13
    go_wp2
    all_goals go_returns
    all_goals refine ⟨?_, by go_grown⟩
    all_goals first | exact holds_pick _ n _ v k (by omega) (by omega) _ (by cases n <;> cases v <;> rfl) _ | (rw [HO _ _ _ _ (by omega)]; rfl)
end Go.Proofs.Ytdcpechhjfbipaa
