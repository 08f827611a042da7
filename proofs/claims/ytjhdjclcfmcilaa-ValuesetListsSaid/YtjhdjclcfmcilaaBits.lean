/-
  What the functions of package bits return, and the functions of decompilerref01 beside them: one contract each, for every argument.
-/
import Derived.Test.YtjhdjclcfmcilaaProg
import Derived.Test.YtjhdjclcfmcilaaKit
namespace Go.Proofs.Ytjhdjclcfmcilaa
open Go.ChangeShapes Go.WideShapes Go.ChangeAt Go.RowKit

/-- The flags as a value. -/
abbrev fl (z n c v : Bool) : Value := .agg #[.bool z, .bool n, .bool c, .bool v]
/-- The sign of a 32-bit number. -/
def sg (a : Int) : Bool := decide (2147483648 ≤ a)
def subV (a b : Int) : Bool := (sg a != sg b) && (sg a != sg ((a - b) % 4294967296))
def addV (a b : Int) : Bool := (sg a != sg ((a + b) % 4294967296)) && (sg b != sg ((a + b) % 4294967296))
def subZ (a b : Int) : Bool := (a - b) % 4294967296 == 0
def subN (a b : Int) : Bool := sg ((a - b) % 4294967296)
def subC (a b : Int) : Bool := decide (a < b)
def addZ (a b : Int) : Bool := (a + b) % 4294967296 == 0
def addN (a b : Int) : Bool := sg ((a + b) % 4294967296)
def addC (a b : Int) : Bool := decide ((a + b) % 4294967296 < a)

theorem u32_mask31 (n : Int) (h0 : 0 ≤ n) (h1 : n < 4294967296) : bits .and .u32 n 31 = n % 32 := by
  rw [u32_and n 31 h0 h1 (by omega) (by omega)]
  have e : ((31 : Int).toNat) = 2 ^ 5 - 1 := rfl
  rw [e, Nat.and_two_pow_sub_one_eq_mod]; omega



theorem negative_any (a : Int) (w : World) :
    Calls Try.prog 64 #[.int .u32 a] w (Ret (.bool (sg a)) w) := by
  go_enter Try.func64, Try.ntmps64
  go_wp2
  go_returns
  exact ⟨rfl, by go_grown⟩

/-- Shl, Shr, Sar -/
def shlL (a n : Int) : Int := a * 2 ^ (n % 32).toNat % 4294967296
def shrL (a n : Int) : Int := a / 2 ^ (n % 32).toNat
def sarL (a n : Int) : Int := wrap32 a / 2 ^ (n % 32).toNat % 4294967296

theorem min32 (n : Int) : min (n % 32).toNat 32 = (n % 32).toNat := by omega

theorem shl_any (a n : Int) (w : World) (n0 : 0 ≤ n) (n1 : n < 4294967296) :
    Calls Try.prog 49 #[.int .u32 a, .int .u32 n] w (Ret (.int .u32 (shlL a n)) w) := by
  have e := u32_mask31 n n0 n1
  have e2 : 0 ≤ n % 32 := by omega
  have e3 := min32 n
  go_enter Try.func49, Try.ntmps49
  go_wp2
  go_returns
  exact ⟨rfl, by go_grown⟩
theorem shr_any (a n : Int) (w : World) (n0 : 0 ≤ n) (n1 : n < 4294967296) :
    Calls Try.prog 51 #[.int .u32 a, .int .u32 n] w (Ret (.int .u32 (shrL a n)) w) := by
  have e := u32_mask31 n n0 n1
  have e2 : 0 ≤ n % 32 := by omega
  have e3 := min32 n
  go_enter Try.func51, Try.ntmps51
  go_wp2
  go_returns
  exact ⟨rfl, by go_grown⟩
theorem sar_any (a n : Int) (w : World) (n0 : 0 ≤ n) (n1 : n < 4294967296) :
    Calls Try.prog 58 #[.int .u32 a, .int .u32 n] w (Ret (.int .u32 (sarL a n)) w) := by
  have e := u32_mask31 n n0 n1
  have e2 : 0 ≤ n % 32 := by omega
  have e3 := min32 n
  go_enter Try.func58, Try.ntmps58
  go_wp2
  go_returns
  exact ⟨rfl, by go_grown⟩

def extL (a k : Int) : Int := if k = 1 then IntKind.i8.wrap a % 4294967296 else if k = 2 then IntKind.i16.wrap a % 4294967296 else a
def truncL (a k : Int) : Int := if k = 1 then a % 256 else if k = 2 then a % 65536 else a
def tr (b : Bool) : Int := if b then 1 else 0
theorem truth_any (b : Bool) (w : World) : Calls Try.prog 59 #[.bool b] w (Ret (.int .u32 (tr b)) w) := by
  cases b
  all_goals
    go_enter Try.func59, Try.ntmps59
    go_wp2
    go_returns
    exact ⟨rfl, by go_grown⟩
theorem number_any (b : Bool) (w : World) : Calls Try.prog 63 #[.bool b] w (Ret (.int .u32 (tr b)) w) := by
  cases b
  all_goals
    go_enter Try.func63, Try.ntmps63
    go_wp2
    go_returns
    exact ⟨rfl, by go_grown⟩

/-- Whether condition k holds. -/
def holdsK (k : Nat) (z n c v : Bool) : Bool :=
  match k with
  | 0 => true | 1 => z | 2 => !z | 3 => n != v | 4 => !(n != v) | 5 => z || n != v | 6 => !z && !(n != v)
  | 7 => c | 8 => !c | 9 => c || z | 10 => !c && !z | 11 => n | 12 => !n | 13 => v | 14 => !v | _ => false
def holdsL (k : Int) (z n c v : Bool) : Bool := if 0 ≤ k then holdsK k.toNat z n c v else false
theorem holdsL_out (k : Int) (z n c v : Bool) (h : k < 0 ∨ 15 ≤ k) : holdsL k z n c v = false := by
  unfold holdsL
  by_cases h0 : 0 ≤ k
  · rw [if_pos h0]
    obtain ⟨K, rfl⟩ := Int.eq_ofNat_of_zero_le h0
    have hk : 15 ≤ K := by omega
    obtain ⟨m, rfl⟩ := Nat.exists_eq_add_of_le' hk
    rfl
  · rw [if_neg h0]
theorem holdsL_in (k : Int) (z n c v : Bool) (h : 0 ≤ k) : holdsL k z n c v = holdsK k.toNat z n c v := by
  unfold holdsL; rw [if_pos h]
end Go.Proofs.Ytjhdjclcfmcilaa
