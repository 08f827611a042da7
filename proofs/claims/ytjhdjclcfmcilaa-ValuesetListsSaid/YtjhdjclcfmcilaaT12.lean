/-
  The second machine on terms, for use: what terms say, rule by rule. No program.
-/
import Derived.Test.YtjhdjclcfmcilaaT11
namespace Go.Proofs.Ytjhdjclcfmcilaa.T2
open Go.ChangeShapes Go.WideShapes Go.ChangeAt Go.RowKit
set_option linter.unusedVariables false
section
variable {e : Env} {x y : SX} {d sz j : Nat}
theorem dv1 : ((SX.v d j).den e).1 = (e.nm d).int j := rfl
theorem dv2 : ((SX.v d j).den e).2 = (e.nm d).bool j := rfl
theorem di1 {n : Int} : ((SX.i n).den e).1 = n := rfl
theorem db2 {v : Bool} : ((SX.b v).den e).2 = v := rfl
theorem dr1 : ((SX.r d sz j x).den e).1 = (e.nm d).int ((x.den e).1.toNat * sz + j) := rfl
theorem dr2 : ((SX.r d sz j x).den e).2 = (e.nm d).bool ((x.den e).1.toNat * sz + j) := rfl
theorem dq1 : ((SX.r2 d y sz j x).den e).1 = (e.nm d).i2 (y.den e).1.toNat ((x.den e).1.toNat * sz + j) := rfl
theorem dq2 : ((SX.r2 d y sz j x).den e).2 = (e.nm d).b2 (y.den e).1.toNat ((x.den e).1.toNat * sz + j) := rfl
theorem do1 {k : IntKind} : ((SX.o .add k x y).den e).1 = k.wrap ((x.den e).1 + (y.den e).1) := rfl
theorem dlss_t : ((SX.c .lss x y).den e).2 = true ↔ (x.den e).1 < (y.den e).1 := by simp [SX.den, cmI]
theorem dlss_f : ((SX.c .lss x y).den e).2 = false ↔ ¬ (x.den e).1 < (y.den e).1 := by simp [SX.den, cmI]
theorem dgtr_t : ((SX.c .gtr x y).den e).2 = true ↔ (y.den e).1 < (x.den e).1 := by simp [SX.den, cmI]
theorem dgtr_f : ((SX.c .gtr x y).den e).2 = false ↔ ¬ (y.den e).1 < (x.den e).1 := by simp [SX.den, cmI]
theorem dleq_t : ((SX.c .leq x y).den e).2 = true ↔ (x.den e).1 ≤ (y.den e).1 := by simp [SX.den, cmI]
theorem dleq_f : ((SX.c .leq x y).den e).2 = false ↔ ¬ (x.den e).1 ≤ (y.den e).1 := by simp [SX.den, cmI]
theorem dgeq_t : ((SX.c .geq x y).den e).2 = true ↔ (y.den e).1 ≤ (x.den e).1 := by simp [SX.den, cmI]
theorem dgeq_f : ((SX.c .geq x y).den e).2 = false ↔ ¬ (y.den e).1 ≤ (x.den e).1 := by simp [SX.den, cmI]
theorem deql_t : ((SX.c .eql x y).den e).2 = true ↔ (x.den e).1 = (y.den e).1 := by simp [SX.den, cmI]
theorem deql_f : ((SX.c .eql x y).den e).2 = false ↔ ¬ (x.den e).1 = (y.den e).1 := by simp [SX.den, cmI]
theorem dneq_t : ((SX.c .neq x y).den e).2 = true ↔ ¬ (x.den e).1 = (y.den e).1 := by simp [SX.den, cmI]
theorem dneq_f : ((SX.c .neq x y).den e).2 = false ↔ (x.den e).1 = (y.den e).1 := by simp [SX.den, cmI]
theorem dno_t : ((SX.no x).den e).2 = true ↔ (x.den e).2 = false := by simp [SX.den]
theorem dno_f : ((SX.no x).den e).2 = false ↔ (x.den e).2 = true := by simp [SX.den]
theorem dan_t : ((SX.an x y).den e).2 = true ↔ (x.den e).2 = true ∧ (y.den e).2 = true := by simp [SX.den]
theorem dan_f : ((SX.an x y).den e).2 = false ↔ ¬ ((x.den e).2 = true ∧ (y.den e).2 = true) := by simp [SX.den]
theorem deq_t : ((SX.eq x y).den e).2 = true ↔ (x.den e).2 = (y.den e).2 := by simp [SX.den]
theorem deq_f : ((SX.eq x y).den e).2 = false ↔ ¬ (x.den e).2 = (y.den e).2 := by simp [SX.den]
theorem deql_b {v : Bool} : ((SX.c .eql x y).den e).2 = decide ((x.den e).1 = (y.den e).1) := rfl
theorem li {k : IntKind} : leafI e (.n k x) = (x.den e).1 := rfl
theorem lit : leafI e (.t x) = 0 := rfl
theorem lb : leafB e (.t x) = (x.den e).2 := rfl
theorem lbn {k : IntKind} : leafB e (.n k x) = false := rfl
/-- The head's numbers. -/
def headI (e : Env) (xs : List LX) (j : Nat) : Int := match xs[j]? with | some x => leafI e x | none => 0
def headB (e : Env) (xs : List LX) (j : Nat) : Bool := match xs[j]? with | some x => leafB e x | none => false
theorem subc_d {xs : List LX} {ms : List (Option (Nat × Nat))} : ((e.sub d xs ms).cut (d + ms.length)).nm d = { Nm.zero with int := headI e xs, bool := headB e xs } := by
  rw [cut_nm (Nat.le_add_right _ _), sub_eq]
  have h1 : ∀ x : Option LX, (match x with | some (.n _ y) => (y.den e).1 | _ => 0) = (match x with | some x => leafI e x | none => 0) := fun x => by
    cases x with
    | none => rfl
    | some x => cases x <;> rfl
  have h2 : ∀ x : Option LX, (match x with | some (.t y) => (y.den e).2 | _ => false) = (match x with | some x => leafB e x | none => false) := fun x => by
    cases x with
    | none => rfl
    | some x => cases x <;> rfl
  have e1 : (fun j => match xs[j]? with | some (.n _ y) => (y.den e).1 | _ => 0) = headI e xs := funext fun j => h1 _
  have e2 : (fun j => match xs[j]? with | some (.t y) => (y.den e).2 | _ => false) = headB e xs := funext fun j => h2 _
  rw [← e1, ← e2]
  try rfl
theorem subc_lt {xs : List LX} {ms : List (Option (Nat × Nat))} {c : Nat} (h : c < d) : ((e.sub d xs ms).cut (d + ms.length)).nm c = e.nm c := by
  rw [cut_nm (by omega), sub_lt h]
theorem subc_gt {xs : List LX} {ms : List (Option (Nat × Nat))} {c : Nat} {m : Option (Nat × Nat)} (h : d < c) (hm : ms[c - (d + 1)]? = some m) : ((e.sub d xs ms).cut (d + ms.length)).nm c = subN e m := by
  have := (List.getElem?_eq_some_iff.1 hm).1
  rw [cut_nm (by omega), sub_gt h hm]
theorem nums0 {k : IntKind} {xs : List LX} : headI e (.n k x :: xs) 0 = (x.den e).1 := rfl
theorem nums1 {x0 : LX} {k : IntKind} {xs : List LX} : headI e (x0 :: .n k x :: xs) 1 = (x.den e).1 := rfl
end
end Go.Proofs.Ytjhdjclcfmcilaa.T2
