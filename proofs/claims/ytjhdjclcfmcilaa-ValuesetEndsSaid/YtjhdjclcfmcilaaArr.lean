/-
  Arguments that are slices of structs without memory: what their cells are. No walk.
-/
import Derived.Test.YtjhdjclcfmcilaaMem
import Derived.Deep.Slices
namespace Go.Proofs.Ytjhdjclcfmcilaa
open Go.ChangeShapes Go.WideShapes Go.ChangeAt Go.RowKit Go.Deep
set_option linter.unusedVariables false
section
variable {H : Type} {enc : TypeId × Value → H} {P : Program} {w : World} {base : Nat} {spare : Nat → Bool} {held : Bool}
theorem open_rows {r : Reach} {b0 : Nat} {t e : TypeId} {v : Value} {d : DataW H} {p : List MemPlace} (K : List (Option IntKind)) (n : Nat) (ht : P.underlying t = some (.slice e)) (hK : flat P n e = some K) (hC : P.cellsOf e = K.length)
    (hv : Value.okWide P w r b0 t v) (h : DataW.Trod enc P w base spare held t v d p) :
    ∃ A len cap, v = .slice A len cap ∧ len ≤ maxLen ∧ ∀ i, i < len → ∃ ad cs, A = some ad ∧ LeavesAre K cs ∧ ∀ j u, cs[j]? = some u → w.cell? (ad.add (i * K.length + j)) = some u := by
  obtain ⟨A, len, cap, rfl⟩ := okWide_slice ht hv
  obtain ⟨fuel, hf⟩ := h
  rcases open_slice ht hf with ⟨hcs, _⟩ | ⟨a, l, c, m, n', D, Pl, hcs, hb, hl, hm, hmm, hx, hi⟩
  · have e1 : Value.slice A len cap = .slice none 0 0 := by simpa [Value.cells] using hcs
    injection e1 with h1 h2 h3
    subst h1 h2 h3
    exact ⟨none, 0, 0, rfl, Nat.zero_le _, fun i hi => absurd hi (by omega)⟩
  · have e1 : Value.slice A len cap = .slice (some a) l c := by simpa [Value.cells] using hcs
    injection e1 with h1 h2 h3
    subst h1 h2 h3
    refine ⟨some a, len, cap, rfl, Nat.le_trans hl hm, fun i hil => ?_⟩
    obtain ⟨cs', hc, ht'⟩ := hi i (by rw [hmm]; split <;> omega)
    obtain ⟨_, hcl, hat⟩ := World.cells?_some hc
    rw [hC] at hcl
    refine ⟨a, cs', rfl, flat_is n e K n' cs' _ hK hcl ht', fun j u hu => ?_⟩
    have hj : j < K.length := by
      rcases Nat.lt_or_ge j cs'.length with h1 | h1
      · omega
      · rw [List.getElem?_eq_none h1] at hu; cases hu
    have h1 := hat j (by rw [hC]; exact hj)
    rw [hC, add_of_add] at h1
    exact h1.trans hu
end
/-- The address of a later cell, as the walk spells it. -/
abbrev cellAt (a : Addr) (j : Nat) : Addr := ⟨a.block, a.off + j, none⟩
theorem add_cellAt (a : Addr) (j : Nat) (h : j ≠ 0) : a.add j = cellAt a j := by unfold Addr.add; split <;> simp_all
/-- A set that lies at an address. -/
def SetAt (w : World) (a : Addr) (s : VSet) : Prop :=
  w.cell? a = some (.bool s.e) ∧ w.cell? (cellAt a 1) = some (.bool s.t) ∧ w.cell? (cellAt a 2) = some (.int .u32 s.lo) ∧ w.cell? (cellAt a 3) = some (.int .u32 s.hi) ∧ w.cell? (cellAt a 4) = some (.int .u32 s.st)
theorem SetAt.below {B : Nat} {w w' : World} {a : Addr} {s : VSet} (h : SetAt w a s) (hb : Below B w w') (ha : a.block < B) : SetAt w' a s :=
  ⟨(hb.cell ha).trans h.1, (hb.cell (p := cellAt a 1) ha).trans h.2.1, (hb.cell (p := cellAt a 2) ha).trans h.2.2.1, (hb.cell (p := cellAt a 3) ha).trans h.2.2.2.1, (hb.cell (p := cellAt a 4) ha).trans h.2.2.2.2⟩
/-- The cells of a slice of sets. -/
def SetsAt (w : World) (A : Option Addr) (len : Nat) (S : Nat → VSet) : Prop :=
  ∀ i, i < len → (S i).wf ∧ ∃ ad, A = some ad ∧ ad.block < w.heap.size ∧ SetAt w (ad.add (i * 5)) (S i)
theorem SetsAt.below {w w' : World} {A : Option Addr} {len : Nat} {S : Nat → VSet} (h : SetsAt w A len S) (hb : Below w.heap.size w w') : SetsAt w' A len S := fun i hi => by
  obtain ⟨h1, ad, e, h2, h3⟩ := h i hi
  exact ⟨h1, ad, e, Nat.lt_of_lt_of_le h2 hb.size, h3.below hb (by rw [block_of_add]; exact h2)⟩
theorem sets_at {w : World} {A : Option Addr} {len : Nat} (h : ∀ i, i < len → ∃ ad cs, A = some ad ∧ LeavesAre [none, none, some .u32, some .u32, some .u32] cs ∧ ∀ j u, cs[j]? = some u → w.cell? (ad.add (i * 5 + j)) = some u) : ∃ S, SetsAt w A len S := by
  have h1 : ∀ i, i < len → ∃ s : VSet, s.wf ∧ ∃ ad, A = some ad ∧ ad.block < w.heap.size ∧ SetAt w (ad.add (i * 5)) s := fun i hi => by
    obtain ⟨ad, cs, e, hl, hc⟩ := h i hi
    obtain ⟨s, hs, rfl⟩ := leaves_set hl
    have h0 := hc 0 _ rfl
    have hb := World.block_lt_of_cell? w _ h0
    rw [block_of_add] at hb
    refine ⟨s, hs, ad, e, hb, ?_⟩
    have f : ∀ j, j ≠ 0 → (ad.add (i * 5 + j)) = cellAt (ad.add (i * 5)) j := fun j hj => by rw [← add_of_add, add_cellAt _ _ hj]
    refine ⟨h0, ?_, ?_, ?_, ?_⟩
    · rw [← f 1 (by omega)]; exact hc 1 _ rfl
    · rw [← f 2 (by omega)]; exact hc 2 _ rfl
    · rw [← f 3 (by omega)]; exact hc 3 _ rfl
    · rw [← f 4 (by omega)]; exact hc 4 _ rfl
  have : Inhabited VSet := ⟨topV⟩
  obtain ⟨S, hS⟩ := choose_lt h1
  exact ⟨S, hS⟩
end Go.Proofs.Ytjhdjclcfmcilaa
