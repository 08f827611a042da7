/-
  Value sets as plain data: valid sets, the comparison of two sets. No walk.
-/
import Derived.Test.YtjhdjclcfmcilaaProg
import Derived.Test.YtjhdjclcfmcilaaKit
import Derived.Deep.RegionHeld3
namespace Go.Proofs.Ytjhdjclcfmcilaa
open Go.ChangeShapes Go.WideShapes Go.ChangeAt Go.RowKit
set_option linter.unusedVariables false

/-! ### A block that is known whole. -/
def Blk (w : World) (g : Nat) (t : TypeId) (cs : Array Value) : Prop := w.heap[g]? = some (.cells cs t (0, 0))
section
variable {w w' : World} {g : Nat} {t : TypeId} {cs : Array Value}
theorem Blk.lt (h : Blk w g t cs) : g < w.heap.size := by
  rcases Nat.lt_or_ge g w.heap.size with hlt | hge
  · exact hlt
  · unfold Blk at h; rw [Array.getElem?_eq_none hge] at h; cases h
theorem Blk.walk (h : Blk w g t cs) : (∀ o, w.cell? ⟨g, o, none⟩ = cs[o]?) ∧ (∀ o, w.frozen? ⟨g, o, none⟩ = false) := by
  unfold Blk at h
  exact ⟨fun o => by simp [World.cell?, h], fun o => by simp [World.frozen?, h]⟩
theorem Blk.new (w : World) (t : TypeId) (cs : Array Value) : Blk (w.alloc (.cells cs t)) w.heap.size t cs := heap_alloc_new w _
theorem Blk.drew (h : Blk w g t cs) : Blk w.drew g t cs := h
theorem Blk.alloc (h : Blk w g t cs) (o : Obj) : Blk (w.alloc o) g t cs := (Below.heap_alloc w o g h.lt).trans h
theorem Blk.set_ (h : Blk w g t cs) (i : Nat) (u : Value) : Blk (w.setCell ⟨g, i, none⟩ u) g t (cs.setIfInBounds i u) := by
  unfold Blk at h ⊢
  simp [World.setCell, Array.getElem?_modify, h]
theorem Blk.far (h : Blk w g t cs) {p : Addr} (hp : g ≠ p.block) (u : Value) : Blk (w.setCell p u) g t cs := (Below.heap_setCell w p u g hp).trans h
theorem Blk.below {B : Nat} (h : Blk w g t cs) (hb : Below B w w') (hg : g < B) : Blk w' g t cs := (hb.block g hg).trans h
theorem Blk.call (h : Blk w g t cs) (hb : Below w.heap.size w w') : Blk w' g t cs := h.below hb h.lt
end

/-- A set: empty, all numbers, or lo, lo + st, .., hi. -/
structure VSet where
  e : Bool
  t : Bool
  lo : Int
  hi : Int
  st : Int
  deriving DecidableEq
def VSet.wf (s : VSet) : Prop := 0 ≤ s.lo ∧ s.lo < 4294967296 ∧ 0 ≤ s.hi ∧ s.hi < 4294967296 ∧ 0 ≤ s.st ∧ s.st < 4294967296
abbrev VSet.val (s : VSet) : Value := .agg #[.bool s.e, .bool s.t, .int .u32 s.lo, .int .u32 s.hi, .int .u32 s.st]
def topV : VSet := ⟨false, true, 0, 0, 0⟩
def emptyV : VSet := ⟨true, false, 0, 0, 0⟩
def oneV (n : Int) : VSet := ⟨false, false, n, n, 0⟩
def validL (s : VSet) : Bool :=
  if s.t || s.e then s == topV || s == emptyV
  else if s.st == 0 then s.lo == s.hi
  else decide (s.lo < s.hi) && ((s.hi - s.lo) % s.st == 0) && (decide (0 < s.lo) || decide (s.hi < 4294967295) || decide (1 < s.st))
def normL (s : VSet) : VSet := if validL s then s else topV

abbrev VSet.cs (s : VSet) : Array Value := #[.bool s.e, .bool s.t, .int .u32 s.lo, .int .u32 s.hi, .int .u32 s.st]
abbrev World.put (w : World) (g : Nat) (s : VSet) : World :=
  ((((w.setCell ⟨g, 0, none⟩ (.bool s.e)).setCell ⟨g, 1, none⟩ (.bool s.t)).setCell ⟨g, 2, none⟩ (.int .u32 s.lo)).setCell ⟨g, 3, none⟩ (.int .u32 s.hi)).setCell ⟨g, 4, none⟩ (.int .u32 s.st)
theorem Blk.put {w : World} {g : Nat} {t : TypeId} {a : VSet} (h : Blk w g t a.cs) (s : VSet) : Blk (World.put w g s) g t s.cs :=
  ((((h.set_ 0 _).set_ 1 _).set_ 2 _).set_ 3 _).set_ 4 _
theorem Blk.put_far {w : World} {g g' : Nat} {t : TypeId} {cs : Array Value} (h : Blk w g t cs) (hne : g ≠ g') (s : VSet) : Blk (World.put w g' s) g t cs :=
  ((((h.far hne _).far hne _).far hne _).far hne _).far hne _
theorem below_put {B g : Nat} {a w : World} (h : Below B a w) (hg : B ≤ g) (s : VSet) : Below B a (World.put w g s) :=
  ((((h.setCell hg _).setCell hg _).setCell hg _).setCell hg _).setCell hg _

theorem leaves_set {cs : List Value} (h : LeavesAre [none, none, some .u32, some .u32, some .u32] cs) :
    ∃ s : VSet, s.wf ∧ cs = [.bool s.e, .bool s.t, .int .u32 s.lo, .int .u32 s.hi, .int .u32 s.st] := by
  obtain ⟨e, cs1, rfl, h1⟩ := leaves_bool h
  obtain ⟨t, cs2, rfl, h2⟩ := leaves_bool h1
  obtain ⟨lo, cs3, rfl, w3, h3⟩ := leaves_int h2
  obtain ⟨hi, cs4, rfl, w4, h4⟩ := leaves_int h3
  obtain ⟨st, cs5, rfl, w5, h5⟩ := leaves_int h4
  obtain rfl := leaves_nil h5
  have := wf_u32 w3
  have := wf_u32 w4
  have := wf_u32 w5
  exact ⟨⟨e, t, lo, hi, st⟩, by show 0 ≤ lo ∧ lo < 4294967296 ∧ 0 ≤ hi ∧ hi < 4294967296 ∧ 0 ≤ st ∧ st < 4294967296; omega, rfl⟩

theorem VSet.beq_eq (a b : VSet) : (a == b) = ((a.e == b.e) && ((a.t == b.t) && ((a.lo == b.lo) && ((a.hi == b.hi) && (a.st == b.st))))) := by
  rw [Bool.eq_iff_iff]
  simp only [beq_iff_eq, Bool.and_eq_true]
  constructor
  · rintro rfl; simp
  · rintro ⟨h1, h2, h3, h4, h5⟩; cases a; cases b; simp_all

theorem run_eql_set (a b : VSet) (w : World) : (binOp .eql 24 a.val b.val).run Try.prog w = .ok (.bool (a == b)) w := by
  rw [VSet.beq_eq]
  cases h1 : (a.e == b.e)
  · simp [VSet.val, go_sem, h1]
  cases h2 : (a.t == b.t)
  · simp [VSet.val, go_sem, h1, h2]
  cases h3 : (a.lo == b.lo)
  · simp [VSet.val, go_sem, h1, h2, h3]
  cases h4 : (a.hi == b.hi)
  · simp [VSet.val, go_sem, h1, h2, h3, h4]
  cases h5 : (a.st == b.st) <;> simp [VSet.val, go_sem, h1, h2, h3, h4, h5]
theorem run_neq_set (a b : VSet) (w : World) : (binOp .neq 24 a.val b.val).run Try.prog w = .ok (.bool (a != b)) w := by
  unfold bne
  rw [VSet.beq_eq]
  cases h1 : (a.e == b.e)
  · simp [VSet.val, go_sem, h1]
  cases h2 : (a.t == b.t)
  · simp [VSet.val, go_sem, h1, h2]
  cases h3 : (a.lo == b.lo)
  · simp [VSet.val, go_sem, h1, h2, h3]
  cases h4 : (a.hi == b.hi)
  · simp [VSet.val, go_sem, h1, h2, h3, h4]
  cases h5 : (a.st == b.st) <;> simp [VSet.val, go_sem, h1, h2, h3, h4, h5]

theorem info_set : (Try.prog.info? 24).map (·.size) = some 5 := by kernel_rfl
/-- A result of type Set, read out of its block. -/
theorem results_set {fn : Func} {p : Tmp} (h : fn.results = #[.cell p 24]) {tmps : Array Value} {w : World} {g : Nat} {t : TypeId} {s : VSet}
    (hp : tmps.getD p undef = .pointer (some ⟨g, 0, none⟩)) (hB : Blk w g t s.cs) : (results fn tmps).run Try.prog w = .ok s.val w := by
  have hl := run_loadVar_row (P := Try.prog) w g t 24 s.cs (0, 0) _ hB Try.underlying24 rfl info_set
  rw [Array.getD_eq_getD_getElem?] at hp
  simp only [results, h]
  simp [hp, asAddr, hl]
end Go.Proofs.Ytjhdjclcfmcilaa
