/-
  Slices that are read, slices that the call itself makes. No walk.
-/
import Derived.Test.YtjhdjclcfmcilaaSet
import Derived.Laws.OwnMore
import Derived.Deep.AppendLies
import Derived.Deep.Draws
import Derived.Deep.DeepCutAuto
import Derived.OwnWalk
import Derived.Laws.AppendOwn
namespace Go.Proofs.Ytjhdjclcfmcilaa
open Go.ChangeShapes Go.WideShapes Go.ChangeAt Go.RowKit
set_option linter.unusedVariables false
theorem block_of_add (a : Addr) (n : Nat) : (a.add n).block = a.block := by unfold Addr.add; split <;> rfl
theorem add_of_add (a : Addr) (i j : Nat) : (a.add i).add j = a.add (i + j) := by
  unfold Addr.add
  by_cases hi : i = 0 <;> by_cases hj : j = 0 <;> simp [hi, hj, Nat.add_assoc]

def Reads (w : World) (B size : Nat) (A : Option Addr) (n : Nat) (xs : List Value) : Prop :=
  xs.length = n * size ∧ (0 < n → ∃ ad, A = some ad ∧ ad.block < B ∧ ∀ j u, xs[j]? = some u → w.cell? (ad.add j) = some u)

section
variable {w w' : World} {B B' size n : Nat} {A : Option Addr} {xs : List Value}
theorem Reads.none_ : Reads w B size A 0 [] := ⟨by simp, fun h => absurd h (by omega)⟩
theorem Reads.at_ {k : Nat} (h : Reads w B 1 A n xs) (hk : k < n) : ∃ ad u, A = some ad ∧ ad.block < B ∧ xs[k]? = some u ∧ w.cell? (ad.add k) = some u := by
  obtain ⟨ad, e, hb, hc⟩ := h.2 (by omega)
  have hl : k < xs.length := by have := h.1; omega
  exact ⟨ad, xs[k], e, hb, List.getElem?_eq_getElem hl, hc k _ (List.getElem?_eq_getElem hl)⟩
theorem Reads.keep (h : Reads w B size A n xs) (hk : ∀ p : Addr, p.block < B → w'.cell? p = w.cell? p) : Reads w' B size A n xs :=
  ⟨h.1, fun hn => by
    obtain ⟨ad, e, hb, hc⟩ := h.2 hn
    exact ⟨ad, e, hb, fun j u hu => (hk _ (by rw [block_of_add]; exact hb)).trans (hc j u hu)⟩⟩
theorem Reads.more (h : Reads w B size A n xs) (hB : B ≤ B') : Reads w B' size A n xs :=
  ⟨h.1, fun hn => by
    obtain ⟨ad, e, hb, hc⟩ := h.2 hn
    exact ⟨ad, e, by omega, hc⟩⟩
theorem Reads.below (h : Reads w B size A n xs) (hb : Below B w w') : Reads w' B size A n xs := h.keep fun _ hp => hb.cell hp
theorem Reads.drew (h : Reads w B size A n xs) : Reads w.drew B size A n xs := h
theorem Reads.drewN (h : Reads w B size A n xs) (k : Nat) : Reads (w.drewN k) B size A n xs := h
theorem Reads.alloc (h : Reads w B size A n xs) (hB : B ≤ w.heap.size) (o : Obj) : Reads (w.alloc o) B size A n xs := h.keep fun p hp => World.cell?_alloc_lt w o p (by omega)
theorem Reads.setCell (h : Reads w B size A n xs) {p : Addr} (hB : B ≤ p.block) (u : Value) : Reads (w.setCell p u) B size A n xs :=
  h.keep fun q hq => World.cell?_setCell_other w p q u (fun e => by subst e; omega)
theorem Reads.grown (h : Reads w B size A n xs) {row : Option Nat} (hg : w.grownBy w' row) (hB : B ≤ w.heap.size) (hr : ∀ g, row = some g → B ≤ g) : Reads w' B size A n xs :=
  h.keep fun p hp => World.cell?_of_block (hg.block p.block (by omega) (fun e => by have := hr _ e.symm; omega))
theorem Reads.cut (h : Reads w B size A n xs) {k cap : Nat} (hk : k ≤ n) (hc : n ≤ cap) :
    Reads w B size (if cap = k then A else A.map (·.add (k * size))) (n - k) (xs.drop (k * size)) := by
  refine ⟨by rw [List.length_drop, h.1, Nat.sub_mul], fun hn => ?_⟩
  obtain ⟨ad, rfl, hb, hcell⟩ := h.2 (by omega)
  rw [if_neg (by omega)]
  refine ⟨ad.add (k * size), rfl, by rw [block_of_add]; exact hb, fun j u hu => ?_⟩
  rw [add_of_add]
  exact hcell _ u (by rw [← hu, List.getElem?_drop])
theorem Reads.of_own {base : Nat} {e : TypeId} {c : Nat} (h : w.ownsRow base e size (.slice A n c) n xs) : Reads w w.heap.size size A n xs := by
  refine ⟨h.1, fun hn => ?_⟩
  obtain ⟨g, cap, hv, _, hlt⟩ := h.form hn
  have hA : A = some ⟨g, 0, none⟩ := by injection hv
  subst hA
  exact ⟨_, rfl, hlt, h.cells (g := g) rfl⟩
end

section
variable {w w' : World} {g : Nat} {t : TypeId} {cs : Array Value}
theorem Blk.grown {row : Option Nat} (h : Blk w g t cs) (hb : w.grownBy w' row) (hg : some g ≠ row) : Blk w' g t cs := (hb.block g h.lt hg).trans h
end
/-- A row of the call's own lies from base on. -/
theorem own_ge {w : World} {base size n : Nat} {e : TypeId} {v : Value} {xs : List Value} (h : w.ownsRow base e size v n xs) {g : Nat} (hg : g < base) : some g ≠ v.ownBlock := fun e => by
  have := h.lt g e.symm
  omega
theorem own_le {w : World} {base size n : Nat} {e : TypeId} {v : Value} {xs : List Value} (h : w.ownsRow base e size v n xs) : ∀ k, v.ownBlock = some k → base ≤ k := fun k hk => (h.lt k hk).1
/-- The numbers of a list of uint32. -/
def ints (l : List Int) : List Value := l.map (Value.int .u32)
theorem ints_snoc (l : List Int) (x : Int) : ints (l ++ [x]) = ints l ++ [.int .u32 x] := by simp [ints]
theorem ints_get {l : List Int} {k : Nat} {x : Int} (h : l[k]? = some x) : (ints l)[k]? = some (.int .u32 x) := by simp [ints, h]
theorem ints_len (l : List Int) : (ints l).length = l.length := by simp [ints]
theorem u32_info : (Try.prog.info? 22).map (fun i => (i.zero, i.size, i.bytes)) = some (some (.int .u32 0), 1, 4) := by kernel_rfl
/-- The slice value begins at A and holds the numbers l, in blocks from lo on. -/
def Rd (w : World) (lo : Nat) (A : Option Addr) (l : List Int) : Prop :=
  ∀ k x, l[k]? = some x → ∃ ad, A = some ad ∧ lo ≤ ad.block ∧ ad.block < w.heap.size ∧ w.cell? (ad.add k) = some (.int .u32 x)
section
variable {w w' : World} {lo : Nat} {A : Option Addr} {l : List Int}
theorem Rd.keep (h : Rd w lo A l) (hs : w.heap.size ≤ w'.heap.size) (hk : ∀ p : Addr, lo ≤ p.block → p.block < w.heap.size → w'.cell? p = w.cell? p) : Rd w' lo A l := fun k x hx => by
  obtain ⟨ad, e, h1, h2, h3⟩ := h k x hx
  exact ⟨ad, e, h1, by omega, (hk _ (by rw [block_of_add]; exact h1) (by rw [block_of_add]; exact h2)).trans h3⟩
theorem Rd.below (h : Rd w lo A l) (hb : Below w.heap.size w w') : Rd w' lo A l := h.keep hb.size fun _ _ hp => hb.cell hp
theorem Rd.more {lo' : Nat} (h : Rd w lo A l) (hl : lo' ≤ lo) : Rd w lo' A l := fun k x hx => by
  obtain ⟨ad, e, h1, h2, h3⟩ := h k x hx
  exact ⟨ad, e, by omega, h2, h3⟩
theorem Rd.drew (h : Rd w lo A l) : Rd w.drew lo A l := h
theorem Rd.drewN (h : Rd w lo A l) (n : Nat) : Rd (w.drewN n) lo A l := h
theorem Rd.alloc (h : Rd w lo A l) (o : Obj) : Rd (w.alloc o) lo A l := h.keep (by simp) fun p _ hp => World.cell?_alloc_lt w o p hp
theorem Rd.setCell (h : Rd w lo A l) {p : Addr} (hp : p.block < lo) (u : Value) : Rd (w.setCell p u) lo A l :=
  h.keep (by simp) fun q hq _ => World.cell?_setCell_other w p q u (fun e => by subst e; omega)
theorem Rd.put (h : Rd w lo A l) {g : Nat} (hg : g < lo) (s : VSet) : Rd (World.put w g s) lo A l :=
  ((((h.setCell hg _).setCell hg _).setCell hg _).setCell hg _).setCell hg _
end
/-- The same, with the blocks below hi. -/
def RdU (w : World) (hi : Nat) (A : Option Addr) (l : List Int) : Prop :=
  ∀ k x, l[k]? = some x → ∃ ad, A = some ad ∧ ad.block < hi ∧ w.cell? (ad.add k) = some (.int .u32 x)
section
variable {w w' : World} {lo hi : Nat} {A : Option Addr} {l : List Int}
theorem Rd.up (h : Rd w lo A l) : RdU w w.heap.size A l := fun k x hx => by
  obtain ⟨ad, e, h1, h2, h3⟩ := h k x hx
  exact ⟨ad, e, h2, h3⟩
theorem RdU.keep (h : RdU w hi A l) (hk : ∀ p : Addr, p.block < hi → w'.cell? p = w.cell? p) : RdU w' hi A l := fun k x hx => by
  obtain ⟨ad, e, h1, h3⟩ := h k x hx
  exact ⟨ad, e, h1, (hk _ (by rw [block_of_add]; exact h1)).trans h3⟩
theorem RdU.below {B : Nat} (h : RdU w hi A l) (hb : Below B w w') (hB : hi ≤ B) : RdU w' hi A l := h.keep fun _ hp => hb.cell (by omega)
theorem RdU.drew (h : RdU w hi A l) : RdU w.drew hi A l := h
theorem RdU.alloc (h : RdU w hi A l) (o : Obj) (hB : hi ≤ w.heap.size) : RdU (w.alloc o) hi A l := h.keep fun p hp => World.cell?_alloc_lt w o p (by omega)
theorem RdU.setCell (h : RdU w hi A l) {p : Addr} (hp : hi ≤ p.block) (u : Value) : RdU (w.setCell p u) hi A l :=
  h.keep fun q hq => World.cell?_setCell_other w p q u (fun e => by subst e; omega)
theorem RdU.put (h : RdU w hi A l) {g : Nat} (hg : hi ≤ g) (s : VSet) : RdU (World.put w g s) hi A l :=
  ((((h.setCell hg _).setCell hg _).setCell hg _).setCell hg _).setCell hg _
end
/-- A slice of numbers that the call hands back. -/
def Slice32 (l : List Int) (mk : Value → Value) (w : World) (e : Ending) (w' : World) : Prop :=
  ∃ A c, e = .returned (mk (.slice A l.length c)) ∧ Rd w' w.heap.size A l ∧ Below w.heap.size w w'
theorem rd_of_own {w : World} {base lo : Nat} {A : Option Addr} {c : Nat} {l : List Int} (h : w.ownsRow base 22 1 (.slice A l.length c) l.length (ints l)) (hlo : lo ≤ base) : Rd w lo A l := fun k x hx => by
  have hl : k < l.length := by
    rcases Nat.lt_or_ge k l.length with h1 | h1
    · exact h1
    · rw [List.getElem?_eq_none h1] at hx; cases hx
  obtain ⟨g, cap, hv, hb, hlt⟩ := h.form (by omega)
  have hA : A = some ⟨g, 0, none⟩ := by injection hv
  subst hA
  exact ⟨_, rfl, Nat.le_trans hlo hb, hlt, h.cells (g := g) rfl k _ (ints_get hx)⟩
theorem slice_of_own {w w' : World} {base : Nat} {v : Value} {l : List Int} {mk : Value → Value} (h : w'.ownsRow base 22 1 v l.length (ints l)) (hbase : w.heap.size ≤ base) (hb : Below w.heap.size w w') : Slice32 l mk w (.returned (mk v)) w' := by
  have hf : ∃ A c, v = .slice A l.length c := by
    rcases h.2 with ⟨rfl, h0⟩ | ⟨g, cap, cur, rfl, _⟩
    · rw [h0]; exact ⟨_, _, rfl⟩
    · exact ⟨_, _, rfl⟩
  obtain ⟨A, c, rfl⟩ := hf
  exact ⟨A, c, rfl, rd_of_own h hbase, hb⟩
theorem slice_at {w w' : World} {base : Nat} {v : Value} {l : List Int} {mk : Value → Value} {e : Ending} (h : w'.ownsRow base 22 1 v l.length (ints l)) (hbase : w.heap.size ≤ base) (hb : Below w.heap.size w w') (he : e = .returned (mk v)) : Slice32 l mk w e w' := by
  subst he; exact slice_of_own h hbase hb
end Go.Proofs.Ytjhdjclcfmcilaa
