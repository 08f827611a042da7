/-
  The second machine on terms is right: what stores, appends, makes and maps do to an own object. No program.
-/
import Derived.Test.YtjhdjclcfmcilaaT5
import Derived.Deep.AppendSrc
import Derived.Laws.MakeOwn
namespace Go.Proofs.Ytjhdjclcfmcilaa.T2
open Go.ChangeShapes Go.WideShapes Go.ChangeAt Go.RowKit
set_option linter.unusedVariables false
theorem kindsX_leaf {e : Env} : ∀ {xs : List LX} {ks : List (Option IntKind)}, kindsX xs ks = true → xs.length = ks.length ∧ ∀ (j : Nat) (x : LX) (k : Option IntKind), xs[j]? = some x → ks[j]? = some k → x.den e = leafD k (leafI e x) (leafB e x)
  | [], [], _ => ⟨rfl, fun j x k h => by simp at h⟩
  | .t x :: xs, none :: ks, h => by
    unfold kindsX at h
    obtain ⟨h1, h2⟩ := kindsX_leaf h
    refine ⟨by simp [h1], fun j y k hj hk => ?_⟩
    cases j with
    | zero => simp at hj hk; subst hj; subst hk; rfl
    | succ j => simp only [List.getElem?_cons_succ] at hj hk; exact h2 j y k hj hk
  | .n k' x :: xs, some k0 :: ks, h => by
    unfold kindsX at h
    simp only [Bool.and_eq_true, beq_iff_eq] at h
    obtain ⟨rfl, h⟩ := h
    obtain ⟨h1, h2⟩ := kindsX_leaf h
    refine ⟨by simp [h1], fun j y k hj hk => ?_⟩
    cases j with
    | zero => simp at hj hk; subst hj; subst hk; rfl
    | succ j => simp only [List.getElem?_cons_succ] at hj hk; exact h2 j y k hj hk
  | [], _ :: _, h => by cases h
  | .t _ :: _, [], h => by cases h
  | .t _ :: _, some _ :: _, h => by cases h
  | .n _ _ :: _, [], h => by cases h
  | .n _ _ :: _, none :: _, h => by cases h
  | .p _ _ :: _, _, h => by unfold kindsX at h; cases h
  | .pi _ _ _ _ _ _ :: _, _, h => by unfold kindsX at h; cases h
  | .q _ _ _ _ :: _, _, h => by unfold kindsX at h; cases h
  | .qn _ _ _ _ _ :: _, _, h => by unfold kindsX at h; cases h
  | .sl _ _ :: _, _, h => by unfold kindsX at h; cases h
  | .sb _ _ :: _, _, h => by unfold kindsX at h; cases h
  | .sn _ _ :: _, _, h => by unfold kindsX at h; cases h
  | .mp _ :: _, _, h => by unfold kindsX at h; cases h
  | .fn _ _ :: _, _, h => by unfold kindsX at h; cases h
  | .np :: _, _, h => by unfold kindsX at h; cases h
  | .ns :: _, _, h => by unfold kindsX at h; cases h
  | .nm :: _, _, h => by unfold kindsX at h; cases h
theorem kindsOf_kindsX : ∀ {xs : List LX} {ks : List (Option IntKind)}, kindsOf xs = some ks → kindsX xs ks = true
  | [], ks, h => by simp only [kindsOf, Option.some.injEq] at h; subst h; rfl
  | .t x :: xs, ks, h => by
    unfold kindsOf at h
    obtain ⟨ks', h1, rfl⟩ := opt_map h
    unfold kindsX
    exact kindsOf_kindsX h1
  | .n k x :: xs, ks, h => by
    unfold kindsOf at h
    obtain ⟨ks', h1, rfl⟩ := opt_map h
    unfold kindsX
    simp [kindsOf_kindsX h1]
  | .p _ _ :: _, _, h => by cases h
  | .pi _ _ _ _ _ _ :: _, _, h => by cases h
  | .q _ _ _ _ :: _, _, h => by cases h
  | .qn _ _ _ _ _ :: _, _, h => by cases h
  | .sl _ _ :: _, _, h => by cases h
  | .sb _ _ :: _, _, h => by cases h
  | .sn _ _ :: _, _, h => by cases h
  | .mp _ :: _, _, h => by cases h
  | .fn _ _ :: _, _, h => by cases h
  | .np :: _, _, h => by cases h
  | .ns :: _, _, h => by cases h
  | .nm :: _, _, h => by cases h
theorem mul_cell {i i' j sz m o : Nat} (hj : j < sz) (hm : o + m ≤ sz) (h1 : i * sz + o ≤ i' * sz + j) (h2 : i' * sz + j < i * sz + o + m) : i' = i ∧ j = o + (i' * sz + j - (i * sz + o)) := by
  have hi : i' = i := by
    rcases Nat.lt_trichotomy i' i with h | h | h
    · have := Nat.mul_le_mul_right sz (show i' + 1 ≤ i by omega)
      rw [Nat.succ_mul] at this
      omega
    · exact h
    · have := Nat.mul_le_mul_right sz (show i + 1 ≤ i' by omega)
      rw [Nat.succ_mul] at this
      omega
  subst hi
  exact ⟨rfl, by omega⟩
section
variable {P : Program} {e : Env} {B : Nat} {w w' : World} {base : Option Addr} {len cap : Nat} {ks : List (Option IntKind)} {int : Nat → Int} {bool : Nat → Bool}
theorem run_storeVar_at {g t0 : Nat} {C0 : Array Value} (hB : Blk w g t0 C0) {t : TypeId} {m : Nat} (hi : (P.info? t).map (·.size) = some m) {o : Nat} {v : PX} (hl : v.cells.length = m) (hb : o + m ≤ C0.size) :
    (storeVar t ⟨g, o, none⟩ (v.den e)).run P w = .ok () (w.setCells g o (v.cells.map (·.den e))) := by
  cases hq : P.info? t with
  | none => rw [hq] at hi; cases hi
  | some i =>
    rw [hq] at hi
    simp only [Option.map_some, Option.some.injEq] at hi
    have h1 : (v.den e).cells.toList = v.cells.map (·.den e) := by rw [PX.cells_den]
    have h2 : (v.den e).cells.size = m := by rw [PX.cells_den]; simp [hl]
    have h3 := run_storeCells_cells (P := P) g o (v.cells.map (·.den e)) 0 w (fun j hj => by
      rw [hB.walk.1]; simp only [List.length_map] at hj; simp only [Nat.add_zero]; rw [Array.getElem?_eq_getElem (by omega)]; rfl) (fun j _ => hB.walk.2 _)
      (fun u hu => by obtain ⟨x, _, rfl⟩ := List.mem_map.1 hu; exact LX.cells_one e x)
    simp only [Nat.add_zero] at h3
    simp only [storeVar, Sem.run_bind, run_size hq, Result.andThen_ok, h2, hi, ne_eq, not_true_eq_false, if_false, h1]
    exact h3
theorem setCells_block : ∀ (vs : List Value) (o : Nat) {w : World} {b g : Nat}, g ≠ b → (w.setCells b o vs).heap[g]? = w.heap[g]?
  | [], _, _, _, _, _ => rfl
  | v :: vs, o, w, b, g, h => by
    rw [World.setCells, setCells_block vs (o + 1) h]
    exact Below.heap_setCell _ _ _ _ h
/-- Cells of an element are stored. -/
theorem Own.put (h : Own B w base len cap ks int bool) {i o : Nat} (hi : i < len) {v : PX} (hk : kindsX v.cells ((ks.drop o).take v.cells.length) = true) (hm : o + v.cells.length ≤ ks.length) {t : TypeId} (ht : (P.info? t).map (·.size) = some v.cells.length) :
    ∃ g, base = some ⟨g, 0, none⟩ ∧ B ≤ g ∧ (storeVar t ((⟨g, 0, none⟩ : Addr).add (i * ks.length + o)) (v.den e)).run P w = .ok () (w.setCells g (i * ks.length + o) (v.cells.map (·.den e))) ∧
      Own B (w.setCells g (i * ks.length + o) (v.cells.map (·.den e))) base len cap ks (updC int (i * ks.length + o) (v.cells.map (leafI e))) (updC bool (i * ks.length + o) (v.cells.map (leafB e))) := by
  obtain ⟨h1, h2 | ⟨g, t', cs, rfl, hg, hb, hs, hc⟩⟩ := h
  · omega
  have hik : i * ks.length + ks.length ≤ cap * ks.length := by
    have := Nat.mul_le_mul_right ks.length (show i + 1 ≤ cap by omega)
    rwa [Nat.succ_mul] at this
  have hfit : i * ks.length + o + v.cells.length ≤ cs.size := by rw [hs]; omega
  refine ⟨g, rfl, hg, ?_, h1, .inr ⟨g, t', _, rfl, hg, setCells_blk _ _ hb (by simpa using hfit), ?_, fun i' hi' j k hj => ?_⟩⟩
  · rw [add_mid, Nat.zero_add]
    exact run_storeVar_at hb ht rfl hfit
  · simp only [List.size_toArray, List.length_append, List.length_take, List.length_drop, Array.length_toList, List.length_map]
    omega
  · obtain ⟨hl, hkl⟩ := kindsX_leaf (e := e) hk
    have hjl : j < ks.length := by
      rcases Nat.lt_or_ge j ks.length with h0 | h0
      · exact h0
      · rw [List.getElem?_eq_none h0] at hj; cases hj
    rw [List.getElem?_toArray, seg_get _ _ _ _ (by simpa using hfit)]
    simp only [List.length_map]
    have old : cs.toList[i' * ks.length + j]? = some (leafD k (int (i' * ks.length + j)) (bool (i' * ks.length + j))) := by simpa using hc i' hi' j k hj
    by_cases c1 : i' * ks.length + j < i * ks.length + o
    · rw [if_pos c1, old, updC_out (.inl c1), updC_out (.inl c1)]
    · rw [if_neg c1]
      by_cases c2 : i' * ks.length + j < i * ks.length + o + v.cells.length
      · rw [if_pos c2]
        obtain ⟨rfl, hjo⟩ := mul_cell hjl hm (by omega) c2
        generalize hq : i' * ks.length + j - (i' * ks.length + o) = q at *
        have hql : q < v.cells.length := by omega
        have hpos : i' * ks.length + j = i' * ks.length + o + q := by omega
        have hx := List.getElem?_eq_getElem hql
        rw [hpos, updC_in (by rw [List.getElem?_map, hx]; rfl), updC_in (by rw [List.getElem?_map, hx]; rfl), List.getElem?_map, hx, Option.map_some]
        congr 1
        refine hkl q _ k hx ?_
        rw [List.getElem?_take_of_lt hql, List.getElem?_drop, ← hjo]
        exact hj
      · rw [if_neg c2, old, updC_out (.inr (by simp only [List.length_map]; omega)), updC_out (.inr (by simp only [List.length_map]; omega))]
/-- One element more. -/
theorem cells_more {cs : Array Value} {vs : List LX} (hk : kindsX vs ks = true) (hold : ∀ i, i < len → ∀ (j : Nat) (k : Option IntKind), ks[j]? = some k → cs[i * ks.length + j]? = some (leafD k (int (i * ks.length + j)) (bool (i * ks.length + j))))
    (hnew : ∀ (j : Nat) (x : LX), vs[j]? = some x → cs[len * ks.length + j]? = some (x.den e)) :
    ∀ i, i < len + 1 → ∀ (j : Nat) (k : Option IntKind), ks[j]? = some k → cs[i * ks.length + j]? = some (leafD k (updC int (len * ks.length) (vs.map (leafI e)) (i * ks.length + j)) (updC bool (len * ks.length) (vs.map (leafB e)) (i * ks.length + j))) := by
  obtain ⟨hl, hkl⟩ := kindsX_leaf (e := e) hk
  intro i hi j k hj
  have hjl : j < ks.length := by
    rcases Nat.lt_or_ge j ks.length with h0 | h0
    · exact h0
    · rw [List.getElem?_eq_none h0] at hj; cases hj
  rcases Nat.lt_or_ge i len with h0 | h0
  · have : i * ks.length + ks.length ≤ len * ks.length := by
      have := Nat.mul_le_mul_right ks.length (show i + 1 ≤ len by omega)
      rwa [Nat.succ_mul] at this
    rw [hold i h0 j k hj, updC_out (.inl (by omega)), updC_out (.inl (by omega))]
  · obtain rfl : i = len := by omega
    have hx := List.getElem?_eq_getElem (show j < vs.length by omega)
    rw [hnew j _ hx, updC_in (by rw [List.getElem?_map, hx]; rfl), updC_in (by rw [List.getElem?_map, hx]; rfl)]
    congr 1
    exact hkl j _ k hx hj
theorem zeroL_leaf {x : LX} (h : zeroL x = true) : leafI e x = 0 ∧ leafB e x = false := by
  unfold zeroL at h
  split at h <;> first | (cases h; done) | exact ⟨rfl, rfl⟩
theorem zeroKs_spec {t : TypeId} (h : zeroKs P t = some ks) : ∃ i z, P.info? t = some i ∧ i.zero = some z ∧ z.cells.size = ks.length ∧ ∀ (j : Nat) (k : Option IntKind), ks[j]? = some k → z.cells[j]? = some (leafD k 0 false) := by
  unfold zeroKs at h
  split at h
  · rename_i z hz
    obtain ⟨i, hi, hz'⟩ := Option.bind_eq_some_iff.1 hz
    split at h
    · rename_i cs hcs
      split at h
      · rename_i hall
        have hden := ofLs_den (e := ⟨fun _ => Nm.zero⟩) hcs
        obtain ⟨hl, hk⟩ := kindsX_leaf (e := ⟨fun _ => Nm.zero⟩) (kindsOf_kindsX h)
        have hsz : z.cells.size = cs.length := by rw [← Array.length_toList, ← hden, List.length_map]
        refine ⟨i, z, hi, hz', by rw [hsz, hl], fun j k hj => ?_⟩
        have hjl : j < cs.length := by
          rw [hl]
          rcases Nat.lt_or_ge j ks.length with h0 | h0
          · exact h0
          · rw [List.getElem?_eq_none h0] at hj; cases hj
        have hx := List.getElem?_eq_getElem hjl
        have : z.cells.toList[j]? = some (cs[j].den ⟨fun _ => Nm.zero⟩) := by rw [← hden, List.getElem?_map, hx]; rfl
        rw [← Array.getElem?_toList, this, hk j _ k hx hj]
        have hzl := zeroL_leaf (e := ⟨fun _ => Nm.zero⟩) (List.all_eq_true.1 hall _ (List.getElem_mem hjl))
        rw [hzl.1, hzl.2]
      · cases h
    · cases h
  · cases h
theorem elemX_spec {t e : TypeId} {sz : Nat} (h : elemX P t = some (e, sz)) : ∃ i, P.underlying t = some (.slice e) ∧ P.info? e = some i ∧ i.bytes ≤ 100000 ∧ i.size = sz := by
  unfold elemX at h
  split at h
  · rename_i e' hu
    split at h
    · rename_i i hi
      split at h
      · rename_i hb
        simp only [Option.some.injEq, Prod.mk.injEq] at h
        obtain ⟨rfl, rfl⟩ := h
        exact ⟨i, hu, hi, hb, rfl⟩
      · cases h
    · cases h
  · cases h
/-- What an append leaves of the world. -/
structure Left (w w' : World) (base base' : Option Addr) : Prop where
  os : w'.os = w.os
  tape : w'.tape = w.tape
  output : w'.output = w.output
  size : w.heap.size ≤ w'.heap.size
  block : ∀ g, g < w.heap.size → (∀ a, base = some a → a.block ≠ g) → w'.heap[g]? = w.heap[g]?
  at_ : base' = base ∨ ∃ a, base' = some a ∧ w.heap.size ≤ a.block
theorem Left.below {base' : Option Addr} (h : Left w w' base base') {w0 : World} (hw : Below w0.heap.size w0 w) (hb : ∀ a, base = some a → w0.heap.size ≤ a.block) : Below w0.heap.size w0 w' :=
  ⟨h.os.trans hw.os, h.tape.trans hw.tape, h.output.trans hw.output, Nat.le_trans hw.size h.size, fun k hk => (h.block k (Nat.lt_of_lt_of_le hk hw.size) fun a ha => by have := hb a ha; omega).trans (hw.block k hk)⟩
/-- One element is appended. -/
theorem Own.append1 (h : Own B w base len cap ks int bool) (hB : B ≤ w.heap.size) {t el ty : TypeId} {sz : Nat} (ht : elemX P t = some (el, sz)) (hks : zeroKs P el = some ks) (hsz : ks.length = sz) {vs : List LX} (hk : kindsX vs ks = true)
    {g2 t2 : Nat} (hsrc : Blk w g2 t2 (vs.map (·.den e)).toArray) (hl : len ≤ 1000000) :
    ∃ base' cap' w', (Builtin.append_ #[t, t] ty #[.slice base len cap, .slice (some ⟨g2, 0, none⟩) 1 1]).run P w = .ok (.slice base' (len + 1) cap') w' ∧
      Own B w' base' (len + 1) cap' ks (updC int (len * ks.length) (vs.map (leafI e))) (updC bool (len * ks.length) (vs.map (leafB e))) ∧ Left w w' base base' := by
  obtain ⟨i, hu, hi, hby, hisz⟩ := elemX_spec ht
  obtain ⟨i', z, hi', hz, hzs, hzc⟩ := zeroKs_spec hks
  rw [hi] at hi'
  cases hi'
  obtain ⟨hvl, hkl⟩ := kindsX_leaf (e := e) hk
  have hS : Src P i.size t (.slice (some ⟨g2, 0, none⟩) 1 1) 1 (vs.map (·.den e)) w := Src.ofSlice w hu _ 1 1 _ (by rw [List.length_map, hvl, hsz, hisz]; omega) (fun j u hu => by
    rw [add_mid, hsrc.walk.1, Nat.zero_add]; simpa using hu) (fun u hu => by obtain ⟨x, _, rfl⟩ := List.mem_map.1 hu; exact LX.cells_one e x)
  by_cases hroom : len + 1 ≤ cap
  · obtain ⟨h1, h2 | ⟨g, t', cs, rfl, hg, hb, hs, hc⟩⟩ := h
    · omega
    have hfit : len * ks.length + vs.length ≤ cs.size := by
      rw [hs, hvl]
      have := Nat.mul_le_mul_right ks.length hroom
      rwa [Nat.succ_mul] at this
    have hr := run_append_room_src (P := P) w t t ty el i hu hi g 0 len cap _ 1 _ hS hroom (fun j hj => by
      rw [hb.walk.1, Nat.zero_add, hisz, ← hsz]
      simp only [List.length_map] at hj
      rw [Array.getElem?_eq_getElem (by omega)]; rfl) (fun j hj => hb.walk.2 _)
    rw [Nat.zero_add, hisz, ← hsz] at hr
    refine ⟨_, _, _, hr, ⟨hroom, .inr ⟨g, t', _, rfl, hg, setCells_blk _ _ hb (by simpa using hfit), ?_, cells_more hk (fun i0 hi0 j k hj => ?_) fun j x hx => ?_⟩⟩, ⟨?_, ?_, ?_, ?_, ?_, .inl rfl⟩⟩
    · simp only [List.size_toArray, List.length_append, List.length_take, List.length_drop, Array.length_toList, List.length_map]
      omega
    · have hjl : j < ks.length := by
        rcases Nat.lt_or_ge j ks.length with h0 | h0
        · exact h0
        · rw [List.getElem?_eq_none h0] at hj; cases hj
      have : i0 * ks.length + ks.length ≤ len * ks.length := by
        have := Nat.mul_le_mul_right ks.length (show i0 + 1 ≤ len by omega)
        rwa [Nat.succ_mul] at this
      rw [List.getElem?_toArray, seg_get _ _ _ _ (by simpa using hfit), if_pos (by omega)]
      simpa using hc i0 hi0 j k hj
    · have hjl : j < vs.length := by
        rcases Nat.lt_or_ge j vs.length with h0 | h0
        · exact h0
        · rw [List.getElem?_eq_none h0] at hx; cases hx
      rw [List.getElem?_toArray, seg_get _ _ _ _ (by simpa using hfit), if_neg (by omega), if_pos (by simp only [List.length_map]; omega), show len * ks.length + j - len * ks.length = j by omega, List.getElem?_map, hx]
      rfl
    · exact (setCells_below (a := w) (B := 0) _ _ (Below.refl 0 w) (Nat.zero_le _)).os
    · exact (setCells_below (a := w) (B := 0) _ _ (Below.refl 0 w) (Nat.zero_le _)).tape
    · exact (setCells_below (a := w) (B := 0) _ _ (Below.refl 0 w) (Nat.zero_le _)).output
    · exact (setCells_below (a := w) (B := 0) _ _ (Below.refl 0 w) (Nat.zero_le _)).size
    · intro g' hg' hne
      exact setCells_block _ _ (fun h => hne _ rfl h.symm)
  · -- a new row
    have hcl : cap = len := by have := h.1; omega
    subst hcl
    have olds : ∃ os : List Value, os.length = cap * ks.length ∧ (Builtin.firstCells i.size cap (.slice base cap cap)).run P w.drew = .ok os.toArray w.drew ∧
        ∀ i0, i0 < cap → ∀ (j : Nat) (k : Option IntKind), ks[j]? = some k → os[i0 * ks.length + j]? = some (leafD k (int (i0 * ks.length + j)) (bool (i0 * ks.length + j))) := by
      obtain ⟨h1, ⟨rfl, rfl⟩ | ⟨g, t', cs, rfl, hg, hb, hs, hc⟩⟩ := h
      · exact ⟨[], by simp, run_firstCells_none .., fun i0 hi0 => by omega⟩
      · refine ⟨cs.toList, by rw [Array.length_toList, hs], run_firstCells_some w.drew i.size cap _ cap cap cs.toList (by rw [Array.length_toList, hs, hisz, hsz]) (fun j u hu => ?_), fun i0 hi0 j k hj => by simpa using hc i0 hi0 j k hj⟩
        rw [add_mid, hb.drew.walk.1, Nat.zero_add]
        simpa using hu
    obtain ⟨os, hol, hold, hoc⟩ := olds
    have hfitb : Builtin.nextslicecap (cap + 1) cap * i.bytes ≤ 281474976710656 := growslice_fits (by omega) (by
      have := Nat.mul_le_mul (show cap + 1 ≤ 1000001 by omega) hby
      omega)
    have hr := run_append_grow_src (P := P) w t t ty el i z hu hi hz base cap cap os hold _ 1 _ hS (by omega) (by omega) hfitb
    have hge := grownCap_ge w (cap + 1) cap el
    refine ⟨_, _, _, hr, ⟨hge, .inr ⟨w.heap.size, el, _, rfl, hB, Blk.new w.drew _ _, ?_, cells_more hk (fun i0 hi0 j k hj => ?_) fun j x hx => ?_⟩⟩, ⟨rfl, rfl, rfl, by simp, fun g hg _ => heap_alloc_old w.drew _ hg, .inr ⟨_, rfl, Nat.le_refl _⟩⟩⟩
    · simp only [Array.size_append, List.size_toArray, List.length_append, size_zeroCells, hzs, hol, List.length_map, hvl, Nat.sub_mul, Nat.succ_mul]
      have := Nat.mul_le_mul_right ks.length hge
      rw [Nat.succ_mul] at this
      omega
    · have hjl : j < ks.length := by
        rcases Nat.lt_or_ge j ks.length with h0 | h0
        · exact h0
        · rw [List.getElem?_eq_none h0] at hj; cases hj
      have hle : i0 * ks.length + ks.length ≤ cap * ks.length := by
        have := Nat.mul_le_mul_right ks.length (show i0 + 1 ≤ cap by omega)
        rwa [Nat.succ_mul] at this
      rw [Array.getElem?_append_left (by simp [hol]; omega), List.getElem?_toArray, List.getElem?_append_left (by rw [hol]; omega)]
      exact hoc i0 hi0 j k hj
    · have hjl : j < vs.length := by
        rcases Nat.lt_or_ge j vs.length with h0 | h0
        · exact h0
        · rw [List.getElem?_eq_none h0] at hx; cases hx
      rw [Array.getElem?_append_left (by simp [hol]; omega), List.getElem?_toArray, List.getElem?_append_right (by rw [hol]; omega), hol, show cap * ks.length + j - cap * ks.length = j by omega, List.getElem?_map, hx]
      rfl
/-- Cells are appended to a slice that is full, one cell an element. -/
theorem Own.appendFull {g1 t1 g2 t2 : Nat} {xs ys : List LX} {q : Option IntKind} (h1 : Blk w g1 t1 (xs.map (·.den e)).toArray) (h2 : Blk w g2 t2 (ys.map (·.den e)).toArray) (hB : B ≤ w.heap.size) {t el ty : TypeId} (ht : elemX P t = some (el, 1)) (hks : zeroKs P el = some [q])
    (kx : kindsX xs (List.replicate xs.length q) = true) (ky : kindsX ys (List.replicate ys.length q) = true) (hy : 0 < ys.length) (hl : xs.length + ys.length ≤ 1000) :
    ∃ base' cap' int bool w', (Builtin.append_ #[t, t] ty #[.slice (some ⟨g1, 0, none⟩) xs.length xs.length, .slice (some ⟨g2, 0, none⟩) ys.length ys.length]).run P w = .ok (.slice base' (xs.length + ys.length) cap') w' ∧
      Own B w' base' (xs.length + ys.length) cap' [q] int bool ∧ Left w w' none base' := by
  obtain ⟨i, hu, hi, hby, hisz⟩ := elemX_spec ht
  obtain ⟨i', z, hi', hz, hzs, hzc⟩ := zeroKs_spec hks
  rw [hi] at hi'
  cases hi'
  have hS : Src P i.size t (.slice (some ⟨g2, 0, none⟩) ys.length ys.length) ys.length (ys.map (·.den e)) w := Src.ofSlice w hu _ _ _ _ (by rw [List.length_map, hisz, Nat.mul_one]) (fun j u hu => by
    rw [add_mid, h2.walk.1, Nat.zero_add]; simpa using hu) (fun u hu => by obtain ⟨x, _, rfl⟩ := List.mem_map.1 hu; exact LX.cells_one e x)
  have hold : (Builtin.firstCells i.size xs.length (.slice (some ⟨g1, 0, none⟩) xs.length xs.length)).run P w.drew = .ok (xs.map (·.den e)).toArray w.drew := run_firstCells_some w.drew i.size xs.length _ xs.length xs.length (xs.map (·.den e)) (by rw [List.length_map, hisz, Nat.mul_one]) (fun j u hu => by
    rw [add_mid, h1.drew.walk.1, Nat.zero_add]; simpa using hu)
  have hfitb : Builtin.nextslicecap (xs.length + ys.length) xs.length * i.bytes ≤ 281474976710656 := growslice_fits (by omega) (by
    have := Nat.mul_le_mul (show xs.length + ys.length ≤ 1000 by omega) hby
    omega)
  have hr := run_append_grow_src (P := P) w t t ty el i z hu hi hz (some ⟨g1, 0, none⟩) xs.length xs.length (xs.map (·.den e)) hold _ ys.length _ hS (by omega) (by omega) hfitb
  have hge := grownCap_ge w (xs.length + ys.length) xs.length el
  have hread : ∀ i0 x, (xs ++ ys)[i0]? = some x → x.den e = leafD q (leafI e x) (leafB e x) := fun i0 x hx => by
    rcases Nat.lt_or_ge i0 xs.length with h | h
    · rw [List.getElem?_append_left h] at hx
      exact (kindsX_leaf (e := e) kx).2 i0 x q hx (by rw [List.getElem?_replicate, if_pos h])
    · rw [List.getElem?_append_right h] at hx
      have hl := (List.getElem?_eq_some_iff.1 hx).1
      exact (kindsX_leaf (e := e) ky).2 _ x q hx (by rw [List.getElem?_replicate, if_pos hl])
  refine ⟨_, _, fun p => match (xs ++ ys)[p]? with | some x => leafI e x | none => 0, fun p => match (xs ++ ys)[p]? with | some x => leafB e x | none => false, _, hr, ⟨hge, .inr ⟨w.heap.size, el, _, rfl, hB, Blk.new w.drew _ _, ?_, fun i0 hi0 j k hj => ?_⟩⟩, ⟨rfl, rfl, rfl, by simp, fun g hg _ => heap_alloc_old w.drew _ hg, .inr ⟨_, rfl, Nat.le_refl _⟩⟩⟩
  · simp only [Array.size_append, List.size_toArray, List.length_append, size_zeroCells, hzs, List.length_map, List.length_cons, List.length_nil]
    omega
  · have hj0 : j = 0 ∧ k = q := by
      match j, hj with
      | 0, hj => simp only [List.getElem?_cons_zero, Option.some.injEq] at hj; exact ⟨rfl, hj.symm⟩
      | j + 1, hj => simp at hj
    obtain ⟨rfl, rfl⟩ := hj0
    simp only [List.length_cons, List.length_nil, Nat.zero_add, Nat.mul_one, Nat.add_zero]
    rw [Array.getElem?_append_left (by simp; omega), List.getElem?_toArray, ← List.map_append, List.getElem?_map]
    have hl : i0 < (xs ++ ys).length := by rw [List.length_append]; exact hi0
    have hx := List.getElem?_eq_getElem hl
    rw [hx]
    exact congrArg some (hread i0 _ hx)
/-- A whole row is appended to an empty slice. -/
theorem Own.appendAll {g1 t1 : Nat} (hB1 : B ≤ g1) (h1 : Blk w g1 t1 #[]) (hB : B ≤ w.heap.size) {t el ty : TypeId} {sz c2 : Nat} (ht : elemX P t = some (el, sz)) (hks : zeroKs P el = some ks) (hsz : ks.length = sz) (hA : RowAt w base len ks int bool) (hbn : base = none → len = 0) (hl : len ≤ 1000000) :
    ∃ base' cap' w', (Builtin.append_ #[t, t] ty #[.slice (some ⟨g1, 0, none⟩) 0 0, .slice base len c2]).run P w = .ok (.slice base' len cap') w' ∧ Own B w' base' len cap' ks int bool ∧ Left w w' (some ⟨g1, 0, none⟩) base' := by
  obtain ⟨i, hu, hi, hby, hisz⟩ := elemX_spec ht
  obtain ⟨i', z, hi', hz, hzs, hzc⟩ := zeroKs_spec hks
  rw [hi] at hi'
  cases hi'
  -- the source
  have src : ∃ news : List Value, Src P i.size t (.slice base len c2) len news w ∧ ∀ i0, i0 < len → ∀ (j : Nat) (k : Option IntKind), ks[j]? = some k → news[i0 * ks.length + j]? = some (leafD k (int (i0 * ks.length + j)) (bool (i0 * ks.length + j))) := by
    rcases Nat.eq_zero_or_pos len with h0 | h0
    · subst h0
      cases base with
      | none => exact ⟨[], Src.ofNil w hu c2, fun i0 hi0 => by omega⟩
      | some a => exact ⟨[], Src.ofSlice w hu a 0 c2 [] (by simp) (fun j u hj => by simp at hj) (fun u hu => by cases hu), fun i0 hi0 => by omega⟩
    · obtain ⟨a, ha, hlt, hc0⟩ := hA 0 h0
      subst ha
      have hcell : ∀ i0, i0 < len → ∀ (j : Nat) (k : Option IntKind), ks[j]? = some k → w.cell? (a.add (i0 * ks.length + j)) = some (leafD k (int (i0 * ks.length + j)) (bool (i0 * ks.length + j))) := fun i0 hi0 j k hj => by
        obtain ⟨a', ha', _, hc⟩ := hA i0 hi0
        cases ha'
        exact hc j k hj
      have hsp : 0 < ks.length ∨ ks.length = 0 := by omega
      let news : List Value := (List.range (len * ks.length)).map fun p => leafD ((ks[p % ks.length]?).getD none) (int p) (bool p)
      have hget : ∀ p, p < len * ks.length → ∃ i0 j k, i0 < len ∧ p = i0 * ks.length + j ∧ ks[j]? = some k ∧ p % ks.length = j := fun p hp => by
        have hk0 : 0 < ks.length := by
          rcases Nat.eq_zero_or_pos ks.length with h | h
          · rw [h] at hp; omega
          · exact h
        have hm := Nat.mod_lt p hk0
        have hd := Nat.div_add_mod p ks.length
        refine ⟨p / ks.length, p % ks.length, ks[p % ks.length], Nat.div_lt_of_lt_mul (by rwa [Nat.mul_comm]), by rw [Nat.mul_comm]; exact hd.symm, List.getElem?_eq_getElem hm, rfl⟩
      refine ⟨news, Src.ofSlice w hu a len c2 news (by simp [news, hisz, hsz]) (fun j u hj => ?_) (fun u hu => ?_), fun i0 hi0 j k hj => ?_⟩
      · have hjl : j < len * ks.length := by
          rcases Nat.lt_or_ge j (len * ks.length) with h | h
          · exact h
          · rw [List.getElem?_eq_none (by simpa [news] using h)] at hj; cases hj
        obtain ⟨i0, j0, k, hi0, hp, hk, hmod⟩ := hget j hjl
        simp only [news, List.getElem?_map, List.getElem?_range hjl, Option.map_some, Option.some.injEq] at hj
        rw [← hj, hmod, hk, Option.getD_some, hp]
        exact hcell i0 hi0 j0 k hk
      · obtain ⟨p, _, rfl⟩ := List.mem_map.1 hu
        cases (ks[p % ks.length]?).getD none <;> rfl
      · have hjl : j < ks.length := by
          rcases Nat.lt_or_ge j ks.length with h0 | h0
          · exact h0
          · rw [List.getElem?_eq_none h0] at hj; cases hj
        have hle : i0 * ks.length + ks.length ≤ len * ks.length := by
          have := Nat.mul_le_mul_right ks.length (show i0 + 1 ≤ len by omega)
          rwa [Nat.succ_mul] at this
        have hmod : (i0 * ks.length + j) % ks.length = j := by rw [Nat.mul_comm, Nat.mul_add_mod]; exact Nat.mod_eq_of_lt hjl
        simp only [news, List.getElem?_map, List.getElem?_range (show i0 * ks.length + j < len * ks.length by omega), Option.map_some, hmod, hj, Option.getD_some]
  obtain ⟨news, hS, hnc⟩ := src
  have hnl : news.length = len * ks.length := by rw [hS.newsLen, hisz, hsz]
  by_cases h0 : len = 0
  · subst h0
    have hn0 : news = [] := List.eq_nil_of_length_eq_zero (by omega)
    subst hn0
    have hr := run_append_room_src (P := P) w t t ty el i hu hi g1 0 0 0 _ 0 _ hS (Nat.le_refl _) (fun j hj => by simp at hj) (fun j hj => by simp at hj)
    refine ⟨_, _, _, hr, ⟨Nat.le_refl _, .inr ⟨g1, t1, #[], rfl, hB1, h1, by simp, fun i0 hi0 => by omega⟩⟩, ⟨rfl, rfl, rfl, Nat.le_refl _, fun g hg _ => rfl, .inl rfl⟩⟩
  · have hold : (Builtin.firstCells i.size 0 (.slice (some ⟨g1, 0, none⟩) 0 0)).run P w.drew = .ok ([] : List Value).toArray w.drew := run_firstCells_some w.drew i.size 0 _ 0 0 [] (by simp) (fun j u hj => by simp at hj)
    have hfitb : Builtin.nextslicecap (0 + len) 0 * i.bytes ≤ 281474976710656 := growslice_fits (by omega) (by
      have := Nat.mul_le_mul (show 0 + len ≤ 1000000 by omega) hby
      omega)
    have hr := run_append_grow_src (P := P) w t t ty el i z hu hi hz (some ⟨g1, 0, none⟩) 0 0 [] hold _ len news hS (by omega) (by omega) hfitb
    have hge := grownCap_ge w (0 + len) 0 el
    rw [Nat.zero_add] at hr hge
    refine ⟨_, _, _, hr, ⟨hge, .inr ⟨w.heap.size, el, _, rfl, hB, Blk.new w.drew _ _, ?_, fun i0 hi0 j k hj => ?_⟩⟩, ⟨rfl, rfl, rfl, by simp, fun g hg _ => heap_alloc_old w.drew _ hg, .inr ⟨_, rfl, Nat.le_refl _⟩⟩⟩
    · simp only [Array.size_append, List.nil_append, List.size_toArray, size_zeroCells, hzs, hnl, Nat.sub_mul]
      have := Nat.mul_le_mul_right ks.length hge
      omega
    · have hjl : j < ks.length := by
        rcases Nat.lt_or_ge j ks.length with h0 | h0
        · exact h0
        · rw [List.getElem?_eq_none h0] at hj; cases hj
      have hle : i0 * ks.length + ks.length ≤ len * ks.length := by
        have := Nat.mul_le_mul_right ks.length (show i0 + 1 ≤ len by omega)
        rwa [Nat.succ_mul] at this
      rw [Array.getElem?_append_left (by simp [hnl]; omega), List.nil_append, List.getElem?_toArray]
      exact hnc i0 hi0 j k hj
/-- A new row of zeros. -/
theorem own_make (hB : B ≤ w.heap.size) {el : TypeId} {z : Value} {n : Nat} (hzs : z.cells.size = ks.length) (hzc : ∀ (j : Nat) (k : Option IntKind), ks[j]? = some k → z.cells[j]? = some (leafD k 0 false)) :
    Own B (w.alloc (.cells (madeCells z.cells (n * ks.length)) el)) (some ⟨w.heap.size, 0, none⟩) n n ks (fun _ => 0) (fun _ => false) := by
  refine ⟨Nat.le_refl _, .inr ⟨w.heap.size, el, _, rfl, hB, Blk.new w _ _, size_madeCells _ _, fun i hi j k hj => ?_⟩⟩
  have hjl : j < ks.length := by
    rcases Nat.lt_or_ge j ks.length with h0 | h0
    · exact h0
    · rw [List.getElem?_eq_none h0] at hj; cases hj
  have hle : i * ks.length + ks.length ≤ n * ks.length := by
    have := Nat.mul_le_mul_right ks.length (show i + 1 ≤ n by omega)
    rwa [Nat.succ_mul] at this
  have hmod : (i * ks.length + j) % ks.length = j := by rw [Nat.mul_comm, Nat.mul_add_mod]; exact Nat.mod_eq_of_lt hjl
  have hz := hzc j k hj
  have hzl : j < z.cells.size := by omega
  rw [Array.getElem?_eq_getElem hzl] at hz
  simp only [Option.some.injEq] at hz
  simp only [madeCells, Array.getElem?_map]
  rw [Array.getElem?_eq_getElem (by simp; omega)]
  simp only [Array.getElem_range, Option.map_some, hzs, hmod]
  rw [getElem!_pos z.cells j hzl, hz]
end

/-! ### Maps. -/
theorem findNow_int {kk : IntKind} : ∀ (es : List MapEntry) (n : Int) (i : Nat), (∀ m ∈ es, ∃ n v, 0 ≤ n ∧ m.key = .int kk n ∧ (∃ kv, m.val = .int kv v)) → ∃ r, Instr.findNow (.int kk) (.int kk n) es i = some r
  | [], n, i, _ => ⟨none, rfl⟩
  | m :: es, n, i, h => by
    obtain ⟨n', v, _, hk, _⟩ := h m (List.mem_cons_self ..)
    simp only [Instr.findNow, hk, Instr.sameNow, if_true]
    cases hq : n == n'
    · exact findNow_int es n (i + 1) fun m hm => h m (List.mem_cons_of_mem _ hm)
    · exact ⟨_, rfl⟩
/-- What is found. -/
theorem findNow_spec {kk : IntKind} {n : Int} : ∀ (es : List MapEntry) (i : Nat), (∀ m ∈ es, ∃ n, m.key = .int kk n) →
    (Instr.findNow (.int kk) (.int kk n) es i = some none ∧ ∀ m ∈ es, m.key ≠ .int kk n) ∨ ∃ j m, es[j]? = some m ∧ m.key = .int kk n ∧ (∀ j' m', j' < j → es[j']? = some m' → m'.key ≠ .int kk n) ∧ Instr.findNow (.int kk) (.int kk n) es i = some (some (i + j, m.val))
  | [], i, _ => .inl ⟨rfl, fun m hm => by cases hm⟩
  | m :: es, i, h => by
    obtain ⟨n', hk⟩ := h m (List.mem_cons_self ..)
    simp only [Instr.findNow, hk, Instr.sameNow, if_true]
    cases hq : n == n'
    · have hne : n ≠ n' := by simpa using hq
      rcases findNow_spec es (i + 1) fun m hm => h m (List.mem_cons_of_mem _ hm) with ⟨h1, h2⟩ | ⟨j, m', h1, h2, h3, h4⟩
      · refine .inl ⟨h1, fun m' hm' => ?_⟩
        rcases List.mem_cons.1 hm' with rfl | hm'
        · rw [hk]; simp only [ne_eq, Value.int.injEq, true_and]; exact fun h => hne h.symm
        · exact h2 m' hm'
      · refine .inr ⟨j + 1, m', by simpa using h1, h2, fun j' m'' hj hm'' => ?_, by rw [h4, show i + 1 + j = i + (j + 1) by omega]⟩
        cases j' with
        | zero => simp at hm''; subst hm''; rw [hk]; simp only [ne_eq, Value.int.injEq, true_and]; exact fun h => hne h.symm
        | succ j' => simp only [List.getElem?_cons_succ] at hm''; exact h3 j' m'' (by omega) hm''
    · have he : n = n' := by simpa using hq
      subst he
      exact .inr ⟨0, m, rfl, hk, fun j' m' hj => by omega, rfl⟩
section
variable {P : Program} {w : World} {kk kv : IntKind} {es : Array MapEntry} {int : Nat → Int} {bool : Nat → Bool}
theorem MapIs.keys (h : MapIs kk kv es int bool) : ∀ m ∈ es.toList, ∃ n, m.key = .int kk n := fun m hm => by obtain ⟨n, v, _, hk, _⟩ := h.1 m hm; exact ⟨n, hk⟩
theorem MapIs.empty : MapIs kk kv #[] (fun _ => 0) (fun _ => false) := ⟨fun m hm => by simp at hm, fun n => ⟨none, rfl, rfl, rfl⟩⟩
/-- A new entry, or another value. -/
theorem MapIs.push (h : MapIs kk kv es int bool) {n : Nat} {v : Int} {c : Nat} (hn : Instr.findNow (.int kk) (.int kk n) es.toList 0 = some none) : MapIs kk kv (es.push { key := .int kk n, val := .int kv v, born := c }) (updC int n [v]) (updC bool n [true]) := by
  refine ⟨fun m hm => ?_, fun k => ?_⟩
  · rw [Array.toList_push, List.mem_append, List.mem_singleton] at hm
    rcases hm with hm | rfl
    · exact h.1 m hm
    · exact ⟨n, v, by omega, rfl, rfl⟩
  · have hks : ∀ m ∈ (es.push { key := .int kk n, val := .int kv v, born := c }).toList, ∃ n, m.key = .int kk n := fun m hm => by
      rw [Array.toList_push, List.mem_append, List.mem_singleton] at hm
      rcases hm with hm | rfl
      · exact h.keys m hm
      · exact ⟨_, rfl⟩
    obtain ⟨r, hr, hv⟩ := h.2 k
    rw [Array.toList_push] at hks ⊢
    by_cases hkn : k = n
    · subst hkn
      rcases findNow_spec (n := (k : Int)) es.toList 0 h.keys with ⟨h1, h2⟩ | ⟨j, m, _, _, _, h4⟩
      · rcases findNow_spec (n := (k : Int)) _ 0 hks with ⟨_, g2⟩ | ⟨j, m, g1, g2, g3, g4⟩
        · exact absurd rfl (g2 _ (List.mem_append_right _ (List.mem_singleton.2 rfl)))
        · refine ⟨_, g4, ?_⟩
          have hm := List.mem_of_getElem? g1
          rcases List.mem_append.1 hm with hm | hm
          · exact absurd g2 (h2 m hm)
          · rw [List.mem_singleton] at hm
            subst hm
            have i0 : updC int k [v] k = v := updC_in (p := k) (j := 0) rfl
            have b0 : updC bool k [true] k = true := updC_in (p := k) (j := 0) rfl
            rw [i0, b0]
            exact ⟨rfl, rfl⟩
      · rw [hn] at h4; cases h4
    · have i0 : updC int n [v] k = int k := updC_out (by simp; omega)
      have b0 : updC bool n [true] k = bool k := updC_out (by simp; omega)
      rw [i0, b0]
      rcases findNow_spec (n := (k : Int)) es.toList 0 h.keys with ⟨h1, h2⟩ | ⟨j, m, f1, f2, f3, f4⟩
      · rw [h1] at hr
        cases hr
        rcases findNow_spec (n := (k : Int)) _ 0 hks with ⟨g1, _⟩ | ⟨j, m, g1, g2, g3, g4⟩
        · exact ⟨_, g1, hv⟩
        · have hm := List.mem_of_getElem? g1
          rcases List.mem_append.1 hm with hm | hm
          · exact absurd g2 (h2 m hm)
          · rw [List.mem_singleton] at hm
            subst hm
            simp only [Value.int.injEq, true_and] at g2
            omega
      · rw [f4] at hr
        cases hr
        rcases findNow_spec (n := (k : Int)) _ 0 hks with ⟨_, g2⟩ | ⟨j', m', g1, g2, g3, g4⟩
        · exact absurd f2 (g2 m (List.mem_append_left _ (List.mem_of_getElem? f1)))
        · refine ⟨_, g4, ?_⟩
          have hjl : j < es.toList.length := by
            rcases Nat.lt_or_ge j es.toList.length with h0 | h0
            · exact h0
            · rw [List.getElem?_eq_none h0] at f1; cases f1
          have hjj : j' = j := by
            rcases Nat.lt_trichotomy j' j with h0 | h0 | h0
            · rw [List.getElem?_append_left (by omega)] at g1
              exact absurd g2 (f3 j' m' h0 g1)
            · exact h0
            · exact absurd f2 (g3 j m h0 (by rw [List.getElem?_append_left hjl]; exact f1))
          subst hjj
          rw [List.getElem?_append_left hjl, f1] at g1
          cases g1
          exact hv
theorem MapIs.set (h : MapIs kk kv es int bool) {n : Nat} {v : Int} {i : Nat} {u : Value} (hn : Instr.findNow (.int kk) (.int kk n) es.toList 0 = some (some (i, u))) : MapIs kk kv (es.modify i fun e => { e with key := .int kk n, val := .int kv v }) (updC int n [v]) (updC bool n [true]) := by
  rcases findNow_spec (n := (n : Int)) es.toList 0 h.keys with ⟨h1, h2⟩ | ⟨i', m0, f1, f2, f3, f4⟩
  · rw [hn] at h1; cases h1
  rw [hn] at f4
  simp only [Nat.zero_add, Option.some.injEq, Prod.mk.injEq] at f4
  obtain ⟨rfl, rfl⟩ := f4
  have hget : ∀ j : Nat, (es.modify i fun e => { e with key := .int kk n, val := .int kv v }).toList[j]? = if i = j then (es.toList[j]?).map fun e => { e with key := .int kk n, val := .int kv v } else es.toList[j]? := fun j => by
    rw [Array.getElem?_toList, Array.getElem?_modify]
    simp
  have hks : ∀ (j : Nat) (m : MapEntry), (es.modify i fun e => { e with key := .int kk n, val := .int kv v }).toList[j]? = some m → ∃ m1, es.toList[j]? = some m1 ∧ m.key = m1.key ∧ (i ≠ j → m = m1) ∧ (i = j → m.val = .int kv v) := fun j m hm => by
    rw [hget] at hm
    split at hm
    · rename_i hij
      subst hij
      rw [f1, Option.map_some, Option.some.injEq] at hm
      subst hm
      exact ⟨m0, f1, f2.symm, fun h => absurd rfl h, fun _ => rfl⟩
    · rename_i hij
      exact ⟨m, hm, rfl, fun _ => rfl, fun h => absurd h hij⟩
  have hkeys : ∀ m ∈ (es.modify i fun e => { e with key := .int kk n, val := .int kv v }).toList, ∃ n, m.key = .int kk n := fun m hm => by
    obtain ⟨j, hj⟩ := List.mem_iff_getElem?.1 hm
    obtain ⟨m1, g1, g2, _⟩ := hks j m hj
    obtain ⟨n', hn'⟩ := h.keys m1 (List.mem_of_getElem? g1)
    exact ⟨n', g2.trans hn'⟩
  refine ⟨fun m hm => ?_, fun k => ?_⟩
  · obtain ⟨j, hj⟩ := List.mem_iff_getElem?.1 hm
    obtain ⟨m1, g1, g2, g3, g4⟩ := hks j m hj
    obtain ⟨n', v', h0, hk', hv'⟩ := h.1 m1 (List.mem_of_getElem? g1)
    by_cases hij : i = j
    · exact ⟨n', v, h0, g2.trans hk', g4 hij⟩
    · rw [g3 hij]; exact ⟨n', v', h0, hk', hv'⟩
  · obtain ⟨r, hr, hv⟩ := h.2 k
    rcases findNow_spec (n := (k : Int)) _ 0 hkeys with ⟨g1, g2⟩ | ⟨j, m, g1, g2, g3, g4⟩
    · have hne : k ≠ n := fun hkn => by
        subst hkn
        have hlt : i < es.toList.length := by
          rcases Nat.lt_or_ge i es.toList.length with h0 | h0
          · exact h0
          · rw [List.getElem?_eq_none h0] at f1; cases f1
        refine g2 { m0 with key := .int kk k, val := .int kv v } ?_ rfl
        refine List.mem_iff_getElem?.2 ⟨i, ?_⟩
        rw [hget, if_pos rfl, f1]; rfl
      have i0 : updC int n [v] k = int k := updC_out (by simp; omega)
      have b0 : updC bool n [true] k = bool k := updC_out (by simp; omega)
      rw [i0, b0]
      refine ⟨_, g1, ?_⟩
      rcases findNow_spec (n := (k : Int)) es.toList 0 h.keys with ⟨h1, h2⟩ | ⟨j, m, p1, p2, p3, p4⟩
      · rw [h1] at hr; cases hr; exact hv
      · have hij : i ≠ j := fun hij => by
          subst hij
          rw [f1] at p1
          cases p1
          rw [f2] at p2
          simp only [Value.int.injEq, true_and] at p2
          omega
        exact absurd p2 (g2 m (List.mem_iff_getElem?.2 ⟨j, by rw [hget, if_neg hij]; exact p1⟩))
    · obtain ⟨m1, q1, q2, q3, q4⟩ := hks j m g1
      refine ⟨_, g4, ?_⟩
      by_cases hkn : k = n
      · subst hkn
        have i0 : updC int k [v] k = v := updC_in (p := k) (j := 0) rfl
        have b0 : updC bool k [true] k = true := updC_in (p := k) (j := 0) rfl
        rw [i0, b0]
        have hij : i = j := by
          rcases Nat.lt_trichotomy i j with h0 | h0 | h0
          · exact absurd rfl (g3 i { m0 with key := .int kk k, val := .int kv v } h0 (by rw [hget, if_pos rfl, f1]; rfl))
          · exact h0
          · exact absurd (q2.symm.trans g2) (f3 j m1 h0 q1)
        exact ⟨rfl, q4 hij⟩
      · have i0 : updC int n [v] k = int k := updC_out (by simp; omega)
        have b0 : updC bool n [true] k = bool k := updC_out (by simp; omega)
        rw [i0, b0]
        have hij : i ≠ j := fun hij => by
          subst hij
          rw [f1] at q1
          cases q1
          rw [q2, f2] at g2
          simp only [Value.int.injEq, true_and] at g2
          omega
        have hm := q3 hij
        subst hm
        rcases findNow_spec (n := (k : Int)) es.toList 0 h.keys with ⟨h1, h2⟩ | ⟨j', m', p1, p2, p3, p4⟩
        · exact absurd g2 (h2 m (List.mem_of_getElem? q1))
        · rw [p4] at hr
          cases hr
          have hjj : j' = j := by
            rcases Nat.lt_trichotomy j' j with h0 | h0 | h0
            · have hij' : i ≠ j' := fun hij' => by
                subst hij'
                rw [f1] at p1
                cases p1
                rw [f2] at p2
                simp only [Value.int.injEq, true_and] at p2
                omega
              exact absurd p2 (g3 j' m' h0 (by rw [hget, if_neg hij']; exact p1))
            · exact h0
            · exact absurd g2 (p3 j m h0 q1)
          subst hjj
          rw [p1] at q1
          cases q1
          exact hv
theorem run_getObj_map {r cl : Nat} (h : w.heap[r]? = some (.map es cl)) : (getObj r).run P w = .ok (.map es cl) w := by simp [getObj, Sem.run, h]
theorem run_setObj_map {r cl : Nat} (h : w.heap[r]? = some (.map es cl)) (o : Obj) : (setObj r o).run P w = .ok () { w with heap := w.heap.setIfInBounds r o } := by simp [setObj, Sem.run, h]
theorem run_checkKey_any {em : Bool} {t : TypeId} (ht : P.underlying t = some (.int kk)) (n : Int) (m : Nat) : (Instr.checkKey em (m + 1) t (.int kk n)).run P w = .ok () w := by
  simp only [Instr.checkKey, Sem.run_bind, run_underlying ht, Result.andThen_ok, Sem.run_pure]
theorem run_checkKey_int {em : Bool} {t : TypeId} (ht : P.underlying t = some (.int kk)) (n : Int) : (Instr.checkKey em 10000 t (.int kk n)).run P w = .ok () w := run_checkKey_any ht n 9999
theorem run_lookup_map {t kt et : TypeId} {r cl : Nat} {i : TypeInfo} (ht : P.underlying t = some (.map kt et)) (hkt : P.underlying kt = some (.int kk)) (hi : P.info? et = some i) (hz : i.zero = some (.int kv 0)) (h : w.heap[r]? = some (.map es cl)) (hm : MapIs kk kv es int bool) (n : Nat) (ok : Bool) :
    (Instr.lookup t (.map (some r)) (.int kk n) ok).run P w = .ok (if ok then .tuple #[.int kv (int n), .bool (bool n)] else .int kv (int n)) w := by
  obtain ⟨q, hq, hv⟩ := hm.2 n
  cases q with
  | none =>
    dsimp only at hv
    simp [Instr.lookup, run_underlying ht, run_getObj_map h, run_checkKey_int hkt, Instr.findKey, run_underlying hkt, hq, zeroValue, typeInfo, hi, hz, hv.1, hv.2]
  | some p =>
    obtain ⟨j, u⟩ := p
    dsimp only at hv
    simp [Instr.lookup, run_underlying ht, run_getObj_map h, run_checkKey_int hkt, Instr.findKey, run_underlying hkt, hq, hv.1, hv.2]
theorem run_mapUpdate_map {t kt et : TypeId} {r cl : Nat} (ht : P.underlying t = some (.map kt et)) (hkt : P.underlying kt = some (.int kk)) (h : w.heap[r]? = some (.map es cl)) (hm : MapIs kk kv es int bool) (n : Nat) (v : Int) :
    ∃ es' cl', (Instr.mapUpdate t (.map (some r)) (.int kk n) (.int kv v)).run P w = .ok () { w with heap := w.heap.setIfInBounds r (.map es' cl') } ∧ MapIs kk kv es' (updC int n [v]) (updC bool n [true]) := by
  obtain ⟨q, hq, hv⟩ := hm.2 n
  cases q with
  | none =>
    refine ⟨_, cl + 1, ?_, hm.push (c := cl) hq⟩
    simp [Instr.mapUpdate, run_underlying ht, run_getObj_map h, run_checkKey_int hkt, Instr.findKey, run_underlying hkt, hq, run_setObj_map h]
  | some p =>
    obtain ⟨j, u⟩ := p
    refine ⟨_, cl, ?_, hm.set hq⟩
    rcases findNow_spec (n := (n : Int)) es.toList 0 hm.keys with ⟨h1, _⟩ | ⟨i', m0, f1, f2, _, f4⟩
    · rw [hq] at h1; cases h1
    rw [hq] at f4
    simp only [Nat.zero_add, Option.some.injEq, Prod.mk.injEq] at f4
    obtain ⟨rfl, rfl⟩ := f4
    have hj : es[j]? = some m0 := by simpa using f1
    have hst : ∀ w : World, (Instr.keyThatStays (.int kk n) (.int kk n)).run P w = .ok (.int kk n) w := fun w => by
      simp [Instr.keyThatStays, Instr.sameBits]
    simp [Instr.mapUpdate, run_underlying ht, run_getObj_map h, run_checkKey_int hkt, Instr.findKey, run_underlying hkt, hq, hj, f2, hst, run_setObj_map h]
end
end Go.Proofs.Ytjhdjclcfmcilaa.T2
