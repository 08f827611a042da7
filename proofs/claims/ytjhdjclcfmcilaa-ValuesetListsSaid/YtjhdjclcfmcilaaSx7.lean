/-
  The machine on terms is right: stores, calls, one operation. No program.
-/
import Derived.Test.YtjhdjclcfmcilaaSx6
namespace Go.Proofs.Ytjhdjclcfmcilaa
open Go.ChangeShapes Go.WideShapes Go.ChangeAt Go.RowKit
set_option linter.unusedVariables false
theorem pair_ne {α : Type} {R : α → α → Prop} (hs : ∀ x y, R x y → R y x) : ∀ {l : List α}, l.Pairwise R → ∀ x ∈ l, ∀ y ∈ l, x ≠ y → R x y
  | [], _, x, hx, _, _, _ => by cases hx
  | z :: l, h, x, hx, y, hy, hne => by
    obtain ⟨h1, h2⟩ := List.pairwise_cons.1 h
    rcases List.mem_cons.1 hx with e1 | m1
    · rcases List.mem_cons.1 hy with e2 | m2
      · exact absurd (e1.trans e2.symm) hne
      · rw [e1]; exact h1 y m2
    · rcases List.mem_cons.1 hy with e2 | m2
      · rw [e2]; exact hs _ _ (h1 x m1)
      · exact pair_ne hs h2 x m1 y m2 hne
theorem seg_get {α : Type} (xs vs : List α) (p i : Nat) (h : p + vs.length ≤ xs.length) : (xs.take p ++ vs ++ xs.drop (p + vs.length))[i]? = if i < p then xs[i]? else if i < p + vs.length then vs[i - p]? else xs[i]? := by
  by_cases h1 : i < p
  · rw [if_pos h1, List.append_assoc, List.getElem?_append_left (by simp; omega), List.getElem?_take_of_lt h1]
  · rw [if_neg h1, List.append_assoc, List.getElem?_append_right (by simp; omega)]
    have hl : (xs.take p).length = p := by simp; omega
    rw [hl]
    by_cases h2 : i < p + vs.length
    · rw [if_pos h2, List.getElem?_append_left (by omega)]
    · rw [if_neg h2, List.getElem?_append_right (by omega), List.getElem?_drop]
      congr 1; omega
section
variable {w w' : World} {g t : Nat} {cs : Array Value}
theorem setCells_blk : ∀ (vs : List Value) (o : Nat) {w : World} {cs : Array Value}, Blk w g t cs → o + vs.length ≤ cs.size → Blk (w.setCells g o vs) g t (cs.toList.take o ++ vs ++ cs.toList.drop (o + vs.length)).toArray
  | [], o, w, cs, h, _ => by
    have : (cs.toList.take o ++ ([] : List Value) ++ cs.toList.drop (o + ([] : List Value).length)).toArray = cs := by apply Array.ext'; simp
    rw [this]; exact h
  | v :: vs, o, w, cs, h, hl => by
    simp only [List.length_cons] at hl
    have h1 := setCells_blk vs (o + 1) (h.set_ o v) (by simp; omega)
    have : ((cs.setIfInBounds o v).toList.take (o + 1) ++ vs ++ (cs.setIfInBounds o v).toList.drop (o + 1 + vs.length)).toArray = (cs.toList.take o ++ v :: vs ++ cs.toList.drop (o + (v :: vs).length)).toArray := by
      apply Array.ext'
      simp only [Array.toList_setIfInBounds, List.length_cons]
      rw [List.take_succ_eq_append_getElem (by simp; omega), List.getElem_set_self, List.take_set_of_le (by omega), List.drop_set_of_lt (by omega), show o + 1 + vs.length = o + (vs.length + 1) by omega]
      simp
    rw [World.setCells, ← this]
    exact h1
theorem setCells_far : ∀ (vs : List Value) (o : Nat) {w : World} {b : Nat}, Blk w g t cs → g ≠ b → Blk (w.setCells b o vs) g t cs
  | [], _, _, _, h, _ => h
  | v :: vs, o, w, b, h, hn => by rw [World.setCells]; exact setCells_far vs (o + 1) (h.far hn v) hn
theorem setCells_below {B : Nat} {a : World} : ∀ (vs : List Value) (o : Nat) {w : World} {b : Nat}, Below B a w → B ≤ b → Below B a (w.setCells b o vs)
  | [], _, _, _, h, _ => h
  | v :: vs, o, w, b, h, hb => by rw [World.setCells]; exact setCells_below vs (o + 1) (h.setCell hb v) hb
theorem setCells_size : ∀ (vs : List Value) (o : Nat) {w : World} {b : Nat}, (w.setCells b o vs).heap.size = w.heap.size
  | [], _, _, _ => rfl
  | v :: vs, o, w, b => by rw [World.setCells, setCells_size vs (o + 1)]; simp
end
section
variable {P : Program} {C : List (Con P)} {I : List (Nat → Env → Prop)} {G : Cfg} {e0 e e' : Env} {w0 w w' : World} {s : St} {a : Act}
theorem iteL_den {g : SX} {x y z : LX} (h : iteL g x y = some z) : z.den e = if (g.den e).2 then x.den e else y.den e := by
  unfold iteL at h
  split at h
  · split at h
    · rename_i hk
      subst hk
      simp only [Option.some.injEq] at h
      subst h
      simp only [LX.den, SX.mkIt_den]
      split <;> rfl
    · cases h
  · simp only [Option.some.injEq] at h
    subst h
    simp only [LX.den, SX.mkIt_den]
    split <;> rfl
  · cases h
theorem updX_den {x : SX} {vs : List LX} {o n sz o2 k : Nat} (hx : (x.den e).1 = k) (hk : k < n) (hm : o2 + vs.length ≤ sz) : ∀ (cs : List LX) (j0 : Nat) (ys : List LX), updX x vs o n sz o2 j0 cs = some ys →
    ys.length = cs.length ∧ ∀ (i : Nat) (c : LX), cs[i]? = some c → ∃ y, ys[i]? = some y ∧
      ((o + k * sz + o2 ≤ j0 + i ∧ j0 + i < o + k * sz + o2 + vs.length → ∃ v, vs[j0 + i - (o + k * sz + o2)]? = some v ∧ y.den e = v.den e) ∧ (¬ (o + k * sz + o2 ≤ j0 + i ∧ j0 + i < o + k * sz + o2 + vs.length) → y.den e = c.den e))
  | [], j0, ys, h => by simp only [updX, Option.some.injEq] at h; subst h; exact ⟨rfl, fun i c hc => by simp at hc⟩
  | c0 :: cs, j0, ys, h => by
    unfold updX at h
    split at h
    · cases h
    · rename_i rest hrest
      obtain ⟨l1, l2⟩ := updX_den hx hk hm cs (j0 + 1) rest hrest
      have tail : ∀ (y : LX) (i : Nat) (c : LX), cs[i]? = some c → ∃ z, (y :: rest)[i + 1]? = some z ∧
          ((o + k * sz + o2 ≤ j0 + (i + 1) ∧ j0 + (i + 1) < o + k * sz + o2 + vs.length → ∃ v, vs[j0 + (i + 1) - (o + k * sz + o2)]? = some v ∧ z.den e = v.den e) ∧ (¬ (o + k * sz + o2 ≤ j0 + (i + 1) ∧ j0 + (i + 1) < o + k * sz + o2 + vs.length) → z.den e = c.den e)) := fun y i c hc => by
        have := l2 i c hc
        rw [show j0 + 1 + i = j0 + (i + 1) by omega] at this
        simpa using this
      have hkn : k * sz + sz ≤ n * sz := by
        have := Nat.mul_le_mul_right sz (show k + 1 ≤ n by omega)
        rwa [Nat.succ_mul] at this
      split at h
      · rename_i hcond
        obtain ⟨c1, c2, c3, c4⟩ := hcond
        have hdm := Nat.div_add_mod (j0 - o) sz
        split at h
        · rename_i v hv
          obtain ⟨y, hy, hys⟩ := opt_map h
          subst hys
          have hy' := iteL_den (e := e) hy
          refine ⟨by simp [l1], fun i c hc => ?_⟩
          cases i with
          | succ i => simp only [List.getElem?_cons_succ] at hc; exact tail y i c hc
          | zero =>
            simp at hc
            subst hc
            refine ⟨y, rfl, fun hin => ?_, fun hout => ?_⟩
            · have hq : (j0 - o) / sz = k := by
                have e1 : j0 - o = (j0 - o - k * sz) + k * sz := by omega
                have hlt : j0 - o - k * sz < sz := by omega
                rw [e1, Nat.add_mul_div_right _ _ (by omega), Nat.div_eq_of_lt hlt, Nat.zero_add]
              have hr : (j0 - o) % sz = j0 - o - k * sz := by rw [hq, Nat.mul_comm] at hdm; omega
              rw [hr] at hv
              refine ⟨v, by rw [← hv]; congr 1; omega, ?_⟩
              rw [hy']
              simp only [SX.den, cmI, hx, hq, beq_self_eq_true, if_true]
            · rw [hy']
              have hne : ((x.den e).1 == (((j0 - o) / sz : Nat) : Int)) = false := by
                rw [beq_eq_false_iff_ne, hx]
                intro hq
                have hq' : k = (j0 - o) / sz := by exact_mod_cast hq
                rw [← hq', Nat.mul_comm] at hdm
                apply hout
                omega
              simp only [SX.den, cmI, hne, Bool.false_eq_true, if_false]
        · cases h
      · rename_i hcond
        simp only [Option.some.injEq] at h
        subst h
        refine ⟨by simp [l1], fun i c hc => ?_⟩
        cases i with
        | succ i => simp only [List.getElem?_cons_succ] at hc; exact tail c0 i c hc
        | zero =>
          simp at hc
          subst hc
          refine ⟨c0, rfl, fun hin => ?_, fun _ => rfl⟩
          exfalso
          apply hcond
          have hq : (j0 - o) / sz = k := by
            have e1 : j0 - o = (j0 - o - k * sz) + k * sz := by omega
            have hlt : j0 - o - k * sz < sz := by omega
            rw [e1, Nat.add_mul_div_right _ _ (by omega), Nat.div_eq_of_lt hlt, Nat.zero_add]
          have hdm := Nat.div_add_mod (j0 - o) sz
          rw [hq, Nat.mul_comm] at hdm
          refine ⟨by omega, by omega, by omega, by omega⟩
theorem Rel.store (hR : Rel C I G e0 w0 e s a w) {d : Nat} {b : Bk} (hb : blockX s d = some b) {cs : List LX} {vs : List Value} {p : Nat} (hl : p + vs.length ≤ b.cs.length)
    (hcs : cs.map (·.den e) = (b.cs.map (·.den e)).take p ++ vs ++ (b.cs.map (·.den e)).drop (p + vs.length)) : Rel C I G e0 w0 e (setB s d cs) a (w.setCells (e.adr d) p vs) := by
  have hm := List.mem_of_find?_eq_some hb
  have hid : b.id = d := by simpa using List.find?_some hb
  have hB := hR.hp b hm
  rw [hid] at hB
  have hne : ∀ b' ∈ s.hp, b' ≠ b → e.adr b'.id ≠ e.adr d := fun b' hb' hn => by
    have := pair_ne (fun x y h => Ne.symm h) hR.inj b' hb' b hm hn
    rwa [hid] at this
  have hsame : ∀ b' ∈ s.hp, b'.id = d → b' = b := fun b' hb' hi => by
    by_cases hn : b' = b
    · exact hn
    · exact absurd (by rw [hi]) (hne b' hb' hn)
  have hid' : ∀ b' : Bk, (if b'.id = d then { b' with cs := cs } else b').id = b'.id := fun b' => by split <;> rfl
  refine ⟨hR.df, hR.tm, fun b' hb' => ?_, ?_, fun r hr => ?_, setCells_below _ _ hR.bl hB.1, hR.cd, hR.ex⟩
  · obtain ⟨b1, hb1, rfl⟩ := List.mem_map.1 hb'
    rw [hid']
    refine ⟨(hR.hp b1 hb1).1, ?_⟩
    by_cases hi : b1.id = d
    · rw [if_pos hi]
      have := hsame b1 hb1 hi
      subst this
      have h2 := setCells_blk vs p hB.2 (by simpa using hl)
      rw [hi]
      simp only at h2 ⊢
      rw [hcs]
      exact h2
    · rw [if_neg hi]
      exact setCells_far vs p (hR.hp b1 hb1).2 (hne b1 hb1 (fun h => hi (by rw [h, hid])))
  · refine List.pairwise_map.2 (hR.inj.imp fun {x y} h => ?_)
    rw [hid', hid']; exact h
  · have h1 := hR.rw r hr
    refine ⟨?_, fun b' hb' => ?_⟩
    · by_cases hlen : 0 < (r.len.den e).1.toNat
      · refine h1.1.keep (by rw [setCells_size]; exact Nat.le_refl _) fun q hq _ => ?_
        obtain ⟨ad, had, hqb⟩ := hq
        have := h1.2 b hm hlen ad had
        rw [hid] at this
        exact World.cell?_setCells_out _ _ _ _ _ fun hbl _ => absurd (hqb.symm.trans hbl) this
      · intro i hi; omega
    · obtain ⟨b1, hb1, rfl⟩ := List.mem_map.1 hb'
      rw [hid']
      exact h1.2 b1 hb1
theorem run_storeVar_at {g t0 : Nat} {C0 : Array Value} (hB : Blk w g t0 C0) {t : TypeId} {m : Nat} (hi : (P.info? t).map (·.size) = some m) {o : Nat} {v : PX} (hl : v.cells.length = m) (hb : o + m ≤ C0.size) :
    (storeVar t ⟨g, o, none⟩ (v.den e)).run P w = .ok () (w.setCells g o (v.cells.map (·.den e))) := by
  cases hq : P.info? t with
  | none => rw [hq] at hi; cases hi
  | some i =>
    rw [hq] at hi
    simp only [Option.map_some, Option.some.injEq] at hi
    have h1 : (v.den e).cells.toList = v.cells.map (·.den e) := by rw [PX.cells_den]
    have h2 : (v.den e).cells.size = m := by rw [PX.cells_den]; simp [hl]
    have h3 := run_storeCells_cells (P := P) g o (v.cells.map (·.den e)) 0 w (fun j hj => by
      rw [hB.walk.1]; simp only [List.length_map] at hj; simp only [Nat.add_zero]; rw [Array.getElem?_eq_getElem (by omega)]; rfl) (fun j _ => hB.walk.2 _)
      (fun u hu => by obtain ⟨x, _, rfl⟩ := List.mem_map.1 hu; exact LX.cells_one e x)
    simp only [Nat.add_zero] at h3
    simp only [storeVar, Sem.run_bind, run_size hq, Result.andThen_ok, h2, hi, ne_eq, not_true_eq_false, if_false, h1]
    exact h3
theorem storeX_sound (hR : Rel C I G e0 w0 e s a w) {t : TypeId} {p : LX} {v : PX} {s' : St} {xs : List SX} (h : storeX P s t p v = some (s', xs)) (hx : ∀ x ∈ xs, (x.den e).2 = true) :
    ∃ ad w', p.den e = .pointer (some ad) ∧ (storeVar t ad (v.den e)).run P w = .ok () w' ∧ Rel C I G e0 w0 e s' a w' := by
  unfold storeX at h
  split at h
  · cases h
  · rename_i m hi
    split at h
    · rename_i hl
      split at h
      · rename_i d o
        split at h
        · rename_i b hb
          split at h
          · rename_i hbd
            simp only [Option.some.injEq, Prod.mk.injEq] at h
            obtain ⟨rfl, rfl⟩ := h
            have hm := List.mem_of_find?_eq_some hb
            have hid : b.id = d := by simpa using List.find?_some hb
            have hB := (hR.hp b hm).2
            rw [hid] at hB
            refine ⟨_, _, rfl, run_storeVar_at hB hi hl (by simpa using hbd), hR.store hb (by simp only [List.length_map, hl]; exact hbd) ?_⟩
            simp only [List.map_append, List.map_take, List.map_drop, List.length_map, hl]
          · cases h
        · cases h
      · rename_i d o n sz x o2
        split at h
        · rename_i b hb
          split at h
          · rename_i hbd
            obtain ⟨cs, hcs, hp⟩ := opt_map h
            simp only [Prod.mk.injEq] at hp
            obtain ⟨rfl, rfl⟩ := hp
            have g1 := geZ_den (hx _ (List.mem_cons_self ..))
            have g2 := lss_den (hx _ (List.mem_cons_of_mem _ (List.mem_cons_self ..)))
            simp only [SX.den] at g2
            obtain ⟨k, hk⟩ := Int.eq_ofNat_of_zero_le g1
            have hkn : k * sz + sz ≤ n * sz := by
              have := Nat.mul_le_mul_right sz (show k + 1 ≤ n by omega)
              rwa [Nat.succ_mul] at this
            have hm := List.mem_of_find?_eq_some hb
            have hid : b.id = d := by simpa using List.find?_some hb
            have hB := (hR.hp b hm).2
            rw [hid] at hB
            obtain ⟨l1, l2⟩ := updX_den hk (by omega) (by rw [hl]; exact hbd.2) b.cs 0 cs hcs
            have hkx : (x.den e).1.toNat = k := by rw [hk]; rfl
            refine ⟨_, _, rfl, run_storeVar_at (o := o + (x.den e).1.toNat * sz + o2) hB hi hl (by rw [hkx]; simp only [List.size_toArray, List.length_map]; omega), hR.store hb (by rw [hkx]; simp only [List.length_map, hl]; omega) ?_⟩
            rw [hkx]
            apply List.ext_getElem?
            intro i
            rw [seg_get _ _ _ _ (by simp only [List.length_map, hl]; omega)]
            simp only [List.length_map, hl, List.getElem?_map]
            cases hc : b.cs[i]? with
            | none =>
              have h0 : b.cs.length ≤ i := by
                rcases Nat.lt_or_ge i b.cs.length with h1 | h1
                · rw [List.getElem?_eq_getElem h1] at hc; cases hc
                · exact h1
              rw [if_neg (by omega), if_neg (by omega), List.getElem?_eq_none (by omega)]
            | some c =>
              obtain ⟨y, hy, h1, h2⟩ := l2 i c hc
              rw [hy]
              simp only [Nat.zero_add, hl] at h1 h2
              by_cases c1 : i < o + k * sz + o2
              · rw [if_pos c1]; simp only [Option.map_some]; rw [h2 (by omega)]
              · rw [if_neg c1]
                by_cases c2 : i < o + k * sz + o2 + m
                · rw [if_pos c2]
                  obtain ⟨u, hu, he⟩ := h1 ⟨by omega, c2⟩
                  rw [hu]; simp only [Option.map_some]; rw [he]
                · rw [if_neg c2]; simp only [Option.map_some]; rw [h2 (by omega)]
          · cases h
        · cases h
      · cases h
    · cases h

/-! ### Calls. -/
theorem kindsX_spec : ∀ (xs : List LX) (ks : List (Option IntKind)), fitX.kindsX xs ks = true → xs.length = ks.length ∧ ∀ (j : Nat) (k : Option IntKind), ks[j]? = some k → ∃ n b, (xs.map (·.den e))[j]? = some (leafD k n b)
  | [], [], _ => ⟨rfl, fun j k h => by simp at h⟩
  | .t x :: xs, none :: ks, h => by
    unfold fitX.kindsX at h
    obtain ⟨h1, h2⟩ := kindsX_spec xs ks h
    refine ⟨by simp [h1], fun j k hk => ?_⟩
    cases j with
    | zero => simp at hk; subst hk; exact ⟨0, (x.den e).2, rfl⟩
    | succ j => simp only [List.getElem?_cons_succ, List.map_cons] at hk ⊢; exact h2 j k hk
  | .n k' x :: xs, some k0 :: ks, h => by
    unfold fitX.kindsX at h
    simp only [Bool.and_eq_true, beq_iff_eq] at h
    obtain ⟨h1, h2⟩ := kindsX_spec xs ks h.2
    refine ⟨by simp [h1], fun j k hk => ?_⟩
    cases j with
    | zero => simp at hk; subst hk; exact ⟨(x.den e).1, false, by simp [leafD, LX.den, h.1]⟩
    | succ j => simp only [List.getElem?_cons_succ, List.map_cons] at hk ⊢; exact h2 j k hk
  | [], _ :: _, h => by simp [fitX.kindsX] at h
  | .t _ :: _, [], h => by simp [fitX.kindsX] at h
  | .t _ :: _, some _ :: _, h => by simp [fitX.kindsX] at h
  | .n _ _ :: _, [], h => by simp [fitX.kindsX] at h
  | .n _ _ :: _, none :: _, h => by simp [fitX.kindsX] at h
  | .p _ _ :: _, _, h => by simp [fitX.kindsX] at h
  | .pi _ _ _ _ _ _ :: _, _, h => by simp [fitX.kindsX] at h
  | .q _ _ _ _ :: _, _, h => by simp [fitX.kindsX] at h
  | .sl _ _ _ :: _, _, h => by simp [fitX.kindsX] at h
  | .np :: _, _, h => by simp [fitX.kindsX] at h
  | .ns :: _, _, h => by simp [fitX.kindsX] at h
theorem fitX_sound (hR : Rel C I G e0 w0 e s a w) {h : SH} {p : PX} (hf : fitX s h p = true) : h.fits w (p.dat e) := by
  unfold fitX at hf
  split at hf
  · exact ⟨_, rfl⟩
  · simp only [beq_iff_eq] at hf
    subst hf
    exact ⟨_, rfl⟩
  · rename_i ks xs
    obtain ⟨h1, h2⟩ := kindsX_spec (e := e) xs ks hf
    exact ⟨xs.map (·.den e), rfl, by simpa using h1, h2⟩
  · rename_i ks d len cap
    split at hf
    · rename_i r hr
      simp only [decide_eq_true_eq] at hf
      have hm := List.mem_of_find?_eq_some hr
      have hid : r.id = d := by simpa using List.find?_some hr
      have := (hR.rw r hm).1
      unfold Rw.ok at this
      rw [hid, hf.1, hf.2] at this
      exact ⟨_, _, _, rfl, this⟩
    · cases hf
  · exact ⟨none, 0, 0, rfl, fun i hi => by omega⟩
  · cases hf
theorem fitsX_sound (hR : Rel C I G e0 w0 e s a w) : ∀ {hs : List SH} {ps : List PX}, fitsX s hs ps = true → Fits w hs (ps.map (·.dat e))
  | [], [], _ => trivial
  | h :: hs, p :: ps, hf => by
    simp only [fitsX, Bool.and_eq_true] at hf
    exact ⟨fitX_sound hR hf.1, fitsX_sound hR hf.2⟩
  | [], _ :: _, h => by simp [fitsX] at h
  | _ :: _, [], h => by simp [fitsX] at h
theorem leafX_den {d j : Nat} (k : Option IntKind) : (leafX d j k).den e = leafD k (e.int d j) (e.bool d j) := by cases k <;> rfl
theorem cellsX_den {d : Nat} : ∀ (j : Nat) (ks : List (Option IntKind)), (cellsX d j ks).map (·.den e) = cellsD (e.int d) (e.bool d) j ks
  | _, [] => rfl
  | j, k :: ks => by simp only [cellsX, cellsD, List.map_cons, leafX_den, cellsX_den (j + 1) ks]
theorem partsD_den {d : Nat} : ∀ (j : Nat) (cs : List (Option IntKind ⊕ List (Option IntKind))), (partsD' d j cs).map (·.den e) = partsD (e.int d) (e.bool d) j cs
  | _, [] => rfl
  | j, .inl k :: cs => by rw [partsD', List.map_cons, partsD_den (j + 1) cs]; simp only [PX.den, leafX_den, partsD]
  | j, .inr ks :: cs => by rw [partsD', List.map_cons, partsD_den (j + ks.length) cs]; simp only [PX.den, cellsX_den, partsD]
theorem inst_sat {d : Nat} (r : RS) : (r.inst d).sat e (r.val (e.int d) (e.bool d)) := by
  cases r with
  | no => rfl
  | l k => simp only [RS.inst, RS.val, VX.sat, PX.den, leafX_den]
  | a ks => simp only [RS.inst, RS.val, VX.sat, PX.den, cellsX_den]
  | tp cs => simp only [RS.inst, RS.val, VX.sat, partsD_den]
theorem findSg_spec {f : FuncId} : ∀ {gs : List Sg} {n k : Nat} {g : Sg}, findSg f n gs = some (k, g) → g.f = f ∧ n ≤ k ∧ gs[k - n]? = some g
  | [], _, _, _, h => by cases h
  | g0 :: gs, n, k, g, h => by
    unfold findSg at h
    split at h
    · rename_i hf
      simp only [Option.some.injEq, Prod.mk.injEq] at h
      obtain ⟨rfl, rfl⟩ := h
      exact ⟨hf, Nat.le_refl _, by simp⟩
    · obtain ⟨h1, h2, h3⟩ := findSg_spec h
      refine ⟨h1, by omega, ?_⟩
      rw [show k - n = (k - (n + 1)) + 1 by omega, List.getElem?_cons_succ]
      exact h3
def Env.res (e : Env) (d : Nat) (int : Nat → Int) (bool : Nat → Bool) : Env :=
  { e with int := fun x => if x = d then int else e.int x, bool := fun x => if x = d then bool else e.bool x }
theorem Env.off_res (e : Env) (d : Nat) (int : Nat → Int) (bool : Nat → Bool) : Env.off (· != d) e (e.res d int bool) := fun x hx => by simp only [bne_iff_ne] at hx; simp [Env.res, hx]
def Env.at_ (e : Env) (d : Nat) (n : Nat) : Env := { e with adr := fun x => if x = d then n else e.adr x }
theorem Env.off_at (e : Env) (d n : Nat) : Env.off (· != d) e (e.at_ d n) := fun x hx => by simp only [bne_iff_ne] at hx; simp [Env.at_, hx]
theorem lt_ne {n d : Nat} (h : n ≤ d) : ∀ x, x < n → (x != d) = true := fun x hx => by simp only [bne_iff_ne]; omega
theorem run_enter {f : FuncId} {fn : Func} {x : Sem Next} {args : Array Value} (hf : P.funcs[f]? = some fn) (hn : (fn.name == "runtime.NumGoroutine") = false) (hb : fn.body.isNone = false) :
    (callFunc f args).run P w = .ok (.enter f args) w := by
  simp only [callFunc, Sem.run_bind, run_program, Result.andThen_ok, hf, hn, Bool.false_eq_true, if_false, hb, Sem.run_pure]
theorem earlier_mem {k : Nat} {ps : List PX} {d : Nat} : ∀ {cs : List Cd}, earlier k ps cs = some d → .f d k ps ∈ cs
  | .f d' k' ps' :: cs, h => by
    unfold earlier at h
    split at h
    · rename_i he; obtain ⟨rfl, rfl⟩ := he; simp only [Option.some.injEq] at h; subst h; exact List.mem_cons_self ..
    · exact List.mem_cons_of_mem _ (earlier_mem h)
  | .c _ _ :: cs, h => List.mem_cons_of_mem _ (earlier_mem (by unfold earlier at h; exact h))
  | .g _ _ :: cs, h => List.mem_cons_of_mem _ (earlier_mem (by unfold earlier at h; exact h))
theorem ofL_fr {ok : Nat → Bool} {v : Value} {x : LX} (h : ofL v = some x) : x.fr ok = true := by
  unfold ofL at h
  split at h <;> simp only [Option.some.injEq, reduceCtorEq] at h <;> subst h <;> rfl
theorem ofLs_fr {ok : Nat → Bool} : ∀ {vs : List Value} {xs : List LX}, ofLs vs = some xs → xs.all (·.fr ok) = true
  | [], xs, h => by simp only [ofLs, Option.some.injEq] at h; subst h; rfl
  | v :: vs, xs, h => by
    unfold ofLs at h
    split at h
    · rename_i x xs' h1 h2
      simp only [Option.some.injEq] at h
      subst h
      rw [List.all_cons, ofL_fr h1, ofLs_fr h2]; rfl
    · cases h
theorem ofV_fr {ok : Nat → Bool} {v : Value} {x : PX} (h : ofV v = some x) : x.fr ok = true := by
  unfold ofV at h
  split at h
  · obtain ⟨y, hy, rfl⟩ := opt_map h
    exact ofLs_fr hy
  · obtain ⟨y, hy, rfl⟩ := opt_map h
    exact ofL_fr hy
theorem evPs_fr {hs : List SX} {s : St} {ok : Nat → Bool} (hf : s.tm.all (·.fr ok) = true) : ∀ {xs : List Operand} {ps : List PX}, evPs hs s xs = some ps → ps.all (·.fr ok) = true
  | [], ps, h => by simp only [evPs, Option.some.injEq] at h; subst h; rfl
  | x :: xs, ps, h => by
    unfold evPs at h
    split at h
    · rename_i p ps' h1 h2
      simp only [Option.some.injEq] at h
      subst h
      rw [List.all_cons, evPs_fr hf h2, Bool.and_true]
      unfold evP at h1
      split at h1
      · rename_i p' hv
        simp only [Option.some.injEq] at h1
        subst h1
        unfold evV at hv
        split at hv
        · rename_i t
          split at hv
          · cases hv
          · rename_i c z hz
            split at hv
            · simp only [Option.some.injEq, VX.v.injEq] at hv
              subst hv
              have := List.all_eq_true.1 hf _ (List.mem_of_getElem? hz)
              simp only [VX.fr, Bool.and_eq_true] at this
              exact this.2
            · cases hv
          · exact List.all_eq_true.1 hf _ (List.mem_of_getElem? hv)
        · rename_i u
          obtain ⟨q, hq, hqv⟩ := opt_map hv
          cases hqv
          exact ofV_fr hq
        · cases hv
      · cases h1
    · cases h
/-- A call that is met by a contract. -/
theorem call_enter (hS : C.map (·.sg) = G.sg) (hR : Rel C I G e0 w0 e s a w) {hs : List SX} (hk : Kn C I e s hs a) {o : Oper} {f : FuncId} {args : Array Operand} {at_ : Array TypeId} (hop : o.op = .call ⟨.value (.func f), args, at_⟩) {k : Nat} {g : Sg} {ps : List PX}
    (hf : findSg f 0 G.sg = some (k, g)) (hps : evPs hs s args.toList = some ps) {c : Con P} (hck : C[k]? = some c) (hpre : c.pre (ps.map (·.dat e))) (hfx : fitsX s g.args ps = true) :
    ∀ K' : Ending → World → Prop, (∀ int bool w', Below w.heap.size w w' → c.post (ps.map (·.dat e)) int bool → K' (.returned (g.res.val int bool)) w') → Calls P f (args.map a.eval) w K' ∧ ∀ w, (execOp a.eval o).run P w = .ok (.enter f (args.map a.eval)) w := by
  obtain ⟨hgf, _, hgk⟩ := findSg_spec hf
  have hcg : c.sg = g := by
    rw [← hS, Nat.sub_zero, List.getElem?_map, hck] at hgk
    simpa using hgk
  obtain ⟨fn, hfn, hnm, hbd⟩ := c.body
  have hfit := fitsX_sound hR hfx
  rw [← hcg] at hfit hgf
  rw [hgf] at hfn
  have hsound := c.sound (ps.map (·.dat e)) w hfit hpre
  have hargs : (args.map a.eval) = ((ps.map (·.dat e)).map (·.val)).toArray := by
    apply Array.ext'
    rw [Array.toList_map, evPs_sound hk hps]
    simp [PX.dat_val]
  refine fun K' hK' => ⟨?_, fun w => ?_⟩
  · rw [hargs, ← hgf]
    refine hsound.mono fun en w' hen => ?_
    obtain ⟨int, bool, rfl, hb, hpost⟩ := hen
    rw [hcg]
    exact hK' int bool w' hb hpost
  · simp only [execOp, hop, Sem.run_bind, resolve, Act.eval, Deferred.ofValue, Sem.run_pure, Result.andThen_ok, invoke]
    rw [show (#[] ++ args.map a.eval) ++ #[] = args.map a.eval by simp]
    exact run_enter (x := Sem.halt (.stuck "")) hfn hnm hbd
theorem con_sg (hS : C.map (·.sg) = G.sg) {f : FuncId} {k : Nat} {g : Sg} (hf : findSg f 0 G.sg = some (k, g)) {c : Con P} (hck : C[k]? = some c) : c.sg = g := by
  obtain ⟨_, _, hgk⟩ := findSg_spec hf
  rw [← hS, Nat.sub_zero, List.getElem?_map, hck] at hgk
  simpa using hgk
/-- What a result adds. -/
theorem Rel.result (hR : Rel C I G e0 w0 e s a w) {hs : List SX} {id k : Nat} {ps : List PX} {xs : List Operand} (hps : evPs hs s xs = some ps) (hid : G.n0 ≤ id) (hfr : s.fr (· != id) = true) {c : Con P} (hck : C[k]? = some c) {int : Nat → Int} {bool : Nat → Bool} (hpost : c.post (ps.map (·.dat e)) int bool) :
    Rel C I G e0 w0 (e.res id int bool) { s with cd := .f id k ps :: s.cd } a w := by
  have hRg := hR.off (Env.off_res e id int bool) hfr (lt_ne hid)
  have hi : (e.res id int bool).int id = int := by simp [Env.res]
  have hbo : (e.res id int bool).bool id = bool := by simp [Env.res]
  have hf : ps.all (·.fr (· != id)) = true := by
    simp only [St.fr, Bool.and_eq_true] at hfr
    exact evPs_fr hfr.1.1.1 hps
  exact hRg.conds (cs := [.f id k ps]) (fun x hx => by
    rw [List.mem_singleton] at hx
    subst hx
    refine ⟨c, hck, ?_⟩
    rw [hi, hbo, ← List.map_congr_left fun x hx => PX.dat_off (Env.off_res e id int bool) x (List.all_eq_true.1 hf x hx)]
    exact hpost)
theorem inst_res (e : Env) (id : Nat) (int : Nat → Int) (bool : Nat → Bool) (r : RS) : (r.inst id).sat (e.res id int bool) (r.val int bool) := by
  have := inst_sat (e := e.res id int bool) (d := id) r
  rwa [show (e.res id int bool).int id = int by simp [Env.res], show (e.res id int bool).bool id = bool by simp [Env.res]] at this
/-- One operation. -/
theorem stepX_sound (hS : C.map (·.sg) = G.sg) {id : Nat} {o : Oper} {s' : St} {os : List Ob} (h : stepX P G id o s = some (s', os)) (hob : ∀ ob ∈ os, ob.ok C I G.n0 e0)
    (hR : Rel C I G e0 w0 e s a w) {K : Act → World → Prop} {Q : Exit → Act → World → Prop} (hK : ∀ e' a' w', Rel C I G e0 w0 e' s' a' w' → K a' w') : o.wp P a w K Q := by
  have pure : ((evPure P [] s o.op).map fun (v, xs) => (s.put o.dst v, owe s xs)) = some (s', os) → o.wp P a w K Q := fun h => by
    obtain ⟨⟨v, xs⟩, hv, hp⟩ := opt_map h
    simp only [Prod.mk.injEq] at hp
    obtain ⟨rfl, rfl⟩ := hp
    obtain ⟨u, hu, hr⟩ := evPure_sound hR.kn0 hR.base hv (hR.owed hob)
    unfold Oper.wp
    rw [hr]
    exact hK _ _ _ (hR.put hu _)
  unfold stepX at h
  split at h
  · rename_i t hop
    split at h
    · rename_i hid
      split at h
      · rename_i z hz
        obtain ⟨cs, hcs, hp⟩ := opt_map h
        simp only [Prod.mk.injEq] at hp
        obtain ⟨rfl, rfl⟩ := hp
        have hR1 := (hR.off (Env.off_at e id w.heap.size) hid.2 (lt_ne hid.1)).alloc (id := id) (t := t) (cs := cs) (by simp [Env.at_])
        have hzi : ∃ i, P.info? t = some i ∧ i.zero = some z := by
          cases hi : P.info? t with
          | none => rw [hi] at hz; cases hz
          | some i => rw [hi] at hz; exact ⟨i, rfl, hz⟩
        obtain ⟨i, hi, hz'⟩ := hzi
        have hcells : z.cells = (cs.map (·.den (e.at_ id w.heap.size))).toArray := by
          rw [ofLs_den hcs]
        unfold Oper.wp
        have : (execOp a.eval o).run P w = .ok (.value (.pointer (some ⟨w.heap.size, 0, none⟩))) (w.alloc (.cells z.cells t)) := by
          simp only [execOp, hop]
          simp [Instr.alloc, zeroValue, typeInfo, hi, hz', newVar, newRow]
        rw [this, hcells]
        refine hK _ _ _ (hR1.put (v := .v (.l (.p id 0))) ?_ _)
        simp [VX.sat, PX.den, LX.den, Env.at_]
      · cases h
    · cases h
  · rename_i t x hop
    split at h
    · rename_i hid
      obtain ⟨p, hp0, hp⟩ := opt_map h
      simp only [Prod.mk.injEq] at hp
      obtain ⟨rfl, rfl⟩ := hp
      have hRo := hR.off (Env.off_at e id w.heap.size) hid.2 (lt_ne hid.1)
      have hR1 := hRo.alloc (id := id) (t := t) (cs := p.cells) (by simp [Env.at_])
      have hcells : (a.eval x).cells = (p.cells.map (·.den (e.at_ id w.heap.size))).toArray := by
        rw [evP_sound hRo.kn0 hp0, PX.cells_den]
      unfold Oper.wp
      have : (execOp a.eval o).run P w = .ok (.value (.pointer (some ⟨w.heap.size, 0, none⟩))) (w.alloc (.cells (a.eval x).cells t)) := by
        simp only [execOp, hop]
        simp [Instr.box, newVar, newRow]
      rw [this, hcells]
      refine hK _ _ _ (hR1.put (v := .v (.l (.p id 0))) ?_ _)
      simp [VX.sat, PX.den, LX.den, Env.at_]
    · cases h
  · rename_i t x hop
    split at h
    · rename_i p hp0
      obtain ⟨⟨v, xs⟩, hv, hp⟩ := opt_map h
      simp only [Prod.mk.injEq] at hp
      obtain ⟨rfl, rfl⟩ := hp
      obtain ⟨ad, had, hr⟩ := loadX_sound hR hv (hR.owed hob)
      have hx := evP_sound hR.kn0 hp0
      simp only [PX.den, had] at hx
      unfold Oper.wp
      have : (execOp a.eval o).run P w = .ok (.value (v.den e)) w := by
        simp only [execOp, hop, hx]
        simp [Instr.loadAt, Instr.sureAddr, hr]
      rw [this]
      exact hK _ _ _ (hR.put (v := .v v) rfl _)
    · cases h
  · rename_i t x y hop
    split at h
    · rename_i p v hp0 hv0
      obtain ⟨⟨s1, xs⟩, hv, hp⟩ := opt_map h
      simp only [Prod.mk.injEq] at hp
      obtain ⟨rfl, rfl⟩ := hp
      obtain ⟨ad, w1, had, hr, hR1⟩ := storeX_sound hR hv (hR.owed hob)
      have hx := evP_sound hR.kn0 hp0
      simp only [PX.den, had] at hx
      have hy := evP_sound hR.kn0 hv0
      unfold Oper.wp
      have : (execOp a.eval o).run P w = .ok .skip w1 := by
        simp only [execOp, hop, hx, hy]
        simp [Instr.storeAt, Instr.sureAddr, hr]
      rw [this]
      exact hK _ _ _ (hR1.put (v := .un) rfl _)
    · cases h
  · rename_i f args at_ hop
    split at h
    · rename_i k g ps hk hps
      split at h
      · rename_i d hd
        split at h
        · rename_i hfx
          simp only [Option.some.injEq, Prod.mk.injEq] at h
          obtain ⟨rfl, rfl⟩ := h
          obtain ⟨c, hck, hpre⟩ := hob _ (List.mem_singleton.2 rfl) e hR.ex hR.cd
          have hcg := con_sg hS hk hck
          have hdet : g.det = true := by
            cases hg : g.det
            · rw [hg] at hd; cases hd
            · rfl
          rw [hdet, if_pos rfl] at hd
          obtain ⟨c', hc', hp'⟩ := hR.cd _ (earlier_mem hd)
          rw [hck] at hc'
          cases hc'
          obtain ⟨h1, h2⟩ := call_enter hS hR hR.kn0 hop hk hps hck hpre hfx (fun | .returned v, w' => K (a.put o.dst v) w' | .panicked chain, w' => Q (.panic chain) a w' | .outgrown, _ => LetsOut Q) (fun int bool w' hb hpost => by
            have hv := c.same (by rw [hcg]; exact hdet) _ _ _ _ _ hpost hp'
            rw [hcg] at hv
            dsimp only
            refine hK _ _ _ ((hR.grow hb).put (v := g.res.inst d) ?_ _)
            rw [hv]
            exact inst_sat g.res)
          unfold Oper.wp
          rw [h2, Oper.upon_enter]
          exact h1
        · cases h
      · split at h
        · rename_i hc
          simp only [Option.some.injEq, Prod.mk.injEq] at h
          obtain ⟨rfl, rfl⟩ := h
          obtain ⟨c, hck, hpre⟩ := hob _ (List.mem_singleton.2 rfl) e hR.ex hR.cd
          obtain ⟨h1, h2⟩ := call_enter hS hR hR.kn0 hop hk hps hck hpre hc.1 (fun | .returned v, w' => K (a.put o.dst v) w' | .panicked chain, w' => Q (.panic chain) a w' | .outgrown, _ => LetsOut Q) (fun int bool w' hb hpost => by
            dsimp only
            exact hK _ _ _ (((hR.grow hb).result hps hc.2.1 hc.2.2 hck hpost).put (v := g.res.inst id) (inst_res e id int bool g.res) _))
          unfold Oper.wp
          rw [h2, Oper.upon_enter]
          exact h1
        · cases h
    · cases h
  · rename_i hop
    exact pure h
/-- One operation as if. -/
theorem specX_sound (hS : C.map (·.sg) = G.sg) {id : Nat} {o : Oper} {y : SX} {s' : St} {os : List Ob} (h : specX P G id o y s = some (s', os)) (hob : ∀ ob ∈ os, ob.ok C I G.n0 e0)
    (hR : Rel C I G e0 w0 e s a w) : ((y.den e).2 = true → ∀ (K : Act → World → Prop) (Q : Exit → Act → World → Prop), (∀ e' a' w', Rel C I G e0 w0 e' s' a' w' → K a' w') → o.wp P a w K Q) ∧
      ((y.den e).2 = false → ∃ e', Rel C I G e0 w0 e' s' (a.put o.dst undef) w) := by
  have yes : ∀ {x : PX} {e' : Env}, (y.den e').2 = true → (VX.gd y x).sat e' (x.den e') := fun h => ⟨fun _ => rfl, (fun h' => by rw [h] at h'; cases h')⟩
  have no : ∀ {x : PX} {e' : Env}, (y.den e').2 = false → (VX.gd y x).sat e' undef := fun h => ⟨(fun h' => by rw [h] at h'; cases h'), fun _ => rfl⟩
  have kn : (y.den e).2 = true → Kn C I e s (comps y) a := fun hy => hR.kn (comps_true.2 hy)
  have pure : ∀ x, evPure P (comps y) s o.op = some (.v x, []) → s' = s.put o.dst (.gd y x) → ((y.den e).2 = true → ∀ (K : Act → World → Prop) (Q : Exit → Act → World → Prop), (∀ e' a' w', Rel C I G e0 w0 e' s' a' w' → K a' w') → o.wp P a w K Q) ∧
      ((y.den e).2 = false → ∃ e', Rel C I G e0 w0 e' s' (a.put o.dst undef) w) := fun x hx hs => by
    subst hs
    refine ⟨fun hy K Q hK => ?_, fun hy => ⟨e, hR.put (no hy) _⟩⟩
    obtain ⟨u, hu, hr⟩ := evPure_sound (kn hy) hR.base hx (fun _ h => (List.not_mem_nil h).elim)
    unfold Oper.wp
    rw [hr]
    simp only [VX.sat] at hu
    subst hu
    exact hK _ _ _ (hR.put (yes hy) _)
  unfold specX at h
  split at h
  · rename_i t x hop
    split at h
    · rename_i p hp0
      split at h
      · rename_i v hv
        simp only [Option.some.injEq, Prod.mk.injEq] at h
        obtain ⟨rfl, rfl⟩ := h
        refine ⟨fun hy K Q hK => ?_, fun hy => ⟨e, hR.put (no hy) _⟩⟩
        obtain ⟨ad, had, hr⟩ := loadX_sound hR hv (fun _ h => (List.not_mem_nil h).elim)
        have hx := evP_sound (kn hy) hp0
        simp only [PX.den, had] at hx
        unfold Oper.wp
        have : (execOp a.eval o).run P w = .ok (.value (v.den e)) w := by
          simp only [execOp, hop, hx]
          simp [Instr.loadAt, Instr.sureAddr, hr]
        rw [this]
        exact hK _ _ _ (hR.put (yes hy) _)
      · cases h
    · cases h
  · rename_i f args at_ hop
    split at h
    · rename_i k g ps hk hps
      split at h
      · rename_i hc
        split at h
        · rename_i d hd
          split at h
          · rename_i x hx
            simp only [Option.some.injEq, Prod.mk.injEq] at h
            obtain ⟨rfl, rfl⟩ := h
            refine ⟨fun hy K Q hK => ?_, fun hy => ⟨e, hR.put (no hy) _⟩⟩
            obtain ⟨c, hck, hpre⟩ := hob _ (List.mem_singleton.2 rfl) e hR.ex hR.cd
            have hcg := con_sg hS hk hck
            obtain ⟨c', hc', hp'⟩ := hR.cd _ (earlier_mem hd)
            rw [hck] at hc'
            cases hc'
            obtain ⟨h1, h2⟩ := call_enter hS hR (kn hy) hop hk hps hck hpre hc.2 (fun | .returned v, w' => K (a.put o.dst v) w' | .panicked chain, w' => Q (.panic chain) a w' | .outgrown, _ => LetsOut Q) (fun int bool w' hb hpost => by
              have hv := c.same (by rw [hcg]; exact hc.1) _ _ _ _ _ hpost hp'
              rw [hcg] at hv
              have hi := inst_sat (e := e) (d := d) g.res
              rw [hx] at hi
              simp only [VX.sat] at hi
              dsimp only
              rw [hv, hi]
              exact hK _ _ _ ((hR.grow hb).put (yes hy) _))
            unfold Oper.wp
            rw [h2, Oper.upon_enter]
            exact h1
          · cases h
        · split at h
          · rename_i hid
            split at h
            · rename_i x hx
              simp only [Option.some.injEq, Prod.mk.injEq] at h
              obtain ⟨rfl, rfl⟩ := h
              obtain ⟨c, hck, hpre⟩ := hob _ (List.mem_singleton.2 rfl) e hR.ex hR.cd
              have hcg := con_sg hS hk hck
              have hyf := hid.2.2
              refine ⟨fun hy K Q hK => ?_, fun hy => ?_⟩
              · obtain ⟨h1, h2⟩ := call_enter hS hR (kn hy) hop hk hps hck hpre hc.2 (fun | .returned v, w' => K (a.put o.dst v) w' | .panicked chain, w' => Q (.panic chain) a w' | .outgrown, _ => LetsOut Q) (fun int bool w' hb hpost => by
                  dsimp only
                  have hi := inst_res e id int bool g.res
                  rw [hx] at hi
                  simp only [VX.sat] at hi
                  rw [hi]
                  exact hK _ _ _ (((hR.grow hb).result hps hid.1 hid.2.1 hck hpost).put (yes (by rw [← SX.den_off (Env.off_res e id int bool) y hyf]; exact hy)) _))
                unfold Oper.wp
                rw [h2, Oper.upon_enter]
                exact h1
              · obtain ⟨int, bool, hpost⟩ := c.total (by rw [hcg]; exact hc.1) (ps.map (·.dat e))
                exact ⟨_, (hR.result hps hid.1 hid.2.1 hck hpost).put (no (by rw [← SX.den_off (Env.off_res e id int bool) y hyf]; exact hy)) _⟩
            · cases h
          · cases h
      · cases h
    · cases h
  · rename_i hop
    split at h
    · rename_i x hx
      simp only [Option.some.injEq, Prod.mk.injEq] at h
      obtain ⟨rfl, rfl⟩ := h
      exact pure x hx rfl
    · cases h
end
end Go.Proofs.Ytjhdjclcfmcilaa
