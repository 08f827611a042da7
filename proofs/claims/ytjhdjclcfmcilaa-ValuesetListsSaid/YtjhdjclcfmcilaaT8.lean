/-
  The second machine on terms is right: calls, calls in place, one operation. No program.
-/
import Derived.Test.YtjhdjclcfmcilaaT7
namespace Go.Proofs.Ytjhdjclcfmcilaa.T2
open Go.ChangeShapes Go.WideShapes Go.ChangeAt Go.RowKit
set_option linter.unusedVariables false
theorem Own.mono {B B' : Nat} {w : World} {base : Option Addr} {len cap : Nat} {ks : List (Option IntKind)} {int : Nat → Int} {bool : Nat → Bool} (h : Own B w base len cap ks int bool) (hB : B' ≤ B) : Own B' w base len cap ks int bool := by
  obtain ⟨h1, h2 | ⟨g, t, cs, h2, hg, h3⟩⟩ := h
  · exact ⟨h1, .inl h2⟩
  · exact ⟨h1, .inr ⟨g, t, cs, h2, Nat.le_trans hB hg, h3⟩⟩
theorem range_same (z : Array Value) : (Array.range z.size).map (fun x => z[x % z.size]!) = z := by
  apply Array.ext
  · simp
  · intro i h1 h2
    simp only [Array.getElem_map, Array.getElem_range]
    rw [Nat.mod_eq_of_lt h2, getElem!_pos z i h2]
section
variable {P : Program} {C : List (Kon P)} {I : List (Nat → Env → Prop)} {G : Cfg} {e0 e e' : Env} {w0 w w' : World} {s : St} {a : Act} {ups : List (List Value)}
theorem zeroKs_cells (e : Env) {t : TypeId} {ks : List (Option IntKind)} (h : zeroKs P t = some ks) : ∃ i z zs, P.info? t = some i ∧ i.zero = some z ∧ z.cells = ((zs : List LX).map (·.den e)).toArray ∧ zs.length = ks.length := by
  unfold zeroKs at h
  split at h
  · rename_i z hz
    obtain ⟨i, hi, hz'⟩ := Option.bind_eq_some_iff.1 hz
    split at h
    · rename_i cs hcs
      split at h
      · refine ⟨i, z, cs, hi, hz', ?_, (kindsX_leaf (e := e) (kindsOf_kindsX h)).1⟩
        apply Array.ext'
        rw [← ofLs_den (e := e) hcs]
      · cases h
    · cases h
  · cases h
/-- A slice that is built of one element. -/
theorem run_buildSlice_one {t el : TypeId} {sz : Nat} {ks : List (Option IntKind)} {p : PX} (hel : elemX P t = some (el, sz)) (hz : zeroKs P el = some ks) (h1 : p.cells.length = sz) (h2 : ks.length = sz) (hsp : 0 < sz) (hsm : sz ≤ 1000) :
    (Instr.buildSlice t 1 #[(0, p.den e)]).run P w = .ok (.slice (some ⟨w.heap.size, 0, none⟩) 1 1) (w.alloc (.cells (p.cells.map (·.den e)).toArray el)) := by
  obtain ⟨i, hu, hi, hby, hisz⟩ := elemX_spec hel
  obtain ⟨i', z, zs, hi', hzz, hzc, hzl⟩ := zeroKs_cells e hz
  rw [hi] at hi'
  cases hi'
  have hzs : z.cells.size = sz := by rw [hzc]; simp [hzl, h2]
  have hfill := fill_sound (e := e) (place := fun i => some (i * sz, sz)) (parts := [(0, p)]) (cells := zs) (cs := p.cells) (by
    unfold fillX
    simp only [Nat.zero_mul, Nat.zero_add, List.take_zero, List.nil_append]
    rw [if_pos ⟨h1, by rw [hzl, h2]; exact Nat.le_refl _⟩, List.drop_of_length_le (by rw [hzl, h2]; exact Nat.le_refl _), List.append_nil]
    rfl)
  rw [← hzc] at hfill
  have hr := range_same z.cells
  rw [hzs] at hr
  have hns : ¬ 16777216 < sz := by omega
  have h0 : ¬ sz = 0 := by omega
  simp only [List.map_cons, List.map_nil] at hfill
  simp [Instr.buildSlice, run_underlying hu, sizeOf, typeInfo, zeroValue, hi, hzz, hisz, h0, hns, hr, hzs, hfill, newRow]
theorem run_buildSlice_none {t el : TypeId} {sz : Nat} (hel : elemX P t = some (el, sz)) : (Instr.buildSlice t 0 #[]).run P w = .ok (.slice (some ⟨w.heap.size, 0, none⟩) 0 0) (w.alloc (.cells #[] el)) := by
  obtain ⟨i, hu, hi, hby, hisz⟩ := elemX_spec hel
  simp [Instr.buildSlice, run_underlying hu, sizeOf, typeInfo, hi, newRow, Instr.fill, show Array.range 0 = #[] from rfl]

/-- A slice that is built of two elements. -/
theorem updC_two {α : Type} {f : Nat → α} {xs ys : List α} {n : Nat} (hn : xs.length = n) : updC (updC f 0 xs) n ys = updC f 0 (xs ++ ys) := by
  subst hn
  funext j
  unfold updC
  simp only [Nat.zero_le, if_true, Nat.sub_zero]
  split
  · rename_i h
    rw [List.getElem?_append_right h, List.getElem?_eq_none (l := xs) h]
    rfl
  · rename_i h
    rw [List.getElem?_append_left (by omega)]
theorem range_twice (z : Array Value) : (Array.range (2 * z.size)).map (fun x => z[x % z.size]!) = z ++ z := by
  apply Array.ext
  · simp; omega
  · intro i h1 h2
    simp only [Array.getElem_map, Array.getElem_range]
    simp only [Array.size_map, Array.size_range] at h1
    rcases Nat.lt_or_ge i z.size with h0 | h0
    · rw [Nat.mod_eq_of_lt h0, getElem!_pos z i h0, Array.getElem_append_left h0]
    · have e1 : i % z.size = i - z.size := by rw [Nat.mod_eq_sub_mod h0, Nat.mod_eq_of_lt (by omega)]
      rw [e1, getElem!_pos z (i - z.size) (by omega), Array.getElem_append_right h0]
theorem run_buildSlice_two {t el : TypeId} {sz : Nat} {ks : List (Option IntKind)} {p q : PX} (hel : elemX P t = some (el, sz)) (hz : zeroKs P el = some ks) (h1 : p.cells.length = sz) (h1' : q.cells.length = sz) (h2 : ks.length = sz) (hsp : 0 < sz) (hsm : sz ≤ 1000) :
    (Instr.buildSlice t 2 #[(0, p.den e), (1, q.den e)]).run P w = .ok (.slice (some ⟨w.heap.size, 0, none⟩) 2 2) (w.alloc (.cells ((p.cells ++ q.cells).map (·.den e)).toArray el)) := by
  obtain ⟨i, hu, hi, hby, hisz⟩ := elemX_spec hel
  obtain ⟨i', z, zs, hi', hzz, hzc, hzl⟩ := zeroKs_cells e hz
  rw [hi] at hi'
  cases hi'
  have hzl2 : zs.length = sz := hzl.trans h2
  have hzs : z.cells.size = sz := by rw [hzc]; simp [hzl2]
  have hfill := fill_sound (e := e) (place := fun i => some (i * sz, sz)) (parts := [(0, p), (1, q)]) (cells := zs ++ zs) (cs := p.cells ++ q.cells) (by
    unfold fillX
    simp only [Nat.zero_mul, Nat.zero_add, List.take_zero, List.nil_append, List.length_append]
    rw [if_pos ⟨h1, by omega⟩]
    unfold fillX
    simp only [Nat.one_mul, List.length_append, List.length_drop]
    rw [if_pos ⟨h1', by omega⟩]
    unfold fillX
    rw [List.drop_append_of_le_length (by omega), List.drop_of_length_le (by omega), List.nil_append, List.take_append_of_le_length (by omega), List.take_of_length_le (by omega), List.drop_of_length_le (by simp only [List.length_append]; omega), List.append_nil])
  rw [show (List.map (fun x => LX.den e x) (zs ++ zs)).toArray = z.cells ++ z.cells by rw [hzc, List.map_append]; simp] at hfill
  have hr := range_twice z.cells
  rw [hzs] at hr
  have hns : ¬ 16777216 < 2 * sz := by omega
  have h0 : ¬ 2 * sz = 0 := by omega
  simp only [List.map_cons, List.map_nil] at hfill
  simp [Instr.buildSlice, run_underlying hu, sizeOf, typeInfo, zeroValue, hi, hzz, hisz, h0, hns, hzs, hr, hfill, newRow]

/-- A slice that is built of elements of one cell. -/
theorem range_one (n : Nat) (v : Value) : (Array.range n).map (fun x => (#[v] : Array Value)[x % 1]!) = (List.replicate n v).toArray := by
  apply Array.ext
  · simp
  · intro i h1 h2
    simp [Nat.mod_one]
theorem run_buildSlice_cells {t el : TypeId} {n : Nat} {ps : List (Nat × PX)} {cs : List LX} (hel : elemX P t = some (el, 1)) (hn2 : 2 ≤ n) (hn : n ≤ 1000)
    (hf : (oneZ P el).bind (fun z => fillX (fun i => some (i * 1, 1)) (List.replicate n z) ps) = some cs) :
    (Instr.buildSlice t n (ps.map fun p => (p.1, p.2.den e)).toArray).run P w = .ok (.slice (some ⟨w.heap.size, 0, none⟩) n n) (w.alloc (.cells (cs.map (·.den e)).toArray el)) := by
  obtain ⟨i, hu, hi, hby, hisz⟩ := elemX_spec hel
  obtain ⟨z, hz, hf⟩ := Option.bind_eq_some_iff.1 hf
  unfold oneZ at hz
  rw [hi] at hz
  simp only [Option.bind_some] at hz
  split at hz
  · rename_i zv hzv
    split at hz
    · rename_i x hx
      cases hz
      have hzc : zv.cells = #[z.den e] := by
        apply Array.ext'
        rw [← ofLs_den (e := e) hx]
        rfl
      have hfill := fill_sound (e := e) hf
      rw [List.map_replicate] at hfill
      have hr := range_one n (z.den e)
      have hns : ¬ 16777216 < n := by omega
      have h0 : ¬ n = 0 := by omega
      simp [Instr.buildSlice, run_underlying hu, sizeOf, typeInfo, zeroValue, hi, hzv, hisz, h0, hns, hzc]
      simp at hr hfill ⊢
      rw [hr, hfill]
      simp [newRow]
    · cases hz
  · cases hz

/-! ### Calls. -/
theorem fitX_sound (hR : Rel C I G e0 w0 e s a ups w) {h : SH} {p : PX} (hf : fitX s h p = true) : h.fits w (p.dat e (ctOfP s p)) := by
  unfold fitX at hf
  split at hf
  · exact ⟨_, rfl⟩
  · simp only [beq_iff_eq] at hf
    subst hf
    exact ⟨_, rfl⟩
  · rename_i ks xs
    obtain ⟨h1, h2⟩ := kindsX_leaf (e := e) hf
    refine ⟨xs.map (·.den e), rfl, by simpa using h1, fun j k hk => ?_⟩
    have hjl : j < xs.length := by
      rw [h1]
      rcases Nat.lt_or_ge j ks.length with h0 | h0
      · exact h0
      · rw [List.getElem?_eq_none h0] at hk; cases hk
    have hx := List.getElem?_eq_getElem hjl
    exact ⟨_, _, by rw [List.getElem?_map, hx, Option.map_some, h2 j _ k hx hk]⟩
  · rename_i ks d len
    split at hf
    · rename_i ks' l ct hr
      simp only [decide_eq_true_eq] at hf
      have hA := hR.rowAt hr
      rw [hf.1, hf.2] at hA
      refine ⟨_, _, _, rfl, ?_⟩
      simp only [PX.dat, ctOfP, hr]
      exact hA
    · cases hf
  · exact ⟨none, 0, 0, rfl, fun i hi => by omega⟩
  · cases hf
abbrev adsX (s : St) (ps : List PX) : List (PX × Nat) := ps.map fun p => (p, ctOfP s p)
theorem fitsX_sound (hR : Rel C I G e0 w0 e s a ups w) : ∀ {hs : List SH} {ps : List PX}, fitsX s hs ps = true → Fits w hs ((adsX s ps).map (datP e))
  | [], [], _ => trivial
  | h :: hs, p :: ps, hf => by
    simp only [fitsX, Bool.and_eq_true] at hf
    exact ⟨fitX_sound hR hf.1, fitsX_sound hR hf.2⟩
  | [], _ :: _, h => by simp [fitsX] at h
  | _ :: _, [], h => by simp [fitsX] at h
theorem adsX_val (e : Env) (s : St) (ps : List PX) : ((adsX s ps).map (datP e)).map (·.val) = ps.map (·.den e) := by
  simp [adsX, datP, PX.dat_val]
theorem leafX_den {d j : Nat} (k : Option IntKind) : (leafX d j k).den e = leafD k (e.int d j) (e.bool d j) := by cases k <;> rfl
theorem cellsX_den {d : Nat} : ∀ (j : Nat) (ks : List (Option IntKind)), (cellsX d j ks).map (·.den e) = cellsD (e.int d) (e.bool d) j ks
  | _, [] => rfl
  | j, k :: ks => by simp only [cellsX, cellsD, List.map_cons, leafX_den, cellsX_den (j + 1) ks]
theorem partsD_den {d : Nat} : ∀ (j : Nat) (cs : List (Option IntKind ⊕ List (Option IntKind))), (partsD' d j cs).map (·.den e) = partsD (e.int d) (e.bool d) j cs
  | _, [] => rfl
  | j, .inl k :: cs => by rw [partsD', List.map_cons, partsD_den (j + 1) cs]; simp only [PX.den, leafX_den, partsD]
  | j, .inr ks :: cs => by rw [partsD', List.map_cons, partsD_den (j + ks.length) cs]; simp only [PX.den, cellsX_den, partsD]
theorem inst_sat {d : Nat} (r : RS) : (RS.inst d r).sat e (r.val (e.int d) (e.bool d)) := by
  cases r with
  | no => rfl
  | l k => simp only [RS.inst, RS.val, VX.sat, PX.den, leafX_den]
  | a ks => simp only [RS.inst, RS.val, VX.sat, PX.den, cellsX_den]
  | tp cs => simp only [RS.inst, RS.val, VX.sat, partsD_den]
theorem findSg_spec {f : FuncId} : ∀ {gs : List Sg} {n k : Nat} {g : Sg}, findSg f n gs = some (k, g) → g.f = f ∧ n ≤ k ∧ gs[k - n]? = some g
  | [], _, _, _, h => by cases h
  | g0 :: gs, n, k, g, h => by
    unfold findSg at h
    split at h
    · rename_i hf
      simp only [Option.some.injEq, Prod.mk.injEq] at h
      obtain ⟨rfl, rfl⟩ := h
      exact ⟨hf, Nat.le_refl _, by simp⟩
    · obtain ⟨h1, h2, h3⟩ := findSg_spec h
      refine ⟨h1, by omega, ?_⟩
      rw [show k - n = (k - (n + 1)) + 1 by omega, List.getElem?_cons_succ]
      exact h3
theorem earlier_mem {k : Nat} {ps : List (PX × Nat)} {d : Nat} : ∀ {cs : List Cd}, earlier k ps cs = some d → .f d k ps ∈ cs
  | .f d' k' ps' :: cs, h => by
    unfold earlier at h
    split at h
    · rename_i he; obtain ⟨rfl, rfl⟩ := he; simp only [Option.some.injEq] at h; subst h; exact List.mem_cons_self ..
    · exact List.mem_cons_of_mem _ (earlier_mem h)
  | .c _ _ :: cs, h => List.mem_cons_of_mem _ (earlier_mem (by unfold earlier at h; exact h))
  | .g _ _ _ :: cs, h => List.mem_cons_of_mem _ (earlier_mem (by unfold earlier at h; exact h))
  | .z _ :: cs, h => List.mem_cons_of_mem _ (earlier_mem (by unfold earlier at h; exact h))
  | .u _ _ _ _ _ _ :: cs, h => List.mem_cons_of_mem _ (earlier_mem (by unfold earlier at h; exact h))
  | .w _ _ _ _ :: cs, h => List.mem_cons_of_mem _ (earlier_mem (by unfold earlier at h; exact h))
  | .a _ _ _ _ _ :: cs, h => List.mem_cons_of_mem _ (earlier_mem (by unfold earlier at h; exact h))
  | .nu _ _ _ _ _ _ :: cs, h => List.mem_cons_of_mem _ (earlier_mem (by unfold earlier at h; exact h))
theorem ofL_fr {ok : Nat → Bool} {v : Value} {x : LX} (h : ofL v = some x) : x.fr ok = true := by
  unfold ofL at h
  split at h <;> simp only [Option.some.injEq, reduceCtorEq] at h <;> subst h <;> rfl
theorem ofLs_fr {ok : Nat → Bool} : ∀ {vs : List Value} {xs : List LX}, ofLs vs = some xs → xs.all (·.fr ok) = true
  | [], xs, h => by simp only [ofLs, Option.some.injEq] at h; subst h; rfl
  | v :: vs, xs, h => by
    unfold ofLs at h
    split at h
    · rename_i x xs' h1 h2
      simp only [Option.some.injEq] at h
      subst h
      rw [List.all_cons, ofL_fr h1, ofLs_fr h2]; rfl
    · cases h
theorem ofV_fr {ok : Nat → Bool} {v : Value} {x : PX} (h : ofV v = some x) : x.fr ok = true := by
  unfold ofV at h
  split at h
  · obtain ⟨y, hy, rfl⟩ := opt_map h
    exact ofLs_fr hy
  · obtain ⟨y, hy, rfl⟩ := opt_map h
    exact ofL_fr hy
theorem evP_fr {hs : List SX} {s : St} {ok : Nat → Bool} (hf : s.tm.all (·.fr ok) = true) {x : Operand} {p : PX} (h1 : evP hs s x = some p) : p.fr ok = true := by
  unfold evP at h1
  split at h1
  · rename_i p' hv
    simp only [Option.some.injEq] at h1
    subst h1
    unfold evV at hv
    split at hv
    · rename_i t
      split at hv
      · cases hv
      · rename_i c z hz
        split at hv
        · simp only [Option.some.injEq, VX.v.injEq] at hv
          subst hv
          have := List.all_eq_true.1 hf _ (List.mem_of_getElem? hz)
          simp only [VX.fr, Bool.and_eq_true] at this
          exact this.2
        · cases hv
      · exact List.all_eq_true.1 hf _ (List.mem_of_getElem? hv)
    · rename_i u
      obtain ⟨q, hq, hqv⟩ := opt_map hv
      cases hqv
      exact ofV_fr hq
    · cases hv
  · cases h1
theorem px_cells_fr {ok : Nat → Bool} {p : PX} (h : p.fr ok = true) : p.cells.all (·.fr ok) = true := by
  cases p with
  | l x => simpa [PX.cells, PX.fr] using h
  | a xs => exact h
theorem partsX_two {hs : List SX} {s : St} {ok : Nat → Bool} (hf : s.tm.all (·.fr ok) = true) {xs : List (Nat × Operand)} {i j : Nat} {p q : PX} (h : partsX hs s xs = some [(i, p), (j, q)]) : p.fr ok = true ∧ q.fr ok = true := by
  have key : ∀ {xs : List (Nat × Operand)} {ps : List (Nat × PX)}, partsX hs s xs = some ps → ∀ x ∈ ps, x.2.fr ok = true := by
    intro xs
    induction xs with
    | nil => intro ps h x hx; simp only [partsX, Option.some.injEq] at h; subst h; cases hx
    | cons y ys ih =>
      intro ps h x hx
      unfold partsX at h
      split at h
      · rename_i p ps' h1 h2
        simp only [Option.some.injEq] at h
        subst h
        rcases List.mem_cons.1 hx with rfl | hx
        · exact evP_fr hf h1
        · exact ih h2 x hx
      · cases h
  exact ⟨key h _ (List.mem_cons_self ..), key h _ (List.mem_cons_of_mem _ (List.mem_cons_self ..))⟩
theorem evPs_fr {hs : List SX} {s : St} {ok : Nat → Bool} (hf : s.tm.all (·.fr ok) = true) : ∀ {xs : List Operand} {ps : List PX}, evPs hs s xs = some ps → ps.all (·.fr ok) = true
  | [], ps, h => by simp only [evPs, Option.some.injEq] at h; subst h; rfl
  | x :: xs, ps, h => by
    unfold evPs at h
    split at h
    · rename_i p ps' h1 h2
      simp only [Option.some.injEq] at h
      subst h
      rw [List.all_cons, evPs_fr hf h2, Bool.and_true]
      exact evP_fr hf h1
    · cases h
theorem st_tm {ok : Nat → Bool} (h : s.fr ok = true) : s.tm.all (·.fr ok) = true := by
  simp only [St.fr, Bool.and_eq_true] at h; exact h.1.1.1.1
theorem rowOf_fr {ok : Nat → Bool} (h : s.fr ok = true) {d ct : Nat} {ks : List (Option IntKind)} {len : SX} (hr : rowOf s d = some (ks, len, ct)) : ok ct = true := by
  unfold rowOf at hr
  split at hr
  · rename_i id' ks' len' ct' ho
    simp only [Option.some.injEq, Prod.mk.injEq] at hr
    obtain ⟨rfl, rfl, rfl⟩ := hr
    obtain ⟨hm2, rfl⟩ := objX_mem ho
    exact (row_fr h hm2).2.2
  · cases hr
  · split at hr
    · rename_i r hr'
      simp only [Option.some.injEq, Prod.mk.injEq] at hr
      obtain ⟨rfl, rfl, rfl⟩ := hr
      simp only [St.fr, Bool.and_eq_true] at h
      have := List.all_eq_true.1 h.1.2 r (List.mem_of_find?_eq_some hr')
      simp only [Rw.fr, Bool.and_eq_true] at this
      exact this.1
    · cases hr
/-- What is said of a call stays so. -/
theorem ads_off {id : Nat} {m m' : Nm} (hfr : s.fr (nid id) = true) {ps : List PX} (hps : ps.all (·.fr (nid id)) = true) : (adsX s ps).map (datP ((e.set id m).set (id + 1) m')) = (adsX s ps).map (datP e) := by
  have hoff : Env.off (nid id) e ((e.set id m).set (id + 1) m') := Env.off_trans (Env.off_set e id m) (Env.off_set' _ id m')
  simp only [adsX, List.map_map]
  refine List.map_congr_left fun p hp => ?_
  have hpf := List.all_eq_true.1 hps p hp
  show p.dat _ (ctOfP s p) = p.dat _ (ctOfP s p)
  cases p with
  | a xs => simp only [PX.dat]; rw [PX.den_off hoff _ hpf]
  | l x =>
    cases x with
    | sl d len =>
      simp only [ctOfP]
      split
      · rename_i ks l ct hr
        exact (PX.dat_off hoff _ ct hpf (rowOf_fr hfr hr)).symm
      · have hd : nid id d = true := by
          simp only [PX.fr, LX.fr, Bool.and_eq_true] at hpf
          exact hpf.1
        exact (PX.dat_off hoff _ d hpf hd).symm
    | _ => simp only [PX.dat]; rw [PX.den_off hoff _ hpf]
/-- What a result adds. -/
theorem Rel.result (hR : Rel C I G e0 w0 e s a ups w) {id k : Nat} {ps : List PX} (hps : ps.all (·.fr (nid id)) = true) (hid : G.n0 ≤ id) (hfr : s.fr (nid id) = true) {c : Kon P} (hck : C[k]? = some c) {m m' : Nm} (hb : Below w.heap.size w w') (hpost : c.post ((adsX s ps).map (datP e)) m m') (r : RZ) (hmem : r.mem w.heap.size w' m m') :
    Rel C I G e0 w0 ((e.set id m).set (id + 1) m') { s with cd := .f id k (adsX s ps) :: s.cd, hp := r.blk id ++ s.hp } a ups w' := by
  have hoff : Env.off (nid id) e ((e.set id m).set (id + 1) m') := Env.off_trans (Env.off_set e id m) (Env.off_set' _ id m')
  have n0 : ((e.set id m).set (id + 1) m').nm id = m := by rw [Env.set_ne _ _ (by omega), Env.set_at]
  have n1 : ((e.set id m).set (id + 1) m').nm (id + 1) = m' := Env.set_at _ _ _
  have hR1 := (hR.grow hb).off hoff hfr (lt_nid hid)
  have hcd : (Cd.f id k (adsX s ps)).holds C I ((e.set id m).set (id + 1) m') := ⟨c, hck, by rw [ads_off hfr hps, n0, n1]; exact hpost⟩
  have hR0 := hR.off hoff hfr (lt_nid hid)
  have row : ∀ ks, Own w.heap.size w' m'.base (m.int 0).toNat m'.cap ks m'.int m'.bool → Rel C I G e0 w0 ((e.set id m).set (id + 1) m') { s with hp := ⟨id + 1, .row ks (.v id 0) (id + 1)⟩ :: s.hp } a ups w' := fun ks hown => by
    refine hR0.turn (rem := []) (kept := s.hp) (new := [⟨id + 1, .row ks (.v id 0) (id + 1)⟩]) (List.Perm.refl _) (List.Perm.refl _) ?_ ?_ (List.pairwise_singleton ..) ?_ (fun g hg _ => hb.block g hg) (hR.bl.trans (hb.mono hR.bl.size))
    · rw [List.map_cons, List.nodup_cons]
      exact ⟨not_id hfr (nid_self' id), hR.nd⟩
    · intro b hbm
      rw [List.mem_singleton] at hbm
      subst hbm
      show Own _ _ (Env.base _ (id + 1)) ((SX.v id 0).den _).1.toNat (Env.cap _ (id + 1)) ks (Env.int _ (id + 1)) (Env.bool _ (id + 1))
      simp only [SX.den, Env.base, Env.cap, Env.int, Env.bool, n0, n1]
      exact hown.mono hR.bl.size
    · intro b hbm g hg
      rw [List.mem_singleton] at hbm
      subst hbm
      obtain ⟨a', ha', rfl⟩ := hg
      simp only [Env.base, n1] at ha'
      exact .inr (hown.fp ha').1
  cases r with
  | b r => exact hR1.cond1 hcd
  | s ks => exact (row ks hmem).cond1 hcd
  | se ks k' => exact (row ks hmem).cond1 hcd
theorem RZ.inst_sat {id : Nat} {m m' : Nm} (r : RZ) : (r.inst id).sat ((e.set id m).set (id + 1) m') (r.val m m') := by
  have n0 : ((e.set id m).set (id + 1) m').nm id = m := by rw [Env.set_ne _ _ (by omega), Env.set_at]
  have n1 : ((e.set id m).set (id + 1) m').nm (id + 1) = m' := Env.set_at _ _ _
  cases r with
  | b r =>
    have := T2.inst_sat (e := (e.set id m).set (id + 1) m') (d := id) r
    simp only [Env.int, Env.bool, n0] at this
    exact this
  | s ks => simp only [RZ.inst, RZ.val, VX.sat, PX.den, LX.den, SX.den, Env.int, Env.base, Env.cap, n0, n1]
  | se ks k =>
    have h2 : PX.den ((e.set id m).set (id + 1) m') (.l (leafX id 1 k)) = leafD k (m.int 1) (m.bool 1) := by
      simp only [PX.den]
      rw [leafX_den]
      simp only [Env.int, Env.bool, n0]
    simp only [RZ.inst, RZ.val, VX.sat, List.map_cons, List.map_nil]
    rw [h2]
    simp only [PX.den, LX.den, SX.den, Env.int, Env.base, Env.cap, n0, n1]
/-- A call that is met by a contract. -/
theorem call_enter (hS : C.map (·.sg) = G.sg) (hR : Rel C I G e0 w0 e s a ups w) {hs : List SX} (hk : Kn C I e s hs a) {o : Oper} {f : FuncId} {args : Array Operand} {at_ : Array TypeId} (hop : o.op = .call ⟨.value (.func f), args, at_⟩) {k : Nat} {g : Sg} {ps : List PX}
    (hf : findSg f 0 G.sg = some (k, g)) (hps : evPs hs s args.toList = some ps) {c : Kon P} (hck : C[k]? = some c) (hpre : c.pre ((adsX s ps).map (datP e))) (hfx : fitsX s g.args ps = true) :
    ∀ K' : Ending → World → Prop, (∀ m m' w', Below w.heap.size w w' → c.post ((adsX s ps).map (datP e)) m m' → g.res.mem w.heap.size w' m m' → K' (.returned (g.res.val m m')) w') → Calls P f (args.map a.eval) w K' ∧ ∀ w, (execOp a.eval o).run P w = .ok (.enter f (args.map a.eval)) w := by
  obtain ⟨hgf, _, hgk⟩ := findSg_spec hf
  have hcg : c.sg = g := by
    rw [← hS, Nat.sub_zero, List.getElem?_map, hck] at hgk
    simpa using hgk
  obtain ⟨fn, hfn, hnm, hbd⟩ := c.body
  have hfit := fitsX_sound hR hfx
  rw [← hcg] at hfit hgf
  rw [hgf] at hfn
  have hsound := c.sound ((adsX s ps).map (datP e)) w hfit hpre
  have hargs : (args.map a.eval) = (((adsX s ps).map (datP e)).map (·.val)).toArray := by
    apply Array.ext'
    rw [Array.toList_map, evPs_sound hk hps, adsX_val]
  refine fun K' hK' => ⟨?_, fun w => ?_⟩
  · rw [hargs, ← hgf]
    refine hsound.mono fun en w' hen => ?_
    obtain ⟨m, m', rfl, hb, hpost, hmem⟩ := hen
    rw [hcg] at hmem ⊢
    exact hK' m m' w' hb hpost hmem
  · simp only [execOp, hop, Sem.run_bind, resolve, Act.eval, Deferred.ofValue, Sem.run_pure, Result.andThen_ok, invoke]
    rw [show (#[] ++ args.map a.eval) ++ #[] = args.map a.eval by simp]
    exact run_enter (x := Sem.halt (.stuck "")) hfn hnm hbd
theorem con_sg (hS : C.map (·.sg) = G.sg) {f : FuncId} {k : Nat} {g : Sg} (hf : findSg f 0 G.sg = some (k, g)) {c : Kon P} (hck : C[k]? = some c) : c.sg = g := by
  obtain ⟨_, _, hgk⟩ := findSg_spec hf
  rw [← hS, Nat.sub_zero, List.getElem?_map, hck] at hgk
  simpa using hgk
theorem pre_of (hS : C.map (·.sg) = G.sg) {f : FuncId} {k : Nat} {g : Sg} (hk : findSg f 0 G.sg = some (k, g)) {cd : List Cd} {ads : List (PX × Nat)} (hob : ∀ ob ∈ (if g.np then [] else [Ob.pre cd k ads]), ob.ok C I G.n0 e0) (hex : Env.agr G.n0 e0 e) (hcd : ∀ c ∈ cd, c.holds C I e) :
    ∃ c, C[k]? = some c ∧ c.pre (ads.map (datP e)) := by
  cases hn : g.np
  · rw [hn] at hob
    exact hob _ (List.mem_singleton.2 rfl) e hex hcd
  · obtain ⟨_, _, hgk⟩ := findSg_spec hk
    rw [Nat.sub_zero, ← hS, List.getElem?_map] at hgk
    obtain ⟨c, hck, hcg⟩ := opt_map hgk
    exact ⟨c, hck, c.free (by rw [hcg]; exact hn) _⟩
/-- Calls in place are right. -/
def InlOk (P : Program) (C : List (Kon P)) (I : List (Nat → Env → Prop)) (inl : Inl) : Prop := ∀ (G : Cfg) (f : FuncId) (ps : List PX) (s : St) (rs : List (VX × St)) (os : List Ob), inl G f ps s = some (rs, os) → C.map (·.sg) = G.sg →
  (∃ fn, P.funcs[f]? = some fn ∧ (fn.name == "runtime.NumGoroutine") = false ∧ fn.body.isNone = false) ∧ ∀ (e0 : Env) (w0 : World) (e : Env) (a : Act) (ups : List (List Value)) (w : World), (∀ ob ∈ os, ob.ok C I G.n0 e0) → Rel C I G e0 w0 e s a ups w →
    Calls P f (ps.map (·.den e)).toArray w fun en w' => ∃ v s', (v, s') ∈ rs ∧ ∃ e' u, en = .returned u ∧ v.sat e' u ∧ Rel C I G e0 w0 e' s' a ups w'
/-- One operation. -/
theorem stepX_sound (hS : C.map (·.sg) = G.sg) {inl : Inl} (hI : InlOk P C I inl) {id : Nat} {o : Oper} {ss : List St} {os : List Ob} (h : stepX P inl G id o s = some (ss, os)) (hob : ∀ ob ∈ os, ob.ok C I G.n0 e0)
    (hR : Rel C I G e0 w0 e s a ups w) {K : Act → World → Prop} {Q : Exit → Act → World → Prop} (hK : ∀ s' ∈ ss, ∀ e' a' w', Rel C I G e0 w0 e' s' a' ups w' → K a' w') : o.wp P a w K Q := by
  have pure : ((evPure P [] s o.op).map fun (v, xs) => ([s.put o.dst v], owe s xs)) = some (ss, os) → o.wp P a w K Q := fun h => by
    obtain ⟨⟨v, xs⟩, hv, hp⟩ := opt_map h
    simp only [Prod.mk.injEq] at hp
    obtain ⟨rfl, rfl⟩ := hp
    obtain ⟨u, hu, hr⟩ := evPure_sound hR.kn0 hR.bs hv (hR.owed hob)
    unfold Oper.wp
    rw [hr]
    exact hK _ (List.mem_singleton.2 rfl) _ _ _ (hR.put hu _)
  have below : ∀ o : Obj, Below w.heap.size w (w.alloc o) := fun o => (Below.refl _ w).alloc (Nat.le_refl _) o
  -- a new block
  have fresh : ∀ {t : TypeId} {cs : List LX} {x : LX}, G.n0 ≤ id → s.fr (nid id) = true → (∀ e' : Env, e'.adr id = w.heap.size → x.den e' = (LX.p id 0).den e' ∨ ∃ n, x.den e' = (LX.sb id n).den e') →
      (∀ e' : Env, Rel C I G e0 w0 e' s a ups w → e'.adr id = w.heap.size → (execOp a.eval o).run P w = .ok (.value (x.den e')) (w.alloc (.cells (cs.map (·.den e')).toArray t))) →
      (∀ e' a' w', Rel C I G e0 w0 e' ({ s with hp := insBk ⟨id, .cells t cs⟩ s.hp }.put o.dst (.v (.l x))) a' ups w' → K a' w') → o.wp P a w K Q := by
    intro t cs x hid hfr _ hrun hK
    have hoff := Env.off_set e id { Nm.zero with adr := w.heap.size }
    have hR' := hR.off hoff hfr (lt_nid hid)
    have hat : Env.adr (e.set id { Nm.zero with adr := w.heap.size }) id = w.heap.size := by simp only [Env.adr, Env.set_at]
    unfold Oper.wp
    rw [hrun _ hR' hat]
    refine hK _ _ _ ((hR'.push (b := ⟨id, .cells t cs⟩) (not_id hfr (nid_self id)) (below _) ⟨by rw [hat]; exact hR.bl.size, by rw [hat]; exact Blk.new w _ _⟩ (fun g hg => by
      have : g = Env.adr (e.set id { Nm.zero with adr := w.heap.size }) id := hg
      rw [this, hat]; exact Nat.le_refl _)).put (v := .v (.l x)) rfl _)
  unfold stepX at h
  split at h
  · rename_i t hop
    split at h
    · rename_i hid
      split at h
      · rename_i z hz
        obtain ⟨cs, hcs, hp⟩ := opt_map h
        simp only [Prod.mk.injEq] at hp
        obtain ⟨rfl, rfl⟩ := hp
        obtain ⟨i, hi, hz'⟩ := Option.bind_eq_some_iff.1 hz
        refine fresh (t := t) (cs := cs) (x := .p id 0) hid.1 hid.2 (fun _ _ => .inl rfl) (fun e' hR' hat => ?_) (hK _ (List.mem_singleton.2 rfl))
        have hcells : z.cells = (cs.map (·.den e')).toArray := by rw [ofLs_den hcs]
        rw [← hcells]
        simp only [execOp, hop, LX.den, hat]
        simp [Instr.alloc, zeroValue, typeInfo, hi, hz', newVar, newRow]
      · cases h
    · cases h
  · rename_i t x hop
    split at h
    · rename_i hid
      obtain ⟨p, hp0, hp⟩ := opt_map h
      simp only [Prod.mk.injEq] at hp
      obtain ⟨rfl, rfl⟩ := hp
      refine fresh (t := t) (cs := p.cells) (x := .p id 0) hid.1 hid.2 (fun _ _ => .inl rfl) (fun e' hR' hat => ?_) (hK _ (List.mem_singleton.2 rfl))
      have hcells : (a.eval x).cells = (p.cells.map (·.den e')).toArray := by rw [evP_sound hR'.kn0 hp0, PX.cells_den]
      rw [← hcells]
      simp only [execOp, hop, LX.den, hat]
      simp [Instr.box, newVar, newRow]
    · cases h
  · rename_i t n parts hop
    split at h
    · rename_i el sz ps hel hps
      split at h
      · rename_i hid
        split at h
        · rename_i hsm
          obtain ⟨rfl, hn2, hn⟩ := hsm
          split at h
          · rename_i cs hcs
            simp only [Option.some.injEq, Prod.mk.injEq] at h
            obtain ⟨rfl, rfl⟩ := h
            refine fresh (t := el) (cs := cs) (x := .sb id n) hid.1 hid.2 (fun _ _ => .inr ⟨n, rfl⟩) (fun e' hR' hat => ?_) (hK _ (List.mem_singleton.2 rfl))
            have hpd := partsX_den hR'.kn0 hps
            have hpe : (parts.map fun x => (x.1, a.eval x.2)) = (ps.map fun p => (p.1, p.2.den e')).toArray := by apply Array.ext'; rw [Array.toList_map, hpd]
            simp only [execOp, hop, LX.den, hat, hpe]
            rw [Sem.run_bind, run_buildSlice_cells hel hn2 hn hcs]
            rfl
          · cases h
        rename_i hnot
        clear hnot
        split at h
        · simp only [Option.some.injEq, Prod.mk.injEq] at h
          obtain ⟨rfl, rfl⟩ := h
          refine fresh (t := el) (cs := []) (x := .sb id 0) hid.1 hid.2 (fun _ _ => .inr ⟨0, rfl⟩) (fun e' hR' hat => ?_) (hK _ (List.mem_singleton.2 rfl))
          have hpd := partsX_den hR'.kn0 hps
          have hpe : (parts.map fun x => (x.1, a.eval x.2)) = #[] := by apply Array.ext'; rw [Array.toList_map, hpd]; rfl
          simp only [execOp, hop, LX.den, hat, hpe]
          rw [Sem.run_bind, run_buildSlice_none hel]
          rfl
        · rename_i p
          split at h
          · rename_i ks hz
            split at h
            · rename_i hsz
              simp only [Option.some.injEq, Prod.mk.injEq] at h
              obtain ⟨rfl, rfl⟩ := h
              refine fresh (t := el) (cs := p.cells) (x := .sb id 1) hid.1 hid.2 (fun _ _ => .inr ⟨1, rfl⟩) (fun e' hR' hat => ?_) (hK _ (List.mem_singleton.2 rfl))
              have hpd := partsX_den hR'.kn0 hps
              have hpe : (parts.map fun x => (x.1, a.eval x.2)) = #[(0, p.den e')] := by apply Array.ext'; rw [Array.toList_map, hpd]; rfl
              simp only [execOp, hop, LX.den, hat, hpe]
              rw [Sem.run_bind, run_buildSlice_one hel hz hsz.1 hsz.2.1 hsz.2.2.1 hsz.2.2.2]
              rfl
            · cases h
          · cases h
        · rename_i p q
          split at h
          · rename_i ks hz
            split at h
            · rename_i hsz
              obtain ⟨k1, k2, k3, k4, k5⟩ := hsz
              simp only [Option.some.injEq, Prod.mk.injEq] at h
              obtain ⟨rfl, rfl⟩ := h
              have x1 := kindsOf_kindsX k1
              have x2 := kindsOf_kindsX k2
              have l1 := (kindsX_leaf (e := e) x1).1
              have l2 := (kindsX_leaf (e := e) x2).1
              obtain ⟨f1, f2⟩ := partsX_two (st_tm hid.2) hps
              have csf : (p.cells ++ q.cells).all (·.fr (nid id)) = true := by rw [List.all_append, px_cells_fr f1, px_cells_fr f2]; rfl
              have hoff := Env.off_set e id { Nm.zero with base := some ⟨w.heap.size, 0, none⟩, cap := 2, int := updC (fun _ => 0) 0 ((p.cells ++ q.cells).map (leafI e)), bool := updC (fun _ => false) 0 ((p.cells ++ q.cells).map (leafB e)) }
              have hrun : (execOp a.eval o).run P w = .ok (.value (.slice (some ⟨w.heap.size, 0, none⟩) 2 2)) (w.alloc (.cells ((p.cells ++ q.cells).map (·.den e)).toArray el)) := by
                have hpd := partsX_den hR.kn0 hps
                have hpe : (parts.map fun x => (x.1, a.eval x.2)) = #[(0, p.den e), (1, q.den e)] := by apply Array.ext'; rw [Array.toList_map, hpd]; rfl
                simp only [execOp, hop, hpe]
                rw [Sem.run_bind, run_buildSlice_two hel hz (l1.trans k3) (l2.trans k3) k3 k4 k5]
                rfl
              have c1 := cells_more (e := e) (len := 0) (int := fun _ => 0) (bool := fun _ => false) (cs := ((p.cells ++ q.cells).map (·.den e)).toArray.extract 0 sz) x1 (fun i hi => absurd hi (Nat.not_lt_zero i)) (fun j x hj => by
                have hl := (List.getElem?_eq_some_iff.1 hj).1
                rw [Nat.zero_mul, Nat.zero_add, Array.getElem?_extract]
                simp only [Nat.zero_add, Nat.sub_zero]
                rw [if_pos (by simp only [List.size_toArray, List.length_map, List.length_append]; omega), List.getElem?_toArray, List.getElem?_map, List.getElem?_append_left hl, hj]
                rfl)
              have c2 := cells_more (e := e) (len := 1) (int := updC (fun _ => 0) (0 * ks.length) (p.cells.map (leafI e))) (bool := updC (fun _ => false) (0 * ks.length) (p.cells.map (leafB e))) (cs := ((p.cells ++ q.cells).map (·.den e)).toArray) x2 (fun i hi j k hj => by
                obtain rfl : i = 0 := by omega
                have := c1 0 (by omega) j k hj
                rw [Array.getElem?_extract] at this
                split at this
                · simpa using this
                · cases this) (fun j x hj => by
                rw [Nat.one_mul, List.getElem?_toArray, List.getElem?_map, List.getElem?_append_right (by omega), show ks.length + j - p.cells.length = j by omega, hj]
                rfl)
              rw [Nat.zero_mul, Nat.one_mul] at c2
              rw [updC_two (by rw [List.length_map, l1]), updC_two (by rw [List.length_map, l1]), ← List.map_append, ← List.map_append] at c2
              have hR' : Rel C I G e0 w0 (e.set id { Nm.zero with base := some ⟨w.heap.size, 0, none⟩, cap := 2, int := updC (fun _ => 0) 0 ((p.cells ++ q.cells).map (leafI e)), bool := updC (fun _ => false) 0 ((p.cells ++ q.cells).map (leafB e)) }) { s with hp := insBk ⟨id, .row ks (.i 2) id⟩ s.hp, cd := .u id none (.i 0) sz 0 (p.cells ++ q.cells) :: s.cd } a ups (w.alloc (.cells ((p.cells ++ q.cells).map (·.den e)).toArray el)) := by
                refine Rel.cond1 ((hR.off hoff hid.2 (lt_nid hid.1)).push (b := ⟨id, .row ks (.i 2) id⟩) (not_id hid.2 (nid_self id)) (below _) ?_ ?_) ?_
                · show Own _ _ (Env.base _ id) _ (Env.cap _ id) ks (Env.int _ id) (Env.bool _ id)
                  simp only [Env.base, Env.cap, Env.int, Env.bool, Env.set_at]
                  refine ⟨Nat.le_refl _, .inr ⟨w.heap.size, el, _, rfl, hR.bl.size, Blk.new w _ _, ?_, c2⟩⟩
                  simp only [List.size_toArray, List.length_map, List.length_append]
                  omega
                · rintro g ⟨a', ha', rfl⟩
                  simp only [Env.base, Env.set_at] at ha'
                  cases ha'
                  exact Nat.le_refl _
                · show _ ∧ _
                  simp only [Env.int, Env.bool, Env.set_at, leafI_map_off hoff csf, leafB_map_off hoff csf, SX.den]
                  exact ⟨by simp, by simp⟩
              unfold Oper.wp
              rw [hrun]
              exact hK _ (List.mem_singleton.2 rfl) _ _ _ (hR'.put (v := .v (.l (.sl id (.i 2)))) (by simp only [VX.sat, PX.den, LX.den, SX.den, Env.base, Env.cap, Env.set_at]; rfl) _)
            · cases h
          · cases h
        · cases h
      · cases h
    · cases h
  · rename_i t len cap hop
    split at h
    · rename_i n n' h1 h2
      split at h
      · rename_i hn
        subst hn
        obtain ⟨⟨s', v, xs⟩, hm, hp⟩ := opt_map h
        simp only [Prod.mk.injEq] at hp
        obtain ⟨rfl, rfl⟩ := hp
        obtain ⟨e', w', hrun, hR'⟩ := makeX_sound hR hm (hR.owed hob) (fun hf => by have := evP_fr (st_tm hf) h1; simpa [PX.fr, LX.fr] using this)
        have x1 := evP_sound hR.kn0 h1
        have x2 := evP_sound hR.kn0 h2
        simp only [PX.den, LX.den] at x1 x2
        have hex : (execOp a.eval o).run P w = .ok (.value (v.den e')) w' := by
          simp only [execOp, hop, x1, x2]
          rw [Sem.run_bind, hrun]
          rfl
        unfold Oper.wp
        rw [hex]
        exact hK _ (List.mem_singleton.2 rfl) _ _ _ (hR'.put (v := .v (.l v)) rfl _)
      · cases h
    · cases h
  · rename_i t hop
    split at h
    · rename_i kt et hu
      split at h
      · rename_i kk kv h1 h2
        split at h
        · rename_i hid
          simp only [Option.some.injEq, Prod.mk.injEq] at h
          obtain ⟨rfl, rfl⟩ := h
          have hoff := Env.off_set e id { Nm.zero with adr := w.heap.size }
          have hR' := hR.off hoff hid.2 (lt_nid hid.1)
          have hat : Env.adr (e.set id { Nm.zero with adr := w.heap.size }) id = w.heap.size := by simp only [Env.adr, Env.set_at]
          have hex : (execOp a.eval o).run P w = .ok (.value ((LX.mp id).den (e.set id { Nm.zero with adr := w.heap.size }))) (w.alloc (.map #[] 0)) := by
            simp only [execOp, hop, LX.den, hat]
            simp [Instr.makeMap]
          unfold Oper.wp
          rw [hex]
          refine hK _ (List.mem_singleton.2 rfl) _ _ _ (Rel.put (v := .v (.l (.mp id))) (Rel.cond1 (hR'.push (b := ⟨id, .map kk kv id⟩) (not_id hid.2 (nid_self id)) (below _) ⟨by rw [hat]; exact hR.bl.size, #[], 0, by rw [hat]; exact heap_alloc_new w _, ?_⟩ (fun g hg => ?_)) ?_) rfl _)
          · simp only [Env.int, Env.bool, Env.set_at]
            exact MapIs.empty
          · have : g = Env.adr (e.set id { Nm.zero with adr := w.heap.size }) id := hg
            rw [this, hat]; exact Nat.le_refl _
          · show _ ∧ _
            simp only [Env.int, Env.bool, Env.set_at]
            exact ⟨rfl, rfl⟩
        · cases h
      · cases h
    · cases h
  · rename_i t x ix ok hop
    split at h
    · rename_i kt et d k i hu h1 h2
      split at h
      · rename_i kk kv ct kk' kv' hm hkt hz
        split at h
        · rename_i hc
          obtain ⟨rfl, rfl, rfl⟩ := hc
          simp only [Option.some.injEq, Prod.mk.injEq] at h
          obtain ⟨rfl, rfl⟩ := h
          have g1 := geZ_den (hR.owed hob _ (List.mem_singleton.2 rfl))
          obtain ⟨inf, hinf, hz'⟩ := Option.bind_eq_some_iff.1 hz
          obtain ⟨hB, es, cl, hw, hmi⟩ := hR.hp _ (mapOf_mem hm)
          have x1 := evP_sound hR.kn0 h1
          have x2 := evP_sound hR.kn0 h2
          simp only [PX.den, LX.den] at x1 x2
          have hr := run_lookup_map (P := P) (w := w) hu hkt hinf hz' hw hmi (i.den e).1.toNat ok
          rw [show (((i.den e).1.toNat : Nat) : Int) = (i.den e).1 by omega] at hr
          have hex : (execOp a.eval o).run P w = .ok (.value (if ok then .tuple #[.int kv (e.int ct (i.den e).1.toNat), .bool (e.bool ct (i.den e).1.toNat)] else .int kv (e.int ct (i.den e).1.toNat))) w := by
            simp only [execOp, hop, x1, x2]
            rw [Sem.run_bind, hr]
            rfl
          unfold Oper.wp
          rw [hex]
          refine hK _ (List.mem_singleton.2 rfl) _ _ _ (hR.put ?_ _)
          cases ok <;> simp [VX.sat, PX.den, LX.den, SX.den]
        · cases h
      · cases h
    · cases h
  · rename_i t x ix y hop
    split at h
    · rename_i kt et d k i kv' z hu h1 h2 h3
      split at h
      · rename_i kk kv ct kk' hm hkt
        split at h
        · rename_i hc
          obtain ⟨rfl, rfl, rfl, hid, hfr⟩ := hc
          simp only [Option.some.injEq, Prod.mk.injEq] at h
          obtain ⟨rfl, rfl⟩ := h
          have g1 := geZ_den (hR.owed hob _ (List.mem_singleton.2 rfl))
          have hmm := mapOf_mem hm
          obtain ⟨hB, es, cl, hw, hmi⟩ := hR.hp _ hmm
          have x1 := evP_sound hR.kn0 h1
          have x2 := evP_sound hR.kn0 h2
          have x3 := evP_sound hR.kn0 h3
          simp only [PX.den, LX.den] at x1 x2 x3
          obtain ⟨es', cl', hr, hmi'⟩ := run_mapUpdate_map (P := P) (w := w) hu hkt hw hmi (i.den e).1.toNat (z.den e).1
          rw [show (((i.den e).1.toNat : Nat) : Int) = (i.den e).1 by omega] at hr
          have hex : (execOp a.eval o).run P w = .ok .skip { w with heap := w.heap.setIfInBounds (e.adr d) (.map es' cl') } := by
            simp only [execOp, hop, x1, x2, x3]
            rw [Sem.run_bind, hr]
            rfl
          have f := hp_fr hfr hmm
          simp only [Bk.fr, Bd.fr, Bool.and_eq_true] at f
          have zf : z.fr (nid id) = true := by have := evP_fr (st_tm hfr) h3; simpa [PX.fr, LX.fr] using this
          have if_ : i.fr (nid id) = true := by have := evP_fr (st_tm hfr) h2; simpa [PX.fr, LX.fr] using this
          have hoff := Env.off_set e id { Nm.zero with int := updC (e.int ct) (i.den e).1.toNat [(z.den e).1], bool := updC (e.bool ct) (i.den e).1.toNat [true] }
          have hR' := hR.off hoff hfr (lt_nid hid)
          have hlt : e.adr d < w.heap.size := ((hR.hp _ hmm).fp (g := e.adr d) rfl).2
          unfold Oper.wp
          rw [hex]
          refine hK _ (List.mem_singleton.2 rfl) (e.set id { Nm.zero with int := updC (e.int ct) (i.den e).1.toNat [(z.den e).1], bool := updC (e.bool ct) (i.den e).1.toNat [true] }) _ _ (Rel.put (v := .un) (Rel.cond1 (hR'.change hmm (bd := .map kk' kv id) ⟨?_, es', cl', ?_, ?_⟩ (fun g hg => .inl hg) (fun g hg hn => ?_) ?_) ?_) rfl _)
          · simp only [Env.adr, set_nid f.1]; exact hB
          · simp only [Env.adr, set_nid f.1]
            show (w.heap.setIfInBounds (e.adr d) (.map es' cl'))[e.adr d]? = _
            rw [Array.getElem?_setIfInBounds_self_of_lt hlt]
          · simp only [Env.int, Env.bool, Env.set_at]; exact hmi'
          · have hne : g ≠ e.adr d := fun he => hn (by show g = Env.adr _ d; simp only [Env.adr, set_nid f.1]; exact he)
            show (w.heap.setIfInBounds (e.adr d) (.map es' cl'))[g]? = _
            rw [Array.getElem?_setIfInBounds_ne (Ne.symm hne)]
          · refine hR.bl.trans ⟨rfl, rfl, rfl, by simp, fun k hk => ?_⟩
            have hne : k ≠ e.adr d := fun he => by
              have hB' : w0.heap.size ≤ e.adr d := hB
              omega
            show (w.heap.setIfInBounds (e.adr d) (.map es' cl'))[k]? = _
            rw [Array.getElem?_setIfInBounds_ne (Ne.symm hne)]
          · show _ ∧ _
            simp only [Env.int, Env.bool, Env.set_at, set_nid f.2, ← SX.den_off hoff i if_, leafI]
            rw [← SX.den_off hoff z zf]
            exact ⟨rfl, trivial⟩
        · cases h
      · cases h
    · cases h
  · rename_i t x h' hop
    split at h
    · rename_i el d len k i hu h1 h2
      split at h
      · rename_i ks len' ct hr
        split at h
        · rename_i hl
          obtain ⟨hl, hel⟩ := hl
          subst hl
          obtain ⟨⟨el', sz⟩, hel'⟩ := Option.isSome_iff_exists.1 hel
          obtain ⟨inf, hu', hinf, _, _⟩ := elemX_spec hel'
          rw [hu] at hu'
          cases hu'
          simp only [Option.some.injEq, Prod.mk.injEq] at h
          obtain ⟨rfl, rfl⟩ := h
          have g1 := geZ_den (hR.owed hob _ (List.mem_cons_self ..))
          have g2 := leq_den (hR.owed hob _ (List.mem_cons_of_mem _ (List.mem_cons_self ..)))
          have hm := ownOf_mem hr
          have hown := hR.own hr
          have hle := hown.1
          have x1 := evP_sound hR.kn0 h1
          have x2 := evP_sound hR.kn0 h2
          simp only [PX.den, LX.den] at x1 x2
          have hcap : (i.den e).1 ≤ (e.cap d : Int) := by omega
          have hex : (execOp a.eval o).run P w = .ok (.value ((LX.sl d i).den e)) w := by
            simp only [execOp, hop, x1, Option.map_none, Option.map_some, x2, LX.den]
            have hz : (if e.cap d = 0 then e.base d else Option.map (fun x => x.add 0) (e.base d)) = e.base d := by
              split
              · rfl
              · cases e.base d <;> rfl
            simp [Instr.sliceAt, Instr.slice, run_underlying hu, Instr.sliceBounds, Instr.sliceBound, asIntOf, g1, hcap, run_size hinf, hz]
          unfold Oper.wp
          rw [hex]
          refine hK _ (List.mem_singleton.2 rfl) _ _ _ ((hR.change hm (bd := .row ks i ct) ?_ (fun g hg => .inl hg) (fun g _ _ => rfl) hR.bl).put (v := .v (.l (.sl d i))) rfl _)
          show Own _ _ (e.base d) (i.den e).1.toNat (e.cap d) ks (e.int ct) (e.bool ct)
          obtain ⟨c1, c2 | ⟨g, t', cs, c2, c3, c4, c5, c6⟩⟩ := hown
          · exact ⟨by omega, .inl c2⟩
          · exact ⟨by omega, .inr ⟨g, t', cs, c2, c3, c4, c5, fun j hj => c6 j (by omega)⟩⟩
        · cases h
      · cases h
    · cases h
  · rename_i t x hop
    split at h
    · rename_i p hp0
      obtain ⟨⟨v, xs⟩, hv, hp⟩ := opt_map h
      simp only [Prod.mk.injEq] at hp
      obtain ⟨rfl, rfl⟩ := hp
      obtain ⟨ad, had, hr⟩ := loadX_sound hR hv (hR.owed hob)
      have hx := evP_sound hR.kn0 hp0
      simp only [PX.den, had] at hx
      unfold Oper.wp
      have : (execOp a.eval o).run P w = .ok (.value (v.den e)) w := by
        simp only [execOp, hop, hx]
        simp [Instr.loadAt, Instr.sureAddr, hr]
      rw [this]
      exact hK _ (List.mem_singleton.2 rfl) _ _ _ (hR.put (v := .v v) rfl _)
    · cases h
  · rename_i t x y hop
    split at h
    · rename_i p v hp0 hv0
      obtain ⟨⟨s1, xs⟩, hv, hp⟩ := opt_map h
      simp only [Prod.mk.injEq] at hp
      obtain ⟨rfl, rfl⟩ := hp
      obtain ⟨ad, e1, w1, had, hr, hR1⟩ := storeX_sound hR hv (hR.owed hob) (fun hf => ⟨evP_fr (st_tm hf) hv0, by have := evP_fr (st_tm hf) hp0; simpa [PX.fr] using this⟩)
      have hx := evP_sound hR.kn0 hp0
      simp only [PX.den, had] at hx
      have hy := evP_sound hR.kn0 hv0
      unfold Oper.wp
      have : (execOp a.eval o).run P w = .ok .skip w1 := by
        simp only [execOp, hop, hx, hy]
        simp [Instr.storeAt, Instr.sureAddr, hr]
      rw [this]
      exact hK _ (List.mem_singleton.2 rfl) _ _ _ (hR1.put (v := .un) rfl _)
    · cases h
  · rename_i args at_ hop
    split at h
    · rename_i dst src t t' hps hat
      split at h
      · rename_i htt
        subst htt
        obtain ⟨⟨s', v, xs⟩, hm, hp⟩ := opt_map h
        simp only [Prod.mk.injEq] at hp
        obtain ⟨rfl, rfl⟩ := hp
        have hx := evPs_sound hR.kn0 hps
        simp only [List.map_cons, List.map_nil, PX.den] at hx
        have hargs : args.map a.eval = #[dst.den e, src.den e] := by apply Array.ext'; rw [Array.toList_map, hx]
        have hat' : at_ = #[t, t] := by apply Array.ext'; rw [hat]
        obtain ⟨e', w', hrun, hR'⟩ := appendX_sound (ty := o.type) hR hm (hR.owed hob) (fun hf => by have := evPs_fr (st_tm hf) hps; simp only [List.all_cons, Bool.and_eq_true] at this; exact this.1)
        have hex : (execOp a.eval o).run P w = .ok (.value (v.den e')) w' := by
          simp only [execOp, hop, resolve, hargs, hat', Sem.run_bind, Sem.run_pure, Result.andThen_ok, invoke, builtin, hrun]
        unfold Oper.wp
        rw [hex]
        exact hK _ (List.mem_singleton.2 rfl) _ _ _ (hR'.put (v := .v (.l v)) rfl _)
      · cases h
    · cases h
  · rename_i f args at_ hop
    split at h
    · cases h
    · rename_i ps hps
      split at h
      · rename_i k g hk
        dsimp only at h
        split at h
        · rename_i d hd
          split at h
          · rename_i hfx
            simp only [Option.some.injEq, Prod.mk.injEq] at h
            obtain ⟨rfl, rfl⟩ := h
            obtain ⟨c, hck, hpre⟩ := pre_of hS hk hob hR.ex hR.cd
            have hcg := con_sg hS hk hck
            have hdet : g.det = true := by
              cases hg : g.det
              · rw [hg] at hd; cases hd
              · rfl
            rw [hdet, if_pos rfl] at hd
            obtain ⟨c', hc', hp'⟩ := hR.cd _ (earlier_mem hd)
            rw [hck] at hc'
            cases hc'
            obtain ⟨rb, hrb⟩ := c.flat (by rw [hcg]; exact hdet)
            rw [hcg] at hrb
            obtain ⟨h1, h2⟩ := call_enter hS hR hR.kn0 hop hk hps hck hpre hfx (fun | .returned v, w' => K (a.put o.dst v) w' | .panicked chain, w' => Q (.panic chain) a w' | .outgrown, _ => LetsOut Q) (fun m m' w' hb hpost _ => by
              have hv := c.same (by rw [hcg]; exact hdet) _ _ _ _ _ hpost hp'
              rw [hcg] at hv
              dsimp only
              refine hK _ (List.mem_singleton.2 rfl) _ _ _ ((hR.grow hb).put (v := g.res.inst d) ?_ _)
              rw [hv, hrb]
              exact T2.inst_sat rb)
            unfold Oper.wp
            rw [h2, Oper.upon_enter]
            exact h1
          · cases h
        · split at h
          · rename_i hc
            simp only [Option.some.injEq, Prod.mk.injEq] at h
            obtain ⟨rfl, rfl⟩ := h
            obtain ⟨c, hck, hpre⟩ := pre_of hS hk hob hR.ex hR.cd
            obtain ⟨h1, h2⟩ := call_enter hS hR hR.kn0 hop hk hps hck hpre hc.1 (fun | .returned v, w' => K (a.put o.dst v) w' | .panicked chain, w' => Q (.panic chain) a w' | .outgrown, _ => LetsOut Q) (fun m m' w' hb hpost hmem => by
              dsimp only
              exact hK _ (List.mem_singleton.2 rfl) _ _ _ ((hR.result (evPs_fr (st_tm hc.2.2) hps) hc.2.1 hc.2.2 hck hb hpost g.res hmem).put (v := g.res.inst id) (RZ.inst_sat g.res) _))
            unfold Oper.wp
            rw [h2, Oper.upon_enter]
            exact h1
          · cases h
      · split at h
        · rename_i hfin
          obtain ⟨⟨rs, os'⟩, hr, hp⟩ := opt_map h
          simp only [Prod.mk.injEq] at hp
          obtain ⟨rfl, rfl⟩ := hp
          obtain ⟨⟨fn, hfn, hnm, hbd⟩, hc⟩ := hI G f ps s rs os' hr hS
          have hcall := hc e0 w0 e a ups w hob hR
          have hx := evPs_sound hR.kn0 hps
          have hargs : args.map a.eval = (ps.map (·.den e)).toArray := by apply Array.ext'; rw [Array.toList_map, hx]
          have h2 : (execOp a.eval o).run P w = .ok (.enter f (args.map a.eval)) w := by
            simp only [execOp, hop, Sem.run_bind, resolve, Act.eval, Deferred.ofValue, Sem.run_pure, Result.andThen_ok, invoke]
            rw [show (#[] ++ args.map a.eval) ++ #[] = args.map a.eval by simp]
            exact run_enter (x := Sem.halt (.stuck "")) hfn hnm hbd
          unfold Oper.wp
          rw [h2, Oper.upon_enter, hargs]
          refine hcall.mono fun en w' hen => ?_
          obtain ⟨v, s', hm, e', u, rfl, hsat, hR'⟩ := hen
          exact hK _ (List.mem_map.2 ⟨(v, s'), hm, rfl⟩) _ _ _ (hR'.put hsat _)
        · cases h
  · rename_i t args at_ hop
    split at h
    · rename_i f caps ps hf hps
      split at h
      · rename_i hfin
        obtain ⟨⟨rs, os'⟩, hr, hp⟩ := opt_map h
        simp only [Prod.mk.injEq] at hp
        obtain ⟨rfl, rfl⟩ := hp
        obtain ⟨⟨fn, hfn, hnm, hbd⟩, hc⟩ := hI G f _ s rs os' hr hS
        have hcall := hc e0 w0 e a ups w hob hR
        have hx := evPs_sound hR.kn0 hps
        have hfv := evP_sound hR.kn0 hf
        simp only [PX.den, LX.den] at hfv
        have hargs : args.map a.eval = (ps.map (·.den e)).toArray := by apply Array.ext'; rw [Array.toList_map, hx]
        have hall : ((ps ++ caps.map fun p => PX.l (.p p.1 p.2)).map (·.den e)).toArray = (ps.map (·.den e)).toArray ++ (caps.map fun p => Value.pointer (some ⟨e.adr p.1, p.2, none⟩)).toArray := by
          simp [PX.den, LX.den, Function.comp_def]
        have h2 : (execOp a.eval o).run P w = .ok (.enter f ((ps ++ caps.map fun p => PX.l (.p p.1 p.2)).map (·.den e)).toArray) w := by
          simp only [execOp, hop, Sem.run_bind, resolve, hfv, Deferred.ofValue, Sem.run_pure, Result.andThen_ok, invoke, hargs]
          rw [show (#[] ++ (ps.map (·.den e)).toArray) ++ (caps.map fun p => Value.pointer (some ⟨e.adr p.1, p.2, none⟩)).toArray = ((ps ++ caps.map fun p => PX.l (.p p.1 p.2)).map (·.den e)).toArray by rw [hall]; simp]
          exact run_enter (x := Sem.halt (.stuck "")) hfn hnm hbd
        unfold Oper.wp
        rw [h2, Oper.upon_enter]
        refine hcall.mono fun en w' hen => ?_
        obtain ⟨v, s', hm, e', u, rfl, hsat, hR'⟩ := hen
        exact hK _ (List.mem_map.2 ⟨(v, s'), hm, rfl⟩) _ _ _ (hR'.put hsat _)
      · cases h
    · cases h
  · rename_i hop
    exact pure h
/-- What an operation that calls nothing owes. -/
theorem stepX_owe {inl : Inl} {id : Nat} {o : Oper} {ss : List St} {os : List Ob} (h : stepX P inl G id o s = some (ss, os)) (hn : isCall o.op = false) : ∃ xs, os = owe s xs := by
  have pure : ((evPure P [] s o.op).map fun (v, xs) => ([s.put o.dst v], owe s xs)) = some (ss, os) → ∃ xs, os = owe s xs := fun h => by
    obtain ⟨⟨v, xs⟩, hv, hp⟩ := opt_map h
    simp only [Prod.mk.injEq] at hp
    exact ⟨xs, hp.2.symm⟩
  have nil : ∃ xs, ([] : List Ob) = owe s xs := ⟨[], rfl⟩
  unfold stepX at h
  split at h
  · split at h
    · split at h
      · obtain ⟨x, _, hp⟩ := opt_map h
        simp only [Prod.mk.injEq] at hp
        rw [← hp.2]; exact nil
      · cases h
    · cases h
  · split at h
    · obtain ⟨x, _, hp⟩ := opt_map h
      simp only [Prod.mk.injEq] at hp
      rw [← hp.2]; exact nil
    · cases h
  · split at h
    · split at h
      · split at h
        · split at h
          · simp only [Option.some.injEq, Prod.mk.injEq] at h
            rw [← h.2]; exact nil
          · cases h
        split at h
        · simp only [Option.some.injEq, Prod.mk.injEq] at h
          rw [← h.2]; exact nil
        · split at h
          · split at h
            · simp only [Option.some.injEq, Prod.mk.injEq] at h
              rw [← h.2]; exact nil
            · cases h
          · cases h
        · split at h
          · split at h
            · simp only [Option.some.injEq, Prod.mk.injEq] at h
              rw [← h.2]; exact nil
            · cases h
          · cases h
        · cases h
      · cases h
    · cases h
  · split at h
    · split at h
      · obtain ⟨x, _, hp⟩ := opt_map h
        simp only [Prod.mk.injEq] at hp
        exact ⟨_, hp.2.symm⟩
      · cases h
    · cases h
  · split at h
    · split at h
      · split at h
        · simp only [Option.some.injEq, Prod.mk.injEq] at h
          rw [← h.2]; exact nil
        · cases h
      · cases h
    · cases h
  · split at h
    · split at h
      · split at h
        · simp only [Option.some.injEq, Prod.mk.injEq] at h
          exact ⟨_, h.2.symm⟩
        · cases h
      · cases h
    · cases h
  · split at h
    · split at h
      · split at h
        · simp only [Option.some.injEq, Prod.mk.injEq] at h
          exact ⟨_, h.2.symm⟩
        · cases h
      · cases h
    · cases h
  · split at h
    · split at h
      · split at h
        · simp only [Option.some.injEq, Prod.mk.injEq] at h
          exact ⟨_, h.2.symm⟩
        · cases h
      · cases h
    · cases h
  · split at h
    · obtain ⟨x, _, hp⟩ := opt_map h
      simp only [Prod.mk.injEq] at hp
      exact ⟨_, hp.2.symm⟩
    · cases h
  · split at h
    · obtain ⟨x, _, hp⟩ := opt_map h
      simp only [Prod.mk.injEq] at hp
      exact ⟨_, hp.2.symm⟩
    · cases h
  · split at h
    · split at h
      · obtain ⟨x, _, hp⟩ := opt_map h
        simp only [Prod.mk.injEq] at hp
        exact ⟨_, hp.2.symm⟩
      · cases h
    · cases h
  · rename_i hop
    rw [hop] at hn
    simp [isCall] at hn
  · rename_i hop
    rw [hop] at hn
    simp [isCall] at hn
  · exact pure h
theorem Rel.plus (hR : Rel C I G e0 w0 e s a ups w) {xs : List SX} (hob : ∀ ob ∈ owe s xs, ob.ok C I G.n0 e0) : Rel C I G e0 w0 e (s.plus ((owe s xs).filterMap clX)) a ups w := by
  refine hR.conds fun c hc => ?_
  obtain ⟨x, hx, rfl⟩ := List.mem_map.1 hc
  obtain ⟨ob, hob', hcl⟩ := List.mem_filterMap.1 hx
  have := hob ob hob'
  unfold owe at hob'
  obtain ⟨y, _, rfl⟩ := List.mem_map.1 hob'
  simp only [clX, Option.some.injEq] at hcl
  subst hcl
  exact this e hR.ex hR.cd
/-- An operation; what is owed is known from then on. -/
theorem stepY_sound (hS : C.map (·.sg) = G.sg) {inl : Inl} (hI : InlOk P C I inl) {id : Nat} {o : Oper} {ss : List St} {os : List Ob} (h : stepY P inl G id o s = some (ss, os)) (hob : ∀ ob ∈ os, ob.ok C I G.n0 e0)
    (hR : Rel C I G e0 w0 e s a ups w) {K : Act → World → Prop} {Q : Exit → Act → World → Prop} (hK : ∀ s' ∈ ss, ∀ e' a' w', Rel C I G e0 w0 e' s' a' ups w' → K a' w') : o.wp P a w K Q := by
  unfold stepY at h
  split at h
  · cases h
  · rename_i ss1 os1 h1
    split at h
    · simp only [Option.some.injEq, Prod.mk.injEq] at h
      obtain ⟨rfl, rfl⟩ := h
      exact stepX_sound hS hI h1 hob hR hK
    · rename_i hn
      split at h
      · simp only [Option.some.injEq, Prod.mk.injEq] at h
        obtain ⟨rfl, rfl⟩ := h
        exact stepX_sound hS hI h1 hob hR hK
      · obtain ⟨⟨ss2, os2⟩, h2, hp⟩ := opt_map h
        simp only [Prod.mk.injEq] at hp
        obtain ⟨rfl, rfl⟩ := hp
        obtain ⟨xs, rfl⟩ := stepX_owe h1 (by simpa using hn)
        exact stepX_sound hS hI h2 (fun ob hm => hob ob (List.mem_append_right _ hm)) (hR.plus fun ob hm => hob ob (List.mem_append_left _ hm)) hK
/-- One operation as if. -/
theorem specX_sound (hS : C.map (·.sg) = G.sg) {id : Nat} {o : Oper} {y : SX} {s' : St} {os : List Ob} (h : specX P G id o y s = some (s', os)) (hob : ∀ ob ∈ os, ob.ok C I G.n0 e0)
    (hR : Rel C I G e0 w0 e s a ups w) : ((y.den e).2 = true → ∀ (K : Act → World → Prop) (Q : Exit → Act → World → Prop), (∀ e' a' w', Rel C I G e0 w0 e' s' a' ups w' → K a' w') → o.wp P a w K Q) ∧
      ((y.den e).2 = false → ∃ e', Rel C I G e0 w0 e' s' (a.put o.dst undef) ups w) := by
  have yes : ∀ {x : PX} {e' : Env}, (y.den e').2 = true → (VX.gd y x).sat e' (x.den e') := fun h => ⟨fun _ => rfl, (fun h' => by rw [h] at h'; cases h')⟩
  have no : ∀ {x : PX} {e' : Env}, (y.den e').2 = false → (VX.gd y x).sat e' undef := fun h => ⟨(fun h' => by rw [h] at h'; cases h'), fun _ => rfl⟩
  have hyc : (y.den e).2 = true → ∀ x ∈ comps y, (x.den e).2 = true := fun hy => comps_true.2 hy
  have kn : (y.den e).2 = true → Kn C I e s (comps y) a := fun hy => hR.kn (hyc hy)
  have hcd : (y.den e).2 = true → ∀ c ∈ (comps y).map (Cd.c · true) ++ s.cd, c.holds C I e := fun hy c hc => by
    rcases List.mem_append.1 hc with hc | hc
    · obtain ⟨z, hz, rfl⟩ := List.mem_map.1 hc
      exact hyc hy z hz
    · exact hR.cd c hc
  have pure : ∀ x xs, evPure P (comps y) s o.op = some (.v x, xs) → s' = s.put o.dst (.gd y x) → os = oweH s (comps y) xs → ((y.den e).2 = true → ∀ (K : Act → World → Prop) (Q : Exit → Act → World → Prop), (∀ e' a' w', Rel C I G e0 w0 e' s' a' ups w' → K a' w') → o.wp P a w K Q) ∧
      ((y.den e).2 = false → ∃ e', Rel C I G e0 w0 e' s' (a.put o.dst undef) ups w) := fun x xs hx hs ho => by
    subst hs
    subst ho
    refine ⟨fun hy K Q hK => ?_, fun hy => ⟨e, hR.put (no hy) _⟩⟩
    obtain ⟨u, hu, hr⟩ := evPure_sound (kn hy) hR.bs hx (hR.owedH (hyc hy) hob)
    unfold Oper.wp
    rw [hr]
    simp only [VX.sat] at hu
    subst hu
    exact hK _ _ _ (hR.put (yes hy) _)
  unfold specX at h
  split at h
  · rename_i t x hop
    split at h
    · rename_i p hp0
      split at h
      · rename_i v xs hv
        simp only [Option.some.injEq, Prod.mk.injEq] at h
        obtain ⟨rfl, rfl⟩ := h
        refine ⟨fun hy K Q hK => ?_, fun hy => ⟨e, hR.put (no hy) _⟩⟩
        obtain ⟨ad, had, hr⟩ := loadX_sound hR hv (hR.owedH (hyc hy) hob)
        have hx := evP_sound (kn hy) hp0
        simp only [PX.den, had] at hx
        unfold Oper.wp
        have : (execOp a.eval o).run P w = .ok (.value (v.den e)) w := by
          simp only [execOp, hop, hx]
          simp [Instr.loadAt, Instr.sureAddr, hr]
        rw [this]
        exact hK _ _ _ (hR.put (yes hy) _)
      · cases h
    · cases h
  · rename_i f args at_ hop
    split at h
    · rename_i k g ps hk hps
      dsimp only at h
      split at h
      · rename_i hc
        split at h
        · rename_i d hd
          split at h
          · rename_i x hx
            simp only [Option.some.injEq, Prod.mk.injEq] at h
            obtain ⟨rfl, rfl⟩ := h
            refine ⟨fun hy K Q hK => ?_, fun hy => ⟨e, hR.put (no hy) _⟩⟩
            obtain ⟨c, hck, hpre⟩ := pre_of hS hk hob hR.ex (hcd hy)
            have hcg := con_sg hS hk hck
            obtain ⟨c', hc', hp'⟩ := hR.cd _ (earlier_mem hd)
            rw [hck] at hc'
            cases hc'
            obtain ⟨rb, hrb⟩ := c.flat (by rw [hcg]; exact hc.1)
            rw [hcg] at hrb
            obtain ⟨h1, h2⟩ := call_enter hS hR (kn hy) hop hk hps hck hpre hc.2 (fun | .returned v, w' => K (a.put o.dst v) w' | .panicked chain, w' => Q (.panic chain) a w' | .outgrown, _ => LetsOut Q) (fun m m' w' hb hpost _ => by
              have hv := c.same (by rw [hcg]; exact hc.1) _ _ _ _ _ hpost hp'
              rw [hcg, hrb] at hv
              have hi := T2.inst_sat (e := e) (d := d) rb
              rw [hrb] at hx
              simp only [RZ.inst] at hx
              rw [hx] at hi
              simp only [VX.sat] at hi
              dsimp only
              rw [hrb, hv]
              show K (a.put o.dst (RS.val (e.int d) (e.bool d) rb)) w'
              rw [hi]
              exact hK _ _ _ ((hR.grow hb).put (yes hy) _))
            unfold Oper.wp
            rw [h2, Oper.upon_enter]
            exact h1
          · cases h
        · split at h
          · rename_i hid
            split at h
            · rename_i x hx
              simp only [Option.some.injEq, Prod.mk.injEq] at h
              obtain ⟨rfl, rfl⟩ := h
              have hyf := hid.2.2
              have hpf := evPs_fr (st_tm hid.2.1) hps
              have hyd : ∀ m m', (y.den ((e.set id m).set (id + 1) m')) = y.den e := fun m m' => (SX.den_off (Env.off_trans (Env.off_set e id m) (Env.off_set' _ id m')) y hyf).symm
              refine ⟨fun hy K Q hK => ?_, fun hy => ?_⟩
              · obtain ⟨c, hck, hpre⟩ := pre_of hS hk hob hR.ex (hcd hy)
                have hcg := con_sg hS hk hck
                obtain ⟨rb, hrb⟩ := c.flat (by rw [hcg]; exact hc.1)
                rw [hcg] at hrb
                obtain ⟨h1, h2⟩ := call_enter hS hR (kn hy) hop hk hps hck hpre hc.2 (fun | .returned v, w' => K (a.put o.dst v) w' | .panicked chain, w' => Q (.panic chain) a w' | .outgrown, _ => LetsOut Q) (fun m m' w' hb hpost hmem => by
                  dsimp only
                  have hi := RZ.inst_sat (e := e) (id := id) (m := m) (m' := m') g.res
                  rw [hx] at hi
                  simp only [VX.sat] at hi
                  rw [hi]
                  have hres := hR.result hpf hid.1 hid.2.1 hck hb hpost (.b rb) trivial
                  exact hK _ _ _ (hres.put (yes (by rw [hyd]; exact hy)) _))
                unfold Oper.wp
                rw [h2, Oper.upon_enter]
                exact h1
              · obtain ⟨_, _, hgk⟩ := findSg_spec hk
                rw [Nat.sub_zero, ← hS, List.getElem?_map] at hgk
                obtain ⟨c, hck, hcg⟩ := opt_map hgk
                obtain ⟨m, m', hpost⟩ := c.total (by rw [hcg]; exact hc.1) ((adsX s ps).map (datP e))
                have hoff : Env.off (nid id) e ((e.set id m).set (id + 1) m') := Env.off_trans (Env.off_set e id m) (Env.off_set' _ id m')
                have n0 : ((e.set id m).set (id + 1) m').nm id = m := by rw [Env.set_ne _ _ (by omega), Env.set_at]
                have n1 : ((e.set id m).set (id + 1) m').nm (id + 1) = m' := Env.set_at _ _ _
                refine ⟨_, ((hR.off hoff hid.2.1 (lt_nid hid.1)).cond1 (x := .f id k (adsX s ps)) ⟨c, hck, ?_⟩).put (no (by rw [hyd]; exact hy)) _⟩
                rw [ads_off hid.2.1 hpf, n0, n1]
                exact hpost
            · cases h
          · cases h
      · cases h
    · cases h
  · rename_i hop
    split at h
    · rename_i x xs hx
      simp only [Option.some.injEq, Prod.mk.injEq] at h
      obtain ⟨rfl, rfl⟩ := h
      exact pure x xs hx rfl rfl
    · cases h
end
end Go.Proofs.Ytjhdjclcfmcilaa.T2
