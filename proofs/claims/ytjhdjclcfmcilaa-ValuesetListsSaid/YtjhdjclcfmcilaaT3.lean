/-
  The second machine on terms is right: values, tests. No program.
-/
import Derived.Test.YtjhdjclcfmcilaaT2
import Derived.Laws.StructEq
namespace Go.Proofs.Ytjhdjclcfmcilaa.T2
open Go.ChangeShapes Go.WideShapes Go.ChangeAt Go.RowKit
set_option linter.unusedVariables false

def Env.cut (e : Env) (d : Nat) : Env := ⟨fun x => if x ≤ d then e.nm x else Nm.zero⟩
theorem Env.cut_off {ok : Nat → Bool} {n : Nat} {e e' : Env} (h : Env.off ok e e') (hn : (List.range (n + 1)).all ok = true) : e.cut n = e'.cut n := by
  have hx : ∀ x, x ≤ n → ok x = true := fun x hx => List.all_eq_true.1 hn x (List.mem_range.2 (by omega))
  unfold Env.cut
  congr 1
  funext x
  by_cases hxn : x ≤ n
  · simp only [hxn, if_true]; exact h x (hx x hxn)
  · simp only [hxn, if_false]
def leafI (e : Env) : LX → Int
  | .n _ x => (x.den e).1
  | _ => 0
def leafB (e : Env) : LX → Bool
  | .t x => (x.den e).2
  | _ => false
/-- Contents with cells in place of those from p on. -/
def updC {α : Type} (f : Nat → α) (p : Nat) (xs : List α) : Nat → α := fun j => if p ≤ j then (xs[j - p]?).getD (f j) else f j
theorem updC_in {α : Type} {f : Nat → α} {p j : Nat} {xs : List α} {x : α} (h : xs[j]? = some x) : updC f p xs (p + j) = x := by
  unfold updC
  rw [if_pos (by omega), show p + j - p = j by omega, h]; rfl
theorem updC_out {α : Type} {f : Nat → α} {p j : Nat} {xs : List α} (h : j < p ∨ p + xs.length ≤ j) : updC f p xs j = f j := by
  unfold updC
  split
  · rw [List.getElem?_eq_none (by omega)]; rfl
  · rfl
section
variable {P : Program} (C : List (Kon P)) (I : List (Nat → Env → Prop))
def Cd.holds (e : Env) : Cd → Prop
  | .c x v => (x.den e).2 = v
  | .f d k args => ∃ c, C[k]? = some c ∧ c.post (args.map (datP e)) (e.nm d) (e.nm (d + 1))
  | .g d m k => ∃ i, I[k]? = some i ∧ i d (e.cut (d + m))
  | .z d => e.int d = (fun _ => 0) ∧ e.bool d = fun _ => false
  | .u d src x sz o cs => e.int d = updC (match src with | some y => e.int y | none => fun _ => 0) ((x.den e).1.toNat * sz + o) (cs.map (leafI e)) ∧ e.bool d = updC (match src with | some y => e.bool y | none => fun _ => false) ((x.den e).1.toNat * sz + o) (cs.map (leafB e))
  | .w d d' x v => e.int d = updC (e.int d') (x.den e).1.toNat [leafI e v] ∧ e.bool d = updC (e.bool d') (x.den e).1.toNat [true]
  | .a d d' y sz cs => e.int d = updC ((e.nm d').i2 (y.den e).1.toNat) ((e.int d' (y.den e).1.toNat).toNat * sz) (cs.map (leafI e)) ∧ e.bool d = updC ((e.nm d').b2 (y.den e).1.toNat) ((e.int d' (y.den e).1.toNat).toNat * sz) (cs.map (leafB e))
  | .nu d d' x r rc n => e.int d = updC (e.int d') (x.den e).1.toNat [(n.den e).1] ∧ (e.nm d).i2 = updC (e.nm d').i2 (x.den e).1.toNat [e.int rc] ∧ (e.nm d).b2 = updC (e.nm d').b2 (x.den e).1.toNat [e.bool rc]
theorem leafI_off {ok : Nat → Bool} {e e' : Env} (h : Env.off ok e e') {x : LX} (hf : x.fr ok = true) : leafI e x = leafI e' x := by
  cases x <;> first | rfl | (simp only [leafI]; rw [SX.den_off h _ (by simpa [LX.fr] using hf)])
theorem leafB_off {ok : Nat → Bool} {e e' : Env} (h : Env.off ok e e') {x : LX} (hf : x.fr ok = true) : leafB e x = leafB e' x := by
  cases x <;> first | rfl | (simp only [leafB]; rw [SX.den_off h _ (by simpa [LX.fr] using hf)])
theorem leavesI_off {ok : Nat → Bool} {e e' : Env} (h : Env.off ok e e') {xs : List LX} (hf : xs.all (·.fr ok) = true) : xs.map (leafI e) = xs.map (leafI e') :=
  List.map_congr_left fun x hx => leafI_off h (List.all_eq_true.1 hf x hx)
theorem leavesB_off {ok : Nat → Bool} {e e' : Env} (h : Env.off ok e e') {xs : List LX} (hf : xs.all (·.fr ok) = true) : xs.map (leafB e) = xs.map (leafB e') :=
  List.map_congr_left fun x hx => leafB_off h (List.all_eq_true.1 hf x hx)
theorem datP_off {ok : Nat → Bool} {e e' : Env} (h : Env.off ok e e') {args : List (PX × Nat)} (hf : (args.all fun p => p.1.fr ok && ok p.2) = true) : args.map (datP e) = args.map (datP e') :=
  List.map_congr_left fun x hx => by
    have := List.all_eq_true.1 hf x hx
    simp only [Bool.and_eq_true] at this
    exact PX.dat_off h x.1 x.2 this.1 this.2
theorem Cd.holds_off {ok : Nat → Bool} {e e' : Env} (h : Env.off ok e e') (x : Cd) (hf : x.fr ok = true) (hx : x.holds C I e) : x.holds C I e' := by
  cases x with
  | c x v => simp only [Cd.holds] at hx ⊢; rw [← SX.den_off h x hf]; exact hx
  | f y k args =>
    simp only [Cd.fr, Bool.and_eq_true] at hf
    obtain ⟨c, hc, hp⟩ := hx
    refine ⟨c, hc, ?_⟩
    rw [← h y hf.1.1, ← h (y + 1) hf.1.2, ← datP_off h hf.2]
    exact hp
  | g y m k =>
    simp only [Cd.fr] at hf
    obtain ⟨i, hi, hp⟩ := hx
    exact ⟨i, hi, by rw [← Env.cut_off h hf]; exact hp⟩
  | z d => simp only [Cd.fr] at hf; simp only [Cd.holds, Env.int, Env.bool] at hx ⊢; rw [← h d hf]; exact hx
  | u d src x sz o cs =>
    simp only [Cd.fr, Bool.and_eq_true] at hf
    obtain ⟨⟨⟨h1, h2⟩, h3⟩, h4⟩ := hf
    simp only [Cd.holds, Env.int, Env.bool] at hx ⊢
    rw [← h d h1, ← SX.den_off h x h3, ← leavesI_off h h4, ← leavesB_off h h4]
    cases src with
    | none => exact hx
    | some y => dsimp only at h2 hx ⊢; rw [← h y h2]; exact hx
  | w d d' x v =>
    simp only [Cd.fr, Bool.and_eq_true] at hf
    obtain ⟨⟨⟨h1, h2⟩, h3⟩, h4⟩ := hf
    simp only [Cd.holds, Env.int, Env.bool] at hx ⊢
    rw [← h d h1, ← h d' h2, ← SX.den_off h x h3, ← leafI_off h h4]; exact hx
  | a d d' y sz cs =>
    simp only [Cd.fr, Bool.and_eq_true] at hf
    obtain ⟨⟨⟨h1, h2⟩, h3⟩, h4⟩ := hf
    simp only [Cd.holds, Env.int, Env.bool] at hx ⊢
    rw [← h d h1, ← h d' h2, ← SX.den_off h y h3, ← leavesI_off h h4, ← leavesB_off h h4]; exact hx
  | nu d d' x r rc n =>
    simp only [Cd.fr, Bool.and_eq_true] at hf
    obtain ⟨⟨⟨⟨⟨h1, h2⟩, h3⟩, h4⟩, h5⟩, h6⟩ := hf
    simp only [Cd.holds, Env.int, Env.bool] at hx ⊢
    rw [← h d h1, ← h d' h2, ← SX.den_off h x h3, ← SX.den_off h n h6, ← h rc h5]; exact hx
end
def Sats (e : Env) : List VX → List Value → Prop
  | [], [] => True
  | x :: xs, v :: vs => x.sat e v ∧ Sats e xs vs
  | _, _ => False
section
variable {e : Env}
theorem Sats.get : ∀ {xs : List VX} {vs : List Value} {t : Nat} {x : VX}, Sats e xs vs → xs[t]? = some x → ∃ v, vs[t]? = some v ∧ x.sat e v
  | [], _, _, _, _, h => by simp at h
  | x :: xs, [], _, _, h, _ => h.elim
  | x :: xs, v :: vs, 0, y, h, hx => by simp at hx; subst hx; exact ⟨v, rfl, h.1⟩
  | x :: xs, v :: vs, t + 1, y, h, hx => by simp only [List.getElem?_cons_succ] at hx ⊢; exact Sats.get h.2 hx
theorem Sats.set : ∀ {xs : List VX} {vs : List Value} (t : Nat) {x : VX} {v : Value}, Sats e xs vs → x.sat e v → Sats e (xs.set t x) (vs.set t v)
  | [], [], _, _, _, _, _ => trivial
  | [], _ :: _, _, _, _, h, _ => h.elim
  | _ :: _, [], _, _, _, h, _ => h.elim
  | _ :: _, _ :: _, 0, _, _, h, hx => ⟨hx, h.2⟩
  | _ :: _, _ :: _, t + 1, _, _, h, hx => ⟨h.1, Sats.set t h.2 hx⟩
theorem Sats.off {ok : Nat → Bool} {e' : Env} (h : Env.off ok e e') : ∀ {xs : List VX} {vs : List Value}, xs.all (·.fr ok) = true → Sats e xs vs → Sats e' xs vs
  | [], [], _, _ => trivial
  | [], _ :: _, _, hs => hs.elim
  | _ :: _, [], _, hs => hs.elim
  | x :: xs, v :: vs, hf, hs => by
    simp only [List.all_cons, Bool.and_eq_true] at hf
    exact ⟨VX.sat_off h x hf.1 v hs.1, Sats.off h hf.2 hs.2⟩
end

/-! ### Folding. -/
section
variable (e : Env)
theorem SX.mkO_den (p : BinOp) (k : IntKind) (x y : SX) : ((SX.mkO p k x y).den e).1 = arI p k (x.den e).1 (y.den e).1 := by
  unfold SX.mkO; split <;> rfl
theorem SX.mkC_den (p : BinOp) (x y : SX) : ((SX.mkC p x y).den e).2 = cmI p (x.den e).1 (y.den e).1 := by
  unfold SX.mkC; split
  · rfl
  · split
    · rename_i h; obtain ⟨rfl, rfl⟩ := h; simp [SX.den, cmI]
    · rfl
theorem SX.mkNo_den (x : SX) : ((SX.mkNo x).den e).2 = !(x.den e).2 := by
  unfold SX.mkNo; split <;> simp [SX.den]
theorem SX.mkCv_den (k : IntKind) (x : SX) : ((SX.mkCv k x).den e).1 = k.wrap (x.den e).1 := by
  unfold SX.mkCv; split <;> rfl
theorem SX.mkEq_den (x y : SX) : ((SX.mkEq x y).den e).2 = ((x.den e).2 == (y.den e).2) := by
  unfold SX.mkEq; split
  · rfl
  · split
    · rename_i h; subst h; simp [SX.den]
    · rfl
theorem SX.mkAn_den (x y : SX) : ((SX.mkAn x y).den e).2 = ((x.den e).2 && (y.den e).2) := by
  unfold SX.mkAn; split <;> simp [SX.den]
theorem SX.mkIt_den (g x y : SX) : (SX.mkIt g x y).den e = if (g.den e).2 then x.den e else y.den e := by
  unfold SX.mkIt; split
  · simp [SX.den]
  · simp [SX.den]
  · split
    · rename_i h; subst h; simp
    · rfl
end

theorem SX.mkSel_den (e : Env) (g x y : SX) : ((SX.mkSel g x y).den e).2 = if (g.den e).2 then (x.den e).2 else (y.den e).2 := by
  unfold SX.mkSel
  split
  · rw [SX.mkAn_den]; cases (g.den e).2 <;> simp [SX.den]
  · rw [SX.mkNo_den, SX.mkAn_den, SX.mkNo_den, SX.mkNo_den]; cases (g.den e).2 <;> simp [SX.den]
  · rw [SX.mkIt_den]; split <;> rfl

/-! ### Tests. -/
theorem imp_sound {e : Env} {y x : SX} {v r : Bool} (h : imp y v x = some r) (hy : (y.den e).2 = v) : (x.den e).2 = r := by
  unfold imp at h
  split at h
  · rename_i hx; subst hx; simp only [Option.some.injEq] at h; rw [hy, h]
  · split at h
    · split at h
      · rename_i hab
        subst hab
        simp only [SX.den] at hy ⊢
        exact askI_sound h hy
      · cases h
    · cases h
section
variable {P : Program} {C : List (Kon P)} {I : List (Nat → Env → Prop)} {e : Env}
theorem askL_sound : ∀ {cs : List Cd} {x : SX} {r : Bool}, (∀ c ∈ cs, c.holds C I e) → askL cs x = some r → (x.den e).2 = r
  | [], _, _, _, h => by cases h
  | .c y v :: cs, x, r, hc, h => by
    unfold askL at h
    split at h
    · rename_i r' hr
      simp only [Option.some.injEq] at h
      subst h
      exact imp_sound hr (hc _ (List.mem_cons_self ..))
    · exact askL_sound (fun c hm => hc c (List.mem_cons_of_mem _ hm)) h
  | .f _ _ _ :: cs, x, r, hc, h => by
    unfold askL at h
    exact askL_sound (fun c hm => hc c (List.mem_cons_of_mem _ hm)) h
  | .g _ _ _ :: cs, x, r, hc, h => by
    unfold askL at h
    exact askL_sound (fun c hm => hc c (List.mem_cons_of_mem _ hm)) h
  | .z _ :: cs, x, r, hc, h => by
    unfold askL at h
    exact askL_sound (fun c hm => hc c (List.mem_cons_of_mem _ hm)) h
  | .u _ _ _ _ _ _ :: cs, x, r, hc, h => by
    unfold askL at h
    exact askL_sound (fun c hm => hc c (List.mem_cons_of_mem _ hm)) h
  | .w _ _ _ _ :: cs, x, r, hc, h => by
    unfold askL at h
    exact askL_sound (fun c hm => hc c (List.mem_cons_of_mem _ hm)) h
  | .a _ _ _ _ _ :: cs, x, r, hc, h => by
    unfold askL at h
    exact askL_sound (fun c hm => hc c (List.mem_cons_of_mem _ hm)) h
  | .nu _ _ _ _ _ _ :: cs, x, r, hc, h => by
    unfold askL at h
    exact askL_sound (fun c hm => hc c (List.mem_cons_of_mem _ hm)) h
theorem ask_sound {cs : List Cd} {x : SX} {r : Bool} (hc : ∀ c ∈ cs, c.holds C I e) (h : ask cs x = some r) : (x.den e).2 = r := by
  unfold ask at h
  split at h
  · simp only [Option.some.injEq] at h; subst h; rfl
  · rename_i y
    cases hy : askL cs y with
    | none => rw [hy] at h; cases h
    | some v =>
      rw [hy] at h
      simp only [Option.map_some, Option.some.injEq] at h
      have := askL_sound hc hy
      simp only [SX.den, this, h]
  · exact askL_sound hc h
theorem addCd_holds : ∀ (x : SX) (v : Bool), (x.den e).2 = v → ∀ c ∈ addCd x v, c.holds C I e
  | .no y, v, h, c, hm => by
    unfold addCd at hm
    exact addCd_holds y (!v) (by simp only [SX.den] at h; rw [← h]; simp) c hm
  | .an x y, true, h, c, hm => by
    unfold addCd at hm
    simp only [SX.den, Bool.and_eq_true] at h
    rcases List.mem_append.1 hm with hm | hm
    · exact addCd_holds x true h.1 c hm
    · exact addCd_holds y true h.2 c hm
  | .an x y, false, h, c, hm => by unfold addCd at hm; simp only [List.mem_singleton] at hm; subst hm; exact h
  | .i _, v, h, c, hm => by unfold addCd at hm; simp only [List.mem_singleton] at hm; subst hm; exact h
  | .b _, v, h, c, hm => by unfold addCd at hm; simp only [List.mem_singleton] at hm; subst hm; exact h
  | .v _ _, v, h, c, hm => by unfold addCd at hm; simp only [List.mem_singleton] at hm; subst hm; exact h
  | .r _ _ _ _, v, h, c, hm => by unfold addCd at hm; simp only [List.mem_singleton] at hm; subst hm; exact h
  | .r2 _ _ _ _ _, v, h, c, hm => by unfold addCd at hm; simp only [List.mem_singleton] at hm; subst hm; exact h
  | .o _ _ _ _, v, h, c, hm => by unfold addCd at hm; simp only [List.mem_singleton] at hm; subst hm; exact h
  | .c _ _ _, v, h, c, hm => by unfold addCd at hm; simp only [List.mem_singleton] at hm; subst hm; exact h
  | .eq _ _, v, h, c, hm => by unfold addCd at hm; simp only [List.mem_singleton] at hm; subst hm; exact h
  | .it _ _ _, v, h, c, hm => by unfold addCd at hm; simp only [List.mem_singleton] at hm; subst hm; exact h
  | .cv _ _, v, h, c, hm => by unfold addCd at hm; simp only [List.mem_singleton] at hm; subst hm; exact h
  | .mx _ _, v, h, c, hm => by unfold addCd at hm; simp only [List.mem_singleton] at hm; subst hm; exact h
  | .mn _ _, v, h, c, hm => by unfold addCd at hm; simp only [List.mem_singleton] at hm; subst hm; exact h
end

/-! ### Values. -/
theorem ofL_den {e : Env} {v : Value} {x : LX} (h : ofL v = some x) : x.den e = v := by
  unfold ofL at h
  split at h <;> simp only [Option.some.injEq, reduceCtorEq] at h <;> subst h <;> rfl
theorem ofLs_den {e : Env} : ∀ {vs : List Value} {xs : List LX}, ofLs vs = some xs → xs.map (·.den e) = vs
  | [], xs, h => by simp only [ofLs, Option.some.injEq] at h; subst h; rfl
  | v :: vs, xs, h => by
    unfold ofLs at h
    split at h
    · rename_i x xs' h1 h2
      simp only [Option.some.injEq] at h
      subst h
      rw [List.map_cons, ofL_den h1, ofLs_den h2]
    · cases h
theorem ofV_den {e : Env} {v : Value} {x : PX} (h : ofV v = some x) : x.den e = v := by
  unfold ofV at h
  split at h
  · rename_i cs
    cases hx : ofLs cs.toList with
    | none => rw [hx] at h; cases h
    | some xs =>
      rw [hx] at h
      simp only [Option.map_some, Option.some.injEq] at h
      subst h
      simp only [PX.den, ofLs_den hx]
  · cases hx : ofL v with
    | none => rw [hx] at h; cases h
    | some x' =>
      rw [hx] at h
      simp only [Option.map_some, Option.some.injEq] at h
      subst h
      exact ofL_den hx
theorem PX.cells_den (e : Env) (p : PX) : (p.den e).cells = (p.cells.map (·.den e)).toArray := by
  cases p with
  | l x => cases x <;> rfl
  | a xs => rfl
theorem LX.cells_one (e : Env) (x : LX) : (x.den e).oneCell' = true := by cases x <;> rfl
theorem comps_true {e : Env} : ∀ {c : SX}, (∀ y ∈ comps c, (y.den e).2 = true) ↔ (c.den e).2 = true
  | .an x y => by
    have h1 := comps_true (e := e) (c := x)
    have h2 := comps_true (e := e) (c := y)
    simp only [comps, List.mem_append, SX.den, Bool.and_eq_true, ← h1, ← h2]
    constructor
    · intro h; exact ⟨fun z hz => h z (.inl hz), fun z hz => h z (.inr hz)⟩
    · intro h z hz; exact hz.elim (h.1 z) (h.2 z)
  | .b true => by simp [comps, SX.den]
  | .b false => by simp [comps]
  | .i _ => by simp [comps]
  | .v _ _ => by simp [comps]
  | .r _ _ _ _ => by simp [comps]
  | .r2 _ _ _ _ _ => by simp [comps]
  | .o _ _ _ _ => by simp [comps]
  | .c _ _ _ => by simp [comps]
  | .no _ => by simp [comps]
  | .eq _ _ => by simp [comps]
  | .it _ _ _ => by simp [comps]
  | .cv _ _ => by simp [comps]
  | .mx _ _ => by simp [comps]
  | .mn _ _ => by simp [comps]
section
variable {P : Program} (C : List (Kon P)) (I : List (Nat → Env → Prop))
/-- What an operation may lean on. -/
structure Kn (e : Env) (s : St) (hs : List SX) (a : Act) : Prop where
  tm : Sats e s.tm a.tmps.toList
  cd : ∀ c ∈ s.cd, c.holds C I e
  hs : ∀ h ∈ hs, (h.den e).2 = true
end
section
variable {P : Program} {C : List (Kon P)} {I : List (Nat → Env → Prop)} {e : Env} {s : St} {hs : List SX} {a : Act}
theorem Kn.more (hk : Kn C I e s hs a) {c : SX} (hc : (c.den e).2 = true) : Kn C I e s (comps c ++ hs) a :=
  ⟨hk.tm, hk.cd, fun h hm => by
    rcases List.mem_append.1 hm with hm | hm
    · exact comps_true.2 hc h hm
    · exact hk.hs h hm⟩
theorem known_sound (hk : Kn C I e s hs a) {c : SX} (h : known s.cd hs c = true) : (c.den e).2 = true := by
  refine comps_true.1 fun y hy => ?_
  have := List.all_eq_true.1 h y hy
  simp only [Bool.or_eq_true, decide_eq_true_eq, beq_iff_eq] at this
  rcases this with h1 | h1
  · exact hk.hs y h1
  · exact ask_sound hk.cd h1
theorem evV_sound (hk : Kn C I e s hs a) {x : Operand} {v : VX} (h : evV hs s x = some v) : v.sat e (a.eval x) := by
  unfold evV at h
  split at h
  · rename_i t
    have val : ∀ z, s.tm[t]? = some z → z.sat e (a.eval (.tmp t)) := fun z hz => by
      obtain ⟨u, hu, hs⟩ := hk.tm.get hz
      have : a.eval (.tmp t) = u := by
        simp only [Act.eval, Array.getD_eq_getD_getElem?]
        rw [← Array.getElem?_toList, hu]; rfl
      rw [this]; exact hs
    split at h
    · cases h
    · rename_i c z hz
      split at h
      · rename_i hkn
        simp only [Option.some.injEq] at h
        subst h
        exact (val _ hz).1 (known_sound hk hkn)
      · cases h
    · exact val _ h
  · rename_i u
    cases hx : ofV u with
    | none => rw [hx] at h; cases h
    | some x' =>
      rw [hx] at h
      simp only [Option.map_some, Option.some.injEq] at h
      subst h
      exact (ofV_den hx).symm
  · cases h
theorem evP_sound (hk : Kn C I e s hs a) {x : Operand} {p : PX} (h : evP hs s x = some p) : a.eval x = p.den e := by
  unfold evP at h
  split at h
  · rename_i p' hv
    simp only [Option.some.injEq] at h
    subst h
    exact evV_sound hk hv
  · cases h
theorem evPs_sound (hk : Kn C I e s hs a) : ∀ {xs : List Operand} {ps : List PX}, evPs hs s xs = some ps → xs.map a.eval = ps.map (·.den e)
  | [], ps, h => by simp only [evPs, Option.some.injEq] at h; subst h; rfl
  | x :: xs, ps, h => by
    unfold evPs at h
    split at h
    · rename_i p ps' h1 h2
      simp only [Option.some.injEq] at h
      subst h
      rw [List.map_cons, List.map_cons, evP_sound hk h1, evPs_sound hk h2]
    · cases h
end
end Go.Proofs.Ytjhdjclcfmcilaa.T2
