/-
  The machine on terms is right: regions, code, functions. No program.
-/
import Derived.Test.YtjhdjclcfmcilaaSx7
import Derived.LoopN
namespace Go.Proofs.Ytjhdjclcfmcilaa
open Go.ChangeShapes Go.WideShapes Go.ChangeAt Go.RowKit
set_option linter.unusedVariables false

theorem mem_dedup {α : Type} [DecidableEq α] : ∀ {l : List α} {x : α}, x ∈ l → x ∈ dedup l
  | y :: l, x, h => by
    unfold dedup
    split
    · rename_i hy
      rcases List.mem_cons.1 h with rfl | h
      · exact mem_dedup hy
      · exact mem_dedup h
    · rcases List.mem_cons.1 h with rfl | h
      · exact List.mem_cons_self ..
      · exact List.mem_cons_of_mem _ (mem_dedup h)
theorem bqL_eq {α : Type} {f : α → α → Bool} (hf : ∀ x y, f x y = true → x = y) : ∀ {xs ys : List α}, bqL f xs ys = true → xs = ys
  | [], [], _ => rfl
  | x :: xs, y :: ys, h => by
    simp only [bqL, Bool.and_eq_true] at h
    rw [hf x y h.1, bqL_eq hf h.2]
  | [], _ :: _, h => by cases h
  | _ :: _, [], h => by cases h
theorem SX.bq_eq : ∀ (x y : SX), x.bq y = true → x = y := by
  intro x
  induction x <;> intro y h <;> cases y <;> first
    | (unfold SX.bq at h; exact absurd h Bool.false_ne_true)
    | (simp only [SX.bq, Bool.and_eq_true, beq_iff_eq, decide_eq_true_eq] at h; first | (subst h; rfl) | (simp_all; done) | skip)
  all_goals grind
theorem LX.bq_eq (x y : LX) (h : x.bq y = true) : x = y := by
  cases x <;> cases y <;> first
    | rfl
    | (unfold LX.bq at h; exact absurd h Bool.false_ne_true)
    | skip
  all_goals
    simp only [LX.bq, Bool.and_eq_true, beq_iff_eq, decide_eq_true_eq] at h
  all_goals grind [SX.bq_eq]
theorem PX.bq_eq (x y : PX) (h : x.bq y = true) : x = y := by
  cases x <;> cases y <;> first
    | (unfold PX.bq at h; exact absurd h Bool.false_ne_true)
    | (simp only [PX.bq] at h; rw [LX.bq_eq _ _ h])
    | (simp only [PX.bq] at h; rw [bqL_eq LX.bq_eq h])
theorem VX.bq_eq (x y : VX) (h : x.bq y = true) : x = y := by
  cases x <;> cases y <;> first
    | rfl
    | (unfold VX.bq at h; exact absurd h Bool.false_ne_true)
    | (simp only [VX.bq] at h; rw [PX.bq_eq _ _ h])
    | (simp only [VX.bq] at h; rw [bqL_eq PX.bq_eq h])
    | (simp only [VX.bq, Bool.and_eq_true] at h; rw [SX.bq_eq _ _ h.1, PX.bq_eq _ _ h.2])
theorem Bk.bq_eq (x y : Bk) (h : x.bq y = true) : x = y := by
  cases x; cases y
  simp only [Bk.bq, Bool.and_eq_true, beq_iff_eq] at h
  obtain ⟨⟨rfl, rfl⟩, h⟩ := h
  rw [bqL_eq LX.bq_eq h]
theorem Cd.bq_eq (x y : Cd) (h : x.bq y = true) : x = y := by
  cases x <;> cases y <;> first
    | (unfold Cd.bq at h; exact absurd h Bool.false_ne_true)
    | skip
  · simp only [Cd.bq, Bool.and_eq_true, beq_iff_eq] at h
    rw [h.1, SX.bq_eq _ _ h.2]
  · simp only [Cd.bq, Bool.and_eq_true, beq_iff_eq] at h
    rw [h.1.1, h.1.2, bqL_eq PX.bq_eq h.2]
  · simp only [Cd.bq, Bool.and_eq_true, beq_iff_eq] at h
    rw [h.1, h.2]
theorem St.bq_eq (x y : St) (h : x.bq y = true) : x = y := by
  cases x; cases y
  simp only [St.bq, Bool.and_eq_true, beq_iff_eq, decide_eq_true_eq] at h
  obtain ⟨⟨⟨⟨h1, h2⟩, h3⟩, rfl⟩, rfl⟩ := h
  rw [bqL_eq VX.bq_eq h1, bqL_eq Bk.bq_eq h2, bqL_eq Cd.bq_eq h3]
theorem addS_new (s : St) : ∀ (l : List St), s ∈ addS s l
  | [] => List.mem_singleton.2 rfl
  | t :: ts => by
    unfold addS
    split
    · rename_i h; rw [St.bq_eq _ _ h]; exact List.mem_cons_self ..
    · exact List.mem_cons_of_mem _ (addS_new s ts)
theorem addS_old (s : St) : ∀ {l : List St} {x : St}, x ∈ l → x ∈ addS s l
  | t :: ts, x, h => by
    unfold addS
    split
    · exact h
    · rcases List.mem_cons.1 h with rfl | h
      · exact List.mem_cons_self ..
      · exact List.mem_cons_of_mem _ (addS_old s h)
theorem Tr.ins_new (s : St) : ∀ (l pre : List Bool) (t : Tr), (pre.reverse ++ l, s) ∈ (t.ins s l).all pre
  | [], pre, .nil => by simp [Tr.ins, Tr.all]
  | [], pre, .node ss a b => by
    simp only [Tr.ins, Tr.all, List.append_nil]
    exact List.mem_append_left _ (List.mem_map.2 ⟨s, addS_new s ss, rfl⟩)
  | true :: l, pre, .nil => by
    have := Tr.ins_new s l (true :: pre) .nil
    simp only [List.reverse_cons, List.append_assoc, List.cons_append, List.nil_append] at this
    simp only [Tr.ins, Tr.all]
    exact List.mem_append_right _ (List.mem_append_left _ this)
  | false :: l, pre, .nil => by
    have := Tr.ins_new s l (false :: pre) .nil
    simp only [List.reverse_cons, List.append_assoc, List.cons_append, List.nil_append] at this
    simp only [Tr.ins, Tr.all]
    exact List.mem_append_right _ (List.mem_append_right _ this)
  | true :: l, pre, .node ss a b => by
    have := Tr.ins_new s l (true :: pre) a
    simp only [List.reverse_cons, List.append_assoc, List.cons_append, List.nil_append] at this
    simp only [Tr.ins, Tr.all]
    exact List.mem_append_right _ (List.mem_append_left _ this)
  | false :: l, pre, .node ss a b => by
    have := Tr.ins_new s l (false :: pre) b
    simp only [List.reverse_cons, List.append_assoc, List.cons_append, List.nil_append] at this
    simp only [Tr.ins, Tr.all]
    exact List.mem_append_right _ (List.mem_append_right _ this)
theorem Tr.ins_old (s : St) : ∀ (l pre : List Bool) (t : Tr) {e : List Bool × St}, e ∈ t.all pre → e ∈ (t.ins s l).all pre
  | [], pre, .nil, e, h => by cases h
  | [], pre, .node ss a b, e, h => by
    simp only [Tr.ins, Tr.all] at h ⊢
    rcases List.mem_append.1 h with h | h
    · obtain ⟨x, hx, rfl⟩ := List.mem_map.1 h
      exact List.mem_append_left _ (List.mem_map.2 ⟨x, addS_old s hx, rfl⟩)
    · exact List.mem_append_right _ h
  | true :: l, pre, .nil, e, h => by cases h
  | false :: l, pre, .nil, e, h => by cases h
  | true :: l, pre, .node ss a b, e, h => by
    simp only [Tr.ins, Tr.all] at h ⊢
    rcases List.mem_append.1 h with h | h
    · exact List.mem_append_left _ h
    · rcases List.mem_append.1 h with h | h
      · exact List.mem_append_right _ (List.mem_append_left _ (Tr.ins_old s l (true :: pre) a h))
      · exact List.mem_append_right _ (List.mem_append_right _ h)
  | false :: l, pre, .node ss a b, e, h => by
    simp only [Tr.ins, Tr.all] at h ⊢
    rcases List.mem_append.1 h with h | h
    · exact List.mem_append_left _ h
    · rcases List.mem_append.1 h with h | h
      · exact List.mem_append_right _ (List.mem_append_left _ h)
      · exact List.mem_append_right _ (List.mem_append_right _ (Tr.ins_old s l (false :: pre) b h))
theorem Tr.fill_old : ∀ (es : List (List Bool × St)) (t : Tr) {e : List Bool × St}, e ∈ t.all [] → e ∈ (Tr.fill es t).all []
  | [], _, _, h => h
  | x :: es, t, e, h => Tr.fill_old es _ (Tr.ins_old x.2 x.1 [] t h)
theorem Tr.fill_new : ∀ (es : List (List Bool × St)) (t : Tr) {e : List Bool × St}, e ∈ es → e ∈ (Tr.fill es t).all []
  | x :: es, t, e, h => by
    rcases List.mem_cons.1 h with rfl | h
    · exact Tr.fill_old es _ (Tr.ins_new e.2 e.1 [] t)
    · exact Tr.fill_new es _ h
theorem mem_dedupT {es : List (List Bool × St)} {e : List Bool × St} (h : e ∈ es) : e ∈ dedupT es := Tr.fill_new es _ h
theorem readyF_eq (ops : Array Oper) (l : List Bool) : readyF ops l = Region.ready .any ops l.toArray := by
  unfold readyF Region.ready
  congr 1
  funext i
  congr 1
  · simp
  · unfold depsL
    rw [List.getElem?_map, Array.getElem?_toList]
    cases ops[i]? with
    | none => rfl
    | some o =>
      simp only [Option.map_some, Option.getD_some]
      rw [← Array.all_toList, List.all_map, List.all_filter]
      congr 1
      funext e
      simp
theorem freeF_eq (ops : Array Oper) (l : List Bool) (i : Nat) : freeF ops l i = Region.free .any ops l.toArray i := by
  unfold freeF Region.free
  cases hi : ops[i]? with
  | none => rfl
  | some oi =>
    have hlt : i < ops.size := by
      rcases Nat.lt_or_ge i ops.size with h | h
      · exact h
      · rw [Array.getElem?_eq_none h] at hi; cases hi
    have hw : (waitsL ops)[i]? = some ((List.range ops.size).filter fun j => !(j == i || match ops[j]? with
      | some oj => oj.after.any (fun e => Region.binds .any e && e.on == i) || oi.apart ops oj
      | none => true)) := by
      unfold waitsL
      rw [List.getElem?_map, List.getElem?_range hlt]
      simp only [Option.map_some, hi]
      try rfl
    rw [hw]
    simp only [Option.isSome_some, Bool.true_and, Option.getD_some, List.all_filter]
    congr 1
    funext j
    have hg : l.toArray.getD j true = l.getD j true := by simp
    rw [hg]
    cases hj : ops[j]? with
    | none => cases h1 : (j == i) <;> cases h2 : l.getD j true <;> simp
    | some oj =>
      dsimp only
      generalize ((oj.after.any fun e => Region.binds .any e && e.on == i) || Oper.apart ops oi oj) = x
      cases h1 : (j == i) <;> cases h2 : l.getD j true <;> cases x <;> simp
section
variable {P : Program} {C : List (Con P)} {I : List (Nat → Env → Prop)} {G : Cfg} {e0 e e' : Env} {w0 w w' : World} {s : St} {a : Act}
/-- All that is owed. -/
def Oks (C : List (Con P)) (I : List (Nat → Env → Prop)) (n0 : Nat) (e0 : Env) (os : List Ob) : Prop := ∀ ob ∈ os, ob.ok C I n0 e0
theorem Oks.sub {os os' : List Ob} {n0 : Nat} (h : Oks C I n0 e0 os') (hs : ∀ o ∈ os, o ∈ os') : Oks C I n0 e0 os := fun o ho => h o (hs o ho)
theorem Oks.left {os os' : List Ob} {n0 : Nat} (h : Oks C I n0 e0 (os ++ os')) : Oks C I n0 e0 os := h.sub fun o ho => List.mem_append_left _ ho
theorem Oks.right {os os' : List Ob} {n0 : Nat} (h : Oks C I n0 e0 (os ++ os')) : Oks C I n0 e0 os' := h.sub fun o ho => List.mem_append_right _ ho
/-- One of these states. -/
def Some1 (C : List (Con P)) (I : List (Nat → Env → Prop)) (G : Cfg) (e0 : Env) (w0 : World) (ss : List St) (a : Act) (w : World) : Prop := ∃ s ∈ ss, ∃ e, Rel C I G e0 w0 e s a w
theorem Some1.mono {ss ss' : List St} (h : Some1 C I G e0 w0 ss a w) (hs : ∀ s ∈ ss, s ∈ ss') : Some1 C I G e0 w0 ss' a w := by
  obtain ⟨s, hm, e, hR⟩ := h
  exact ⟨s, hs s hm, e, hR⟩
theorem yielded_at {ops : Array Oper} {j : Nat} (ht : Sats e s.tm a.tmps.toList) {v : VX} (h : ((ops[j]?).bind (·.dst)).bind (s.tm[·]?) = some v) : ∃ t u, (ops[j]?).bind (·.dst) = some t ∧ a.tmps[t]? = some u ∧ v.sat e u := by
  obtain ⟨t, ht1, ht2⟩ := Option.bind_eq_some_iff.1 h
  obtain ⟨u, hu, hs⟩ := ht.get ht2
  exact ⟨t, u, ht1, by rw [← Array.getElem?_toList]; exact hu, hs⟩
theorem ask3_sound {y : SX} {r : Bool} (hc : ∀ c ∈ s.cd, c.holds C I e) (h : ask3 s.cd y = some r) : (y.den e).2 = r := by
  unfold ask3 at h
  split at h
  · rename_i ha
    simp only [Option.some.injEq] at h
    subst h
    refine comps_true.1 fun z hz => ?_
    have := List.all_eq_true.1 ha z hz
    exact ask_sound hc (by simpa using this)
  · split at h
    · rename_i ha
      simp only [Option.some.injEq] at h
      subst h
      obtain ⟨z, hz, hz'⟩ := List.any_eq_true.1 ha
      have h1 := ask_sound hc (show ask s.cd z = some false by simpa using hz')
      cases hy : (y.den e).2
      · rfl
      · have := comps_true.2 hy z hz
        rw [h1] at this; cases this
    · cases h
/-- What a guard says. -/
def Md.says (e : Env) (m : Md) (b : Bool) : Prop :=
  match m with
  | .run => b = true
  | .skip => b = false
  | .spec y => b = (y.den e).2
theorem guardX_sound {id : Nat} {ops : Array Oper} {o : Oper} {l : List (Md × St)} (h : guardX P G id ops o s = some l) (hR : Rel C I G e0 w0 e s a w) :
    ∃ m s', (m, s') ∈ l ∧ Rel C I G e0 w0 e s' a w ∧ m.says e (Region.wanted o (yielded ops a.tmps)) := by
  have on : ∀ y : SX, Region.wanted o (yielded ops a.tmps) = (y.den e).2 → ∀ l, (match ask3 s.cd y with
    | some true => some [(Md.run, s)]
    | some false => some [(.skip, s)]
    | none => if (specX P G id o y s).isSome then some [(.spec y, s)] else some [(.run, { s with cd := addCd y true ++ s.cd }), (.skip, { s with cd := addCd y false ++ s.cd })]) = some l →
      ∃ m s', (m, s') ∈ l ∧ Rel C I G e0 w0 e s' a w ∧ m.says e (Region.wanted o (yielded ops a.tmps)) := by
    intro y hw l h
    split at h
    · rename_i hr
      simp only [Option.some.injEq] at h
      subst h
      exact ⟨_, s, List.mem_singleton.2 rfl, hR, by rw [hw]; exact ask3_sound hR.cd hr⟩
    · rename_i hr
      simp only [Option.some.injEq] at h
      subst h
      exact ⟨_, s, List.mem_singleton.2 rfl, hR, by rw [hw]; exact ask3_sound hR.cd hr⟩
    · split at h
      · simp only [Option.some.injEq] at h
        subst h
        exact ⟨_, s, List.mem_singleton.2 rfl, hR, hw⟩
      · simp only [Option.some.injEq] at h
        subst h
        cases hx : (y.den e).2
        · exact ⟨.skip, _, List.mem_cons_of_mem _ (List.mem_singleton.2 rfl), hR.conds (addCd_holds y false hx), by rw [hw, hx]; rfl⟩
        · exact ⟨.run, _, List.mem_cons_self .., hR.conds (addCd_holds y true hx), by rw [hw, hx]; rfl⟩
  have wantd : ∀ (x : SX) (want : Bool), ((if want then x else x.mkNo).den e).2 = ((x.den e).2 == want) := fun x want => by
    cases want
    · simp [SX.mkNo_den]
    · simp
  unfold guardX at h
  dsimp only at h
  split at h
  · rename_i hg
    simp only [Option.some.injEq] at h
    subst h
    exact ⟨.run, s, List.mem_singleton.2 rfl, hR, by simp [Md.says, Region.wanted, hg]⟩
  · rename_i j want hg
    split at h
    · rename_i hj
      simp only [Option.some.injEq] at h
      subst h
      obtain ⟨t, u, h1, h2, h3⟩ := yielded_at hR.tm hj
      refine ⟨.skip, s, List.mem_singleton.2 rfl, hR, ?_⟩
      simp only [VX.sat] at h3
      subst h3
      simp [Md.says, Region.wanted, hg, yielded, h1, h2, undef]
    · rename_i x hj
      obtain ⟨t, u, h1, h2, h3⟩ := yielded_at hR.tm hj
      simp only [VX.sat, PX.den, LX.den] at h3
      subst h3
      exact on _ (by rw [wantd]; simp [Region.wanted, hg, yielded, h1, h2]) l h
    · rename_i c x hj
      obtain ⟨t, u, h1, h2, h3⟩ := yielded_at hR.tm hj
      refine on _ ?_ l h
      rw [SX.mkAn_den, wantd]
      simp only [VX.sat, PX.den, LX.den] at h3
      cases hc : (c.den e).2
      · have := h3.2 hc
        subst this
        simp [Region.wanted, hg, yielded, h1, h2, undef]
      · have := h3.1 hc
        subst this
        simp [Region.wanted, hg, yielded, h1, h2]
    · cases h
theorem operX_sound {ops : Array Oper} {id : Nat} {o : Oper} : ∀ {l : List (Md × St)} {ss : List St} {os : List Ob}, operX P G ops id o l = some (ss, os) →
    (∀ s', (.run, s') ∈ l → ∃ s'' os', stepX P G id o s' = some (s'', os') ∧ s'' ∈ ss ∧ ∀ x ∈ os', x ∈ os) ∧ (∀ s', (.skip, s') ∈ l → s'.put o.dst .un ∈ ss) ∧
      (∀ y s', (.spec y, s') ∈ l → ∃ s'' os', specX P G id o y s' = some (s'', os') ∧ s'' ∈ ss ∧ ∀ x ∈ os', x ∈ os)
  | [], ss, os, h => ⟨fun s' h => (List.not_mem_nil h).elim, fun s' h => (List.not_mem_nil h).elim, fun y s' h => (List.not_mem_nil h).elim⟩
  | (m, s1) :: rest, ss, os, h => by
    cases m with
    | run =>
      unfold operX at h
      split at h
      · rename_i s2 o1 ss' o2 h1 h2
        simp only [Option.some.injEq, Prod.mk.injEq] at h
        obtain ⟨rfl, rfl⟩ := h
        obtain ⟨i1, i2, i3⟩ := operX_sound h2
        refine ⟨fun s' hm => ?_, fun s' hm => ?_, fun y s' hm => ?_⟩
        · rcases List.mem_cons.1 hm with hm | hm
          · cases hm
            exact ⟨s2, o1, h1, List.mem_cons_self .., fun x hx => List.mem_append_left _ hx⟩
          · obtain ⟨s3, o3, h3, h4, h5⟩ := i1 s' hm
            exact ⟨s3, o3, h3, List.mem_cons_of_mem _ h4, fun x hx => List.mem_append_right _ (h5 x hx)⟩
        · rcases List.mem_cons.1 hm with hm | hm
          · cases hm
          · exact List.mem_cons_of_mem _ (i2 s' hm)
        · rcases List.mem_cons.1 hm with hm | hm
          · cases hm
          · obtain ⟨s3, o3, h3, h4, h5⟩ := i3 y s' hm
            exact ⟨s3, o3, h3, List.mem_cons_of_mem _ h4, fun x hx => List.mem_append_right _ (h5 x hx)⟩
      · cases h
    | spec y0 =>
      unfold operX at h
      split at h
      · rename_i s2 o1 ss' o2 h1 h2
        simp only [Option.some.injEq, Prod.mk.injEq] at h
        obtain ⟨rfl, rfl⟩ := h
        obtain ⟨i1, i2, i3⟩ := operX_sound h2
        refine ⟨fun s' hm => ?_, fun s' hm => ?_, fun y s' hm => ?_⟩
        · rcases List.mem_cons.1 hm with hm | hm
          · cases hm
          · obtain ⟨s3, o3, h3, h4, h5⟩ := i1 s' hm
            exact ⟨s3, o3, h3, List.mem_cons_of_mem _ h4, fun x hx => List.mem_append_right _ (h5 x hx)⟩
        · rcases List.mem_cons.1 hm with hm | hm
          · cases hm
          · exact List.mem_cons_of_mem _ (i2 s' hm)
        · rcases List.mem_cons.1 hm with hm | hm
          · cases hm
            exact ⟨s2, o1, h1, List.mem_cons_self .., fun x hx => List.mem_append_left _ hx⟩
          · obtain ⟨s3, o3, h3, h4, h5⟩ := i3 y s' hm
            exact ⟨s3, o3, h3, List.mem_cons_of_mem _ h4, fun x hx => List.mem_append_right _ (h5 x hx)⟩
      · cases h
    | skip =>
      unfold operX at h
      split at h
      · rename_i ss' o2 h2
        simp only [Option.some.injEq, Prod.mk.injEq] at h
        obtain ⟨rfl, rfl⟩ := h
        obtain ⟨i1, i2, i3⟩ := operX_sound h2
        refine ⟨fun s' hm => ?_, fun s' hm => ?_, fun y s' hm => ?_⟩
        · rcases List.mem_cons.1 hm with hm | hm
          · cases hm
          · obtain ⟨s3, o3, h3, h4, h5⟩ := i1 s' hm
            exact ⟨s3, o3, h3, List.mem_cons_of_mem _ h4, h5⟩
        · rcases List.mem_cons.1 hm with hm | hm
          · cases hm; exact List.mem_cons_self ..
          · exact List.mem_cons_of_mem _ (i2 s' hm)
        · rcases List.mem_cons.1 hm with hm | hm
          · cases hm
          · obtain ⟨s3, o3, h3, h4, h5⟩ := i3 y s' hm
            exact ⟨s3, o3, h3, List.mem_cons_of_mem _ h4, h5⟩
      · cases h
theorem runX_mem {ops : Array Oper} {id : Nat} {o : Oper} : ∀ {l : List St} {ss : List St} {os : List Ob}, runX P G ops id o l = some (ss, os) → s ∈ l →
    ∃ g ss' os', guardX P G id ops o s = some g ∧ operX P G ops id o g = some (ss', os') ∧ (∀ x ∈ ss', x ∈ ss) ∧ ∀ x ∈ os', x ∈ os
  | s1 :: rest, ss, os, h, hm => by
    unfold runX at h
    split at h
    · rename_i a1 x1 b1 y1 h1 h2
      simp only [Option.some.injEq, Prod.mk.injEq] at h
      obtain ⟨rfl, rfl⟩ := h
      rcases List.mem_cons.1 hm with hm | hm
      · subst hm
        obtain ⟨g, hg, ho⟩ := Option.bind_eq_some_iff.1 h1
        exact ⟨g, a1, x1, hg, ho, fun x hx => List.mem_append_left _ hx, fun x hx => List.mem_append_left _ hx⟩
      · obtain ⟨g, s2, o2, h3, h4, h5, h6⟩ := runX_mem h2 hm
        exact ⟨g, s2, o2, h3, h4, fun x hx => List.mem_append_right _ (h5 x hx), fun x hx => List.mem_append_right _ (h6 x hx)⟩
    · cases h
theorem runX_sound (hS : C.map (·.sg) = G.sg) {ops : Array Oper} {i id : Nat} {o : Oper} (ho : ops[i]? = some o) {l ss : List St} {os : List Ob} (h : runX P G ops id o l = some (ss, os)) (hm : s ∈ l) (hob : Oks C I G.n0 e0 os)
    (hR : Rel C I G e0 w0 e s a w) {K : Act → World → Prop} {Q : Exit → Act → World → Prop} (hK : ∀ a' w', Some1 C I G e0 w0 ss a' w' → K a' w') : wpOp P ops Q i K a w := by
  obtain ⟨g, ss', os', hg, ho', h1, h2⟩ := runX_mem h hm
  obtain ⟨m, s', hb, hR', hw⟩ := guardX_sound hg hR
  obtain ⟨p1, p2, p3⟩ := operX_sound ho'
  unfold wpOp
  rw [ho]
  dsimp only
  cases m with
  | run =>
    simp only [Md.says] at hw
    rw [if_pos hw]
    obtain ⟨s'', o1, h3, h4, h5⟩ := p1 s' hb
    exact .inl (stepX_sound hS h3 (fun ob hm => hob ob (h2 ob (h5 ob hm))) hR' fun e' a' w' hr => hK a' w' ⟨s'', h1 _ h4, e', hr⟩)
  | skip =>
    simp only [Md.says] at hw
    rw [if_neg (by rw [hw]; simp)]
    exact hK _ _ ⟨_, h1 _ (p2 s' hb), e, hR'.put (v := .un) rfl _⟩
  | spec y =>
    simp only [Md.says] at hw
    obtain ⟨s'', o1, h3, h4, h5⟩ := p3 y s' hb
    obtain ⟨q1, q2⟩ := specX_sound hS h3 (fun ob hm => hob ob (h2 ob (h5 ob hm))) hR'
    cases hy : (y.den e).2
    · rw [if_neg (by rw [hw, hy]; simp)]
      obtain ⟨e', hr⟩ := q2 hy
      exact hK _ _ ⟨_, h1 _ h4, e', hr⟩
    · rw [if_pos (by rw [hw, hy])]
      exact .inl (q1 hy _ _ fun e' a' w' hr => hK a' w' ⟨s'', h1 _ h4, e', hr⟩)
theorem textX_sound (hS : C.map (·.sg) = G.sg) {ops : Array Oper} {nx : Nat} {Q : Exit → Act → World → Prop} : ∀ {is : List Nat} {l ss : List St} {os : List Ob}, textX P G ops nx is l = some (ss, os) → Oks C I G.n0 e0 os →
    (∀ a' w', Some1 C I G e0 w0 ss a' w' → Q .normal a' w') → ∀ {a : Act} {w : World}, Some1 C I G e0 w0 l a w → wpOps P ops Q is a w
  | [], l, ss, os, h, _, hQ, a, w, hs => by
    simp only [textX, Option.some.injEq, Prod.mk.injEq] at h
    obtain ⟨rfl, rfl⟩ := h
    exact hQ a w hs
  | i :: is, l, ss, os, h, hob, hQ, a, w, hs => by
    unfold textX at h
    split at h
    · cases h
    · rename_i o ho
      split at h
      · rename_i l' o1 h1
        obtain ⟨⟨r, o2⟩, h2, hp⟩ := opt_map h
        simp only [Prod.mk.injEq] at hp
        obtain ⟨rfl, rfl⟩ := hp
        obtain ⟨s, hm, e, hR⟩ := hs
        rw [wpOps_cons]
        exact runX_sound hS ho h1 hm hob.left hR fun a' w' hs' => textX_sound hS h2 hob.right hQ hs'
      · cases h

/-! ### Regions that draw their order. -/
theorem moreX_all {ops : Array Oper} {nx : Nat} {l : List Bool} : ∀ {is : List Nat} {r : List (List Bool × St)} {os : List Ob}, moreX.all P G ops nx l s is = some (r, os) → ∀ i ∈ is, ∃ r' os', moreX.one P G ops nx l s i = some (r', os') ∧ (∀ x ∈ r', x ∈ r) ∧ ∀ x ∈ os', x ∈ os
  | i0 :: is, r, os, h, i, hi => by
    unfold moreX.all at h
    split at h
    · rename_i a1 x1 b1 y1 h1 h2
      simp only [Option.some.injEq, Prod.mk.injEq] at h
      obtain ⟨rfl, rfl⟩ := h
      rcases List.mem_cons.1 hi with hi | hi
      · subst hi
        exact ⟨a1, x1, h1, fun x hx => List.mem_append_left _ hx, fun x hx => List.mem_append_left _ hx⟩
      · obtain ⟨r', o', h3, h4, h5⟩ := moreX_all h2 i hi
        exact ⟨r', o', h3, fun x hx => List.mem_append_right _ (h4 x hx), fun x hx => List.mem_append_right _ (h5 x hx)⟩
    · cases h
theorem moreX_one {ops : Array Oper} {nx i : Nat} {l : List Bool} {r : List (List Bool × St)} {os : List Ob} (h : moreX.one P G ops nx l s i = some (r, os)) :
    ∃ o ss, ops[i]? = some o ∧ runX P G ops (nx + i) o [s] = some (ss, os) ∧ ∀ s' ∈ ss, (l.set i true, s') ∈ r := by
  unfold moreX.one at h
  split at h
  · cases h
  · rename_i o ho
    obtain ⟨⟨ss, o1⟩, h1, hp⟩ := opt_map h
    simp only [Prod.mk.injEq] at hp
    obtain ⟨rfl, rfl⟩ := hp
    exact ⟨o, ss, ho, h1, fun s' hs' => List.mem_map.2 ⟨s', hs', rfl⟩⟩
theorem pure_step {id : Nat} {o : Oper} {s' : St} {os : List Ob} (hp : isPure o.op = true) (h : stepX P G id o s = some (s', os)) : ((evPure P [] s o.op).map fun (v, xs) => (s.put o.dst v, owe s xs)) = some (s', os) := by
  obtain ⟨dst, op, type, pos, after, guard⟩ := o
  unfold stepX at h
  dsimp only at h hp ⊢
  split at h <;> first
    | (simp [isPure] at hp; done)
    | exact h
theorem pure_spec {id : Nat} {o : Oper} {y : SX} {s' : St} {os : List Ob} (hp : isPure o.op = true) (h : specX P G id o y s = some (s', os)) : ∃ x, evPure P (comps y) s o.op = some (.v x, []) ∧ s' = s.put o.dst (.gd y x) := by
  obtain ⟨dst, op, type, pos, after, guard⟩ := o
  unfold specX at h
  dsimp only at h hp ⊢
  split at h
  · simp [isPure] at hp
  · simp [isPure] at hp
  · split at h
    · rename_i x hx
      simp only [Option.some.injEq, Prod.mk.injEq] at h
      obtain ⟨rfl, rfl⟩ := h
      exact ⟨x, hx, rfl⟩
    · cases h
theorem layerX_mem {ops : Array Oper} {nx : Nat} : ∀ {es es' : List (List Bool × St)} {os : List Ob}, layerX P G ops nx es = some (es', os) → ∀ {l : List Bool} {s : St}, (l, s) ∈ es → ∃ r os', moreX P G ops nx l s = some (r, os') ∧ (∀ x ∈ r, x ∈ es') ∧ ∀ x ∈ os', x ∈ os
  | (l0, s0) :: es, es', os, h, l, s, hm => by
    unfold layerX at h
    split at h
    · rename_i a1 x1 b1 y1 h1 h2
      simp only [Option.some.injEq, Prod.mk.injEq] at h
      obtain ⟨rfl, rfl⟩ := h
      rcases List.mem_cons.1 hm with hm | hm
      · cases hm
        exact ⟨a1, x1, h1, fun x hx => List.mem_append_left _ hx, fun x hx => List.mem_append_left _ hx⟩
      · obtain ⟨r', o', h3, h4, h5⟩ := layerX_mem h2 hm
        exact ⟨r', o', h3, fun x hx => List.mem_append_right _ (h4 x hx), fun x hx => List.mem_append_right _ (h5 x hx)⟩
    · cases h
theorem drawX_fin {ops : Array Oper} {nx : Nat} : ∀ {n : Nat} {es : List (List Bool × St)} {ss : List St} {os : List Ob}, drawX P G ops nx n es = some (ss, os) → ∀ {l : List Bool} {s : St}, (l, s) ∈ es → Region.ready .any ops l.toArray = [] → s ∈ ss
  | 0, es, ss, os, h, l, s, hm, _ => by
    unfold drawX at h
    split at h
    · simp only [Option.some.injEq, Prod.mk.injEq] at h
      obtain ⟨rfl, rfl⟩ := h
      exact mem_dedup (List.mem_map.2 ⟨(l, s), hm, rfl⟩)
    · cases h
  | n + 1, es, ss, os, h, l, s, hm, hr => by
    unfold drawX at h
    split at h
    · rename_i es' o1 h1
      obtain ⟨⟨r, o2⟩, h2, hp⟩ := opt_map h
      simp only [Prod.mk.injEq] at hp
      obtain ⟨rfl, rfl⟩ := hp
      obtain ⟨r', o', h3, h4, _⟩ := layerX_mem h1 hm
      unfold moreX at h3
      rw [readyF_eq, hr] at h3
      simp only [Option.some.injEq, Prod.mk.injEq] at h3
      obtain ⟨rfl, rfl⟩ := h3
      exact drawX_fin h2 (mem_dedupT (h4 _ (List.mem_singleton.2 rfl))) hr
    · cases h
theorem drawX_sound (hS : C.map (·.sg) = G.sg) {ops : Array Oper} (hsel : Region.noSelect ops = true) {nx : Nat} {Q : Exit → Act → World → Prop} (hpan : ∀ c a w, ¬ Q (.panic c) a w) : ∀ {n : Nat} {es : List (List Bool × St)} {ss : List St} {os : List Ob},
    drawX P G ops nx n es = some (ss, os) → Oks C I G.n0 e0 os → (∀ a' w', Some1 C I G e0 w0 ss a' w' → Q .normal a' w') → ∀ {l : List Bool} {s : St} {e : Env} {a : Act} {w : World}, (l, s) ∈ es → Rel C I G e0 w0 e s a w → wpAny P .any ops Q n l.toArray a w
  | 0, es, ss, os, h, _, hQ, l, s, e, a, w, hm, hR => by
    have hfin := drawX_fin h hm
    unfold drawX at h
    split at h
    · rename_i hall
      have := List.all_eq_true.1 hall (l, s) hm
      simp only [List.isEmpty_iff, readyF_eq] at this
      exact ⟨this, hQ a w ⟨s, hfin this, e, hR⟩⟩
    · cases h
  | n + 1, es, ss, os, h, hob, hQ, l, s, e, a, w, hm, hR => by
    have hfin := drawX_fin h hm
    by_cases hr : Region.ready .any ops l.toArray = []
    · exact wpAny_done hr (hQ a w ⟨s, hfin hr, e, hR⟩) _
    unfold drawX at h
    split at h
    · rename_i es' o1 h1
      obtain ⟨⟨r, o2⟩, h2, hp⟩ := opt_map h
      simp only [Prod.mk.injEq] at hp
      obtain ⟨rfl, rfl⟩ := hp
      obtain ⟨r', o', h3, h4, h5⟩ := layerX_mem h1 hm
      have next : ∀ {i : Nat} {s' : St} {e' : Env} {a' : Act} {w' : World}, (l.set i true, s') ∈ r' → Rel C I G e0 w0 e' s' a' w' → wpAny P .any ops Q n (l.toArray.setIfInBounds i true) a' w' := fun {i s' e' a' w'} hm' hR' => by
        have := drawX_sound hS hsel hpan h2 hob.right hQ (mem_dedupT (h4 _ hm')) hR'
        rwa [show (l.set i true).toArray = l.toArray.setIfInBounds i true by simp] at this
      have hob1 : Oks C I G.n0 e0 o' := hob.left.sub h5
      unfold moreX at h3
      rw [readyF_eq] at h3
      dsimp only at h3
      split at h3
      · rename_i h0; exact absurd h0 hr
      · split at h3
        · rename_i i hi
          have hir := List.mem_of_find?_eq_some hi
          have hip := List.find?_some hi
          simp only [Bool.and_eq_true, freeF_eq] at hip
          obtain ⟨o, ss', ho, hrun, hall⟩ := moreX_one h3
          rw [ho] at hip
          simp only [Option.map_some, Option.getD_some] at hip
          obtain ⟨g, ss1, os1, hg, hop, m1, m2⟩ := runX_mem hrun (List.mem_singleton.2 rfl)
          obtain ⟨m, s1, hb, hR1, hw⟩ := guardX_sound hg hR
          obtain ⟨p1, p2, p3⟩ := operX_sound hop
          cases m with
          | run =>
            simp only [Md.says] at hw
            obtain ⟨s2, o3, h6, h7, h8⟩ := p1 s1 hb
            obtain ⟨⟨v, xs⟩, hv, hvp⟩ := opt_map (pure_step hip.1 h6)
            simp only [Prod.mk.injEq] at hvp
            obtain ⟨rfl, rfl⟩ := hvp
            obtain ⟨u, hu, hrun'⟩ := evPure_sound hR1.kn0 hR1.base hv (hR1.owed fun ob hm => hob1 ob (m2 ob (h8 ob hm)))
            exact wpAny_take ho hsel hip.2 (by simpa using hir) (fun c a w hq => absurd hq (hpan c _ w)) (.inl ⟨hw, hrun'⟩) (next (hall _ (m1 _ h7)) (hR1.put hu _))
          | skip =>
            simp only [Md.says] at hw
            exact wpAny_take ho hsel hip.2 (by simpa using hir) (fun c a w hq => absurd hq (hpan c _ w)) (.inr ⟨hw, rfl⟩) (next (hall _ (m1 _ (p2 s1 hb))) (hR1.put (v := .un) rfl _))
          | spec y =>
            simp only [Md.says] at hw
            obtain ⟨s2, o3, h6, h7, h8⟩ := p3 y s1 hb
            obtain ⟨x, hx, rfl⟩ := pure_spec hip.1 h6
            cases hy : (y.den e).2
            · exact wpAny_take ho hsel hip.2 (by simpa using hir) (fun c a w hq => absurd hq (hpan c _ w)) (.inr ⟨by rw [hw, hy], rfl⟩) (next (hall _ (m1 _ h7)) (hR1.put (v := .gd y x) ⟨(fun h' => by rw [hy] at h'; cases h'), fun _ => rfl⟩ _))
            · obtain ⟨u, hu, hrun'⟩ := evPure_sound (hR1.kn (comps_true.2 hy)) hR1.base hx (fun _ h => (List.not_mem_nil h).elim)
              exact wpAny_take ho hsel hip.2 (by simpa using hir) (fun c a w hq => absurd hq (hpan c _ w)) (.inl ⟨by rw [hw, hy], hrun'⟩) (next (hall _ (m1 _ h7)) (hR1.put (v := .gd y x) ⟨fun _ => hu, (fun h' => by rw [hy] at h'; cases h')⟩ _))
        · refine ⟨fun h0 => absurd h0 hr, fun i hi => ?_⟩
          obtain ⟨r1, os1, h6, h7, h8⟩ := moreX_all h3 i hi
          obtain ⟨o, ss', ho, hrun, hall⟩ := moreX_one h6
          exact runX_sound hS ho hrun (List.mem_singleton.2 rfl) (hob1.sub h8) hR fun a' w' hs' => by
            obtain ⟨s', hs1, e', hR'⟩ := hs'
            exact next (h7 _ (hall s' hs1)) hR'
    · cases h
end

/-! ### Code. -/
def Ex.exit : Ex → Exit
  | .nor => .normal
  | .ex id => .exit id
  | .rt => .ret
section
variable {P : Program} {C : List (Con P)} {I : List (Nat → Env → Prop)}
/-- How a piece of code ends. -/
def Post (C : List (Con P)) (I : List (Nat → Env → Prop)) (G : Cfg) (e0 : Env) (w0 : World) (es : List (Ex × St)) : Exit → Act → World → Prop := fun x a w => ∃ y s, (y, s) ∈ es ∧ y.exit = x ∧ ∃ e, Rel C I G e0 w0 e s a w
theorem regionX_sound {G : Cfg} {e0 e : Env} {w0 w : World} {s : St} {a : Act} (hS : C.map (·.sg) = G.sg) (hmix : P.follows .mixedOrders = true) {id : Nat} {ops : Array Oper} {draw : Bool} {ss : List St} {os : List Ob} (h : regionX P G ops draw s = some (ss, os)) (hob : Oks C I G.n0 e0 os)
    (hR : Rel C I G e0 w0 e s a w) : (Code.region id ops draw).wp P (fun x a w => x = .normal ∧ Some1 C I G e0 w0 ss a w) a w := by
  unfold regionX at h
  dsimp only at h
  obtain ⟨⟨ss', os'⟩, h1, hp⟩ := opt_map h
  simp only [Prod.mk.injEq] at hp
  obtain ⟨rfl, rfl⟩ := hp
  have hob' : Oks C I G.n0 e0 os' := hob.sub fun o ho => mem_dedup ho
  have fin : ∀ a' w', Some1 C I G e0 w0 ss' a' w' → Some1 C I G e0 w0 (ss'.map fun s' => { s' with nx := s.nx + ops.size }) a' w' := fun a' w' hs => by
    obtain ⟨s', hm, e', hR'⟩ := hs
    exact ⟨_, List.mem_map.2 ⟨s', hm, rfl⟩, e', hR'.nx _⟩
  cases draw with
  | false =>
    simp only [Bool.false_eq_true, if_false] at h1
    exact wp_region (textX_sound hS h1 hob' (fun a' w' hs => ⟨rfl, fin a' w' hs⟩) ⟨s, List.mem_singleton.2 rfl, e, hR⟩)
  | true =>
    simp only [if_true] at h1
    split at h1
    · rename_i hsel
      refine wp_region_any hmix ?_
      have := drawX_sound (Q := fun x a w => x = .normal ∧ Some1 C I G e0 w0 (ss'.map fun s' => { s' with nx := s.nx + ops.size }) a w) hS hsel (fun c a w hq => by cases hq.1) h1 hob' (fun a' w' hs => ⟨rfl, fin a' w' hs⟩) (List.mem_singleton.2 rfl) hR.drew
      simpa using this
    · cases h1
theorem thenX_mem {f : St → Option (List (Ex × St) × List Ob)} : ∀ {es r : List (Ex × St)} {os : List Ob}, thenX f es = some (r, os) → ∀ {x : Ex} {s : St}, (x, s) ∈ es →
    (x = .nor → ∃ r' os', f s = some (r', os') ∧ (∀ z ∈ r', z ∈ r) ∧ ∀ z ∈ os', z ∈ os) ∧ (x ≠ .nor → (x, s) ∈ r)
  | (x0, s0) :: es, r, os, h, x, s, hm => by
    unfold thenX at h
    split at h
    · rename_i heq
      cases heq
    · rename_i s1 r1 heq
      cases heq
      split at h
      · rename_i a1 x1 b1 y1 h1 h2
        simp only [Option.some.injEq, Prod.mk.injEq] at h
        obtain ⟨rfl, rfl⟩ := h
        rcases List.mem_cons.1 hm with hm | hm
        · cases hm
          exact ⟨fun _ => ⟨a1, x1, h1, fun z hz => List.mem_append_left _ hz, fun z hz => List.mem_append_left _ hz⟩, fun hn => absurd rfl hn⟩
        · obtain ⟨i1, i2⟩ := thenX_mem h2 hm
          refine ⟨fun hx => ?_, fun hn => List.mem_append_right _ (i2 hn)⟩
          obtain ⟨r', o', h3, h4, h5⟩ := i1 hx
          exact ⟨r', o', h3, fun z hz => List.mem_append_right _ (h4 z hz), fun z hz => List.mem_append_right _ (h5 z hz)⟩
      · cases h
    · rename_i y r1 hne heq
      cases heq
      obtain ⟨⟨b1, y1⟩, h2, hp⟩ := opt_map h
      simp only [Prod.mk.injEq] at hp
      obtain ⟨rfl, rfl⟩ := hp
      rcases List.mem_cons.1 hm with hm | hm
      · cases hm
        exact ⟨fun hx => by subst hx; exact absurd rfl (hne _), fun _ => List.mem_cons_self ..⟩
      · obtain ⟨i1, i2⟩ := thenX_mem h2 hm
        exact ⟨fun hx => by obtain ⟨r', o', h3, h4, h5⟩ := i1 hx; exact ⟨r', o', h3, fun z hz => List.mem_cons_of_mem _ (h4 z hz), h5⟩, fun hn => List.mem_cons_of_mem _ (i2 hn)⟩
/-- The next piece behind a piece. -/
theorem then_post {G : Cfg} {e0 : Env} {w0 : World} {es r : List (Ex × St)} {os : List Ob} {f : St → Option (List (Ex × St) × List Ob)} (h : thenX f es = some (r, os)) {K : Act → World → Prop}
    (hK : ∀ s r' os' e a w, f s = some (r', os') → (∀ z ∈ r', z ∈ r) → (∀ z ∈ os', z ∈ os) → Rel C I G e0 w0 e s a w → K a w) :
    ∀ x a w, Post C I G e0 w0 es x a w → Exit.then K (Post C I G e0 w0 r) x a w := fun x a w hp => by
  obtain ⟨y, s, hm, rfl, e, hR⟩ := hp
  obtain ⟨i1, i2⟩ := thenX_mem h hm
  cases y with
  | nor =>
    obtain ⟨r', o', h3, h4, h5⟩ := i1 rfl
    exact hK s r' o' e a w h3 h4 h5 hR
  | ex id => exact ⟨_, s, i2 (by simp), rfl, e, hR⟩
  | rt => exact ⟨_, s, i2 (by simp), rfl, e, hR⟩
theorem Post.mono {G : Cfg} {e0 : Env} {w0 : World} {es r : List (Ex × St)} (h : ∀ z ∈ es, z ∈ r) : ∀ x a w, Post C I G e0 w0 es x a w → Post C I G e0 w0 r x a w := fun x a w hp => by
  obtain ⟨y, s, hm, rfl, e, hR⟩ := hp
  exact ⟨y, s, h _ hm, rfl, e, hR⟩
theorem unrollX_sound {G : Cfg} {e0 : Env} {w0 : World} {c : Code} {f : St → Option (List (Ex × St) × List Ob)}
    (hf : ∀ s es os e a w, f s = some (es, os) → Oks C I G.n0 e0 os → Rel C I G e0 w0 e s a w → c.wp P (Post C I G e0 w0 es) a w) :
    ∀ (m : Nat) (s : St) (r rr : List (Ex × St)) (os : List Ob) (e : Env) (a : Act) (w : World), unrollX f m s = some (r, os) → (∀ z ∈ r, z ∈ rr) → Oks C I G.n0 e0 os → Rel C I G e0 w0 e s a w → Code.rounds P c (Post C I G e0 w0 rr) m a w
  | 0, _, _, _, _, _, _, _, h, _, _, _ => by cases h
  | m + 1, s, r, rr, os, e, a, w, h, hrr, hob, hR => by
    unfold unrollX at h
    split at h
    · rename_i es o1 h1
      obtain ⟨⟨r2, o2⟩, h2, hp⟩ := opt_map h
      simp only [Prod.mk.injEq] at hp
      obtain ⟨rfl, rfl⟩ := hp
      rw [rounds_succ]
      refine wp_mono (hf s es o1 e a w h1 hob.left hR) fun x a' w' hpx => ?_
      have := then_post h2 (K := Code.rounds P c (Post C I G e0 w0 rr) m) (fun s' r' o' e' a'' w'' h3 h4 h5 hR' => unrollX_sound hf m s' r' rr o' e' a'' w'' h3 (fun z hz => hrr z (h4 z hz)) (hob.right.sub h5) hR') x a' w' hpx
      cases x <;> first
        | exact this
        | exact Post.mono hrr _ _ _ this
    · cases h
end
end Go.Proofs.Ytjhdjclcfmcilaa
