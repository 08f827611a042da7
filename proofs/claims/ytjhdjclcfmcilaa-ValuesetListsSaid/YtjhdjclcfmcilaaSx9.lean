/-
  The machine on terms is right: loops by an invariant, code, functions. No program.
-/
import Derived.Test.YtjhdjclcfmcilaaSx8
namespace Go.Proofs.Ytjhdjclcfmcilaa
open Go.ChangeShapes Go.WideShapes Go.ChangeAt Go.RowKit
set_option linter.unusedVariables false

section
variable {e e' : Env}
theorem Sats.set' : ∀ {xs : List VX} {vs : List Value} (t : Nat) {x : VX}, Sats e xs vs → (∀ v, vs[t]? = some v → x.sat e v) → Sats e (xs.set t x) vs
  | [], [], _, _, _, _ => trivial
  | [], _ :: _, _, _, h, _ => h.elim
  | _ :: _, [], _, _, h, _ => h.elim
  | _ :: _, v :: _, 0, _, h, hx => ⟨hx v rfl, h.2⟩
  | _ :: _, _ :: _, t + 1, _, h, hx => ⟨h.1, Sats.set' t h.2 fun v hv => hx v (by simpa using hv)⟩
theorem anyT_sats {tm : List VX} {vs : List Value} (h : Sats e tm vs) : ∀ (ts : List Nat), Sats e (anyT tm ts) vs
  | [] => h
  | t :: ts => (anyT_sats h ts).set' t fun _ _ => trivial
theorem anyT_fr {ok : Nat → Bool} {tm : List VX} (h : tm.all (·.fr ok) = true) : ∀ (ts : List Nat), (anyT tm ts).all (·.fr ok) = true
  | [] => h
  | t :: ts => by
    have := anyT_fr h ts
    rw [List.all_eq_true] at this ⊢
    intro x hx
    unfold anyT at hx
    rcases List.mem_or_eq_of_mem_set hx with h1 | rfl
    · exact this x h1
    · rfl
theorem slotsX_get {s : St} : ∀ {sl : List (Nat × Option IntKind)} {xs : List LX}, slotsX s sl = some xs → ∀ (i t : Nat) (k : Option IntKind), sl[i]? = some (t, k) → ∃ x, xs[i]? = some x ∧ s.tm[t]? = some (.v (.l x)) ∧ (match k with | some k => ∃ y, x = .n k y | none => ∃ y, x = .t y)
  | [], _, _, i, t, k, hi => by simp at hi
  | (t0, k0) :: r, xs, h, i, t, k, hi => by
    unfold slotsX at h
    split at h
    · rename_i k' x k1 l h1 h2
      split at h
      · rename_i hk
        subst hk
        simp only [Option.some.injEq] at h
        subst h
        cases i with
        | zero => simp only [List.getElem?_cons_zero, Option.some.injEq, Prod.mk.injEq] at hi; obtain ⟨rfl, rfl⟩ := hi; exact ⟨_, rfl, h1, _, rfl⟩
        | succ i => simp only [List.getElem?_cons_succ] at hi ⊢; exact slotsX_get h2 i t k hi
      · cases h
    · rename_i x l h1 h2
      simp only [Option.some.injEq] at h
      subst h
      cases i with
      | zero => simp only [List.getElem?_cons_zero, Option.some.injEq, Prod.mk.injEq] at hi; obtain ⟨rfl, rfl⟩ := hi; exact ⟨_, rfl, h1, _, rfl⟩
      | succ i => simp only [List.getElem?_cons_succ] at hi ⊢; exact slotsX_get h2 i t k hi
    · cases h
theorem upd_den {d : Nat} {xs : List LX} {i : Nat} {x : LX} {k : Option IntKind} (hx : xs[i]? = some x) (hk : match k with | some k => ∃ y, x = .n k y | none => ∃ y, x = .t y) : (leafX d i k).den (e.upd d xs) = x.den e := by
  cases k with
  | none => obtain ⟨y, rfl⟩ := hk; simp [leafX, LX.den, SX.den, Env.upd, hx]
  | some k => obtain ⟨y, rfl⟩ := hk; simp [leafX, LX.den, SX.den, Env.upd, hx]
theorem havoc_sats {d : Nat} {vs : List Value} {tm : List VX} (hs : Sats e tm vs) : ∀ (sl : List (Nat × Option IntKind)) (j : Nat), (∀ (i t : Nat) (k : Option IntKind), sl[i]? = some (t, k) → ∀ v, vs[t]? = some v → v = (leafX d (j + i) k).den e) → Sats e (havocT d tm j sl) vs
  | [], _, _ => hs
  | (t, k) :: r, j, h => by
    unfold havocT
    refine Sats.set' t (havoc_sats hs r (j + 1) fun i t' k' hi v hv => ?_) fun v hv => ?_
    · rw [show j + 1 + i = j + (i + 1) by omega]
      exact h (i + 1) t' k' (by simpa using hi) v hv
    · exact h 0 t k rfl v hv
theorem off_upd (e : Env) (d : Nat) (xs : List LX) : Env.off (fun x => decide (x < d)) e (e.upd d xs) := fun x hx => by
  simp only [decide_eq_true_eq] at hx
  have : ¬ x = d := by omega
  simp [Env.upd, this]
theorem off_agr {d : Nat} (h : Env.agr d e e') : Env.off (fun x => decide (x < d)) e e' := fun x hx => by
  simp only [decide_eq_true_eq] at hx
  have := h x hx
  exact ⟨this.1.symm, this.2.1.symm, this.2.2.1.symm, this.2.2.2.symm⟩
theorem Env.agr_refl (n : Nat) (e : Env) : Env.agr n e e := fun _ _ => ⟨rfl, rfl, rfl, rfl⟩
theorem Env.agr_trans {n m : Nat} {e0 e1 e2 : Env} (h : Env.agr n e0 e1) (h' : Env.agr m e1 e2) (hm : n ≤ m) : Env.agr n e0 e2 := fun x hx => by
  have h1 := h x hx
  have h2 := h' x (by omega)
  exact ⟨h2.1.trans h1.1, h2.2.1.trans h1.2.1, h2.2.2.1.trans h1.2.2.1, h2.2.2.2.trans h1.2.2.2⟩
theorem Env.agr_upd (e : Env) (d : Nat) (xs : List LX) : Env.agr d e (e.upd d xs) := fun x hx => by
  have : ¬ x = d := by omega
  simp [Env.upd, this]
theorem sameT_sats {ok : Nat → Bool} {e2 : Env} (ho : Env.off ok e' e2) : ∀ {xs ys : List VX} {vs : List Value}, sameT xs ys = true → xs.all (·.fr ok) = true → Sats e' ys vs → Sats e2 xs vs
  | [], [], vs, _, _, h => by cases vs with | nil => trivial | cons _ _ => exact h.elim
  | x :: xs, y :: ys, [], _, _, h => h.elim
  | x :: xs, y :: ys, v :: vs, hs, hf, h => by
    simp only [sameT, Bool.and_eq_true, Bool.or_eq_true, beq_iff_eq] at hs
    simp only [List.all_cons, Bool.and_eq_true] at hf
    refine ⟨?_, sameT_sats ho hs.2 hf.2 h.2⟩
    rcases hs.1 with rfl | rfl
    · trivial
    · exact VX.sat_off ho _ hf.1 _ h.1
  | [], _ :: _, _, hs, _, _ => by simp [sameT] at hs
  | _ :: _, [], _, hs, _, _ => by simp [sameT] at hs
end
section
variable {P : Program} {C : List (Con P)} {I : List (Nat → Env → Prop)}
theorem Oks.base {n0 d : Nat} {e0 e1 : Env} {os : List Ob} (h : Oks C I n0 e0 os) (h1 : Env.agr n0 e0 e1) (hd : n0 ≤ d) : Oks C I d e1 os := fun ob hm => by
  have := h ob hm
  cases ob with
  | cl cd x => exact fun e he hc => this e (Env.agr_trans h1 he hd) hc
  | pre cd k args => exact fun e he hc => this e (Env.agr_trans h1 he hd) hc
  | inv cd k d' xs => exact fun e he hc => this e (Env.agr_trans h1 he hd) hc
theorem Rel.rebase {G G' : Cfg} {e0 e1 e : Env} {w0 w : World} {s : St} {a : Act} (h : Rel C I G e0 w0 e s a w) (hx : Env.agr G'.n0 e1 e) : Rel C I G' e1 w0 e s a w := ⟨h.df, h.tm, h.hp, h.inj, h.rw, h.bl, h.cd, hx⟩
theorem numAt_val {e : Env} {s : St} {a : Act} (ht : Sats e s.tm a.tmps.toList) {t : Nat} {x : SX} (h : numAt s t = some x) : ∃ k, a.tmps[t]? = some (.int k (x.den e).1) := by
  unfold numAt at h
  split at h
  · rename_i k x' hx
    simp only [Option.some.injEq] at h
    subst h
    obtain ⟨v, hv, hs⟩ := ht.get hx
    simp only [VX.sat] at hs
    subst hs
    exact ⟨k, by rw [← Array.getElem?_toList]; exact hv⟩
  · cases h
theorem roundX_mem {k d : Nat} {sl : List (Nat × Option IntKind)} {c : Nat} {up : SX} {tm0 : List VX} {h : St} {hp0 : List Bk} {rw0 : List Rw} : ∀ {es r : List (Ex × St)} {os : List Ob}, roundX k d sl c up tm0 h hp0 rw0 es = some (r, os) → ∀ {y : Ex} {s : St}, (y, s) ∈ es →
    (y ≠ .nor → (y, s) ∈ r) ∧ (y = .nor → ∃ xs x x', slotsX s sl = some xs ∧ numAt h c = some x ∧ numAt s c = some x' ∧ sameT tm0 s.tm = true ∧ (∀ b ∈ hp0, b ∈ s.hp) ∧ rw0 = s.rw ∧ x.fr (fun z => decide (z < d + 1)) = true ∧ Ob.inv s.cd k d xs ∈ os ∧ Ob.cl s.cd (.mkC .lss x x') ∈ os ∧ Ob.cl s.cd (.mkC .lss x up) ∈ os)
  | (y0, s0) :: es, r, os, hr, y, s, hm => by
    unfold roundX at hr
    split at hr
    · rename_i heq; cases heq
    · rename_i s1 r1 heq
      cases heq
      split at hr
      · rename_i xs x x' b y1 h1 h2 h3 h4
        split at hr
        · rename_i hc
          simp only [Option.some.injEq, Prod.mk.injEq] at hr
          obtain ⟨rfl, rfl⟩ := hr
          rcases List.mem_cons.1 hm with hm | hm
          · cases hm
            refine ⟨fun hn => absurd rfl hn, fun _ => ⟨xs, x, x', h1, h2, h3, hc.1, fun b hb => ?_, hc.2.2.1, hc.2.2.2, List.mem_cons_self .., List.mem_cons_of_mem _ (List.mem_cons_self ..), List.mem_cons_of_mem _ (List.mem_cons_of_mem _ (List.mem_cons_self ..))⟩⟩
            have := List.all_eq_true.1 hc.2.1 b hb
            simpa using this
          · obtain ⟨i1, i2⟩ := roundX_mem h4 hm
            refine ⟨i1, fun hn => ?_⟩
            obtain ⟨xs', z, z', q1, q2, q3, q4, q5, q6, q7, q8, q9, q10⟩ := i2 hn
            exact ⟨xs', z, z', q1, q2, q3, q4, q5, q6, q7, List.mem_cons_of_mem _ (List.mem_cons_of_mem _ (List.mem_cons_of_mem _ q8)), List.mem_cons_of_mem _ (List.mem_cons_of_mem _ (List.mem_cons_of_mem _ q9)), List.mem_cons_of_mem _ (List.mem_cons_of_mem _ (List.mem_cons_of_mem _ q10))⟩
        · cases hr
      · cases hr
    · rename_i z r1 hne heq
      cases heq
      obtain ⟨⟨b1, y1⟩, h2, hp⟩ := opt_map hr
      simp only [Prod.mk.injEq] at hp
      obtain ⟨rfl, rfl⟩ := hp
      rcases List.mem_cons.1 hm with hm | hm
      · cases hm
        exact ⟨fun _ => List.mem_cons_self .., fun hx => by subst hx; exact absurd rfl (hne _)⟩
      · obtain ⟨i1, i2⟩ := roundX_mem h2 hm
        exact ⟨fun hn => List.mem_cons_of_mem _ (i1 hn), i2⟩
/-- A loop by its invariant. -/
theorem loopX_sound {w0 : World} {G : Cfg} {e0 e : Env} {s : St} {a : Act} {w : World} {c : Code} {k t : Nat} {sl : List (Nat × Option IntKind)} {up : SX} {xs : List LX} {es r : List (Ex × St)} {os os' : List Ob}
    (hsl : slotsX s sl = some xs) (hn : G.n0 ≤ s.nx) (hfr : s.fr (fun x => decide (x < s.nx)) = true) (hup : up.fr (fun x => decide (x < s.nx)) = true)
    (hbody : ∀ e1 a w, Oks C I (s.nx + 1) e1 os → Rel C I { G with n0 := s.nx + 1 } e1 w0 e1 { s with tm := havocT s.nx (anyT s.tm (sl.map (·.1) ++ dstsX c)) 0 sl, cd := .g s.nx k :: s.cd, nx := s.nx + 1 } a w → c.wp P (Post C I { G with n0 := s.nx + 1 } e1 w0 es) a w)
    (hr : roundX k s.nx sl t up (anyT s.tm (sl.map (·.1) ++ dstsX c)) { s with tm := havocT s.nx (anyT s.tm (sl.map (·.1) ++ dstsX c)) 0 sl } s.hp s.rw es = some (r, os'))
    (hob : Oks C I G.n0 e0 (.inv s.cd k s.nx xs :: os ++ os')) (hR : Rel C I G e0 w0 e s a w) : (Code.loop c).wp P (Post C I G e0 w0 r) a w := by
  have hob1 : Oks C I G.n0 e0 os := hob.sub fun o ho => List.mem_append_left _ (List.mem_cons_of_mem _ ho)
  have hob2 : Oks C I G.n0 e0 os' := hob.sub fun o ho => List.mem_append_right _ ho
  have hinv0 := hob _ (List.mem_append_left _ (List.mem_cons_self ..))
  have hfr' := hfr
  simp only [St.fr, Bool.and_eq_true] at hfr'
  obtain ⟨⟨⟨f1, f2⟩, f3⟩, f4⟩ := hfr'
  have htm0 := anyT_fr f1 (sl.map (·.1) ++ dstsX c)
  have ok0 : ∀ x, x < G.n0 → decide (x < s.nx) = true := fun x hx => by simp; omega
  -- a state at the head, out of one that differs in the slots
  have head : ∀ (e1 : Env) (a1 : Act) (w1 : World) (ys : List LX) (s1 : St), Env.agr s.nx e e1 → slotsX s1 sl = some ys → Sats e1 s1.tm a1.tmps.toList → Sats (e1.upd s.nx ys) (anyT s.tm (sl.map (·.1) ++ dstsX c)) a1.tmps.toList → a1.defers = [] →
      (∀ b ∈ s.hp, w0.heap.size ≤ e1.adr b.id ∧ Blk w1 (e1.adr b.id) b.ty (b.cs.map (·.den e1)).toArray) → s.hp.Pairwise (fun x y => e1.adr x.id ≠ e1.adr y.id) →
      (∀ r ∈ s.rw, r.ok e1 w1 ∧ ∀ b ∈ s.hp, 0 < (r.len.den e1).1.toNat → ∀ ad, e1.base r.id = some ad → ad.block ≠ e1.adr b.id) → Below w0.heap.size w0 w1 →
      (∃ i, I[k]? = some i ∧ i s.nx ((e1.upd s.nx ys).cut s.nx)) →
      ∃ e2, Env.agr s.nx e e2 ∧ Rel C I { G with n0 := s.nx + 1 } e2 w0 e2 { s with tm := havocT s.nx (anyT s.tm (sl.map (·.1) ++ dstsX c)) 0 sl, cd := .g s.nx k :: s.cd, nx := s.nx + 1 } a1 w1 := by
    intro e1 a1 w1 ys s1 hag hys hs1 hsat hdf hhp hinj hrw hbl hinv
    have hag2 : Env.agr s.nx e (e1.upd s.nx ys) := Env.agr_trans hag (Env.agr_upd e1 s.nx ys) (Nat.le_refl _)
    have hoff := off_upd e1 s.nx ys
    have hb : ∀ b ∈ s.hp, b.id < s.nx ∧ b.cs.map (·.den e1) = b.cs.map (·.den (e1.upd s.nx ys)) := fun b hb => by
      have := List.all_eq_true.1 f2 b hb
      simp only [Bk.fr, Bool.and_eq_true, decide_eq_true_eq] at this
      exact ⟨this.1, map_den_off hoff _ this.2⟩
    have hadr : ∀ b ∈ s.hp, e1.adr b.id = (e1.upd s.nx ys).adr b.id := fun b _ => rfl
    refine ⟨e1.upd s.nx ys, hag2, hdf, ?_, fun b hm => ?_, hinj, fun r hr => ?_, hbl, fun x hx => ?_, Env.agr_refl _ _⟩
    · refine havoc_sats hsat sl 0 fun i t' k' hi v hv => ?_
      obtain ⟨x, h1, h2, h3⟩ := slotsX_get hys i t' k' hi
      obtain ⟨v', hv', hsv⟩ := hs1.get h2
      rw [hv] at hv'
      cases hv'
      simp only [VX.sat, PX.den] at hsv
      rw [hsv, Nat.zero_add, upd_den h1 h3]
    · show _ ∧ Blk w1 (e1.adr b.id) b.ty (b.cs.map (·.den (e1.upd s.nx ys))).toArray
      rw [← (hb b hm).2]
      exact hhp b hm
    · have hfrr := List.all_eq_true.1 f3 r hr
      have h1 := hrw r hr
      refine ⟨Rw.ok_off hoff hfrr h1.1, fun b hm => ?_⟩
      simp only [Rw.fr, Bool.and_eq_true] at hfrr
      rw [← SX.den_off hoff _ hfrr.2]
      exact h1.2 b hm
    · rcases List.mem_cons.1 hx with rfl | hx
      · exact hinv
      · exact Cd.holds_off C I (off_agr hag2) x (List.all_eq_true.1 f4 x hx) (hR.cd x hx)
  obtain ⟨e2, hag2, hR2⟩ := head e a w xs s (Env.agr_refl _ _) hsl hR.tm ((anyT_sats hR.tm _).off (off_upd e s.nx xs) htm0) hR.df hR.hp hR.inj hR.rw hR.bl (hinv0 e hR.ex hR.cd)
  refine wp_loop (fun a w => ∃ e1, Env.agr s.nx e e1 ∧ Rel C I { G with n0 := s.nx + 1 } e1 w0 e1 { s with tm := havocT s.nx (anyT s.tm (sl.map (·.1) ++ dstsX c)) 0 sl, cd := .g s.nx k :: s.cd, nx := s.nx + 1 } a w)
    (fun a _ => match a.tmps[t]? with | some (.int _ x) => ((up.den e).1 - x).toNat | _ => 0) ⟨e2, hag2, hR2⟩ fun a1 w1 hI => ?_
  obtain ⟨e1, hag1, hR1⟩ := hI
  have hb1 : Env.agr G.n0 e0 e1 := Env.agr_trans hR.ex hag1 hn
  refine wp_mono (hbody e1 a1 w1 (hob1.base hb1 (by omega)) hR1) fun x a' w' hp => ?_
  obtain ⟨y, s', hm, rfl, e', hR'⟩ := hp
  have hag' : Env.agr (s.nx + 1) e1 e' := hR'.ex
  have hage' : Env.agr s.nx e e' := Env.agr_trans hag1 hag' (by omega)
  have hb' : Env.agr G.n0 e0 e' := Env.agr_trans hb1 hag' (by omega)
  obtain ⟨i1, i2⟩ := roundX_mem hr hm
  cases y with
  | ex id => exact ⟨_, s', i1 (by simp), rfl, e', hR'.rebase hb'⟩
  | rt => exact ⟨_, s', i1 (by simp), rfl, e', hR'.rebase hb'⟩
  | nor =>
    obtain ⟨ys, z, z', q1, q2, q3, q4, q5, q6, q7, q8, q9, q10⟩ := i2 rfl
    have hoff1 : Env.off (fun x => decide (x < s.nx)) e' (e'.upd s.nx ys) := off_upd e' s.nx ys
    refine ⟨?_, ?_⟩
    · refine head e' a' w' ys s' hage' q1 hR'.tm (sameT_sats hoff1 q4 htm0 hR'.tm) hR'.df (fun b hb => hR'.hp b (q5 b hb)) ?_ (fun r hr => ?_) hR'.bl (hob2 _ q8 e' hb' hR'.cd)
      · refine hR1.inj.imp_of_mem fun {x y} hx hy hxy => ?_
        have hxa := List.all_eq_true.1 f2 x hx
        have hya := List.all_eq_true.1 f2 y hy
        simp only [Bk.fr, Bool.and_eq_true, decide_eq_true_eq] at hxa hya
        rw [(hag' x.id (by omega)).2.2.1, (hag' y.id (by omega)).2.2.1]
        exact hxy
      · have hr' : r ∈ s'.rw := by rw [← q6]; exact hr
        exact ⟨(hR'.rw r hr').1, fun b hb => (hR'.rw r hr').2 b (q5 b hb)⟩
    · have hz := hob2 _ q9 e' hb' hR'.cd
      have hu := hob2 _ q10 e' hb' hR'.cd
      have hz' := lss_den hz
      have hu' := lss_den hu
      have e3 : (z.den e').1 = (z.den e1).1 := by rw [SX.den_off (off_agr hag') z q7]
      have e4 : (up.den e').1 = (up.den e).1 := by rw [SX.den_off (off_agr hage') up hup]
      obtain ⟨k1, v1⟩ := numAt_val hR1.tm q2
      obtain ⟨k2, v2⟩ := numAt_val hR'.tm q3
      simp only [v1, v2]
      omega
theorem execX_sound {w0 : World} (hmix : P.follows .mixedOrders = true) : ∀ (n : Nat) (c : Code) (s : St) (G : Cfg) (e0 e : Env) (a : Act) (w : World) (es : List (Ex × St)) (os : List Ob), C.map (·.sg) = G.sg → execX P G n c s = some (es, os) → Oks C I G.n0 e0 os → Rel C I G e0 w0 e s a w → c.wp P (Post C I G e0 w0 es) a w
  | 0, _, _, _, _, _, _, _, _, _, _, h, _, _ => by unfold execX at h; cases h
  | n + 1, c, s, G, e0, e, a, w, es, os, hS, h, hob, hR => by
    cases c with
    | skip =>
      unfold execX at h
      simp only [Option.some.injEq, Prod.mk.injEq] at h
      obtain ⟨rfl, rfl⟩ := h
      exact wp_skip ⟨.nor, s, List.mem_singleton.2 rfl, rfl, e, hR⟩
    | exit id =>
      unfold execX at h
      simp only [Option.some.injEq, Prod.mk.injEq] at h
      obtain ⟨rfl, rfl⟩ := h
      exact wp_exit ⟨.ex id, s, List.mem_singleton.2 rfl, rfl, e, hR⟩
    | ret =>
      unfold execX at h
      simp only [Option.some.injEq, Prod.mk.injEq] at h
      obtain ⟨rfl, rfl⟩ := h
      exact wp_ret ⟨.rt, s, List.mem_singleton.2 rfl, rfl, e, hR⟩
    | region id ops draw =>
      unfold execX at h
      obtain ⟨⟨ss, o1⟩, h1, hp⟩ := opt_map h
      simp only [Prod.mk.injEq] at hp
      obtain ⟨rfl, rfl⟩ := hp
      refine wp_mono (regionX_sound hS hmix h1 hob hR) fun x a' w' hx => ?_
      obtain ⟨rfl, s', hm, e', hR'⟩ := hx
      exact ⟨.nor, s', List.mem_map.2 ⟨s', hm, rfl⟩, rfl, e', hR'⟩
    | seq x y =>
      unfold execX at h
      split at h
      · rename_i es1 o1 h1
        obtain ⟨⟨r, o2⟩, h2, hp⟩ := opt_map h
        simp only [Prod.mk.injEq] at hp
        obtain ⟨rfl, rfl⟩ := hp
        refine wp_seq (wp_mono (execX_sound hmix n x s G e0 e a w es1 o1 hS h1 hob.left hR) ?_)
        exact then_post h2 fun s' r' o' e' a' w' h3 h4 h5 hR' => wp_mono (execX_sound hmix n y s' G e0 e' a' w' r' o' hS h3 (hob.right.sub h5) hR') (Post.mono h4)
      · cases h
    | cond c x y =>
      unfold execX at h
      split at h
      · rename_i g hg
        have hc := evP_sound hR.kn0 hg
        simp only [PX.den, LX.den] at hc
        split at h
        · rename_i ha
          rw [ask_sound hR.cd ha] at hc
          exact wp_cond_true hc (execX_sound hmix n x s G e0 e a w es os hS h hob hR)
        · rename_i ha
          rw [ask_sound hR.cd ha] at hc
          exact wp_cond_false hc (execX_sound hmix n y s G e0 e a w es os hS h hob hR)
        · split at h
          · rename_i r1 o1 r2 o2 h1 h2
            simp only [Option.some.injEq, Prod.mk.injEq] at h
            obtain ⟨rfl, rfl⟩ := h
            refine wp_cond_split hc (fun ht => ?_) fun ht => ?_
            · exact wp_mono (execX_sound hmix n x _ G e0 e a w r1 o1 hS h1 hob.left (hR.conds (addCd_holds g true ht))) (Post.mono fun z hz => List.mem_append_left _ hz)
            · exact wp_mono (execX_sound hmix n y _ G e0 e a w r2 o2 hS h2 hob.right (hR.conds (addCd_holds g false ht))) (Post.mono fun z hz => List.mem_append_right _ hz)
          · cases h
      · cases h
    | block id c =>
      unfold execX at h
      obtain ⟨⟨es1, o1⟩, h1, hp⟩ := opt_map h
      simp only [Prod.mk.injEq] at hp
      obtain ⟨rfl, rfl⟩ := hp
      refine wp_block (wp_mono (execX_sound hmix n c s G e0 e a w es1 o1 hS h1 hob hR) fun x a' w' hx => ?_)
      obtain ⟨y, s', hm, rfl, e', hR'⟩ := hx
      cases y with
      | nor => exact ⟨.nor, s', List.mem_map.2 ⟨_, hm, by simp⟩, rfl, e', hR'⟩
      | rt => exact ⟨.rt, s', List.mem_map.2 ⟨_, hm, by simp⟩, rfl, e', hR'⟩
      | ex id' =>
        show if id' = id then _ else _
        by_cases hid : id' = id
        · subst hid
          rw [if_pos rfl]
          exact ⟨.nor, s', List.mem_map.2 ⟨_, hm, by simp⟩, rfl, e', hR'⟩
        · rw [if_neg hid]
          exact ⟨.ex id', s', List.mem_map.2 ⟨_, hm, by simp [hid]⟩, rfl, e', hR'⟩
    | loop c =>
      unfold execX at h
      split at h
      · rename_i k sl t up hlp
        dsimp only at h
        split at h
        · rename_i xs hxs
          split at h
          · rename_i hc
            split at h
            · rename_i es1 o1 h1
              obtain ⟨⟨r, o2⟩, h2, hp⟩ := opt_map h
              simp only [Prod.mk.injEq] at hp
              obtain ⟨rfl, rfl⟩ := hp
              exact loopX_sound hxs hc.1 hc.2.1 hc.2.2 (fun e1 a1 w1 ho hr => execX_sound hmix n c _ _ e1 e1 a1 w1 es1 o1 hS h1 ho hr) h2 hob hR
            · cases h
          · cases h
        · cases h
      · refine wp_loop_rounds n (unrollX_sound (fun s es os e a w h1 h2 h3 => execX_sound hmix n c s G e0 e a w es os hS h1 h2 h3) n s es es os e a w h (fun z hz => hz) hob hR)
    | _ => unfold execX at h; cases h

/-! ### Functions. -/
def resF (tmps : Array Value) : ResultVar → Sem Value
  | .tmp t => pure (tmps.getD t undef)
  | .cell a t => do loadVar t (← asAddr (tmps.getD a undef))
theorem results_eq (fn : Func) (tmps : Array Value) : results fn tmps = (do let vs ← fn.results.mapM (resF tmps); pure (if h : vs.size = 1 then vs[0] else .tuple vs)) := by
  have : (fun x : ResultVar => (match x with | .tmp t => pure (tmps.getD t undef) | .cell a t => do loadVar t (← asAddr (tmps.getD a undef)) : Sem Value)) = resF tmps := by
    funext x; cases x <;> rfl
  rw [← this]
  rfl
theorem resX_go {e : Env} {s : St} {a : Act} {w : World} {G : Cfg} {e0 : Env} {w0 : World} (hR : Rel C I G e0 w0 e s a w) : ∀ {rs : List ResultVar} {ps : List PX}, resX.go P s rs = some ps →
    (rs.mapM (resF a.tmps)).run P w = Result.ok (ps.map (·.den e)) w
  | [], ps, h => by simp only [resX.go, Option.some.injEq] at h; subst h; simp
  | .tmp t :: r, ps, h => by
    unfold resX.go at h
    split at h
    · rename_i p ps' h1 h2
      simp only [Option.some.injEq] at h
      subst h
      obtain ⟨v, hv, hs⟩ := hR.tm.get h1
      have : a.tmps.getD t undef = p.den e := by
        rw [Array.getD_eq_getD_getElem?, ← Array.getElem?_toList, hv]; exact hs
      simp only [List.mapM_cons, resF, Sem.run_bind, Sem.run_pure, Result.andThen_ok, resX_go hR h2, this, List.map_cons]
    · cases h
  | .cell t ty :: r, ps, h => by
    unfold resX.go at h
    split at h
    · rename_i d o ps' h1 h2
      split at h
      · rename_i v hv
        simp only [Option.some.injEq] at h
        subst h
        obtain ⟨u, hu, hs⟩ := hR.tm.get h1
        obtain ⟨ad, had, hl⟩ := loadX_sound hR hv (fun x hx => (List.not_mem_nil hx).elim)
        have : a.tmps.getD t undef = .pointer (some ad) := by
          rw [Array.getD_eq_getD_getElem?, ← Array.getElem?_toList, hu]
          simp only [VX.sat, PX.den] at hs
          rw [hs, had]; rfl
        have h3 : (resF a.tmps (.cell t ty)).run P w = .ok (v.den e) w := by simp only [resF, Sem.run_bind, this, asAddr, Sem.run_pure, Result.andThen_ok, hl]
        simp only [List.mapM_cons, Sem.run_bind, h3, Sem.run_pure, Result.andThen_ok, resX_go hR h2, List.map_cons]
      · cases h
    · cases h
theorem resX_sound {e : Env} {s : St} {a : Act} {w : World} {G : Cfg} {e0 : Env} {w0 : World} {fn : Func} (hR : Rel C I G e0 w0 e s a w) {v : VX} (h : resX P fn s = some v) : ∃ u, v.sat e u ∧ (results fn a.tmps).run P w = .ok u w := by
  have one : ∀ (r : ResultVar) (p : PX), fn.results.toList = [r] → resX.go P s [r] = some [p] → (results fn a.tmps).run P w = .ok (p.den e) w := fun r p hr hg => by
    have := resX_go hR hg
    have hfr : fn.results = #[r] := by apply Array.ext'; simpa using hr
    simp only [List.map_cons, List.map_nil] at this
    rw [results_eq, Sem.run_bind, hfr, Array.mapM_eq_mapM_toList, Sem.run_map, this]
    simp
  unfold resX at h
  split at h
  · rename_i hr
    simp only [Option.some.injEq] at h
    subst h
    have hfr : fn.results = #[] := by apply Array.ext'; simpa using hr
    exact ⟨_, rfl, by simp [results, hfr]⟩
  · rename_i t hr
    split at h
    · rename_i p hp
      simp only [Option.some.injEq] at h
      subst h
      exact ⟨_, rfl, one _ p hr (by simp [resX.go, hp])⟩
    · cases h
  · rename_i t ty hr
    split at h
    · rename_i d o hp
      split at h
      · rename_i v' hv
        simp only [Option.some.injEq] at h
        subst h
        exact ⟨_, rfl, one _ v' hr (by simp [resX.go, hp, hv])⟩
      · cases h
    · cases h
  · rename_i rs h0 h1 h2
    obtain ⟨ps, hps, rfl⟩ := opt_map h
    have := resX_go hR hps
    refine ⟨_, rfl, ?_⟩
    have hl : ps.length = fn.results.toList.length := go_len hps
    have hne : ¬ ps.length = 1 := by
      rw [hl]
      intro h1'
      match hrs : fn.results.toList, h1' with
      | [.tmp t], _ => exact h1 t hrs
      | [.cell t ty], _ => exact h2 t ty hrs
    rw [results_eq, Sem.run_bind, Array.mapM_eq_mapM_toList, Sem.run_map, this]
    simp [hne]
where
  go_len {s : St} : ∀ {rs : List ResultVar} {ps : List PX}, resX.go P s rs = some ps → ps.length = rs.length
    | [], ps, h => by simp only [resX.go, Option.some.injEq] at h; subst h; rfl
    | .tmp t :: r, ps, h => by
      unfold resX.go at h
      split at h
      · rename_i p ps' h1 h2
        simp only [Option.some.injEq] at h
        subst h
        simp [go_len h2]
      · cases h
    | .cell t ty :: r, ps, h => by
      unfold resX.go at h
      split at h
      · rename_i d o ps' h1 h2
        split at h
        · simp only [Option.some.injEq] at h; subst h; simp [go_len h2]
        · cases h
      · cases h
theorem leavesX_mem {fn : Func} : ∀ {es : List (Ex × St)} {ls : List Lf}, leavesX P fn es = some ls → ∀ {y : Ex} {s : St}, (y, s) ∈ es → (∀ id, y ≠ .ex id) ∧ ∃ v, resX P fn s = some v ∧ ⟨s.cd, v⟩ ∈ ls
  | (y0, s0) :: es, ls, h, y, s, hm => by
    unfold leavesX at h
    split at h
    · rename_i heq; cases heq
    · rename_i heq; cases h
    · rename_i y1 s1 r1 hne heq
      cases heq
      split at h
      · rename_i v l h1 h2
        simp only [Option.some.injEq] at h
        subst h
        rcases List.mem_cons.1 hm with hm | hm
        · cases hm
          exact ⟨fun id hid => by subst hid; exact hne _ rfl, v, h1, List.mem_cons_self ..⟩
        · obtain ⟨i1, v', i2, i3⟩ := leavesX_mem h2 hm
          exact ⟨i1, v', i2, List.mem_cons_of_mem _ i3⟩
      · cases h
/-- THE LAW: a call of a function that the machine has run. -/
theorem calls_of_sx (hmix : P.follows .mixedOrders = true) {G : Cfg} (hS : C.map (·.sg) = G.sg) {f : FuncId} {fn : Func} (hf : P.funcs[f]? = some fn) {fuel : Nat} {args : List PX} {rws : List Rw} {ls : List Lf} {os : List Ob}
    (hrun : funcX P G fuel fn args rws = some (ls, os)) (e0 : Env) (w0 : World) (hrw : ∀ r ∈ rws, r.ok e0 w0) (hob : Oks C I G.n0 e0 os) (R : Ending → World → Prop)
    (hl : ∀ l ∈ ls, ∀ e u w', Env.agr G.n0 e0 e → (∀ c ∈ l.cd, c.holds C I e) → l.v.sat e u → Below w0.heap.size w0 w' → R (.returned u) w') : Calls P f (args.map (·.den e0)).toArray w0 R := by
  unfold funcX at hrun
  split at hrun
  · rename_i c hc
    split at hrun
    · rename_i es o1 h1
      obtain ⟨ls', h2, hp⟩ := opt_map hrun
      simp only [Prod.mk.injEq] at hp
      obtain ⟨rfl, rfl⟩ := hp
      have hob' : Oks C I G.n0 e0 o1 := hob.sub fun o ho => mem_dedup ho
      refine calls_of_wp hf hc (wp_mono (execX_sound hmix fuel c _ G e0 e0 _ w0 es o1 hS h1 hob' ⟨rfl, ?_, fun b hb => (List.not_mem_nil hb).elim, List.Pairwise.nil, fun r hr => ⟨hrw r hr, fun b hb => (List.not_mem_nil hb).elim⟩, Below.refl _ _, fun c hc => (List.not_mem_nil hc).elim, Env.agr_refl _ _⟩) fun x a w hx => ?_)
      · have : ∀ (ps : List PX) (n : Nat), Sats e0 (ps.map .v ++ List.replicate n .un) (ps.map (·.den e0) ++ List.replicate n undef) := by
          intro ps
          induction ps with
          | nil =>
            intro n
            induction n with
            | zero => trivial
            | succ n ih => exact ⟨rfl, ih⟩
          | cons p ps ih => intro n; exact ⟨rfl, ih n⟩
        simpa using this args (fn.ntmps - args.length)
      · obtain ⟨y, s, hm, rfl, e, hR⟩ := hx
        obtain ⟨i1, v, i2, i3⟩ := leavesX_mem h2 hm
        obtain ⟨u, hu, hr⟩ := resX_sound hR i2
        have fin : a.defers = [] ∧ ∃ v, (results fn a.tmps).run P w = .ok v w ∧ R (.returned v) w := ⟨hR.df, u, hr, hl _ i3 e u w hR.ex hR.cd hu hR.bl⟩
        cases y with
        | nor => exact fin
        | rt => exact fin
        | ex id => exact absurd rfl (i1 id)
    · cases hrun
  · cases hrun
end
end Go.Proofs.Ytjhdjclcfmcilaa
