/-
  The machine on terms is right: operations without memory, the rest. No program.
-/
import Derived.Test.YtjhdjclcfmcilaaSx4
namespace Go.Proofs.Ytjhdjclcfmcilaa
open Go.ChangeShapes Go.WideShapes Go.ChangeAt Go.RowKit
set_option linter.unusedVariables false
section
variable {P : Program} {C : List (Con P)} {I : List (Nat → Env → Prop)} {e : Env} {s : St} {hs : List SX} {a : Act} {w : World}
theorem fieldAt_sound {t : TypeId} {f : Nat} {fs : Array Field} {fd : Field} {fi : TypeInfo} (hu : P.underlying t = some (.struct fs)) (hf : fs[f]? = some fd) (hi : P.info? fd.type = some fi) (h0 : ¬ fi.size = 0) (ad : Addr) :
    Yi P (Instr.fieldAt t (.pointer (some ad)) f) (.pointer (some (ad.add fd.offset))) := fun w => by
  simp only [Instr.fieldAt, Sem.run_bind, run_underlying hu, Result.andThen_ok, hf, Instr.sureAddr, Sem.run_pure, fieldPlace, run_size hi, h0, if_false]
theorem indexAt_array_sound {t el : TypeId} {len : Nat} {ie : TypeInfo} {k : IntKind} {i : Int} (hu : P.underlying t = some (.array len el)) (hi : P.info? el = some ie) (h0 : 0 ≤ i) (h1 : i < len) (ad : Addr) :
    Yi P (Instr.indexAt t (.pointer (some ad)) (.int k i)) (.pointer (some (ad.add (i.toNat * ie.size)))) := fun w => by
  simp [Instr.indexAt, asIntOf, run_underlying hu, Instr.sureAddr, h0, h1, run_size hi]
theorem indexAt_slice_sound {t el : TypeId} {len cap : Nat} {ie : TypeInfo} {k : IntKind} {i : Int} (hu : P.underlying t = some (.slice el)) (hi : P.info? el = some ie) (h0 : 0 ≤ i) (h1 : i < len) (ad : Addr) :
    Yi P (Instr.indexAt t (.slice (some ad) len cap) (.int k i)) (.pointer (some (ad.add (i.toNat * ie.size)))) := fun w => by
  simp [Instr.indexAt, asIntOf, run_underlying hu, h0, h1, run_size hi]
theorem fill_sound {place : Nat → Option (Nat × Nat)} : ∀ {parts : List (Nat × PX)} {cells cs : List LX}, fillX place cells parts = some cs →
    Instr.fill place (cells.map (·.den e)).toArray (parts.map fun p => (p.1, p.2.den e)) = some (cs.map (·.den e)).toArray
  | [], cells, cs, h => by simp only [fillX, Option.some.injEq] at h; subst h; rfl
  | (i, v) :: rest, cells, cs, h => by
    unfold fillX at h
    cases hp : place i with
    | none => rw [hp] at h; cases h
    | some os =>
      obtain ⟨off, size⟩ := os
      rw [hp] at h
      dsimp only at h
      split at h
      · rename_i hc
        have ih := fill_sound h
        have h1 : ¬ ((v.den e).cells.size ≠ size ∨ off + (v.den e).cells.size > (cells.map (·.den e)).toArray.size) := by
          rw [PX.cells_den]; simp only [List.size_toArray, List.length_map]; omega
        have hset : ∀ (vs : List Value) (j : Nat) (cs : Array Value), off + j + vs.length ≤ cs.size → (vs.zipIdx j).foldl (fun cs (x : Value × Nat) => cs.setIfInBounds (off + x.2) x.1) cs = (cs.toList.take (off + j) ++ vs ++ cs.toList.drop (off + j + vs.length)).toArray := by
          intro vs
          induction vs with
          | nil => intro j cs _; simp
          | cons x vs ihv =>
            intro j cs hl
            simp only [List.length_cons] at hl
            rw [List.zipIdx_cons, List.foldl_cons, ihv (j + 1) _ (by simp; omega)]
            apply Array.ext'
            simp only [Array.toList_setIfInBounds, List.length_cons]
            have hl' : off + j < cs.toList.length := by simp; omega
            rw [← Nat.add_assoc, List.take_succ_eq_append_getElem (by simp; omega), List.getElem_set_self, List.take_set_of_le (by omega), List.drop_set_of_lt (by omega), show off + j + 1 + vs.length = off + j + (vs.length + 1) by omega]
            simp
        have h2 := hset (v.cells.map (·.den e)) 0 (cells.map (·.den e)).toArray (by simp only [List.length_map, List.size_toArray]; omega)
        simp only [List.map_cons, Instr.fill, hp, Nat.add_zero, List.length_map] at h2 ⊢
        rw [if_neg (by simpa using h1), PX.cells_den]
        rw [← ih]
        congr 1
        rw [← Array.foldl_toList, Array.toList_zipIdx]
        rw [h2, hc.1]
        simp
      · cases h
theorem placesX_eq : ∀ {fs : List Field} {ps : List (Nat × Nat)}, placesX P fs = some ps → fs.mapM (fun f => (P.info? f.type).map fun i => (f.offset, i.size)) = some ps
  | [], ps, h => by simp only [placesX, Option.some.injEq] at h; subst h; rfl
  | f :: fs, ps, h => by
    unfold placesX at h
    split at h
    · rename_i i ps' h1 h2
      simp only [Option.some.injEq] at h
      subst h
      simp [List.mapM_cons, h1, placesX_eq h2]
    · cases h
theorem buildX_sound {t : TypeId} {parts : List (Nat × PX)} {cs : List LX} (h : buildX P t parts = some cs) : P.built t (parts.map fun p => (p.1, p.2.den e)) = some (cs.map (·.den e)).toArray := by
  unfold buildX at h
  unfold Program.built
  split at h
  · rename_i it len el hi hu
    split at h
    · rename_i z ie hz hie
      split at h
      · rename_i zs hzs
        have := fill_sound (e := e) h
        rw [ofLs_den hzs] at this
        simp only [hi, hu, hz, hie]
        exact this
      · cases h
    · cases h
  · rename_i it fields hi hu
    split at h
    · rename_i z places hz hpl
      split at h
      · rename_i zs hzs
        have := fill_sound (e := e) h
        rw [ofLs_den hzs] at this
        simp only [hi, hu, hz, placesX_eq hpl]
        exact this
      · cases h
    · cases h
  · cases h
theorem partsX_den (ht : Kn C I e s hs a) : ∀ {xs : List (Nat × Operand)} {ps : List (Nat × PX)}, partsX hs s xs = some ps → xs.map (fun p => (p.1, a.eval p.2)) = ps.map fun p => (p.1, p.2.den e)
  | [], ps, h => by simp only [partsX, Option.some.injEq] at h; subst h; rfl
  | (i, x) :: xs, ps, h => by
    unfold partsX at h
    split at h
    · rename_i p ps' h1 h2
      simp only [Option.some.injEq] at h
      subst h
      rw [List.map_cons, List.map_cons, partsX_den ht h2, evP_sound ht h1]
    · cases h
theorem opt_map {α β : Type} {f : α → β} {x : Option α} {y : β} (h : x.map f = some y) : ∃ a, x = some a ∧ f a = y := by
  cases x with
  | none => cases h
  | some a => exact ⟨a, rfl, by simpa using h⟩
theorem geZ_den {x : SX} (h : ((geZ x).den e).2 = true) : 0 ≤ (x.den e).1 := by
  unfold geZ at h
  rw [SX.mkC_den] at h
  have h2 : decide ((0 : Int) ≤ (x.den e).1) = true := h
  simpa using h2
theorem lss_den {x y : SX} (h : ((SX.mkC .lss x y).den e).2 = true) : (x.den e).1 < (y.den e).1 := by
  rw [SX.mkC_den] at h
  simpa [cmI] using h
/-- What an operation without memory yields. -/
theorem evPure_sound {o : Oper} {v : VX} {xs : List SX} (ht : Kn C I e s hs a)
    (hb : ∀ r ∈ s.rw, 0 < (r.len.den e).1.toNat → ∃ ad, e.base r.id = some ad)
    (h : evPure P hs s o.op = some (v, xs)) (hx : ∀ x ∈ xs, (x.den e).2 = true) : ∃ u, v.sat e u ∧ ∀ w, (execOp a.eval o).run P w = .ok (.value u) w := by
  obtain ⟨dst, op, type, pos, after, guard⟩ := o
  dsimp only at h
  cases op <;> (unfold evPure at h; try dsimp only at h) <;> try (cases h; done)
  case move x =>
    obtain ⟨y, hy, hv⟩ := opt_map h
    simp only [Prod.mk.injEq] at hv
    obtain ⟨rfl, rfl⟩ := hv
    exact ⟨_, evV_sound ht hy, fun w => by simp [execOp]⟩
  case assign x =>
    obtain ⟨y, hy, hv⟩ := opt_map h
    simp only [Prod.mk.injEq] at hv
    obtain ⟨rfl, rfl⟩ := hv
    exact ⟨_, evV_sound ht hy, fun w => by simp [execOp]⟩
  case pick c x y =>
    split at h
    · rename_i g hg
      have hg' := evP_sound ht hg
      have ex : ∀ w, (execOp a.eval ⟨dst, .pick c x y, type, pos, after, guard⟩).run P w = .ok (.value (if (g.den e).2 = true then a.eval x else a.eval y)) w := fun w => by
        simp only [execOp, hg', PX.den, LX.den, asBool, Sem.run_bind, Sem.run_pure, Result.andThen_ok]
      split at h
      · rename_i ha
        obtain ⟨z, hz, hv⟩ := opt_map h
        simp only [Prod.mk.injEq] at hv
        obtain ⟨rfl, rfl⟩ := hv
        exact ⟨_, evV_sound (ht.more (ask_sound ht.cd ha)) hz, fun w => by rw [ex, ask_sound ht.cd ha, if_pos rfl]⟩
      · rename_i ha
        obtain ⟨z, hz, hv⟩ := opt_map h
        simp only [Prod.mk.injEq] at hv
        obtain ⟨rfl, rfl⟩ := hv
        exact ⟨_, evV_sound (ht.more (by rw [SX.mkNo_den, ask_sound ht.cd ha]; rfl)) hz, fun w => by rw [ex, ask_sound ht.cd ha, if_neg (by simp)]⟩
      · split at h
        · rename_i y1 y2 h1 h2
          simp only [Option.some.injEq, Prod.mk.injEq] at h
          obtain ⟨rfl, rfl⟩ := h
          refine ⟨_, rfl, fun w => ?_⟩
          rw [ex]
          cases hgd : (g.den e).2
          · rw [if_neg (by simp), evP_sound (ht.more (by rw [SX.mkNo_den, hgd]; rfl)) h2]
            simp [PX.den, LX.den, SX.mkSel_den, hgd]
          · rw [if_pos rfl, evP_sound (ht.more hgd) h1]
            simp [PX.den, LX.den, SX.mkSel_den, hgd]
        · cases h
    · cases h
  case unOp p t x =>
    cases p <;> dsimp only at h <;> try (cases h; done)
    case neg =>
      split at h
      · rename_i k y hy
        simp only [Option.some.injEq, Prod.mk.injEq] at h
        obtain ⟨rfl, rfl⟩ := h
        exact ⟨_, rfl, fun w => by simp [execOp, evP_sound ht hy, PX.den, LX.den, Op.unary, Op.intArith, SX.mkO_den, arI, SX.den]⟩
      · cases h
    case not =>
      split at h
      · rename_i y hy
        simp only [Option.some.injEq, Prod.mk.injEq] at h
        obtain ⟨rfl, rfl⟩ := h
        exact ⟨_, rfl, fun w => by simp [execOp, evP_sound ht hy, PX.den, LX.den, Op.unary, SX.mkNo_den]⟩
      · cases h
  case binOp p t x y yt =>
    split at h
    · rename_i k z k' z' h1 h2
      obtain ⟨u, hu, hy⟩ := binI_sound (P := P) (e := e) (t := t) h hx
      refine ⟨u, hu, fun w => ?_⟩
      have := binOp_guard (x := x) (y := y) (a_ := .int k (z.den e).1) (b_ := .int k' (z'.den e).1) ⟨_, _, _, _, rfl, rfl⟩ hy w
      simp only [execOp, evP_sound ht h1, evP_sound ht h2, PX.den, LX.den]
      rw [Sem.run_bind, this]
      simp
    · rename_i z z' h1 h2
      split at h
      · rename_i hu
        simp only [Option.some.injEq, Prod.mk.injEq] at h
        obtain ⟨rfl, rfl⟩ := h
        refine ⟨_, rfl, fun w => ?_⟩
        simp [execOp, evP_sound ht h1, evP_sound ht h2, PX.den, LX.den, eqGuard, binOp, Op.equal, Op.maxDepth, run_equalIn_bool w _ t _ _ hu, SX.mkEq_den]
      · rename_i hu
        simp only [Option.some.injEq, Prod.mk.injEq] at h
        obtain ⟨rfl, rfl⟩ := h
        refine ⟨_, rfl, fun w => ?_⟩
        simp [execOp, evP_sound ht h1, evP_sound ht h2, PX.den, LX.den, eqGuard, binOp, Op.equal, Op.maxDepth, run_equalIn_bool w _ t _ _ hu, SX.mkEq_den, SX.mkNo_den]
      · cases h
    · rename_i zs zs' h1 h2
      split at h
      · cases h
      · rename_i hg
        split at h
        · rename_i p' g hq
          simp only [Option.some.injEq, Prod.mk.injEq] at h
          obtain ⟨rfl, rfl⟩ := h
          have e1 := evP_sound ht h1
          have e2 := evP_sound ht h2
          simp only [PX.den] at e1 e2
          have r : ∀ w, (Op.equalIn 10000 t (.agg (zs.map (LX.den e)).toArray) (.agg (zs'.map (LX.den e)).toArray)).run P w = .ok (g.den e).2 w := fun w => eqX_sound (e := e) 6 t _ _ g hq 9994 w
          refine ⟨_, rfl, fun w => ?_⟩
          show _ = Result.ok (Next.value (.bool (g.den e).2)) w
          simp only [execOp, e1, e2, Sem.run_bind, run_eqGuard_agg w _ t x y _ _ (by simpa using hg), Result.andThen_ok, run_eql_struct, r, Sem.run_pure]
        · rename_i p' g hq
          simp only [Option.some.injEq, Prod.mk.injEq] at h
          obtain ⟨rfl, rfl⟩ := h
          have e1 := evP_sound ht h1
          have e2 := evP_sound ht h2
          simp only [PX.den] at e1 e2
          have r : ∀ w, (Op.equalIn 10000 t (.agg (zs.map (LX.den e)).toArray) (.agg (zs'.map (LX.den e)).toArray)).run P w = .ok (g.den e).2 w := fun w => eqX_sound (e := e) 6 t _ _ g hq 9994 w
          refine ⟨_, rfl, fun w => ?_⟩
          show _ = Result.ok (Next.value (.bool (g.mkNo.den e).2)) w
          simp only [execOp, e1, e2, Sem.run_bind, run_eqGuard_agg w _ t x y _ _ (by simpa using hg), Result.andThen_ok, run_neq_struct, r, Sem.run_pure, SX.mkNo_den]
        · cases h
    · cases h
  case convert src dst' x =>
    split at h
    · rename_i d1 k k1 y hu1 hu2 hy
      simp only [Option.some.injEq, Prod.mk.injEq] at h
      obtain ⟨rfl, rfl⟩ := h
      exact ⟨_, rfl, fun w => by simp [execOp, evP_sound ht hy, PX.den, LX.den, convert, run_underlying hu1, run_underlying hu2, Conv.intToInt, SX.mkCv_den]⟩
    · cases h
  case fieldAddr t x f =>
    split at h
    · rename_i fs hu
      split at h
      · rename_i fd hf
        split at h
        · rename_i fi hi
          split at h
          · cases h
          · rename_i h0
            have fa := fieldAt_sound hu hf hi h0
            split at h
            · rename_i d o hy
              simp only [Option.some.injEq, Prod.mk.injEq] at h
              obtain ⟨rfl, rfl⟩ := h
              refine ⟨_, rfl, fun w => ?_⟩
              have := fa ⟨e.adr d, o, none⟩ w
              simp [execOp, evP_sound ht hy, PX.den, LX.den, this, add_mid]
            · rename_i d o n sz i o2 hy
              simp only [Option.some.injEq, Prod.mk.injEq] at h
              obtain ⟨rfl, rfl⟩ := h
              refine ⟨_, rfl, fun w => ?_⟩
              have := fa ⟨e.adr d, o + (i.den e).1.toNat * sz + o2, none⟩ w
              simp only [add_mid, Nat.add_assoc] at this
              simp only [execOp, evP_sound ht hy, PX.den, LX.den, Sem.run_bind, Nat.add_assoc, this, Result.andThen_ok, Sem.run_pure]
            · rename_i d sz i o hy
              simp only [Option.some.injEq, Prod.mk.injEq] at h
              obtain ⟨rfl, rfl⟩ := h
              refine ⟨_, rfl, fun w => ?_⟩
              have := fa (((e.base d).getD default).add ((i.den e).1.toNat * sz + o)) w
              simp [execOp, evP_sound ht hy, PX.den, LX.den, this, add_add, Nat.add_assoc]
            · cases h
        · cases h
      · cases h
    · cases h
  case indexAddr t x ix =>
    split at h
    · rename_i len el d o k i hu hy hi
      split at h
      · rename_i ie n hie
        split at h
        · rename_i hn
          simp only [Option.some.injEq, Prod.mk.injEq] at h
          obtain ⟨rfl, rfl⟩ := h
          refine ⟨_, rfl, fun w => ?_⟩
          have := indexAt_array_sound (k := k) hu hie hn.1 hn.2 ⟨e.adr d, o, none⟩ w
          simp [execOp, evP_sound ht hy, evP_sound ht hi, PX.den, LX.den, SX.den, this, add_mid]
        · cases h
      · rename_i ie i' hie _
        simp only [Option.some.injEq, Prod.mk.injEq] at h
        obtain ⟨rfl, rfl⟩ := h
        have g1 := geZ_den (hx _ (List.mem_cons_self ..))
        have g2 := lss_den (hx _ (List.mem_cons_of_mem _ (List.mem_cons_self ..)))
        simp only [SX.den] at g2
        refine ⟨_, rfl, fun w => ?_⟩
        have := indexAt_array_sound (k := k) hu hie g1 g2 ⟨e.adr d, o, none⟩ w
        simp [execOp, evP_sound ht hy, evP_sound ht hi, PX.den, LX.den, this, add_mid]
      · cases h
    · rename_i len el d sz y o k i hu hy hi
      split at h
      · rename_i ie n hie
        split at h
        · rename_i hn
          simp only [Option.some.injEq, Prod.mk.injEq] at h
          obtain ⟨rfl, rfl⟩ := h
          refine ⟨_, rfl, fun w => ?_⟩
          have := indexAt_array_sound (k := k) hu hie hn.1 hn.2 (((e.base d).getD default).add ((y.den e).1.toNat * sz + o)) w
          simp [execOp, evP_sound ht hy, evP_sound ht hi, PX.den, LX.den, SX.den, this, add_add, Nat.add_assoc]
        · cases h
      · cases h
    · rename_i el d len cap k i hu hy hi
      split at h
      · rename_i ie r hie hr
        split at h
        · rename_i hrl
          simp only [Option.some.injEq, Prod.mk.injEq] at h
          obtain ⟨rfl, rfl⟩ := h
          have g1 := geZ_den (hx _ (List.mem_cons_self ..))
          have g2 := lss_den (hx _ (List.mem_cons_of_mem _ (List.mem_cons_self ..)))
          have hm := List.mem_of_find?_eq_some hr
          have hid : r.id = d := by simpa using List.find?_some hr
          obtain ⟨ad, had⟩ := hb r hm (by rw [hrl]; omega)
          rw [hid] at had
          refine ⟨_, rfl, fun w => ?_⟩
          have := indexAt_slice_sound (k := k) (len := (len.den e).1.toNat) (cap := (cap.den e).1.toNat) hu hie g1 (by omega) ad w
          simp [execOp, evP_sound ht hy, evP_sound ht hi, PX.den, LX.den, had, this]
        · cases h
      · cases h
    · cases h
  case field t x f =>
    split at h
    · rename_i fs zs hu hy
      split at h
      · rename_i fd hf
        split at h
        · rename_i n hn
          simp only [Option.some.injEq, Prod.mk.injEq] at h
          obtain ⟨rfl, rfl⟩ := h
          obtain ⟨d, i, hu2, hd, hi, hs⟩ := rowT_spec hn
          refine ⟨_, rfl, fun w => ?_⟩
          have : (part fd.type (zs.map (·.den e)).toArray fd.offset).run P w = .ok (PX.den e (.a ((zs.drop fd.offset).take n))) w := by
            simp only [part, Sem.run_bind, run_isAgg hu2, hd, Result.andThen_ok, if_true, run_size hi, Sem.run_pure, hs, extract_map, PX.den]
          simp [execOp, evP_sound ht hy, PX.den, Instr.field, run_underlying hu, hf, asAgg] at this ⊢
          simp [this]
        · rename_i hnone
          split at h
          · rename_i hl
            obtain ⟨y, hz, hv⟩ := opt_map h
            simp only [Prod.mk.injEq] at hv
            obtain ⟨rfl, rfl⟩ := hv
            have hp : partX P fd.type zs fd.offset = some (.l y) := by
              unfold partX
              simp only [hnone, hl, if_true, hz, Option.map_some]
            refine ⟨_, rfl, fun w => ?_⟩
            have := partX_sound (e := e) hp w
            simp [execOp, evP_sound ht hy, PX.den, Instr.field, run_underlying hu, hf, asAgg] at this ⊢
            simp [this]
          · cases h
      · cases h
    · cases h
  case build t parts =>
    split at h
    · rename_i ps hps
      obtain ⟨cs, hcs, hv⟩ := opt_map h
      simp only [Prod.mk.injEq] at hv
      obtain ⟨rfl, rfl⟩ := hv
      have hb := buildX_sound (e := e) hcs
      rw [← partsX_den ht hps] at hb
      refine ⟨_, rfl, fun w => ?_⟩
      have r := run_build (P := P) w t (parts.map fun (i, x) => (i, a.eval x)) _ (by rw [← hb]; simp)
      simp [execOp, r, PX.den]
    · cases h
  case extract x i =>
    split at h
    · rename_i ps hps
      obtain ⟨p, hp, hv⟩ := opt_map h
      simp only [Prod.mk.injEq] at hv
      obtain ⟨rfl, rfl⟩ := hv
      have he : a.eval x = _ := evV_sound ht hps
      exact ⟨_, rfl, fun w => by simp [execOp, he, Instr.extract, hp]⟩
    · cases h
  case nilCheck x =>
    split at h
    · rename_i d o hy
      simp only [Option.some.injEq, Prod.mk.injEq] at h
      obtain ⟨rfl, rfl⟩ := h
      exact ⟨_, rfl, fun w => by simp [execOp, evP_sound ht hy, PX.den, LX.den]⟩
    · cases h
  case call c =>
    obtain ⟨callee, args, argTypes⟩ := c
    cases callee with
    | value f => cases h
    | invoke r m => cases h
    | builtin b =>
      cases b <;> dsimp only at h <;> try (cases h; done)
      case len =>
        split at h
        · rename_i x t hxs ht0
          have hargs : args = #[x] := by apply Array.ext'; simp [hxs]
          subst hargs
          split at h
          · rename_i el d n cap hu hy
            simp only [Option.some.injEq, Prod.mk.injEq] at h
            obtain ⟨rfl, rfl⟩ := h
            have g1 := geZ_den (hx _ (List.mem_cons_self ..))
            have hn : ((n.den e).1.toNat : Int) = (n.den e).1 := by omega
            refine ⟨_, rfl, fun w => ?_⟩
            simp [execOp, resolve, invoke, builtin, Builtin.len_, ht0, evP_sound ht hy, PX.den, LX.den, run_underlying hu, goInt, hn]
          · rename_i el hu hy
            simp only [Option.some.injEq, Prod.mk.injEq] at h
            obtain ⟨rfl, rfl⟩ := h
            refine ⟨_, rfl, fun w => ?_⟩
            simp [execOp, resolve, invoke, builtin, Builtin.len_, ht0, evP_sound ht hy, PX.den, LX.den, run_underlying hu, goInt, SX.den]
          · cases h
        · cases h
      case max =>
        split at h
        · rename_i k z k' z' hps
          split at h
          · rename_i hk
            subst hk
            simp only [Option.some.injEq, Prod.mk.injEq] at h
            obtain ⟨rfl, rfl⟩ := h
            have hm := evPs_sound ht hps
            simp only [List.map_cons, List.map_nil, PX.den, LX.den] at hm
            refine ⟨_, rfl, fun w => ?_⟩
            have hm' : (args.map a.eval).toList = [.int k (z.den e).1, .int k (z'.den e).1] := by rw [Array.toList_map, hm]
            simp [execOp, resolve, invoke, builtin, Builtin.max_, hm, Builtin.max2, PX.den, LX.den, SX.den]
          · cases h
        · cases h
      case min =>
        split at h
        · rename_i k z k' z' hps
          split at h
          · rename_i hk
            subst hk
            simp only [Option.some.injEq, Prod.mk.injEq] at h
            obtain ⟨rfl, rfl⟩ := h
            have hm := evPs_sound ht hps
            simp only [List.map_cons, List.map_nil, PX.den, LX.den] at hm
            refine ⟨_, rfl, fun w => ?_⟩
            simp [execOp, resolve, invoke, builtin, Builtin.min_, hm, Builtin.min2, PX.den, LX.den, SX.den]
          · cases h
        · cases h
end
end Go.Proofs.Ytjhdjclcfmcilaa
