/-
  The machine on terms is right: memory and calls. No program.
-/
import Derived.Test.YtjhdjclcfmcilaaSx5
namespace Go.Proofs.Ytjhdjclcfmcilaa
open Go.ChangeShapes Go.WideShapes Go.ChangeAt Go.RowKit
set_option linter.unusedVariables false

def Env.agr (n : Nat) (e0 e : Env) : Prop := ∀ d, d < n → e.int d = e0.int d ∧ e.bool d = e0.bool d ∧ e.adr d = e0.adr d ∧ e.base d = e0.base d
theorem Env.agr_off {ok : Nat → Bool} {n : Nat} {e0 e e' : Env} (h : Env.agr n e0 e) (ho : Env.off ok e e') (hd : ∀ x, x < n → ok x = true) : Env.agr n e0 e' := fun x hx => by
  have h1 := h x hx
  have h2 := ho x (hd x hx)
  exact ⟨h2.1.symm.trans h1.1, h2.2.1.symm.trans h1.2.1, h2.2.2.1.symm.trans h1.2.2.1, h2.2.2.2.symm.trans h1.2.2.2⟩
/-- What a state of terms says of a frame and a world. -/
structure Rel {P : Program} (C : List (Con P)) (I : List (Nat → Env → Prop)) (G : Cfg) (e0 : Env) (w0 : World) (e : Env) (s : St) (a : Act) (w : World) : Prop where
  df : a.defers = []
  tm : Sats e s.tm a.tmps.toList
  hp : ∀ b ∈ s.hp, w0.heap.size ≤ e.adr b.id ∧ Blk w (e.adr b.id) b.ty (b.cs.map (·.den e)).toArray
  inj : s.hp.Pairwise fun x y => e.adr x.id ≠ e.adr y.id
  rw : ∀ r ∈ s.rw, r.ok e w ∧ ∀ b ∈ s.hp, 0 < (r.len.den e).1.toNat → ∀ ad, e.base r.id = some ad → ad.block ≠ e.adr b.id
  bl : Below w0.heap.size w0 w
  cd : ∀ c ∈ s.cd, c.holds C I e
  ex : Env.agr G.n0 e0 e
def Env.upd (e : Env) (d : Nat) (xs : List LX) : Env :=
  { e with
    int := fun x => if x = d then fun j => match xs[j]? with | some (.n _ y) => (y.den e).1 | _ => 0 else e.int x
    bool := fun x => if x = d then fun j => match xs[j]? with | some (.t y) => (y.den e).2 | _ => false else e.bool x }
def Ob.ok {P : Program} (C : List (Con P)) (I : List (Nat → Env → Prop)) (n0 : Nat) (e0 : Env) : Ob → Prop
  | .cl cd x => ∀ e, Env.agr n0 e0 e → (∀ c ∈ cd, c.holds C I e) → (x.den e).2 = true
  | .pre cd k args => ∀ e, Env.agr n0 e0 e → (∀ c ∈ cd, c.holds C I e) → ∃ c, C[k]? = some c ∧ c.pre (args.map (·.dat e))
  | .inv cd k d xs => ∀ e, Env.agr n0 e0 e → (∀ c ∈ cd, c.holds C I e) → ∃ i, I[k]? = some i ∧ i d ((e.upd d xs).cut d)

section
variable {P : Program} {C : List (Con P)} {I : List (Nat → Env → Prop)} {G : Cfg} {e0 e e' : Env} {w0 w w' : World} {s : St} {a : Act}
theorem Rw.ok_off {ok : Nat → Bool} (h : Env.off ok e e') {r : Rw} (hf : r.fr ok = true) (hr : r.ok e w) : r.ok e' w := by
  simp only [Rw.fr, Bool.and_eq_true] at hf
  unfold Rw.ok at hr ⊢
  rw [← SX.den_off h _ hf.2, ← (h _ hf.1).1, ← (h _ hf.1).2.1, ← (h _ hf.1).2.2.2]
  exact hr
theorem Rel.off {ok : Nat → Bool} (hR : Rel C I G e0 w0 e s a w) (h : Env.off ok e e') (hf : s.fr ok = true) (hd : ∀ x, x < G.n0 → ok x = true) : Rel C I G e0 w0 e' s a w := by
  simp only [St.fr, Bool.and_eq_true] at hf
  obtain ⟨⟨⟨f1, f2⟩, f3⟩, f4⟩ := hf
  have hb : ∀ b ∈ s.hp, ok b.id = true ∧ b.cs.map (·.den e) = b.cs.map (·.den e') := fun b hb => by
    have := List.all_eq_true.1 f2 b hb
    simp only [Bk.fr, Bool.and_eq_true] at this
    exact ⟨this.1, map_den_off h _ this.2⟩
  refine ⟨hR.df, hR.tm.off h f1, fun b hm => ?_, ?_, fun r hr => ?_, hR.bl, fun c hc => ?_, Env.agr_off hR.ex h hd⟩
  · have := hR.hp b hm
    rw [← (h _ (hb b hm).1).2.2.1, ← (hb b hm).2]; exact this
  · refine hR.inj.imp_of_mem fun {x y} hx hy hxy => ?_
    rw [← (h _ (hb x hx).1).2.2.1, ← (h _ (hb y hy).1).2.2.1]; exact hxy
  · have hfr := List.all_eq_true.1 f3 r hr
    have h1 := hR.rw r hr
    refine ⟨Rw.ok_off h hfr h1.1, fun b hm => ?_⟩
    simp only [Rw.fr, Bool.and_eq_true] at hfr
    rw [← SX.den_off h _ hfr.2, ← (h _ hfr.1).2.2.2, ← (h _ (hb b hm).1).2.2.1]
    exact h1.2 b hm
  · exact Cd.holds_off C I h c (List.all_eq_true.1 f4 c hc) (hR.cd c hc)
theorem Rel.put (hR : Rel C I G e0 w0 e s a w) {v : VX} {u : Value} (hu : v.sat e u) (dst : Option Tmp) : Rel C I G e0 w0 e (s.put dst v) (a.put dst u) w := by
  cases dst with
  | none => exact hR
  | some t =>
    refine ⟨hR.df, ?_, hR.hp, hR.inj, hR.rw, hR.bl, hR.cd, hR.ex⟩
    show Sats e (s.tm.set t v) (a.tmps.setIfInBounds t u).toList
    rw [Array.toList_setIfInBounds]
    exact hR.tm.set t hu
theorem Rel.owed (hR : Rel C I G e0 w0 e s a w) {xs : List SX} (ho : ∀ ob ∈ owe s xs, ob.ok C I G.n0 e0) : ∀ x ∈ xs, (x.den e).2 = true := fun x hx => by
  by_cases hk : ask s.cd x = some true
  · exact ask_sound hR.cd hk
  · have hm : Ob.cl s.cd x ∈ owe s xs := by
      unfold owe
      exact List.mem_map.2 ⟨x, List.mem_filter.2 ⟨hx, by simpa using hk⟩, rfl⟩
    exact ho _ hm e hR.ex hR.cd
theorem Rel.base (hR : Rel C I G e0 w0 e s a w) : ∀ r ∈ s.rw, 0 < (r.len.den e).1.toNat → ∃ ad, e.base r.id = some ad := fun r hr hl => by
  obtain ⟨ad, h, _⟩ := (hR.rw r hr).1 0 hl
  exact ⟨ad, h⟩
theorem Rel.alloc0 (hR : Rel C I G e0 w0 e s a w) {id t : Nat} {cs : List LX} (hid : e.adr id = w.heap.size) : Rel C I G e0 w0 e { s with hp := ⟨id, t, cs⟩ :: s.hp } a (w.alloc (.cells (cs.map (·.den e)).toArray t)) := by
  have hlt : ∀ b ∈ s.hp, e.adr b.id < w.heap.size := fun b hb => (hR.hp b hb).2.lt
  refine ⟨hR.df, hR.tm, fun b hb => ?_, ?_, fun r hr => ?_, hR.bl.alloc hR.bl.size _, hR.cd, hR.ex⟩
  · rcases List.mem_cons.1 hb with rfl | hb
    · exact ⟨by rw [hid]; exact hR.bl.size, by rw [hid]; exact Blk.new _ _ _⟩
    · exact ⟨(hR.hp b hb).1, (hR.hp b hb).2.alloc _⟩
  · refine List.pairwise_cons.2 ⟨fun b hb => ?_, hR.inj⟩
    have := hlt b hb
    show e.adr id ≠ _
    omega
  · have h1 := hR.rw r hr
    refine ⟨h1.1.keep (by simp) fun p _ hp => World.cell?_alloc_lt w _ p hp, fun b hb hl ad had => ?_⟩
    rcases List.mem_cons.1 hb with rfl | hb
    · obtain ⟨ad', h, hlt', _⟩ := h1.1 0 hl
      rw [had] at h
      cases h
      show ad.block ≠ e.adr id
      omega
    · exact h1.2 b hb hl ad had
theorem insBk_perm (b : Bk) : ∀ (l : List Bk), (insBk b l).Perm (b :: l)
  | [] => List.Perm.refl _
  | c :: cs => by
    unfold insBk
    split
    · exact List.Perm.refl _
    · exact ((insBk_perm b cs).cons c).trans (List.Perm.swap b c cs)
theorem Rel.perm (hR : Rel C I G e0 w0 e s a w) {l : List Bk} (h : l.Perm s.hp) : Rel C I G e0 w0 e { s with hp := l } a w :=
  ⟨hR.df, hR.tm, fun b hb => hR.hp b (h.mem_iff.1 hb), (h.pairwise_iff (fun {x y} hxy => Ne.symm hxy)).2 hR.inj, fun r hr => ⟨(hR.rw r hr).1, fun b hb => (hR.rw r hr).2 b (h.mem_iff.1 hb)⟩, hR.bl, hR.cd, hR.ex⟩
theorem Rel.alloc (hR : Rel C I G e0 w0 e s a w) {id t : Nat} {cs : List LX} (hid : e.adr id = w.heap.size) : Rel C I G e0 w0 e { s with hp := insBk ⟨id, t, cs⟩ s.hp } a (w.alloc (.cells (cs.map (·.den e)).toArray t)) :=
  (hR.alloc0 (t := t) (cs := cs) hid).perm (insBk_perm _ _)
theorem Rel.grow (hR : Rel C I G e0 w0 e s a w) (hb : Below w.heap.size w w') : Rel C I G e0 w0 e s a w' :=
  ⟨hR.df, hR.tm, fun b hm => ⟨(hR.hp b hm).1, (hR.hp b hm).2.call hb⟩, hR.inj, fun r hr => ⟨(hR.rw r hr).1.below hb, (hR.rw r hr).2⟩, hR.bl.trans (hb.mono hR.bl.size), hR.cd, hR.ex⟩
theorem Rel.drew (hR : Rel C I G e0 w0 e s a w) : Rel C I G e0 w0 e s a w.drew :=
  ⟨hR.df, hR.tm, fun b hm => ⟨(hR.hp b hm).1, (hR.hp b hm).2.drew⟩, hR.inj, fun r hr => ⟨(hR.rw r hr).1, (hR.rw r hr).2⟩, hR.bl.drew, hR.cd, hR.ex⟩
theorem Rel.conds (hR : Rel C I G e0 w0 e s a w) {cs : List Cd} (h : ∀ c ∈ cs, c.holds C I e) : Rel C I G e0 w0 e { s with cd := cs ++ s.cd } a w :=
  ⟨hR.df, hR.tm, hR.hp, hR.inj, hR.rw, hR.bl, fun c hc => by rcases List.mem_append.1 hc with hc | hc; exact h c hc; exact hR.cd c hc, hR.ex⟩
theorem Rel.nx (hR : Rel C I G e0 w0 e s a w) (n : Nat) : Rel C I G e0 w0 e { s with nx := n } a w := ⟨hR.df, hR.tm, hR.hp, hR.inj, hR.rw, hR.bl, hR.cd, hR.ex⟩

theorem Rel.kn (hR : Rel C I G e0 w0 e s a w) {hs : List SX} (h : ∀ x ∈ hs, (x.den e).2 = true) : Kn C I e s hs a := ⟨hR.tm, hR.cd, h⟩
theorem Rel.kn0 (hR : Rel C I G e0 w0 e s a w) : Kn C I e s [] a := hR.kn fun _ h => (List.not_mem_nil h).elim

/-! ### Loads. -/
theorem sizeT_spec {t : TypeId} {row : Bool} {m : Nat} (h : sizeT P t = some (row, m)) : ∃ d, P.underlying t = some d ∧ d.isRow = row ∧ (row = true → ∃ i, P.info? t = some i ∧ i.size = m) ∧ (row = false → m = 1) := by
  unfold sizeT at h
  split at h
  · rename_i n hn
    simp only [Option.some.injEq, Prod.mk.injEq] at h
    obtain ⟨rfl, rfl⟩ := h
    obtain ⟨d, i, hu, hd, hi, hs⟩ := rowT_spec hn
    exact ⟨d, hu, hd, fun _ => ⟨i, hi, hs⟩, fun h => by cases h⟩
  · split at h
    · rename_i hl
      simp only [Option.some.injEq, Prod.mk.injEq] at h
      obtain ⟨rfl, rfl⟩ := h
      obtain ⟨d, hu, hd⟩ := leafT_spec hl
      exact ⟨d, hu, hd, (fun h => by cases h), fun _ => rfl⟩
    · cases h
theorem run_loadVar_at {t : TypeId} {row : Bool} {m : Nat} (h : sizeT P t = some (row, m)) (ad : Addr) (cs : List Value) (hl : cs.length = m) (hc : ∀ j v, cs[j]? = some v → w.cell? (ad.add j) = some v) :
    (loadVar t ad).run P w = .ok (if row then .agg cs.toArray else cs.headD undef) w := by
  obtain ⟨d, hu, hd, h1, h2⟩ := sizeT_spec h
  cases row with
  | true =>
    obtain ⟨i, hi, hs⟩ := h1 rfl
    have := run_loadCells_list (P := P) w ad cs hc
    simp only [loadVar, Sem.run_bind, run_isAgg hu, hd, Result.andThen_ok, if_true, run_size hi, hs, ← hl, this, Sem.run_pure]
  | false =>
    have hm := h2 rfl
    subst hm
    match cs, hl with
    | [v], _ =>
      have h0 := hc 0 v rfl
      have : ad.add 0 = ad := rfl
      rw [this] at h0
      simp only [loadVar, Sem.run_bind, run_isAgg hu, hd, Result.andThen_ok, Bool.false_eq_true, if_false, load, Sem.run, h0, List.headD_cons]
theorem asVal_den {row : Bool} {cs : List LX} {v : PX} (h : asVal row cs = some v) : v.den e = if row then .agg (cs.map (·.den e)).toArray else (cs.map (·.den e)).headD undef := by
  unfold asVal at h
  cases row with
  | true => simp only [if_true, Option.some.injEq] at h; subst h; rfl
  | false =>
    simp only [Bool.false_eq_true, if_false] at h
    split at h
    · simp only [Option.some.injEq] at h; subst h; rfl
    · cases h
theorem numsX_den {k : IntKind} : ∀ {xs : List LX} {ys : List SX}, numsX k xs = some ys → xs = ys.map (.n k)
  | [], ys, h => by simp only [numsX, Option.some.injEq] at h; subst h; rfl
  | .n k' x :: xs, ys, h => by
    unfold numsX at h
    split at h
    · rename_i hk
      subst hk
      obtain ⟨zs, hz, hv⟩ := opt_map h
      subst hv
      rw [List.map_cons, ← numsX_den hz]
    · cases h
  | .t _ :: _, _, h => by cases h
  | .p _ _ :: _, _, h => by cases h
  | .pi _ _ _ _ _ _ :: _, _, h => by cases h
  | .q _ _ _ _ :: _, _, h => by cases h
  | .sl _ _ _ :: _, _, h => by cases h
  | .np :: _, _, h => by cases h
  | .ns :: _, _, h => by cases h
theorem boolsX_den : ∀ {xs : List LX} {ys : List SX}, boolsX xs = some ys → xs = ys.map .t
  | [], ys, h => by simp only [boolsX, Option.some.injEq] at h; subst h; rfl
  | .t x :: xs, ys, h => by
    unfold boolsX at h
    obtain ⟨zs, hz, hv⟩ := opt_map h
    subst hv
    rw [List.map_cons, ← boolsX_den hz]
  | .n _ _ :: _, _, h => by cases h
  | .p _ _ :: _, _, h => by cases h
  | .pi _ _ _ _ _ _ :: _, _, h => by cases h
  | .q _ _ _ _ :: _, _, h => by cases h
  | .sl _ _ _ :: _, _, h => by cases h
  | .np :: _, _, h => by cases h
  | .ns :: _, _, h => by cases h
theorem itsX_den {x : SX} : ∀ (ys : List SX) (k i : Nat) (y : SX), (x.den e).1 = (k + i : Nat) → ys[i]? = some y → (itsX x k ys).den e = y.den e
  | [], _, _, _, _, h => by simp at h
  | [z], k, i, y, _, h => by
    cases i with
    | zero => simp at h; subst h; rfl
    | succ i => simp at h
  | z :: z' :: zs, k, i, y, hx, h => by
    unfold itsX
    cases i with
    | zero =>
      simp at h
      subst h
      simp [SX.den, cmI, hx]
    | succ i =>
      simp only [List.getElem?_cons_succ] at h
      have := itsX_den (z' :: zs) (k + 1) i y (by rw [hx]; congr 1; omega) h
      have hne : ((x.den e).1 == (k : Int)) = false := by rw [beq_eq_false_iff_ne, hx]; omega
      simp only [SX.den, cmI, hne, Bool.false_eq_true, if_false]
      exact this
theorem selS_den {x : SX} {ys : List SX} {i : Nat} {y : SX} (hx : (x.den e).1 = i) (h : ys[i]? = some y) : (selS x ys).den e = y.den e := by
  unfold selS
  split
  · rename_i d j d' j' r
    split
    · rename_i hc
      obtain ⟨rfl, hj, hy⟩ := hc
      rw [hy] at h
      have hl : i < (SX.v d j :: SX.v d j' :: r).length := by
        rcases Nat.lt_or_ge i (SX.v d j :: SX.v d j' :: r).length with h0 | h0
        · exact h0
        · rw [List.getElem?_eq_none (by simpa using h0)] at h; cases h
      rw [List.getElem?_map, List.getElem?_range hl] at h
      simp only [Option.map_some, Option.some.injEq] at h
      subst h
      simp only [SX.den, hx, Int.toNat_natCast]
    · exact itsX_den _ 0 i y (by rw [hx]; congr 1; omega) h
  · exact itsX_den _ 0 i y (by rw [hx]; congr 1; omega) h
theorem selL_den {x : SX} {ys : List LX} {i : Nat} {y z : LX} (hx : (x.den e).1 = i) (h : ys[i]? = some y) (hs : selL x ys = some z) : z.den e = y.den e := by
  unfold selL at hs
  split at hs
  · obtain ⟨l, hl, rfl⟩ := opt_map hs
    rw [numsX_den hl, List.getElem?_map] at h
    obtain ⟨u, hu, rfl⟩ := opt_map h
    simp only [LX.den, selS_den hx hu]
  · obtain ⟨l, hl, rfl⟩ := opt_map hs
    rw [boolsX_den hl, List.getElem?_map] at h
    obtain ⟨u, hu, rfl⟩ := opt_map h
    simp only [LX.den, selS_den hx hu]
  · cases hs
theorem colX_go {cs : List LX} {o sz c : Nat} : ∀ (ks : List Nat) (xs : List LX), colX.go cs o sz c ks = some xs → ∀ (i k : Nat), ks[i]? = some k → ∃ x, cs[o + k * sz + c]? = some x ∧ xs[i]? = some x
  | [], _, _, i, k, h => by simp at h
  | k0 :: ks, xs, h, i, k, hk => by
    unfold colX.go at h
    split at h
    · rename_i x xs' h1 h2
      simp only [Option.some.injEq] at h
      subst h
      cases i with
      | zero => simp at hk; subst hk; exact ⟨x, h1, rfl⟩
      | succ i => simp only [List.getElem?_cons_succ] at hk ⊢; exact colX_go ks xs' h2 i k hk
    · cases h
theorem selsX_den {x : SX} {cs : List LX} {o n sz k : Nat} (hx : (x.den e).1 = k) (hk : k < n) : ∀ (js : List Nat) (ys : List LX), selsX x cs o n sz js = some ys → ys.length = js.length ∧ ∀ (i j : Nat), js[i]? = some j → ∃ c y, cs[o + k * sz + j]? = some c ∧ ys[i]? = some y ∧ y.den e = c.den e
  | [], ys, h => by simp only [selsX, Option.some.injEq] at h; subst h; exact ⟨rfl, fun i j hj => by simp at hj⟩
  | c :: js, ys, h => by
    unfold selsX at h
    split at h
    · rename_i y ys' h1 h2
      simp only [Option.some.injEq] at h
      subst h
      obtain ⟨l1, l2⟩ := selsX_den hx hk js ys' h2
      refine ⟨by simp [l1], fun i j hj => ?_⟩
      cases i with
      | zero =>
        simp at hj
        subst hj
        obtain ⟨col, hcol, hsel⟩ := Option.bind_eq_some_iff.1 h1
        obtain ⟨c', hc', hi⟩ := colX_go (List.range n) col hcol k k (List.getElem?_range hk)
        exact ⟨c', y, hc', rfl, selL_den hx hi hsel⟩
      | succ i => simp only [List.getElem?_cons_succ] at hj ⊢; exact l2 i j hj
    · cases h
theorem rowCells_den {d sz : Nat} {x : SX} {ks : List (Option IntKind)} : ∀ (js : List Nat) (ys : List LX), rowCells d sz x ks js = some ys → ys.length = js.length ∧ ∀ (i j : Nat), js[i]? = some j → ∃ k y, ks[j]? = some k ∧ ys[i]? = some y ∧ y.den e = leafD k (e.int d ((x.den e).1.toNat * sz + j)) (e.bool d ((x.den e).1.toNat * sz + j))
  | [], ys, h => by simp only [rowCells, Option.some.injEq] at h; subst h; exact ⟨rfl, fun i j hj => by simp at hj⟩
  | j0 :: js, ys, h => by
    unfold rowCells at h
    split at h
    · rename_i ys' h1 h2
      simp only [Option.some.injEq] at h
      subst h
      obtain ⟨l1, l2⟩ := rowCells_den js ys' h2
      refine ⟨by simp [l1], fun i j hj => ?_⟩
      cases i with
      | zero => simp at hj; subst hj; exact ⟨_, _, h1, rfl, rfl⟩
      | succ i => simp only [List.getElem?_cons_succ] at hj ⊢; exact l2 i j hj
    · rename_i k ys' h1 h2
      simp only [Option.some.injEq] at h
      subst h
      obtain ⟨l1, l2⟩ := rowCells_den js ys' h2
      refine ⟨by simp [l1], fun i j hj => ?_⟩
      cases i with
      | zero => simp at hj; subst hj; exact ⟨_, _, h1, rfl, rfl⟩
      | succ i => simp only [List.getElem?_cons_succ] at hj ⊢; exact l2 i j hj
    · cases h
theorem blk_cell {g t : Nat} {cs : Array Value} (h : Blk w g t cs) (o j : Nat) : w.cell? ((⟨g, o, none⟩ : Addr).add j) = cs[o + j]? := by
  rw [add_mid]; exact h.walk.1 _
theorem loadX_sound (hR : Rel C I G e0 w0 e s a w) {t : TypeId} {p : LX} {v : PX} {xs : List SX} (h : loadX P s t p = some (v, xs)) (hx : ∀ x ∈ xs, (x.den e).2 = true) : ∃ ad, p.den e = .pointer (some ad) ∧ (loadVar t ad).run P w = .ok (v.den e) w := by
  unfold loadX at h
  split at h
  · cases h
  · rename_i row m hs
    split at h
    · rename_i d o
      split at h
      · rename_i b hb
        split at h
        · rename_i hl
          obtain ⟨v', hv, hp⟩ := opt_map h
          simp only [Prod.mk.injEq] at hp
          obtain ⟨rfl, rfl⟩ := hp
          have hm := List.mem_of_find?_eq_some hb
          have hid : b.id = d := by simpa using List.find?_some hb
          have hB := (hR.hp b hm).2
          rw [hid] at hB
          refine ⟨_, rfl, ?_⟩
          rw [run_loadVar_at hs _ (((b.cs.drop o).take m).map (·.den e)) (by simpa using hl) (fun j u hu => ?_), asVal_den hv]
          rw [blk_cell hB]
          rw [List.getElem?_map] at hu
          obtain ⟨c, hc, rfl⟩ := opt_map hu
          have hj : j < m := by
            rcases Nat.lt_or_ge j m with h0 | h0
            · exact h0
            · rw [List.getElem?_eq_none (by rw [hl]; exact h0)] at hc; cases hc
          rw [List.getElem?_take_of_lt hj, List.getElem?_drop] at hc
          simp [hc]
        · cases h
      · cases h
    · rename_i d o n sz x o2
      split at h
      · rename_i b hb
        split at h
        · rename_i cs hcs
          obtain ⟨v', hv, hp⟩ := opt_map h
          simp only [Prod.mk.injEq] at hp
          obtain ⟨rfl, rfl⟩ := hp
          have g1 := geZ_den (hx _ (List.mem_cons_self ..))
          have g2 := lss_den (hx _ (List.mem_cons_of_mem _ (List.mem_cons_self ..)))
          simp only [SX.den] at g2
          obtain ⟨k, hk⟩ := Int.eq_ofNat_of_zero_le g1
          have hm := List.mem_of_find?_eq_some hb
          have hid : b.id = d := by simpa using List.find?_some hb
          have hB := (hR.hp b hm).2
          rw [hid] at hB
          obtain ⟨l1, l2⟩ := selsX_den hk (by omega) _ _ hcs
          refine ⟨_, rfl, ?_⟩
          rw [run_loadVar_at hs _ (cs.map (·.den e)) (by simpa using l1) (fun j u hu => ?_), asVal_den hv]
          rw [blk_cell hB]
          have hj : j < m := by
            rcases Nat.lt_or_ge j m with h0 | h0
            · exact h0
            · rw [List.getElem?_eq_none (by simp [l1]; exact h0)] at hu; cases hu
          obtain ⟨c, y, h1, h2, h3⟩ := l2 j (o2 + j) (by simp [List.getElem?_range hj])
          rw [List.getElem?_map, h2] at hu
          simp only [Option.map_some, Option.some.injEq] at hu
          rw [← hu, h3]
          simp only [hk, Int.toNat_natCast, List.getElem?_toArray, List.getElem?_map]
          rw [show o + k * sz + o2 + j = o + k * sz + (o2 + j) by omega, h1]
          rfl
        · cases h
      · cases h
    · rename_i d sz x o
      split at h
      · rename_i r hr
        split at h
        · rename_i hsz
          split at h
          · rename_i cs hcs
            obtain ⟨v', hv, hp⟩ := opt_map h
            simp only [Prod.mk.injEq] at hp
            obtain ⟨rfl, rfl⟩ := hp
            have g1 := geZ_den (hx _ (List.mem_cons_self ..))
            have g2 := lss_den (hx _ (List.mem_cons_of_mem _ (List.mem_cons_self ..)))
            have hm := List.mem_of_find?_eq_some hr
            have hid : r.id = d := by simpa using List.find?_some hr
            obtain ⟨ad, had, hlt, hcell⟩ := (hR.rw r hm).1 (x.den e).1.toNat (by omega)
            rw [hid] at had
            obtain ⟨l1, l2⟩ := rowCells_den (e := e) _ _ hcs
            refine ⟨_, rfl, ?_⟩
            rw [run_loadVar_at hs _ (cs.map (·.den e)) (by simpa using l1) (fun j u hu => ?_), asVal_den hv]
            have hj : j < m := by
              rcases Nat.lt_or_ge j m with h0 | h0
              · exact h0
              · rw [List.getElem?_eq_none (by simp [l1]; exact h0)] at hu; cases hu
            obtain ⟨k, y, h1, h2, h3⟩ := l2 j (o + j) (by simp [List.getElem?_range hj])
            rw [List.getElem?_map, h2] at hu
            simp only [Option.map_some, Option.some.injEq] at hu
            rw [← hu, h3, had, Option.getD_some, add_add]
            have := hcell (o + j) k h1
            rw [hsz, hid] at this
            rw [show (x.den e).1.toNat * sz + o + j = (x.den e).1.toNat * sz + (o + j) by omega]
            exact this
          · cases h
        · cases h
      · cases h
    · cases h
end
end Go.Proofs.Ytjhdjclcfmcilaa
