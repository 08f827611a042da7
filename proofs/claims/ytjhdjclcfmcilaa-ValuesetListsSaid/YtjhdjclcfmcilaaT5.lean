/-
  The second machine on terms is right: what a state says of a world; how its objects may change; loads. No program.
-/
import Derived.Test.YtjhdjclcfmcilaaT4
namespace Go.Proofs.Ytjhdjclcfmcilaa.T2
open Go.ChangeShapes Go.WideShapes Go.ChangeAt Go.RowKit
set_option linter.unusedVariables false

def Env.agr (n : Nat) (e0 e : Env) : Prop := ∀ d, d < n → e.nm d = e0.nm d
def Env.set (e : Env) (d : Nat) (m : Nm) : Env := ⟨fun x => if x = d then m else e.nm x⟩
theorem Env.set_at (e : Env) (d : Nat) (m : Nm) : (e.set d m).nm d = m := by simp [Env.set]
theorem Env.set_ne (e : Env) {d x : Nat} (m : Nm) (h : x ≠ d) : (e.set d m).nm x = e.nm x := by simp [Env.set, h]
theorem nid_self (id : Nat) : nid id id = false := by unfold nid; rw [Bool.or_eq_false_iff]; simp
theorem nid_self' (id : Nat) : nid id (id + 1) = false := by unfold nid; rw [Bool.or_eq_false_iff]; simp
theorem Env.off_set (e : Env) (id : Nat) (m : Nm) : Env.off (nid id) e (e.set id m) := fun x hx => by
  rw [Env.set_ne]
  rintro rfl
  rw [nid_self] at hx; cases hx
theorem Env.off_set' (e : Env) (id : Nat) (m : Nm) : Env.off (nid id) e (e.set (id + 1) m) := fun x hx => by
  rw [Env.set_ne]
  rintro rfl
  rw [nid_self'] at hx; cases hx
theorem Env.off_trans {ok : Nat → Bool} {e e' e'' : Env} (h : Env.off ok e e') (h' : Env.off ok e' e'') : Env.off ok e e'' := fun x hx => (h x hx).trans (h' x hx)
theorem Env.agr_off {ok : Nat → Bool} {n : Nat} {e0 e e' : Env} (h : Env.agr n e0 e) (ho : Env.off ok e e') (hd : ∀ x, x < n → ok x = true) : Env.agr n e0 e' := fun x hx => (ho x (hd x hx)).symm.trans (h x hx)
theorem lt_nid {n id : Nat} (h : n ≤ id) : ∀ x, x < n → nid id x = true := fun x hx => by unfold nid; rw [Bool.or_eq_true]; left; simp; omega
def Satz (e : Env) : List (List VX) → List (List Value) → Prop
  | [], [] => True
  | x :: xs, v :: vs => Sats e x v ∧ Satz e xs vs
  | _, _ => False
theorem Satz.off {ok : Nat → Bool} {e e' : Env} (h : Env.off ok e e') : ∀ {xs : List (List VX)} {vs : List (List Value)}, xs.all (·.all (·.fr ok)) = true → Satz e xs vs → Satz e' xs vs
  | [], [], _, _ => trivial
  | [], _ :: _, _, hs => hs.elim
  | _ :: _, [], _, hs => hs.elim
  | x :: xs, v :: vs, hf, hs => by
    simp only [List.all_cons, Bool.and_eq_true] at hf
    exact ⟨hs.1.off h hf.1, Satz.off h hf.2 hs.2⟩
def Rw.ok (e : Env) (w : World) (r : Rw) : Prop := RowAt w (e.base r.id) (r.len.den e).1.toNat r.ks (e.int r.id) (e.bool r.id)
/-- No block in common. -/
def Apart (e : Env) (x y : Bk) : Prop := ∀ g, x.fp e g → ¬ y.fp e g
theorem Apart.symm {e : Env} {x y : Bk} (h : Apart e x y) : Apart e y x := fun g hy hx => h g hx hy
/-- What a state of terms says of a frame, its callers' frames and a world. -/
structure Rel {P : Program} (C : List (Kon P)) (I : List (Nat → Env → Prop)) (G : Cfg) (e0 : Env) (w0 : World) (e : Env) (s : St) (a : Act) (ups : List (List Value)) (w : World) : Prop where
  df : a.defers = []
  tm : Sats e s.tm a.tmps.toList
  up : Satz e s.up ups
  hp : ∀ b ∈ s.hp, b.ok e w0.heap.size w
  nd : (s.hp.map (·.id)).Nodup
  inj : s.hp.Pairwise (Apart e)
  rw : ∀ r ∈ s.rw, r.ok e w0
  bl : Below w0.heap.size w0 w
  cd : ∀ c ∈ s.cd, c.holds C I e
  ex : Env.agr G.n0 e0 e
/-- The names of a loop's head: scalars; contents and rows. -/
def subN (e : Env) : Option (Nat × Nat) → Nm
  | none => Nm.zero
  | some (b, c) => { e.nm c with base := e.base b, cap := e.cap b }
def Env.sub (e : Env) (d : Nat) (xs : List LX) (ms : List (Option (Nat × Nat))) : Env :=
  ⟨fun x => if x = d then { Nm.zero with int := fun j => match xs[j]? with | some (.n _ y) => (y.den e).1 | _ => 0, bool := fun j => match xs[j]? with | some (.t y) => (y.den e).2 | _ => false }
    else if d < x then (match ms[x - (d + 1)]? with | some m => subN e m | none => e.nm x) else e.nm x⟩
def Ob.ok {P : Program} (C : List (Kon P)) (I : List (Nat → Env → Prop)) (n0 : Nat) (e0 : Env) : Ob → Prop
  | .cl cd x => ∀ e, Env.agr n0 e0 e → (∀ c ∈ cd, c.holds C I e) → (x.den e).2 = true
  | .pre cd k args => ∀ e, Env.agr n0 e0 e → (∀ c ∈ cd, c.holds C I e) → ∃ c, C[k]? = some c ∧ c.pre (args.map (datP e))
  | .inv cd k d xs ms => ∀ e, Env.agr n0 e0 e → (∀ c ∈ cd, c.holds C I e) → ∃ i, I[k]? = some i ∧ i d ((e.sub d xs ms).cut (d + ms.length))
theorem nodup_ids {l : List Bk} (h : (l.map (·.id)).Nodup) : ∀ x ∈ l, ∀ y ∈ l, x.id = y.id → x = y := by
  induction l with
  | nil => intro x hx; cases hx
  | cons z l ih =>
    simp only [List.map_cons, List.nodup_cons, List.mem_map, not_exists, not_and] at h
    intro x hx y hy hxy
    rcases List.mem_cons.1 hx with h1 | h1
    · rcases List.mem_cons.1 hy with h2 | h2
      · rw [h1, h2]
      · rw [h1] at hxy; exact absurd hxy.symm (h.1 y h2)
    · rcases List.mem_cons.1 hy with h2 | h2
      · rw [h2] at hxy; exact absurd hxy (h.1 x h1)
      · exact ih h.2 x h1 y h2 hxy
theorem perm_one {l : List Bk} (h : (l.map (·.id)).Nodup) {b : Bk} (hb : b ∈ l) : l.Perm (b :: l.filter fun x => !(x.id == b.id)) := by
  induction l with
  | nil => cases hb
  | cons z l ih =>
    simp only [List.map_cons, List.nodup_cons, List.mem_map, not_exists, not_and] at h
    rcases List.mem_cons.1 hb with rfl | hb
    · have : l.filter (fun x => !(x.id == b.id)) = l := List.filter_eq_self.2 fun x hx => by
        have := h.1 x hx
        simpa using this
      simp only [List.filter_cons, beq_self_eq_true, Bool.not_true, Bool.false_eq_true, if_false, this]
      exact List.Perm.refl _
    · have hz : (!(z.id == b.id)) = true := by
        have := h.1 b hb
        simp only [Bool.not_eq_true', beq_eq_false_iff_ne, ne_eq]
        exact fun he => this he.symm
      simp only [List.filter_cons, hz, if_true]
      exact ((ih h.2 hb).cons z).trans (List.Perm.swap b z _)
theorem insBk_perm (b : Bk) : ∀ (l : List Bk), (insBk b l).Perm (b :: l)
  | [] => List.Perm.refl _
  | c :: cs => by
    unfold insBk
    split
    · exact List.Perm.refl _
    · exact ((insBk_perm b cs).cons c).trans (List.Perm.swap b c cs)
theorem setB_perm {l : List Bk} (h : (l.map (·.id)).Nodup) {b : Bk} (hb : b ∈ l) (bd : Bd) : (l.map fun x => if x.id = b.id then { x with bd := bd } else x).Perm (⟨b.id, bd⟩ :: l.filter fun x => !(x.id == b.id)) := by
  have h1 := (perm_one h hb).map fun x => if x.id = b.id then ({ x with bd := bd } : Bk) else x
  refine h1.trans ?_
  rw [List.map_cons, if_pos rfl]
  refine List.Perm.cons _ ?_
  rw [List.map_congr_left (g := id) fun x hx => by
    have := (List.mem_filter.1 hx).2
    simp only [Bool.not_eq_true', beq_eq_false_iff_ne, ne_eq] at this
    rw [if_neg this]; rfl]
  rw [List.map_id]

section
variable {P : Program} {C : List (Kon P)} {I : List (Nat → Env → Prop)} {G : Cfg} {e0 e e' : Env} {w0 w w' : World} {s : St} {a : Act} {ups : List (List Value)}
theorem Rw.ok_off {ok : Nat → Bool} (h : Env.off ok e e') {r : Rw} (hf : r.fr ok = true) (hr : r.ok e w) : r.ok e' w := by
  simp only [Rw.fr, Bool.and_eq_true] at hf
  unfold Rw.ok at hr ⊢
  simp only [Env.base, Env.int, Env.bool] at hr ⊢
  rw [← SX.den_off h _ hf.2, ← h _ hf.1]
  exact hr
theorem Rel.off {ok : Nat → Bool} (hR : Rel C I G e0 w0 e s a ups w) (h : Env.off ok e e') (hf : s.fr ok = true) (hd : ∀ x, x < G.n0 → ok x = true) : Rel C I G e0 w0 e' s a ups w := by
  simp only [St.fr, Bool.and_eq_true] at hf
  obtain ⟨⟨⟨⟨f1, f5⟩, f2⟩, f3⟩, f4⟩ := hf
  have hb : ∀ b ∈ s.hp, b.fr ok = true := fun b hb => List.all_eq_true.1 f2 b hb
  refine ⟨hR.df, hR.tm.off h f1, hR.up.off h f5, fun b hm => (Bd.off h (hb b hm)).1 _ _ (hR.hp b hm), hR.nd, ?_, fun r hr => Rw.ok_off h (List.all_eq_true.1 f3 r hr) (hR.rw r hr), hR.bl, fun c hc => ?_, Env.agr_off hR.ex h hd⟩
  · refine hR.inj.imp_of_mem fun {x y} hx hy hxy g hg hg' => hxy g ((Bd.off h (hb x hx)).2 g hg) ((Bd.off h (hb y hy)).2 g hg')
  · exact Cd.holds_off C I h c (List.all_eq_true.1 f4 c hc) (hR.cd c hc)
theorem Rel.put (hR : Rel C I G e0 w0 e s a ups w) {v : VX} {u : Value} (hu : v.sat e u) (dst : Option Tmp) : Rel C I G e0 w0 e (s.put dst v) (a.put dst u) ups w := by
  cases dst with
  | none => exact hR
  | some t =>
    refine ⟨hR.df, ?_, hR.up, hR.hp, hR.nd, hR.inj, hR.rw, hR.bl, hR.cd, hR.ex⟩
    show Sats e (s.tm.set t v) (a.tmps.setIfInBounds t u).toList
    rw [Array.toList_setIfInBounds]
    exact hR.tm.set t hu
theorem Rel.owed (hR : Rel C I G e0 w0 e s a ups w) {xs : List SX} (ho : ∀ ob ∈ owe s xs, ob.ok C I G.n0 e0) : ∀ x ∈ xs, (x.den e).2 = true := fun x hx => by
  by_cases hk : ask s.cd x = some true
  · exact ask_sound hR.cd hk
  · have hm : Ob.cl s.cd x ∈ owe s xs := by
      unfold owe
      exact List.mem_map.2 ⟨x, List.mem_filter.2 ⟨hx, by simpa using hk⟩, rfl⟩
    exact ho _ hm e hR.ex hR.cd
theorem Rel.kn (hR : Rel C I G e0 w0 e s a ups w) {hs : List SX} (h : ∀ x ∈ hs, (x.den e).2 = true) : Kn C I e s hs a := ⟨hR.tm, hR.cd, h⟩
theorem Rel.kn0 (hR : Rel C I G e0 w0 e s a ups w) : Kn C I e s [] a := hR.kn fun _ h => (List.not_mem_nil h).elim
theorem Rel.owedH (hR : Rel C I G e0 w0 e s a ups w) {hs xs : List SX} (hh : ∀ x ∈ hs, (x.den e).2 = true) (ho : ∀ ob ∈ oweH s hs xs, ob.ok C I G.n0 e0) : ∀ x ∈ xs, (x.den e).2 = true := fun x hx => by
  cases hk : known s.cd hs x with
  | true => exact known_sound (hR.kn hh) hk
  | false =>
    have hm : Ob.cl (hs.map (Cd.c · true) ++ s.cd) x ∈ oweH s hs xs := by
      unfold oweH
      exact List.mem_map.2 ⟨x, List.mem_filter.2 ⟨hx, by simpa using hk⟩, rfl⟩
    refine ho _ hm e hR.ex fun c hc => ?_
    rcases List.mem_append.1 hc with hc | hc
    · obtain ⟨y, hy, rfl⟩ := List.mem_map.1 hc
      exact hh y hy
    · exact hR.cd c hc
theorem Rel.grow (hR : Rel C I G e0 w0 e s a ups w) (hb : Below w.heap.size w w') : Rel C I G e0 w0 e s a ups w' :=
  ⟨hR.df, hR.tm, hR.up, fun b hm => (hR.hp b hm).keep fun g hg => hb.block g ((hR.hp b hm).fp hg).2, hR.nd, hR.inj, hR.rw, hR.bl.trans (hb.mono hR.bl.size), hR.cd, hR.ex⟩
theorem Rel.drew (hR : Rel C I G e0 w0 e s a ups w) : Rel C I G e0 w0 e s a ups w.drew := hR.grow (Below.refl _ _).drew
theorem Rel.conds (hR : Rel C I G e0 w0 e s a ups w) {cs : List Cd} (h : ∀ c ∈ cs, c.holds C I e) : Rel C I G e0 w0 e { s with cd := cs ++ s.cd } a ups w :=
  ⟨hR.df, hR.tm, hR.up, hR.hp, hR.nd, hR.inj, hR.rw, hR.bl, fun c hc => by rcases List.mem_append.1 hc with hc | hc; exact h c hc; exact hR.cd c hc, hR.ex⟩
theorem Rel.cond1 (hR : Rel C I G e0 w0 e s a ups w) {x : Cd} (h : x.holds C I e) : Rel C I G e0 w0 e { s with cd := x :: s.cd } a ups w := hR.conds (cs := [x]) fun c hc => by rw [List.mem_singleton] at hc; subst hc; exact h
theorem Rel.nx (hR : Rel C I G e0 w0 e s a ups w) (n : Nat) : Rel C I G e0 w0 e { s with nx := n } a ups w := ⟨hR.df, hR.tm, hR.up, hR.hp, hR.nd, hR.inj, hR.rw, hR.bl, hR.cd, hR.ex⟩
/-- Objects are changed for others: rem for new. -/
theorem Rel.turn (hR : Rel C I G e0 w0 e s a ups w) {rem kept new l : List Bk} (h1 : s.hp.Perm (rem ++ kept)) (h2 : l.Perm (new ++ kept)) (hnd : (l.map (·.id)).Nodup) (hok : ∀ b ∈ new, b.ok e w0.heap.size w') (hpw : new.Pairwise (Apart e))
    (hfp : ∀ b ∈ new, ∀ g, b.fp e g → (∃ r ∈ rem, r.fp e g) ∨ w.heap.size ≤ g) (hw : ∀ g, g < w.heap.size → (∀ r ∈ rem, ¬ r.fp e g) → w'.heap[g]? = w.heap[g]?) (hbl : Below w0.heap.size w0 w') :
    Rel C I G e0 w0 e { s with hp := l } a ups w' := by
  have hinj : (rem ++ kept).Pairwise (Apart e) := (h1.pairwise_iff (fun {x y} hxy => Apart.symm hxy)).1 hR.inj
  rw [List.pairwise_append] at hinj
  obtain ⟨_, i2, i3⟩ := hinj
  have hin : ∀ b ∈ kept, b ∈ s.hp := fun b hb => h1.mem_iff.2 (List.mem_append_right _ hb)
  have hkeep : ∀ b ∈ kept, b.ok e w0.heap.size w' := fun b hb => (hR.hp b (hin b hb)).keep fun g hg => hw g ((hR.hp b (hin b hb)).fp hg).2 fun r hr hrg => i3 r hr b hb g hrg hg
  refine ⟨hR.df, hR.tm, hR.up, fun b hb => ?_, hnd, ?_, hR.rw, hbl, hR.cd, hR.ex⟩
  · rcases List.mem_append.1 (h2.mem_iff.1 hb) with hb | hb
    · exact hok b hb
    · exact hkeep b hb
  · refine (h2.pairwise_iff (fun {x y} hxy => Apart.symm hxy)).2 (List.pairwise_append.2 ⟨hpw, i2, fun x hx y hy g hg hg' => ?_⟩)
    rcases hfp x hx g hg with ⟨r, hr, hrg⟩ | hge
    · exact i3 r hr y hy g hrg hg'
    · have := ((hR.hp y (hin y hy)).fp hg').2
      omega
theorem ids_filter {l : List Bk} (h : (l.map (·.id)).Nodup) (p : Bk → Bool) : ((l.filter p).map (·.id)).Nodup := h.sublist (List.filter_sublist.map _)
theorem not_id {ok : Nat → Bool} {d : Nat} (hf : s.fr ok = true) (hd : ok d = false) : d ∉ s.hp.map (·.id) := fun hm => by
  obtain ⟨b, hb, rfl⟩ := List.mem_map.1 hm
  simp only [St.fr, Bool.and_eq_true] at hf
  have := List.all_eq_true.1 hf.1.1.2 b hb
  simp only [Bk.fr, Bool.and_eq_true] at this
  rw [hd] at this
  cases this.1
/-- A new object. -/
theorem Rel.push (hR : Rel C I G e0 w0 e s a ups w) {b : Bk} (hid : b.id ∉ s.hp.map (·.id)) (hb : Below w.heap.size w w') (hok : b.ok e w0.heap.size w') (hfp : ∀ g, b.fp e g → w.heap.size ≤ g) : Rel C I G e0 w0 e { s with hp := insBk b s.hp } a ups w' := by
  refine hR.turn (rem := []) (kept := s.hp) (new := [b]) (List.Perm.refl _) (insBk_perm _ _) ?_ (fun x hx => by rw [List.mem_singleton] at hx; subst hx; exact hok) (List.pairwise_singleton ..) (fun x hx g hg => by rw [List.mem_singleton] at hx; subst hx; exact .inr (hfp g hg)) (fun g hg _ => hb.block g hg) (hR.bl.trans (hb.mono hR.bl.size))
  rw [((insBk_perm b s.hp).map _).nodup_iff, List.map_cons, List.nodup_cons]
  exact ⟨hid, hR.nd⟩
/-- One object is changed. -/
theorem Rel.change (hR : Rel C I G e0 w0 e s a ups w) {b : Bk} (hb : b ∈ s.hp) {bd : Bd} (hok : (Bk.mk b.id bd).ok e w0.heap.size w') (hfp : ∀ g, (Bk.mk b.id bd).fp e g → b.fp e g ∨ w.heap.size ≤ g)
    (hw : ∀ g, g < w.heap.size → ¬ b.fp e g → w'.heap[g]? = w.heap[g]?) (hbl : Below w0.heap.size w0 w') : Rel C I G e0 w0 e (setB s b.id bd) a ups w' := by
  have hp := setB_perm hR.nd hb bd
  refine hR.turn (rem := [b]) (kept := s.hp.filter fun x => !(x.id == b.id)) (new := [⟨b.id, bd⟩]) (perm_one hR.nd hb) hp ?_ (fun x hx => by rw [List.mem_singleton] at hx; subst hx; exact hok) (List.pairwise_singleton ..) (fun x hx g hg => ?_) (fun g hg hr => hw g hg (hr b (List.mem_singleton.2 rfl))) hbl
  · rw [(hp.map _).nodup_iff]
    have := (perm_one hR.nd hb).map (·.id)
    rw [List.map_cons] at this ⊢
    exact this.nodup_iff.1 hR.nd
  · rw [List.mem_singleton] at hx
    subst hx
    rcases hfp g hg with h | h
    · exact .inl ⟨b, List.mem_singleton.2 rfl, h⟩
    · exact .inr h

/-! ### What is known of the objects. -/
theorem objX_mem {d : Nat} {b : Bk} (h : objX s d = some b) : b ∈ s.hp ∧ b.id = d := ⟨List.mem_of_find?_eq_some h, by simpa using List.find?_some h⟩
theorem blockX_mem {d ty : Nat} {cs : List LX} (h : blockX s d = some (ty, cs)) : (⟨d, .cells ty cs⟩ : Bk) ∈ s.hp := by
  unfold blockX at h
  split at h
  · rename_i id ty' cs' ho
    simp only [Option.some.injEq, Prod.mk.injEq] at h
    obtain ⟨rfl, rfl⟩ := h
    obtain ⟨h1, rfl⟩ := objX_mem ho
    exact h1
  · cases h
theorem ownOf_mem {d ct : Nat} {ks : List (Option IntKind)} {len : SX} (h : ownOf s d = some (ks, len, ct)) : (⟨d, .row ks len ct⟩ : Bk) ∈ s.hp := by
  unfold ownOf at h
  split at h
  · rename_i id ks' len' ct' ho
    simp only [Option.some.injEq, Prod.mk.injEq] at h
    obtain ⟨rfl, rfl, rfl⟩ := h
    obtain ⟨h1, rfl⟩ := objX_mem ho
    exact h1
  · cases h
theorem mapOf_mem {d ct : Nat} {kk kv : IntKind} (h : mapOf s d = some (kk, kv, ct)) : (⟨d, .map kk kv ct⟩ : Bk) ∈ s.hp := by
  unfold mapOf at h
  split at h
  · rename_i id ks' len' ct' ho
    simp only [Option.some.injEq, Prod.mk.injEq] at h
    obtain ⟨rfl, rfl, rfl⟩ := h
    obtain ⟨h1, rfl⟩ := objX_mem ho
    exact h1
  · cases h
theorem nrOf_mem {d ct : Nat} {ks : List (Option IntKind)} {len : SX} {hh : Option SX} (h : nrOf s d = some (ks, len, ct, hh)) : (⟨d, .nr ks len ct hh⟩ : Bk) ∈ s.hp := by
  unfold nrOf at h
  split at h
  · rename_i id ks' len' ct' h' ho
    simp only [Option.some.injEq, Prod.mk.injEq] at h
    obtain ⟨rfl, rfl, rfl, rfl⟩ := h
    obtain ⟨h1, rfl⟩ := objX_mem ho
    exact h1
  · cases h
theorem nrCt_mem {c d : Nat} {ks : List (Option IntKind)} {len : SX} (h : nrCt s c = some (d, ks, len)) : (⟨d, .nr ks len c none⟩ : Bk) ∈ s.hp := by
  unfold nrCt at h
  split at h
  · rename_i id ks' len' ct' ho
    simp only [Option.some.injEq, Prod.mk.injEq] at h
    obtain ⟨rfl, rfl, rfl⟩ := h
    have h1 := List.mem_of_find?_eq_some ho
    have h2 := List.find?_some ho
    simp only [isNr, beq_iff_eq] at h2
    rw [h2] at h1
    exact h1
  · cases h
theorem Rel.own (hR : Rel C I G e0 w0 e s a ups w) {d ct : Nat} {ks : List (Option IntKind)} {len : SX} (h : ownOf s d = some (ks, len, ct)) : Own w0.heap.size w (e.base d) (len.den e).1.toNat (e.cap d) ks (e.int ct) (e.bool ct) := hR.hp _ (ownOf_mem h)
theorem Rel.rowAt (hR : Rel C I G e0 w0 e s a ups w) {d ct : Nat} {ks : List (Option IntKind)} {len : SX} (h : rowOf s d = some (ks, len, ct)) : RowAt w (e.base d) (len.den e).1.toNat ks (e.int ct) (e.bool ct) := by
  unfold rowOf at h
  split at h
  · rename_i id ks' len' ct' ho
    exact (hR.own (d := d) (by unfold ownOf; rw [ho]; exact h)).rowAt
  · cases h
  · split at h
    · rename_i r hr
      simp only [Option.some.injEq, Prod.mk.injEq] at h
      obtain ⟨rfl, rfl, rfl⟩ := h
      have hm := List.mem_of_find?_eq_some hr
      have hid : r.id = d := by simpa using List.find?_some hr
      subst hid
      exact (hR.rw r hm).below hR.bl
    · cases h
theorem Rel.bs (hR : Rel C I G e0 w0 e s a ups w) : Bs e s where
  row d ks len ct h hl := by obtain ⟨ad, h, _⟩ := hR.rowAt h 0 hl; exact ⟨ad, h⟩
  nr d ks len ct hh h := by obtain ⟨g, t, cs, hb, _⟩ := hR.hp _ (nrOf_mem h); exact ⟨_, hb⟩
  inn c d ks len h y hy := by
    obtain ⟨g, t, cs, hb, _, _, _, _, hi⟩ := hR.hp _ (nrCt_mem h)
    obtain ⟨_, h0, hown, _⟩ := hi y hy (fun x hx => by cases hx)
    exact ⟨h0, fun hp => hown.has (by omega)⟩

/-! ### Loads. -/
theorem asVal_den {row : Bool} {cs : List LX} {v : PX} (h : asVal row cs = some v) : v.den e = if row then .agg (cs.map (·.den e)).toArray else (cs.map (·.den e)).headD undef := by
  unfold asVal at h
  cases row with
  | true => simp only [if_true, Option.some.injEq] at h; subst h; rfl
  | false =>
    simp only [Bool.false_eq_true, if_false] at h
    split at h
    · simp only [Option.some.injEq] at h; subst h; rfl
    · cases h
theorem numsX_den {k : IntKind} : ∀ {xs : List LX} {ys : List SX}, numsX k xs = some ys → xs = ys.map (.n k)
  | [], ys, h => by simp only [numsX, Option.some.injEq] at h; subst h; rfl
  | .n k' x :: xs, ys, h => by
    unfold numsX at h
    split at h
    · rename_i hk
      subst hk
      obtain ⟨zs, hz, hv⟩ := opt_map h
      subst hv
      rw [List.map_cons, ← numsX_den hz]
    · cases h
  | .t _ :: _, _, h => by cases h
  | .p _ _ :: _, _, h => by cases h
  | .pi _ _ _ _ _ _ :: _, _, h => by cases h
  | .q _ _ _ _ :: _, _, h => by cases h
  | .qn _ _ _ _ _ :: _, _, h => by cases h
  | .sl _ _ :: _, _, h => by cases h
  | .sb _ _ :: _, _, h => by cases h
  | .sn _ _ :: _, _, h => by cases h
  | .mp _ :: _, _, h => by cases h
  | .fn _ _ :: _, _, h => by cases h
  | .np :: _, _, h => by cases h
  | .ns :: _, _, h => by cases h
  | .nm :: _, _, h => by cases h
theorem boolsX_den : ∀ {xs : List LX} {ys : List SX}, boolsX xs = some ys → xs = ys.map .t
  | [], ys, h => by simp only [boolsX, Option.some.injEq] at h; subst h; rfl
  | .t x :: xs, ys, h => by
    unfold boolsX at h
    obtain ⟨zs, hz, hv⟩ := opt_map h
    subst hv
    rw [List.map_cons, ← boolsX_den hz]
  | .n _ _ :: _, _, h => by cases h
  | .p _ _ :: _, _, h => by cases h
  | .pi _ _ _ _ _ _ :: _, _, h => by cases h
  | .q _ _ _ _ :: _, _, h => by cases h
  | .qn _ _ _ _ _ :: _, _, h => by cases h
  | .sl _ _ :: _, _, h => by cases h
  | .sb _ _ :: _, _, h => by cases h
  | .sn _ _ :: _, _, h => by cases h
  | .mp _ :: _, _, h => by cases h
  | .fn _ _ :: _, _, h => by cases h
  | .np :: _, _, h => by cases h
  | .ns :: _, _, h => by cases h
  | .nm :: _, _, h => by cases h
theorem itsX_den {x : SX} : ∀ (ys : List SX) (k i : Nat) (y : SX), (x.den e).1 = (k + i : Nat) → ys[i]? = some y → (itsX x k ys).den e = y.den e
  | [], _, _, _, _, h => by simp at h
  | [z], k, i, y, _, h => by
    cases i with
    | zero => simp at h; subst h; rfl
    | succ i => simp at h
  | z :: z' :: zs, k, i, y, hx, h => by
    unfold itsX
    cases i with
    | zero =>
      simp at h
      subst h
      simp [SX.den, cmI, hx]
    | succ i =>
      simp only [List.getElem?_cons_succ] at h
      have := itsX_den (z' :: zs) (k + 1) i y (by rw [hx]; congr 1; omega) h
      have hne : ((x.den e).1 == (k : Int)) = false := by rw [beq_eq_false_iff_ne, hx]; omega
      simp only [SX.den, cmI, hne, Bool.false_eq_true, if_false]
      exact this
theorem selS_den {x : SX} {ys : List SX} {i : Nat} {y : SX} (hx : (x.den e).1 = i) (h : ys[i]? = some y) : (selS x ys).den e = y.den e := by
  unfold selS
  split
  · rename_i d j d' j' r
    split
    · rename_i hc
      obtain ⟨rfl, hj, hy⟩ := hc
      rw [hy] at h
      have hl : i < (SX.v d j :: SX.v d j' :: r).length := by
        rcases Nat.lt_or_ge i (SX.v d j :: SX.v d j' :: r).length with h0 | h0
        · exact h0
        · rw [List.getElem?_eq_none (by simpa using h0)] at h; cases h
      rw [List.getElem?_map, List.getElem?_range hl] at h
      simp only [Option.map_some, Option.some.injEq] at h
      subst h
      simp only [SX.den, hx, Int.toNat_natCast]
    · exact itsX_den _ 0 i y (by rw [hx]; congr 1; omega) h
  · exact itsX_den _ 0 i y (by rw [hx]; congr 1; omega) h
theorem selL_den {x : SX} {ys : List LX} {i : Nat} {y z : LX} (hx : (x.den e).1 = i) (h : ys[i]? = some y) (hs : selL x ys = some z) : z.den e = y.den e := by
  unfold selL at hs
  split at hs
  · obtain ⟨l, hl, rfl⟩ := opt_map hs
    rw [numsX_den hl, List.getElem?_map] at h
    obtain ⟨u, hu, rfl⟩ := opt_map h
    simp only [LX.den, selS_den hx hu]
  · obtain ⟨l, hl, rfl⟩ := opt_map hs
    rw [boolsX_den hl, List.getElem?_map] at h
    obtain ⟨u, hu, rfl⟩ := opt_map h
    simp only [LX.den, selS_den hx hu]
  · cases hs
theorem colX_go {cs : List LX} {o sz c : Nat} : ∀ (ks : List Nat) (xs : List LX), colX.go cs o sz c ks = some xs → ∀ (i k : Nat), ks[i]? = some k → ∃ x, cs[o + k * sz + c]? = some x ∧ xs[i]? = some x
  | [], _, _, i, k, h => by simp at h
  | k0 :: ks, xs, h, i, k, hk => by
    unfold colX.go at h
    split at h
    · rename_i x xs' h1 h2
      simp only [Option.some.injEq] at h
      subst h
      cases i with
      | zero => simp at hk; subst hk; exact ⟨x, h1, rfl⟩
      | succ i => simp only [List.getElem?_cons_succ] at hk ⊢; exact colX_go ks xs' h2 i k hk
    · cases h
theorem selsX_den {x : SX} {cs : List LX} {o n sz k : Nat} (hx : (x.den e).1 = k) (hk : k < n) : ∀ (js : List Nat) (ys : List LX), selsX x cs o n sz js = some ys → ys.length = js.length ∧ ∀ (i j : Nat), js[i]? = some j → ∃ c y, cs[o + k * sz + j]? = some c ∧ ys[i]? = some y ∧ y.den e = c.den e
  | [], ys, h => by simp only [selsX, Option.some.injEq] at h; subst h; exact ⟨rfl, fun i j hj => by simp at hj⟩
  | c :: js, ys, h => by
    unfold selsX at h
    split at h
    · rename_i y ys' h1 h2
      simp only [Option.some.injEq] at h
      subst h
      obtain ⟨l1, l2⟩ := selsX_den hx hk js ys' h2
      refine ⟨by simp [l1], fun i j hj => ?_⟩
      cases i with
      | zero =>
        simp at hj
        subst hj
        obtain ⟨col, hcol, hsel⟩ := Option.bind_eq_some_iff.1 h1
        obtain ⟨c', hc', hi⟩ := colX_go (List.range n) col hcol k k (List.getElem?_range hk)
        exact ⟨c', y, hc', rfl, selL_den hx hi hsel⟩
      | succ i => simp only [List.getElem?_cons_succ] at hj ⊢; exact l2 i j hj
    · cases h
theorem rowCells_den {d sz : Nat} {x : SX} {ks : List (Option IntKind)} : ∀ (js : List Nat) (ys : List LX), rowCells d sz x ks js = some ys → ys.length = js.length ∧ ∀ (i j : Nat), js[i]? = some j → ∃ k y, ks[j]? = some k ∧ ys[i]? = some y ∧ y.den e = leafD k (e.int d ((x.den e).1.toNat * sz + j)) (e.bool d ((x.den e).1.toNat * sz + j))
  | [], ys, h => by simp only [rowCells, Option.some.injEq] at h; subst h; exact ⟨rfl, fun i j hj => by simp at hj⟩
  | j0 :: js, ys, h => by
    unfold rowCells at h
    split at h
    · rename_i ys' h1 h2
      simp only [Option.some.injEq] at h
      subst h
      obtain ⟨l1, l2⟩ := rowCells_den js ys' h2
      refine ⟨by simp [l1], fun i j hj => ?_⟩
      cases i with
      | zero => simp at hj; subst hj; exact ⟨_, _, h1, rfl, rfl⟩
      | succ i => simp only [List.getElem?_cons_succ] at hj ⊢; exact l2 i j hj
    · rename_i k ys' h1 h2
      simp only [Option.some.injEq] at h
      subst h
      obtain ⟨l1, l2⟩ := rowCells_den js ys' h2
      refine ⟨by simp [l1], fun i j hj => ?_⟩
      cases i with
      | zero => simp at hj; subst hj; exact ⟨_, _, h1, rfl, rfl⟩
      | succ i => simp only [List.getElem?_cons_succ] at hj ⊢; exact l2 i j hj
    · cases h
theorem rowCells2_den {d sz : Nat} {u x : SX} {ks : List (Option IntKind)} : ∀ (js : List Nat) (ys : List LX), rowCells2 d u sz x ks js = some ys → ys.length = js.length ∧ ∀ (i j : Nat), js[i]? = some j → ∃ k y, ks[j]? = some k ∧ ys[i]? = some y ∧ y.den e = leafD k ((e.nm d).i2 (u.den e).1.toNat ((x.den e).1.toNat * sz + j)) ((e.nm d).b2 (u.den e).1.toNat ((x.den e).1.toNat * sz + j))
  | [], ys, h => by simp only [rowCells2, Option.some.injEq] at h; subst h; exact ⟨rfl, fun i j hj => by simp at hj⟩
  | j0 :: js, ys, h => by
    unfold rowCells2 at h
    split at h
    · rename_i ys' h1 h2
      simp only [Option.some.injEq] at h
      subst h
      obtain ⟨l1, l2⟩ := rowCells2_den js ys' h2
      refine ⟨by simp [l1], fun i j hj => ?_⟩
      cases i with
      | zero => simp at hj; subst hj; exact ⟨_, _, h1, rfl, rfl⟩
      | succ i => simp only [List.getElem?_cons_succ] at hj ⊢; exact l2 i j hj
    · rename_i k ys' h1 h2
      simp only [Option.some.injEq] at h
      subst h
      obtain ⟨l1, l2⟩ := rowCells2_den js ys' h2
      refine ⟨by simp [l1], fun i j hj => ?_⟩
      cases i with
      | zero => simp at hj; subst hj; exact ⟨_, _, h1, rfl, rfl⟩
      | succ i => simp only [List.getElem?_cons_succ] at hj ⊢; exact l2 i j hj
    · cases h
/-- A load of an element of a row that lies at a place. -/
theorem load_row {t : TypeId} {row : Bool} {m sz o i len : Nat} (hs : sizeT P t = some (row, m)) {base : Option Addr} {ks : List (Option IntKind)} {int : Nat → Int} {bool : Nat → Bool} (hA : RowAt w base len ks int bool) (hi : i < len) (hsz : ks.length = sz) {cs : List LX} {v : PX}
    (l1 : cs.length = (List.range m).length) (l2 : ∀ (i' j : Nat), ((List.range m).map (o + ·))[i']? = some j → ∃ k y, ks[j]? = some k ∧ cs[i']? = some y ∧ y.den e = leafD k (int (i * sz + j)) (bool (i * sz + j))) (hv : asVal row cs = some v) :
    ∃ ad, base = some ad ∧ (loadVar t (ad.add (i * sz + o))).run P w = .ok (v.den e) w := by
  obtain ⟨ad, had, hlt, hcell⟩ := hA i hi
  refine ⟨ad, had, ?_⟩
  rw [run_loadVar_at hs _ (cs.map (·.den e)) (by simpa using l1) (fun j u hu => ?_), asVal_den hv]
  have hj : j < m := by
    rcases Nat.lt_or_ge j m with h0 | h0
    · exact h0
    · rw [List.getElem?_eq_none (by simp at l1; simp [l1]; exact h0)] at hu; cases hu
  obtain ⟨k, y, h1, h2, h3⟩ := l2 j (o + j) (by simp [List.getElem?_range hj])
  rw [List.getElem?_map, h2] at hu
  simp only [Option.map_some, Option.some.injEq] at hu
  rw [← hu, h3, add_add]
  have := hcell (o + j) k h1
  rw [hsz] at this
  rw [show i * sz + o + j = i * sz + (o + j) by omega]
  exact this
theorem loadX_sound (hR : Rel C I G e0 w0 e s a ups w) {t : TypeId} {p : LX} {v : PX} {xs : List SX} (h : loadX P s t p = some (v, xs)) (hx : ∀ x ∈ xs, (x.den e).2 = true) : ∃ ad, p.den e = .pointer (some ad) ∧ (loadVar t ad).run P w = .ok (v.den e) w := by
  unfold loadX at h
  split at h
  · cases h
  · rename_i row m hs
    split at h
    · rename_i d o
      split at h
      · rename_i ty bs hb
        split at h
        · rename_i hl
          obtain ⟨v', hv, hp⟩ := opt_map h
          simp only [Prod.mk.injEq] at hp
          obtain ⟨rfl, rfl⟩ := hp
          have hB : Blk w (e.adr d) ty (bs.map (·.den e)).toArray := (hR.hp _ (blockX_mem hb)).2
          refine ⟨_, rfl, ?_⟩
          rw [run_loadVar_at hs _ (((bs.drop o).take m).map (·.den e)) (by simpa using hl) (fun j u hu => ?_), asVal_den hv]
          rw [blk_cell hB]
          rw [List.getElem?_map] at hu
          obtain ⟨c, hc, rfl⟩ := opt_map hu
          have hj : j < m := by
            rcases Nat.lt_or_ge j m with h0 | h0
            · exact h0
            · rw [List.getElem?_eq_none (by rw [hl]; exact h0)] at hc; cases hc
          rw [List.getElem?_take_of_lt hj, List.getElem?_drop] at hc
          simp [hc]
        · cases h
      · cases h
    · rename_i d o n sz x o2
      split at h
      · rename_i ty bs hb
        split at h
        · rename_i cs hcs
          obtain ⟨v', hv, hp⟩ := opt_map h
          simp only [Prod.mk.injEq] at hp
          obtain ⟨rfl, rfl⟩ := hp
          have g1 := geZ_den (hx _ (List.mem_cons_self ..))
          have g2 := lss_den (hx _ (List.mem_cons_of_mem _ (List.mem_cons_self ..)))
          simp only [SX.den] at g2
          obtain ⟨k, hk⟩ := Int.eq_ofNat_of_zero_le g1
          have hB : Blk w (e.adr d) ty (bs.map (·.den e)).toArray := (hR.hp _ (blockX_mem hb)).2
          obtain ⟨l1, l2⟩ := selsX_den hk (by omega) _ _ hcs
          refine ⟨_, rfl, ?_⟩
          rw [run_loadVar_at hs _ (cs.map (·.den e)) (by simpa using l1) (fun j u hu => ?_), asVal_den hv]
          rw [blk_cell hB]
          have hj : j < m := by
            rcases Nat.lt_or_ge j m with h0 | h0
            · exact h0
            · rw [List.getElem?_eq_none (by simp [l1]; exact h0)] at hu; cases hu
          obtain ⟨c, y, h1, h2, h3⟩ := l2 j (o2 + j) (by simp [List.getElem?_range hj])
          rw [List.getElem?_map, h2] at hu
          simp only [Option.map_some, Option.some.injEq] at hu
          rw [← hu, h3]
          simp only [hk, Int.toNat_natCast, List.getElem?_toArray, List.getElem?_map]
          rw [show o + k * sz + o2 + j = o + k * sz + (o2 + j) by omega, h1]
          rfl
        · cases h
      · cases h
    · rename_i d sz x o
      split at h
      · rename_i ks len ct hr
        split at h
        · rename_i hsz
          split at h
          · rename_i cs hcs
            obtain ⟨v', hv, hp⟩ := opt_map h
            simp only [Prod.mk.injEq] at hp
            obtain ⟨rfl, rfl⟩ := hp
            have g1 := geZ_den (hx _ (List.mem_cons_self ..))
            have g2 := lss_den (hx _ (List.mem_cons_of_mem _ (List.mem_cons_self ..)))
            obtain ⟨l1, l2⟩ := rowCells_den (e := e) _ _ hcs
            obtain ⟨ad, had, hl⟩ := load_row hs (hR.rowAt hr) (i := (x.den e).1.toNat) (by omega) hsz (by simpa using l1) l2 hv
            exact ⟨_, by simp only [LX.den, had, Option.getD_some], hl⟩
          · cases h
        · cases h
      · split at h
        · rename_i ks len ct hn
          split at h
          · rename_i hc
            obtain ⟨rfl, rfl, rfl⟩ := hc
            simp only [Option.some.injEq, Prod.mk.injEq] at h
            obtain ⟨rfl, rfl⟩ := h
            have g1 := geZ_den (hx _ (List.mem_cons_self ..))
            have g2 := lss_den (hx _ (List.mem_cons_of_mem _ (List.mem_cons_self ..)))
            obtain ⟨g, t', cs, hb, hg, hB, hsz, hcap, hi⟩ := hR.hp _ (nrOf_mem hn)
            replace hb : e.base d = some ⟨g, 0, none⟩ := hb
            obtain ⟨c1, _⟩ := hi (x.den e).1.toNat (by omega) (fun y hy => by cases hy)
            obtain ⟨d', hu, hd, _, h2⟩ := sizeT_spec hs
            have hm := h2 rfl
            subst hm
            refine ⟨(⟨g, 0, none⟩ : Addr).add ((x.den e).1.toNat * 1 + 0), by simp only [LX.den]; rw [hb]; rfl, ?_⟩
            have := run_loadVar_at (P := P) (w := w) hs ((⟨g, 0, none⟩ : Addr).add ((x.den e).1.toNat * 1 + 0)) [(LX.sn ct x).den e] rfl (fun j u hu => by
              match j, hu with
              | 0, hu =>
                simp only [List.getElem?_cons_zero, Option.some.injEq] at hu
                subst hu
                rw [add_add, add_mid, hB.walk.1, show (0 : Nat) + ((x.den e).1.toNat * 1 + 0 + 0) = (x.den e).1.toNat by omega]
                exact c1)
            simpa [PX.den] using this
          · cases h
        · cases h
    · rename_i c y sz x o
      split at h
      · rename_i d ks len hn
        split at h
        · rename_i hsz
          split at h
          · rename_i cs hcs
            obtain ⟨v', hv, hp⟩ := opt_map h
            simp only [Prod.mk.injEq] at hp
            obtain ⟨rfl, rfl⟩ := hp
            have g1 := geZ_den (hx _ (List.mem_cons_self ..))
            have g2 := lss_den (hx _ (List.mem_cons_of_mem _ (List.mem_cons_self ..)))
            have g3 := geZ_den (hx _ (List.mem_cons_of_mem _ (List.mem_cons_of_mem _ (List.mem_cons_self ..))))
            have g4 := lss_den (hx _ (List.mem_cons_of_mem _ (List.mem_cons_of_mem _ (List.mem_cons_of_mem _ (List.mem_cons_self ..)))))
            simp only [SX.den, Nat.mul_one, Nat.add_zero] at g4
            obtain ⟨g, t', bs, hb, hg, hB, hbs, hcap, hi⟩ := hR.hp _ (nrCt_mem hn)
            obtain ⟨_, h0, hown, _⟩ := hi (y.den e).1.toNat (by omega) (fun y hy => by cases hy)
            obtain ⟨l1, l2⟩ := rowCells2_den (e := e) _ _ hcs
            obtain ⟨ad, had, hl⟩ := load_row hs hown.rowAt (i := (x.den e).1.toNat) (by omega) hsz (by simpa using l1) l2 hv
            exact ⟨_, by simp only [LX.den, had, Option.getD_some], hl⟩
          · cases h
        · cases h
      · cases h
    · cases h
end
end Go.Proofs.Ytjhdjclcfmcilaa.T2
