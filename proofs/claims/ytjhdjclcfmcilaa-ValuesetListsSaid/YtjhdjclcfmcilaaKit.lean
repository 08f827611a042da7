/-
  Common lemmas: what a call leaves behind ('Ret'), the last step of a row behind 'Below', sign bits of 32-bit numbers. No program.
-/
import Derived.WalkKit
import Derived.WalkLawsBesides
import Derived.WalkSpells
import Derived.ProofKit
import Derived.OpenShut
import Derived.Handy
import Derived.Deep.QuietTactic
import Derived.BigQuiet
import Derived.BigRegion
import Derived.Lib.SmallJoins
import Derived.Deep.Slices
import Derived.Deep.Fields
namespace Go.Proofs.Ytjhdjclcfmcilaa
open Go.ChangeShapes Go.WideShapes Go.ChangeAt Go.RowKit
set_option linter.unusedVariables false

/-- A call returns v; of what was there before nothing has changed. -/
def Ret (v : Value) (w : World) (e : Ending) (w' : World) : Prop := e = .returned v ∧ Below w.heap.size w w'

theorem hide {p : Prop} (h : p) : Hid p := h

/-- A further call. -/
theorem after {w W w1 : World} (h : Below w.heap.size w W) (hb : Below W.heap.size W w1) : Below w.heap.size w w1 := h.trans (hb.mono h.size)

theorem bcell {W w1 : World} (hb : Below W.heap.size W w1) : (∀ b o, b < W.heap.size → w1.cell? ⟨b, o, none⟩ = W.cell? ⟨b, o, none⟩) ∧ (∀ b o, b < W.heap.size → w1.frozen? ⟨b, o, none⟩ = W.frozen? ⟨b, o, none⟩) :=
  ⟨fun b o h => hb.cell (p := ⟨b, o, none⟩) h, fun b o h => hb.frozen (p := ⟨b, o, none⟩) h⟩

section
variable {H : Type} {enc : TypeId × Value → H} {P : Program}
theorem post_of_below {f : Func} {s : ChangeSpec} {apart fresh handsOn again : Bool} {W W' : World} {args : Array Value} {v : Value} {ds gs : List (DataW H)} {before pa pv : List MemPlace}
    (hW : DataW.Whole enc P f.params.toList s.vars apart W args.toList ds gs before)
    (hres : ∀ (b : Nat) (sp : Nat → Bool) (hd : Bool), DataW.TrodAll enc P W' b sp hd f.resultTypes.toList (v.resultList f.resultTypes.size) (s.fn H (ds ++ gs)).results [])
    (hargs : ∀ sp : Nat → Bool, (∀ p ∈ before, sp p.block = true) → DataW.TrodAll enc P W' 0 sp true f.params.toList args.toList (s.fn H (ds ++ gs)).args pa)
    (hvars : ∀ sp : Nat → Bool, (∀ p ∈ before, sp p.block = true) → DataW.TrodVars enc P W' sp s.vars (s.fn H (ds ++ gs)).vars pv)
    (hps : before = pa ++ pv) (hb : Below W.heap.size W W')
    (hok : ∀ (j : Nat) (t : TypeId) (r : Value), f.resultTypes[j]? = some t → (v.resultList f.resultTypes.size)[j]? = some r → Value.okWide P W' .any 0 t r) :
    s.post enc P f apart fresh handsOn again W args v W' := by
  have hlt : ∀ p ∈ before, p.block < W.heap.size := fun p hp => hW.lt p hp
  have hold : ∀ p ∈ before, (fun b => decide (b < W.heap.size)) p.block = true := fun p hp => by simpa using hlt p hp
  refine ⟨ds, gs, before, [], pa, pv, hW, hres _ _ _, hargs _ hold, hvars _ hold, World.keptBut_mono (fun p hp => ⟨hp, ?_⟩) (hb.frame (· ∈ before)), fun _ => ?_⟩
  · rw [hps, List.mem_append] at hp
    exact Or.inr hp
  · obtain ⟨_, _, _, _, _, hz, hn⟩ := hW
    refine ⟨hok, _, _, ([] ++ pa) ++ pv, ⟨[] ++ pa, pv, trodAll_append (hargs _ (fun _ _ => rfl)) (hres _ _ _), hvars _ (fun _ _ => rfl), rfl, ?_, ?_⟩, ?_⟩
    · intro b off hp
      have hin : MemPlace.cell b off ∈ before := by rw [hps]; simpa using hp
      rw [hb.frozen (hlt _ hin)]
      exact hz b off hin
    · intro ha
      have := hn ha
      rw [hps] at this
      simpa using this
    · intro p hp _
      rw [hps]
      simpa using hp
end
theorem tb31 (x : Nat) (h : x < 4294967296) : x.testBit 31 = decide (2147483648 ≤ x) := by
  rw [Nat.testBit_eq_decide_div_mod_eq, decide_eq_decide]; omega
theorem nat_sign (x : Nat) : ((x &&& 2147483648) != 0) = x.testBit 31 := by
  have e : (2147483648 : Nat) = 2 ^ 31 := by decide
  have ht : ∀ j, (x &&& 2147483648).testBit j = (x.testBit j && decide (31 = j)) := fun j => by
    rw [Nat.testBit_and, e, Nat.testBit_two_pow]
  rw [Bool.eq_iff_iff, bne_iff_ne]
  constructor
  · intro h
    cases hx : x.testBit 31
    · exfalso; apply h; apply Nat.eq_of_testBit_eq; intro j
      rw [ht j, Nat.zero_testBit]
      by_cases hj : 31 = j
      · subst hj; simp [hx]
      · simp [hj]
    · rfl
  · intro hx h0
    have := ht 31
    rw [h0, hx] at this
    simp at this
theorem u32_sign (x : Int) (h0 : 0 ≤ x) (h1 : x < 4294967296) : (bits .and .u32 x 2147483648 != 0) = decide (2147483648 ≤ x) := by
  obtain ⟨X, rfl⟩ := Int.eq_ofNat_of_zero_le h0
  rw [u32_and _ _ (by omega) (by omega) (by omega) (by omega)]
  have e : ((2147483648 : Int).toNat) = 2147483648 := rfl
  rw [e, Int.toNat_natCast]
  have h := nat_sign X
  rw [tb31 X (by omega)] at h
  have h2 : (((X &&& 2147483648 : Nat) : Int) != 0) = ((X &&& 2147483648) != 0) := by
    rw [Bool.eq_iff_iff]; simp only [bne_iff_ne, ne_eq]; omega
  rw [h2, h, decide_eq_decide]; omega
theorem u32_over (a b c d : Int) (a0 : 0 ≤ a) (a1 : a < 4294967296) (b0 : 0 ≤ b) (b1 : b < 4294967296) (c0 : 0 ≤ c) (c1 : c < 4294967296) (d0 : 0 ≤ d) (d1 : d < 4294967296) :
    (bits .and .u32 (bits .and .u32 (bits .xor .u32 a b) (bits .xor .u32 c d)) 2147483648 != 0) = ((decide (2147483648 ≤ a) != decide (2147483648 ≤ b)) && (decide (2147483648 ≤ c) != decide (2147483648 ≤ d))) := by
  obtain ⟨A, rfl⟩ := Int.eq_ofNat_of_zero_le a0
  obtain ⟨B, rfl⟩ := Int.eq_ofNat_of_zero_le b0
  obtain ⟨C, rfl⟩ := Int.eq_ofNat_of_zero_le c0
  obtain ⟨D, rfl⟩ := Int.eq_ofNat_of_zero_le d0
  have x1 : A ^^^ B < 2 ^ 32 := Nat.xor_lt_two_pow (by omega) (by omega)
  have x2 : C ^^^ D < 2 ^ 32 := Nat.xor_lt_two_pow (by omega) (by omega)
  have x3 : (A ^^^ B) &&& (C ^^^ D) < 2 ^ 32 := Nat.and_lt_two_pow _ x2
  rw [u32_xor_nat A B (by omega) (by omega), u32_xor_nat C D (by omega) (by omega), u32_and_nat _ _ (by omega) (by omega),
    u32_sign _ (by omega) (by omega)]
  have h := tb31 ((A ^^^ B) &&& (C ^^^ D)) (by omega)
  rw [Nat.testBit_and, Nat.testBit_xor, Nat.testBit_xor, tb31 A (by omega), tb31 B (by omega), tb31 C (by omega), tb31 D (by omega)] at h
  have e : decide ((2147483648 : Int) ≤ (((A ^^^ B) &&& (C ^^^ D) : Nat) : Int)) = decide (2147483648 ≤ (A ^^^ B) &&& (C ^^^ D)) := by rw [decide_eq_decide]; omega
  have eA : ∀ X : Nat, decide ((2147483648 : Int) ≤ (X : Int)) = decide (2147483648 ≤ X) := fun X => by rw [decide_eq_decide]; omega
  rw [e, ← h, eA, eA, eA, eA]

/-! ### The arguments of a row read behind the call as they read before it. -/
theorem trodAll_stays {H : Type} {enc : TypeId × Value → H} {P : Program} (hl : laidOutB P = true) {W W' : World} {sp : Nat → Bool} (hb : Below W.heap.size W W') :
    ∀ (ts : List TypeId) (vs : List Value) (ds : List (DataW H)) (ps : List MemPlace), (ts.all fun t => P.readableRec t && decide (t < P.types.size)) = true →
      DataW.TrodAll enc P W 0 (fun _ => true) true ts vs ds ps → (∀ p ∈ ps, p.block < W.heap.size) → (∀ p ∈ ps, sp p.block = true) → DataW.TrodAll enc P W' 0 sp true ts vs ds ps
  | [], [], [], _, _, h, _, _ => h
  | t :: ts, v :: vs, d :: ds, ps, hr, h, hlt, hsp => by
    obtain ⟨p, q, h1, h2, rfl⟩ := h
    simp only [List.all_cons, Bool.and_eq_true, decide_eq_true_eq] at hr
    have hp : ∀ x ∈ p, x ∈ p ++ q := fun x hx => List.mem_append_left _ hx
    have hq : ∀ x ∈ q, x ∈ p ++ q := fun x hx => List.mem_append_right _ hx
    exact ⟨p, q, WideElems.Trod_stays hl hr.1.1 hr.1.2 h1 (fun x hx => hb.same (hlt x (hp x hx))) (fun x hx => hsp x (hp x hx)),
      trodAll_stays hl hb ts vs ds q hr.2 h2 (fun x hx => hlt x (hq x hx)) (fun x hx => hsp x (hq x hx)), rfl⟩
  | [], _ :: _, _, _, _, h, _, _ => h.elim
  | [], [], _ :: _, _, _, h, _, _ => h.elim
  | _ :: _, [], _, _, _, h, _, _ => by simp [DataW.TrodAll] at h
  | _ :: _, _ :: _, [], _, _, h, _, _ => by simp [DataW.TrodAll] at h

theorem wf_u32 {a : Int} (h : (Lit.int .u32 a).wf = true) : 0 ≤ a ∧ a < 4294967296 := by
  simp only [Lit.wf, Bool.and_eq_true, decide_eq_true_eq] at h
  have h1 : IntKind.u32.min = 0 := rfl
  have h2 : IntKind.u32.max = 4294967295 := rfl
  omega
theorem wf_i64 {a : Int} (h : (Lit.int .i64 a).wf = true) : -9223372036854775808 ≤ a ∧ a ≤ 9223372036854775807 := by
  simp only [Lit.wf, Bool.and_eq_true, decide_eq_true_eq] at h
  have h1 : IntKind.i64.min = -9223372036854775808 := rfl
  have h2 : IntKind.i64.max = 9223372036854775807 := rfl
  omega
theorem ret_bool {a b : Bool} (h : a = b) : Ending.returned (.bool a) = .returned (.bool b) := by rw [h]
theorem ret_int {k : IntKind} {a b : Int} (h : a = b) : Ending.returned (.int k a) = .returned (.int k b) := by rw [h]

/-! ### Values without memory: bools and integers, structs and arrays of them: what the cells are. -/
/-- v is a bool (none) or an integer of the kind. -/
def LeafIs (k : Option IntKind) (v : Value) : Prop :=
  match k with
  | none => ∃ b, v = .bool b
  | some k => ∃ n, v = .int k n ∧ (Lit.int k n).wf = true
def LeavesAre : List (Option IntKind) → List Value → Prop
  | [], [] => True
  | k :: ks, v :: vs => LeafIs k v ∧ LeavesAre ks vs
  | _, _ => False
theorem LeavesAre.append : ∀ {a b : List (Option IntKind)} {x y : List Value}, LeavesAre a x → LeavesAre b y → LeavesAre (a ++ b) (x ++ y)
  | [], _, [], _, _, h => h
  | _ :: _, _, _ :: _, _, h, h' => ⟨h.1, LeavesAre.append h.2 h'⟩
  | [], _, _ :: _, _, h, _ => h.elim
  | _ :: _, _, [], _, h, _ => h.elim
theorem LeavesAre.length : ∀ {a : List (Option IntKind)} {x : List Value}, LeavesAre a x → x.length = a.length
  | [], [], _ => rfl
  | _ :: _, _ :: _, h => by simp [LeavesAre.length h.2]
  | [], _ :: _, h => h.elim
  | _ :: _, [], h => h.elim

def flatFs (P : Program) (g : TypeId → Option (List (Option IntKind))) : Nat → List Field → Option (List (Option IntKind))
  | _, [] => some []
  | off, f :: fs =>
    if f.offset = off then
      match g f.type with
      | some k => if P.cellsOf f.type = k.length then (match flatFs P g (off + k.length) fs with | some r => some (k ++ r) | none => none) else none
      | none => none
    else none
def flatAr (k : List (Option IntKind)) : Nat → List (Option IntKind)
  | 0 => []
  | n + 1 => k ++ flatAr k n
def flat (P : Program) : Nat → TypeId → Option (List (Option IntKind))
  | 0, _ => none
  | n + 1, t =>
    match P.underlying t with
    | some .bool => some [none]
    | some (.int k) => some [some k]
    | some (.struct fs) => flatFs P (flat P n) 0 fs.toList
    | some (.array m e) => match flat P n e with | some k => if P.cellsOf e = k.length then some (flatAr k m) else none | none => none
    | _ => none

theorem flatFs_bd {P : Program} {g : TypeId → Option (List (Option IntKind))} : ∀ (fs : List Field) (off : Nat) (K : List (Option IntKind)), flatFs P g off fs = some K →
    ∀ f, f ∈ fs → ∀ k, g f.type = some k → P.cellsOf f.type = k.length ∧ f.offset + k.length ≤ off + K.length
  | [], _, _, _, f, hf, _, _ => by cases hf
  | f0 :: fs, off, K, h, f, hf, k, hk => by
    unfold flatFs at h
    by_cases ho : f0.offset = off
    · rw [if_pos ho] at h
      cases hk0 : g f0.type with
      | none => rw [hk0] at h; cases h
      | some k0 =>
        rw [hk0] at h
        dsimp only at h
        by_cases hc : P.cellsOf f0.type = k0.length
        · rw [if_pos hc] at h
          cases hr : flatFs P g (off + k0.length) fs with
          | none => rw [hr] at h; cases h
          | some r =>
            rw [hr] at h
            simp only [Option.some.injEq] at h
            subst h
            rcases List.mem_cons.1 hf with rfl | hf
            · rw [hk0, Option.some.injEq] at hk
              subst hk
              exact ⟨hc, by rw [List.length_append]; omega⟩
            · have := flatFs_bd fs (off + k0.length) r hr f hf k hk
              exact ⟨this.1, by rw [List.length_append]; omega⟩
        · rw [if_neg hc] at h; cases h
    · rw [if_neg ho] at h; cases h
theorem flatFs_is {P : Program} {g : TypeId → Option (List (Option IntKind))} {cs : List Value} : ∀ (fs : List Field) (off : Nat) (K : List (Option IntKind)), flatFs P g off fs = some K →
    (∀ f, f ∈ fs → ∀ k, g f.type = some k → LeavesAre k ((cs.drop f.offset).take (P.cellsOf f.type))) → LeavesAre K ((cs.drop off).take K.length)
  | [], off, K, h, _ => by
    simp only [flatFs, Option.some.injEq] at h
    subst h
    simp [LeavesAre]
  | f :: fs, off, K, h, hp => by
    unfold flatFs at h
    by_cases ho : f.offset = off
    · rw [if_pos ho] at h
      cases hk : g f.type with
      | none => rw [hk] at h; cases h
      | some k =>
        rw [hk] at h
        dsimp only at h
        by_cases hc : P.cellsOf f.type = k.length
        · rw [if_pos hc] at h
          cases hr : flatFs P g (off + k.length) fs with
          | none => rw [hr] at h; cases h
          | some r =>
            rw [hr] at h
            simp only [Option.some.injEq] at h
            subst h
            have h1 := hp f (List.mem_cons.2 (.inl rfl)) k hk
            have h2 := flatFs_is fs (off + k.length) r hr (fun f hf => hp f (List.mem_cons.2 (.inr hf)))
            rw [ho, hc] at h1
            have e : (cs.drop off).take (k ++ r).length = (cs.drop off).take k.length ++ (cs.drop (off + k.length)).take r.length := by
              rw [List.length_append, List.take_add, List.drop_drop]
            rw [e]
            exact h1.append h2
        · rw [if_neg hc] at h; cases h
    · rw [if_neg ho] at h; cases h

theorem flatAr_is {k : List (Option IntKind)} {cs : List Value} : ∀ (m off : Nat), (∀ i, i < m → LeavesAre k ((cs.drop ((off + i) * k.length)).take k.length)) → LeavesAre (flatAr k m) ((cs.drop (off * k.length)).take (flatAr k m).length)
  | 0, off, _ => by simp [flatAr, LeavesAre]
  | m + 1, off, h => by
    have h1 := h 0 (by omega)
    have h2 := flatAr_is m (off + 1) (fun i hi => by have := h (i + 1) (by omega); rwa [show off + (i + 1) = off + 1 + i by omega] at this)
    have e : (cs.drop (off * k.length)).take (flatAr k (m + 1)).length = (cs.drop (off * k.length)).take k.length ++ (cs.drop ((off + 1) * k.length)).take (flatAr k m).length := by
      show List.take (k ++ flatAr k m).length _ = _
      rw [List.length_append, List.take_add, List.drop_drop, Nat.succ_mul]
    rw [e]
    exact h1.append h2

theorem flatAr_length (k : List (Option IntKind)) : ∀ m, (flatAr k m).length = m * k.length
  | 0 => by simp [flatAr]
  | m + 1 => by simp [flatAr, flatAr_length k m, Nat.succ_mul, Nat.add_comm]

section
variable {H : Type} {enc : TypeId × Value → H} {P : Program} {w : World} {base : Nat} {spare : Nat → Bool} {held : Bool}
theorem flat_is : ∀ (n : Nat) (t : TypeId) (K : List (Option IntKind)) (fuel : Nat) (cs : List Value) (x : DataW H × List MemPlace), flat P n t = some K → cs.length = K.length →
    DataW.trod enc P w base spare held fuel t cs = some x → LeavesAre K cs
  | 0, _, _, _, _, _, h, _, _ => by cases h
  | n + 1, t, K, fuel, cs, x, h, hl, ht => by
    unfold flat at h
    cases hu : P.underlying t with
    | none => rw [hu] at h; cases h
    | some d =>
      rw [hu] at h
      cases d with
      | bool =>
        simp only [Option.some.injEq] at h
        subst h
        obtain ⟨b, rfl, _⟩ := DataW.trod_bool hu ht
        exact ⟨⟨b, rfl⟩, trivial⟩
      | int k =>
        simp only [Option.some.injEq] at h
        subst h
        obtain ⟨m, rfl, _, hw⟩ := DataW.trod_int hu ht
        exact ⟨⟨m, rfl, hw⟩, trivial⟩
      | struct fs =>
        dsimp only at h
        obtain ⟨xs, m, _, _, hlen, hxl, hf⟩ := DataW.trod_struct hu ht
        have hm := flatFs_is (cs := cs) fs.toList 0 K h (fun f hfm k hk => by
          obtain ⟨i, hi⟩ := List.mem_iff_getElem?.1 hfm
          have hi' : fs[i]? = some f := by simpa using hi
          have hil : i < fs.size := by
            rcases Nat.lt_or_ge i fs.size with h0 | h0
            · exact h0
            · rw [Array.getElem?_eq_none h0] at hi'; cases hi'
          have h1 := hf i f hi'
          rw [List.getElem?_eq_getElem (by omega)] at h1
          have hcl : ((cs.drop f.offset).take (P.cellsOf f.type)).length = k.length := by
            have hb := flatFs_bd fs.toList 0 K h f hfm k hk
            rw [List.length_take, List.length_drop, hb.1]; omega
          exact flat_is n f.type k m _ _ hk hcl h1)
        rw [List.drop_zero, List.take_of_length_le (by omega)] at hm
        exact hm
      | array m e =>
        dsimp only at h
        obtain ⟨xs, j, _, _, hlen, hxl, hf⟩ := DataW.trod_array hu ht
        cases hk : flat P n e with
        | none => rw [hk] at h; cases h
        | some k =>
          rw [hk] at h
          dsimp only at h
          by_cases hc : P.cellsOf e = k.length
          · rw [if_pos hc] at h
            simp only [Option.some.injEq] at h
            subst h
            have hm := flatAr_is (k := k) (cs := cs) m 0 (fun i hi => by
              have h1 := hf i hi
              rw [List.getElem?_eq_getElem (by omega), hc] at h1
              have hcl : ((cs.drop (i * k.length)).take k.length).length = k.length := by
                rw [flatAr_length] at hl
                rw [List.length_take, List.length_drop, hl]
                have : (i + 1) * k.length ≤ m * k.length := Nat.mul_le_mul_right _ (by omega)
                rw [Nat.succ_mul] at this
                omega
              rw [show 0 + i = i by omega]
              exact flat_is n e k j _ _ hk hcl h1)
            rw [Nat.zero_mul, List.drop_zero, List.take_of_length_le (by omega)] at hm
            exact hm
          · rw [if_neg hc] at h; cases h
      | _ => cases h
end

section
variable {H : Type} {enc : TypeId × Value → H} {P : Program} {w : World} {base : Nat} {spare : Nat → Bool} {held : Bool}
theorem open_flat {r : Reach} {b0 : Nat} {t : TypeId} {fs : Array Field} {v : Value} {d : DataW H} {p : List MemPlace} (K : List (Option IntKind)) (n : Nat) (hs : P.underlying t = some (.struct fs)) (hK : flat P n t = some K) (hC : P.cellsOf t = K.length)
    (hv : Value.okWide P w r b0 t v) (h : DataW.Trod enc P w base spare held t v d p) : ∃ cs : List Value, v = .agg cs.toArray ∧ LeavesAre K cs := by
  obtain ⟨cs, rfl, hsz⟩ := okWide_struct hs hv
  obtain ⟨fuel, hf⟩ := h
  have hl : cs.toList.length = K.length := by rw [← hC, ← hsz]; simp
  exact ⟨cs.toList, by simp, flat_is n t K fuel cs.toList _ hK hl hf⟩
end
theorem leaves_nil {cs : List Value} (h : LeavesAre [] cs) : cs = [] := by
  cases cs with
  | nil => rfl
  | cons _ _ => exact h.elim
theorem leaves_bool {K : List (Option IntKind)} {cs : List Value} (h : LeavesAre (none :: K) cs) : ∃ b cs', cs = .bool b :: cs' ∧ LeavesAre K cs' := by
  cases cs with
  | nil => exact h.elim
  | cons v vs => obtain ⟨⟨b, rfl⟩, h2⟩ := h; exact ⟨b, vs, rfl, h2⟩
theorem leaves_int {k : IntKind} {K : List (Option IntKind)} {cs : List Value} (h : LeavesAre (some k :: K) cs) : ∃ n cs', cs = .int k n :: cs' ∧ (Lit.int k n).wf = true ∧ LeavesAre K cs' := by
  cases cs with
  | nil => exact h.elim
  | cons v vs => obtain ⟨⟨n, rfl, hw⟩, h2⟩ := h; exact ⟨n, vs, rfl, hw, h2⟩
theorem leaves_flags {cs : List Value} (h : LeavesAre [none, none, none, none] cs) : ∃ z n c v : Bool, cs = [.bool z, .bool n, .bool c, .bool v] := by
  obtain ⟨z, cs1, rfl, h1⟩ := leaves_bool h
  obtain ⟨n, cs2, rfl, h2⟩ := leaves_bool h1
  obtain ⟨c, cs3, rfl, h3⟩ := leaves_bool h2
  obtain ⟨v, cs4, rfl, h4⟩ := leaves_bool h3
  obtain rfl := leaves_nil h4
  exact ⟨z, n, c, v, rfl⟩

end Go.Proofs.Ytjhdjclcfmcilaa
