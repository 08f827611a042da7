/-
  What Elements of package valueset and of the reference return, by the machine.
-/
import Derived.Test.YtjhdjclcfmcilaaT12
import Derived.Test.YtjhdjclcfmcilaaPl14b
import Derived.Test.YtjhdjclcfmcilaaVal5
namespace Go.Proofs.Ytjhdjclcfmcilaa
open Go.ChangeShapes Go.WideShapes Go.ChangeAt Go.RowKit
set_option linter.unusedVariables false
set_option linter.unusedSimpArgs false
set_option maxRecDepth 100000
theorem known_any2 (s : VSet) (h : s.wf) (w : World) : Calls Try.prog 41 #[s.val] w (Ret (normL s).val w) := known_any s h w
def e_known : Con Try.prog := .mk' ⟨41, [.a setK], .a setK, true⟩
  (fun ads => match ads with | [d1] => (setD d1).wf | _ => False)
  (fun ads => match ads with | [d1] => setInt (normL (setD d1)) | _ => fun _ => 0)
  (fun ads => match ads with | [d1] => setBool (normL (setD d1)) | _ => fun _ => false)
  ⟨_, Try.func41, by kernel_rfl, by kernel_rfl⟩ (fun ads w hf hp => by
    obtain ⟨d1, _, rfl, f1, hf⟩ := fits_cons hf
    obtain rfl := fits_nil hf
    show Calls _ _ #[d1.val] w _
    rw [fits_set f1]
    exact known_any2 (setD d1) hp w)
theorem count_any2 (s : VSet) (h : s.wf) (w : World) : Calls Try.prog 27 #[s.val] w (Ret (.int .i64 (countL s)) w) := count_any s h w
def e_count : Con Try.prog := .mk' ⟨27, [.a setK], .l (some .i64), true⟩
  (fun ads => match ads with | [d1] => (setD d1).wf | _ => False)
  (fun ads => match ads with | [d1] => fun _ => countL (setD d1) | _ => fun _ => 0)
  (fun ads => match ads with | [d1] => fun _ => false | _ => fun _ => false)
  ⟨_, Try.func27, by kernel_rfl, by kernel_rfl⟩ (fun ads w hf hp => by
    obtain ⟨d1, _, rfl, f1, hf⟩ := fits_cons hf
    obtain rfl := fits_nil hf
    show Calls _ _ #[d1.val] w _
    rw [fits_set f1]
    exact count_any2 (setD d1) hp w)
theorem norm_any2 (s : VSet) (h : s.wf) (w : World) : Calls Try.prog 42 #[s.val] w (Ret (normL s).val w) := norm_any s h w
def e_norm : Con Try.prog := .mk' ⟨42, [.a setK], .a setK, true⟩
  (fun ads => match ads with | [d1] => (setD d1).wf | _ => False)
  (fun ads => match ads with | [d1] => setInt (normL (setD d1)) | _ => fun _ => 0)
  (fun ads => match ads with | [d1] => setBool (normL (setD d1)) | _ => fun _ => false)
  ⟨_, Try.func42, by kernel_rfl, by kernel_rfl⟩ (fun ads w hf hp => by
    obtain ⟨d1, _, rfl, f1, hf⟩ := fits_cons hf
    obtain rfl := fits_nil hf
    show Calls _ _ #[d1.val] w _
    rw [fits_set f1]
    exact norm_any2 (setD d1) hp w)
theorem rcount_any2 (s : VSet) (h : s.wf) (w : World) : Calls Try.prog 28 #[s.val] w (Ret (.int .i64 (countL s)) w) := rcount_any s h w
def e_rcount : Con Try.prog := .mk' ⟨28, [.a setK], .l (some .i64), true⟩
  (fun ads => match ads with | [d1] => (setD d1).wf | _ => False)
  (fun ads => match ads with | [d1] => fun _ => countL (setD d1) | _ => fun _ => 0)
  (fun ads => match ads with | [d1] => fun _ => false | _ => fun _ => false)
  ⟨_, Try.func28, by kernel_rfl, by kernel_rfl⟩ (fun ads w hf hp => by
    obtain ⟨d1, _, rfl, f1, hf⟩ := fits_cons hf
    obtain rfl := fits_nil hf
    show Calls _ _ #[d1.val] w _
    rw [fits_set f1]
    exact rcount_any2 (setD d1) hp w)
theorem elem_range {s : VSet} (ws : s.wf) (vs : validL s = true) (hc : countN s ≤ 64) (k : Nat) (hk : (k : Int) < countN s) : 0 ≤ (k : Int) * s.st ∧ (k : Int) * s.st < 4294967296 ∧ 0 ≤ s.lo + (k : Int) * s.st ∧ s.lo + (k : Int) * s.st < 4294967296 := by
  obtain ⟨h1, h2, h3, h4⟩ := elem_bd ws vs k hk hc
  have h5 : 0 ≤ (k : Int) * s.st := Int.mul_nonneg (by omega) ws.2.2.2.2.1
  unfold elemN at h1 h2
  have := ws.1
  omega
end Go.Proofs.Ytjhdjclcfmcilaa
namespace Go.Proofs.Ytjhdjclcfmcilaa.T2
open Go.ChangeShapes Go.WideShapes Go.ChangeAt Go.RowKit
set_option linter.unusedVariables false
set_option linter.unusedSimpArgs false
set_option maxRecDepth 100000
theorem updE1 {α : Type} (f : Nat → α) (p : Nat) (x : α) (j : Nat) : updC f p [x] j = if j = p then x else f j := by
  by_cases h : j = p
  · subst h
    rw [if_pos rfl]
    exact updC_in (j := 0) rfl
  · rw [if_neg h]
    exact updC_out (by show j < p ∨ p + 1 ≤ j; omega)
theorem wrap_up {x : Int} (h0 : 0 ≤ x) (h1 : x ≤ 1000000) : IntKind.i64.wrap (x + 1) = x + 1 := by rw [IntKind.wrap_i64]; omega
theorem wrap_u {x : Int} (h0 : 0 ≤ x) (h1 : x < 4294967296) : IntKind.u32.wrap x = x := by
  show x % 4294967296 = x
  omega
theorem Try_mixed2 : Try.prog.follows .mixedOrders = true := by kernel_rfl
/-- What Elements returns. -/
def elPost (s : VSet) (m m' : Nm) : Prop := if countL s ≤ 64 then m.int 0 = countL s ∧ m.int 1 = 0 ∧ ∀ j : Nat, (j : Int) < countL s → m'.int j = elemN (normL s) j else m.int 0 = 0 ∧ m.int 1 = 6
structure EL (s : VSet) (h r : Nm) : Prop where
  k0 : 0 ≤ h.int 0
  kN : h.int 0 ≤ countL s
  k1 : h.int 1 = h.int 0
  el : ∀ j : Nat, (j : Int) < h.int 0 → r.int j = elemN (normL s) j
theorem count_nn {s : VSet} (hs : s.wf) : 0 ≤ countL s := by
  unfold countL
  rcases reg_kinds (normL_valid s) with h | h | h
  · rw [h]; decide
  · rw [h]; decide
  · have := (count_reg (normL_wf hs) h).1; omega
theorem count_norm {s : VSet} : countL (normL s) = countL s := by unfold countL; rw [normL_of (normL_valid s)]
theorem el_step {s : VSet} (hs : s.wf) {h h' r r' : Nm} {lo st : Int} (hc : countL s ≤ 64) (H : EL s h r) (hk : h.int 0 < countL s) (hlo : lo = (normL s).lo) (hst : st = (normL s).st) (e0 : h'.int 0 = h.int 0 + 1) (e1 : h'.int 1 = h.int 1 + 1)
    (er : r'.int = updC r.int (h.int 1).toNat [IntKind.u32.wrap (lo + IntKind.u32.wrap (IntKind.u32.wrap (h.int 0) * st))]) : EL s h' r' := by
  obtain ⟨k0, kN, k1, el⟩ := H
  refine ⟨by omega, by omega, by omega, fun j hj => ?_⟩
  rw [er, updE1]
  by_cases h2 : j = (h.int 1).toNat
  · rw [if_pos h2]
    have hj2 : (j : Int) = h.int 0 := by omega
    obtain ⟨q1, q2, q3, q4⟩ := elem_range (normL_wf hs) (normL_valid s) hc j (by show (j : Int) < countL s; omega)
    rw [← hj2, wrap_u (x := (j : Int)) (by omega) (by omega), hst, wrap_u q1 q2, hlo, wrap_u q3 q4]
    rfl
  · rw [if_neg h2]
    exact el j (by omega)
-- decompiler/valueset.Elements: 2 ways, 8 owed
def yelements_sg : List Sg := [⟨41, [.a setK], .b (.a setK), true, false⟩, ⟨27, [.a setK], .b (.l (some .i64)), true, false⟩]
def yelements_args : List PX := [.a (cellsX 0 0 setK)]
def yelements_rws : List Rw := []
def yelements_cfg : Cfg := ⟨2, yelements_sg, [⟨30, 7, 0, [.num (.s 14) (some .i64), .row (.s 5) [some .u32]], 14, .inl 13, true⟩], [], []⟩
def yelements_ls : List Lf := [⟨[.c (.c .gtr (.v 30 0) (.i 64)) true, .f 30 1 [(.a (cellsX 18 0 setK), 0)], .f 18 0 [(.a (cellsX 0 0 setK), 0)]], .tp [.l (.ns), .l (.n .i64 (.i 6))], [⟨2, .cells 24 (cellsX 18 0 setK)⟩]⟩,
  ⟨[.c (.c .lss (.v 58 0) (.v 30 0)) false, .g 58 1 0, .c (.c .gtr (.v 30 0) (.i 64)) false, .f 30 1 [(.a (cellsX 18 0 setK), 0)], .f 18 0 [(.a (cellsX 0 0 setK), 0)]], .tp [.l (.sl 59 (.v 58 1)), .l (.n .i64 (.i 0))], [⟨2, .cells 24 (cellsX 18 0 setK)⟩, ⟨59, .row [some .u32] (.v 58 1) 59⟩]⟩]
def yelements_os : List Ob := [.pre [] 0 [(.a (cellsX 0 0 setK), 0)],
  .pre [.f 18 0 [(.a (cellsX 0 0 setK), 0)]] 1 [(.a (cellsX 18 0 setK), 0)],
  .inv [.c (.c .gtr (.v 30 0) (.i 64)) false, .f 30 1 [(.a (cellsX 18 0 setK), 0)], .f 18 0 [(.a (cellsX 0 0 setK), 0)]] 0 58 [.n .i64 (.i 0), .n .i64 (.i 0)] [none],
  .cl [.c (.c .lss (.v 58 0) (.v 30 0)) true, .g 58 1 0, .c (.c .gtr (.v 30 0) (.i 64)) false, .f 30 1 [(.a (cellsX 18 0 setK), 0)], .f 18 0 [(.a (cellsX 0 0 setK), 0)]] (.c .geq (.v 58 1) (.i 0)),
  .cl [.c (.c .lss (.v 58 0) (.v 30 0)) true, .g 58 1 0, .c (.c .gtr (.v 30 0) (.i 64)) false, .f 30 1 [(.a (cellsX 18 0 setK), 0)], .f 18 0 [(.a (cellsX 0 0 setK), 0)]] (.c .leq (.v 58 1) (.i 1000000)),
  .inv [.u 112 (some 59) (.v 58 1) 1 0 ([.n .u32 (.o .add .u32 (.v 18 2) (.o .mul .u32 (.cv .u32 (.v 58 0)) (.v 18 4)))]), .c (.c .geq (.v 58 1) (.i 0)) true, .c (.c .leq (.v 58 1) (.i 1000000)) true, .c (.c .lss (.v 58 0) (.v 30 0)) true, .g 58 1 0, .c (.c .gtr (.v 30 0) (.i 64)) false, .f 30 1 [(.a (cellsX 18 0 setK), 0)], .f 18 0 [(.a (cellsX 0 0 setK), 0)]] 0 58 [.n .i64 (.o .add .i64 (.v 58 0) (.i 1)), .n .i64 (.o .add .i64 (.v 58 1) (.i 1))] [some (112, 112)],
  .cl [.u 112 (some 59) (.v 58 1) 1 0 ([.n .u32 (.o .add .u32 (.v 18 2) (.o .mul .u32 (.cv .u32 (.v 58 0)) (.v 18 4)))]), .c (.c .geq (.v 58 1) (.i 0)) true, .c (.c .leq (.v 58 1) (.i 1000000)) true, .c (.c .lss (.v 58 0) (.v 30 0)) true, .g 58 1 0, .c (.c .gtr (.v 30 0) (.i 64)) false, .f 30 1 [(.a (cellsX 18 0 setK), 0)], .f 18 0 [(.a (cellsX 0 0 setK), 0)]] (.c .lss (.v 58 0) (.o .add .i64 (.v 58 0) (.i 1))),
  .cl [.u 112 (some 59) (.v 58 1) 1 0 ([.n .u32 (.o .add .u32 (.v 18 2) (.o .mul .u32 (.cv .u32 (.v 58 0)) (.v 18 4)))]), .c (.c .geq (.v 58 1) (.i 0)) true, .c (.c .leq (.v 58 1) (.i 1000000)) true, .c (.c .lss (.v 58 0) (.v 30 0)) true, .g 58 1 0, .c (.c .gtr (.v 30 0) (.i 64)) false, .f 30 1 [(.a (cellsX 18 0 setK), 0)], .f 18 0 [(.a (cellsX 0 0 setK), 0)]] (.c .lss (.v 58 0) (.v 30 0))]
theorem yelements_run : funcX Try.prog yelements_cfg 1000 4 30 Try.f30 yelements_args yelements_rws = some (yelements_ls, yelements_os) := by kernel_rfl
def elementsC : List (Kon Try.prog) := [e_known.kon, e_count.kon]
theorem elementsc0 : elementsC[0]? = some e_known.kon := rfl
theorem elementsc1 : elementsC[1]? = some e_count.kon := rfl
theorem elementsp0 {d : AD} {m m' : Nm} : e_known.kon.post [d] m m' ↔ m.int = setInt (normL (setD d)) ∧ m.bool = setBool (normL (setD d)) := Iff.rfl
theorem elementsp1 {d : AD} {m m' : Nm} : e_count.kon.post [d] m m' ↔ (m.int = fun _ => countL (setD d)) ∧ m.bool = fun _ => false := Iff.rfl
set_option maxHeartbeats 4000000 in
theorem elements_any (s : VSet) (hs : s.wf) (w : World) : Calls Try.prog 30 #[s.val] w fun en w' => ∃ m m', en = .returned ((RZ.se [some .u32] (some .i64)).val m m') ∧ Below w.heap.size w w' ∧ elPost s m m' ∧ (RZ.se [some .u32] (some .i64)).mem w.heap.size w' m m' := by
  have c0 := count_nn hs
  refine own_of_tx (C := elementsC) (I := [fun _ e => EL s (e.nm 58) (e.nm 59)]) Try_mixed2 rfl Try.func30 yelements_run (envOf [nmB (setInt s) (setBool s)]) w rfl (fun r hr => (List.not_mem_nil hr).elim) (.se [some .u32] (some .i64)) (elPost s) ?_ ?_
  · refine ⟨?_, ?_, ?_, ?_, ?_, ?_, ?_, ?_, trivial⟩
    all_goals
      intro e he hc
      have h0 : e.nm 0 = nmB (setInt s) (setBool s) := he 0 (by decide)
      have hS : setD (PX.dat e 0 (.a (cellsX 0 0 setK))) = s := by rw [setD_cells]; exact setE_of e 0 (show (e.nm 0).int = _ by rw [h0]; rfl) (show (e.nm 0).bool = _ by rw [h0]; rfl)
      simp only [Each, Owed, Cd.holds, dv1, dv2, di1, db2, dr1, dr2, dq1, dq2, do1, dlss_t, dlss_f, dgtr_t, dgtr_f, dleq_t, dleq_f, dgeq_t, dgeq_f, deql_t, deql_f, dneq_t, dneq_f, dno_t, dno_f, dan_t, dan_f, deq_t, deq_f, List.map_cons, List.map_nil, Nat.mul_one, Nat.add_zero, List.getElem?_cons_zero, List.getElem?_cons_succ, Option.some.injEq, exists_eq_left', and_true, and_assoc, Env.int, Env.bool, cut_nm, Nat.reduceLeDiff, Nat.reduceAdd, nums0, subc_d, elementsc0, elementsc1, elementsp0, elementsp1, datP, hS] at hc
    all_goals
      try (have f18 : (e.nm 18).int = setInt (normL s) := by (have q := hc; repeat first | exact q | exact q.1 | replace q := q.2)
           have g18 : (e.nm 18).bool = setBool (normL s) := by (have q := hc; repeat first | exact q | exact q.1 | replace q := q.2)
           have hN : setD (PX.dat e 0 (.a (cellsX 18 0 setK))) = normL s := by rw [setD_cells]; exact setE_of e 18 f18 g18)
    all_goals
      try (have f30 : (e.nm 30).int 0 = countL s := by
             have q : (e.nm 30).int = fun _ => countL (setD (PX.dat e 0 (.a (cellsX 18 0 setK)))) := by (have q := hc; repeat first | exact q | exact q.1 | replace q := q.2)
             rw [q, hN, count_norm])
    all_goals
      try (have H : EL s (e.nm 58) (e.nm 59) := by (have q := hc; repeat first | exact q | exact q.1 | replace q := q.2)
           have k0 := H.k0; have kN := H.kN; have k1 := H.k1)
    all_goals
      try (have c64 : ¬ 64 < (e.nm 30).int 0 := by (have q := hc; repeat first | exact q | exact q.1 | replace q := q.2))
    all_goals
      first
        | (show (setD (PX.dat e 0 (.a (cellsX 0 0 setK)))).wf; rw [hS]; exact hs)
        | (show (setD (PX.dat e 0 (.a (cellsX 18 0 setK)))).wf; rw [hN]; exact normL_wf hs)
        | (simp only [Each, Owed, Cd.holds, dv1, dv2, di1, db2, dr1, dr2, dq1, dq2, do1, dlss_t, dlss_f, dgtr_t, dgtr_f, dleq_t, dleq_f, dgeq_t, dgeq_f, deql_t, deql_f, dneq_t, dneq_f, dno_t, dno_f, dan_t, dan_f, deq_t, deq_f, List.map_cons, List.map_nil, Nat.mul_one, Nat.add_zero, List.getElem?_cons_zero, List.getElem?_cons_succ, Option.some.injEq, exists_eq_left', and_true, and_assoc, Env.int, Env.bool, cut_nm, Nat.reduceLeDiff, Nat.reduceAdd, nums0, subc_d]; first | omega | (rw [wrap_up (by omega) (by omega)]; omega) | fail "")
        | (exact ⟨Int.le_refl 0, c0, rfl, fun j hj => absurd hj (by show ¬ (j : Int) < 0; omega)⟩)
        | (have hk : (e.nm 58).int 0 < (e.nm 30).int 0 := by (have q := hc; repeat first | exact q | exact q.1 | replace q := q.2)
           have s0 : IntKind.i64.wrap ((e.nm 58).int 0 + 1) = (e.nm 58).int 0 + 1 := wrap_up k0 (by omega)
           have s1 : IntKind.i64.wrap ((e.nm 58).int 1 + 1) = (e.nm 58).int 1 + 1 := wrap_up (by omega) (by omega)
           have u1 : (e.nm 112).int = updC (e.nm 59).int ((e.nm 58).int 1).toNat [IntKind.u32.wrap ((e.nm 18).int 2 + IntKind.u32.wrap (IntKind.u32.wrap ((e.nm 58).int 0) * (e.nm 18).int 4))] := by (have q := hc; repeat first | exact q | exact q.1 | replace q := q.2)
           exact el_step hs (by omega) H (by omega) (show (e.nm 18).int 2 = _ by rw [f18]; rfl) (show (e.nm 18).int 4 = _ by rw [f18]; rfl) s0 s1 u1)
        | fail ""
  · refine ⟨?_, ?_, trivial⟩
    all_goals
      intro e u w' he hc hs0 hb
      have h0 : e.nm 0 = nmB (setInt s) (setBool s) := he 0 (by decide)
      have hS : setD (PX.dat e 0 (.a (cellsX 0 0 setK))) = s := by rw [setD_cells]; exact setE_of e 0 (show (e.nm 0).int = _ by rw [h0]; rfl) (show (e.nm 0).bool = _ by rw [h0]; rfl)
      simp only [Each, Owed, Cd.holds, dv1, dv2, di1, db2, dr1, dr2, dq1, dq2, do1, dlss_t, dlss_f, dgtr_t, dgtr_f, dleq_t, dleq_f, dgeq_t, dgeq_f, deql_t, deql_f, dneq_t, dneq_f, dno_t, dno_f, dan_t, dan_f, deq_t, deq_f, List.map_cons, List.map_nil, Nat.mul_one, Nat.add_zero, List.getElem?_cons_zero, List.getElem?_cons_succ, Option.some.injEq, exists_eq_left', and_true, and_assoc, Env.int, Env.bool, cut_nm, Nat.reduceLeDiff, Nat.reduceAdd, nums0, subc_d, elementsc0, elementsc1, elementsp0, elementsp1, datP, hS] at hc
      have f18 : (e.nm 18).int = setInt (normL s) := by (have q := hc; repeat first | exact q | exact q.1 | replace q := q.2)
      have g18 : (e.nm 18).bool = setBool (normL s) := by (have q := hc; repeat first | exact q | exact q.1 | replace q := q.2)
      have hN : setD (PX.dat e 0 (.a (cellsX 18 0 setK))) = normL s := by rw [setD_cells]; exact setE_of e 18 f18 g18
      have f30 : (e.nm 30).int 0 = countL s := by
        have q : (e.nm 30).int = fun _ => countL (setD (PX.dat e 0 (.a (cellsX 18 0 setK)))) := by (have q := hc; repeat first | exact q | exact q.1 | replace q := q.2)
        rw [q, hN, count_norm]
      rw [show u = _ from hs0]
    · have c64 : 64 < (e.nm 30).int 0 := by (have q := hc; repeat first | exact q | exact q.1 | replace q := q.2)
      refine ⟨nmI fun j => if j = 1 then 6 else 0, Nm.zero, rfl, ?_, Nat.le_refl _, .inl ⟨rfl, rfl⟩⟩
      unfold elPost
      rw [if_neg (by omega)]
      exact ⟨rfl, rfl⟩
    · have c64 : ¬ 64 < (e.nm 30).int 0 := by (have q := hc; repeat first | exact q | exact q.1 | replace q := q.2)
      have H : EL s (e.nm 58) (e.nm 59) := by (have q := hc; repeat first | exact q | exact q.1 | replace q := q.2)
      have k0 := H.k0; have kN := H.kN; have k1 := H.k1
      have ce : ¬ (e.nm 58).int 0 < (e.nm 30).int 0 := by (have q := hc; repeat first | exact q | exact q.1 | replace q := q.2)
      refine ⟨nmI fun j => if j = 1 then 0 else (e.nm 58).int 1, e.nm 59, rfl, ?_, hb.2.1⟩
      unfold elPost
      rw [if_pos (by omega)]
      exact ⟨show (e.nm 58).int 1 = countL s by omega, rfl, fun j hj => H.el j (by omega)⟩
def k_elements : Kon Try.prog where
  sg := ⟨30, [.a setK], .se [some .u32] (some .i64), false, false⟩
  pre ads := match ads with | [d1] => (setD d1).wf | _ => False
  post ads m m' := match ads with | [d1] => elPost (setD d1) m m' | _ => True
  body := ⟨_, Try.func30, by kernel_rfl, by kernel_rfl⟩
  free h := by cases h
  flat h := by cases h
  total h := by cases h
  same h := by cases h
  sound ads w hf hp := by
    obtain ⟨d1, _, rfl, f1, hf⟩ := fits_cons hf
    obtain rfl := fits_nil hf
    show Calls _ _ #[d1.val] w _
    rw [fits_set f1]
    exact elements_any _ hp w
-- decompiler/decompilerref14.Elements: 2 ways, 9 owed
def yrelements_sg : List Sg := [⟨42, [.a setK], .b (.a setK), true, false⟩, ⟨28, [.a setK], .b (.l (some .i64)), true, false⟩]
def yrelements_args : List PX := [.a (cellsX 0 0 setK)]
def yrelements_rws : List Rw := []
def yrelements_cfg : Cfg := ⟨2, yrelements_sg, [⟨43, 4, 0, [.num (.s 5) (some .i64), .row (.s 3) [some .u32]], 5, .inl 4, true⟩], [43], []⟩
def yrelements_ls : List Lf := [⟨[.c (.c .gtr (.v 30 0) (.i 64)) true, .f 30 1 [(.a (cellsX 18 0 setK), 0)], .f 18 0 [(.a (cellsX 0 0 setK), 0)]], .tp [.l (.ns), .l (.n .i64 (.i 6))], [⟨2, .cells 24 (cellsX 18 0 setK)⟩]⟩,
  ⟨[.c (.c .lss (.v 82 0) (.v 30 0)) false, .g 82 1 0, .c (.c .gtr (.v 30 0) (.i 64)) false, .f 30 1 [(.a (cellsX 18 0 setK), 0)], .f 18 0 [(.a (cellsX 0 0 setK), 0)]], .tp [.l (.sl 83 (.v 82 1)), .l (.n .i64 (.i 0))], [⟨2, .cells 24 (cellsX 18 0 setK)⟩, ⟨54, .cells 24 (cellsX 18 0 setK)⟩, ⟨83, .row [some .u32] (.v 82 1) 83⟩]⟩]
def yrelements_os : List Ob := [.pre [] 0 [(.a (cellsX 0 0 setK), 0)],
  .pre [.f 18 0 [(.a (cellsX 0 0 setK), 0)]] 1 [(.a (cellsX 18 0 setK), 0)],
  .pre [.c (.c .gtr (.v 30 0) (.i 64)) false, .f 30 1 [(.a (cellsX 18 0 setK), 0)], .f 18 0 [(.a (cellsX 0 0 setK), 0)]] 1 [(.a (cellsX 18 0 setK), 0)],
  .inv [.c (.c .gtr (.v 30 0) (.i 64)) false, .f 30 1 [(.a (cellsX 18 0 setK), 0)], .f 18 0 [(.a (cellsX 0 0 setK), 0)]] 0 82 [.n .i64 (.i 0), .n .i64 (.i 0)] [none],
  .cl [.c (.c .lss (.v 82 0) (.v 30 0)) true, .g 82 1 0, .c (.c .gtr (.v 30 0) (.i 64)) false, .f 30 1 [(.a (cellsX 18 0 setK), 0)], .f 18 0 [(.a (cellsX 0 0 setK), 0)]] (.c .geq (.v 82 1) (.i 0)),
  .cl [.c (.c .lss (.v 82 0) (.v 30 0)) true, .g 82 1 0, .c (.c .gtr (.v 30 0) (.i 64)) false, .f 30 1 [(.a (cellsX 18 0 setK), 0)], .f 18 0 [(.a (cellsX 0 0 setK), 0)]] (.c .leq (.v 82 1) (.i 1000000)),
  .inv [.u 136 (some 83) (.v 82 1) 1 0 ([.n .u32 (.o .add .u32 (.v 18 2) (.o .mul .u32 (.cv .u32 (.v 82 0)) (.v 18 4)))]), .c (.c .geq (.v 82 1) (.i 0)) true, .c (.c .leq (.v 82 1) (.i 1000000)) true, .c (.c .lss (.v 82 0) (.v 30 0)) true, .g 82 1 0, .c (.c .gtr (.v 30 0) (.i 64)) false, .f 30 1 [(.a (cellsX 18 0 setK), 0)], .f 18 0 [(.a (cellsX 0 0 setK), 0)]] 0 82 [.n .i64 (.o .add .i64 (.v 82 0) (.i 1)), .n .i64 (.o .add .i64 (.v 82 1) (.i 1))] [some (136, 136)],
  .cl [.u 136 (some 83) (.v 82 1) 1 0 ([.n .u32 (.o .add .u32 (.v 18 2) (.o .mul .u32 (.cv .u32 (.v 82 0)) (.v 18 4)))]), .c (.c .geq (.v 82 1) (.i 0)) true, .c (.c .leq (.v 82 1) (.i 1000000)) true, .c (.c .lss (.v 82 0) (.v 30 0)) true, .g 82 1 0, .c (.c .gtr (.v 30 0) (.i 64)) false, .f 30 1 [(.a (cellsX 18 0 setK), 0)], .f 18 0 [(.a (cellsX 0 0 setK), 0)]] (.c .lss (.v 82 0) (.o .add .i64 (.v 82 0) (.i 1))),
  .cl [.u 136 (some 83) (.v 82 1) 1 0 ([.n .u32 (.o .add .u32 (.v 18 2) (.o .mul .u32 (.cv .u32 (.v 82 0)) (.v 18 4)))]), .c (.c .geq (.v 82 1) (.i 0)) true, .c (.c .leq (.v 82 1) (.i 1000000)) true, .c (.c .lss (.v 82 0) (.v 30 0)) true, .g 82 1 0, .c (.c .gtr (.v 30 0) (.i 64)) false, .f 30 1 [(.a (cellsX 18 0 setK), 0)], .f 18 0 [(.a (cellsX 0 0 setK), 0)]] (.c .lss (.v 82 0) (.v 30 0))]
theorem yrelements_run : funcX Try.prog yrelements_cfg 1000 4 31 Try.f31 yrelements_args yrelements_rws = some (yrelements_ls, yrelements_os) := by kernel_rfl
def relementsC : List (Kon Try.prog) := [e_norm.kon, e_rcount.kon]
theorem relementsc0 : relementsC[0]? = some e_norm.kon := rfl
theorem relementsc1 : relementsC[1]? = some e_rcount.kon := rfl
theorem relementsp0 {d : AD} {m m' : Nm} : e_norm.kon.post [d] m m' ↔ m.int = setInt (normL (setD d)) ∧ m.bool = setBool (normL (setD d)) := Iff.rfl
theorem relementsp1 {d : AD} {m m' : Nm} : e_rcount.kon.post [d] m m' ↔ (m.int = fun _ => countL (setD d)) ∧ m.bool = fun _ => false := Iff.rfl
set_option maxHeartbeats 4000000 in
theorem relements_any (s : VSet) (hs : s.wf) (w : World) : Calls Try.prog 31 #[s.val] w fun en w' => ∃ m m', en = .returned ((RZ.se [some .u32] (some .i64)).val m m') ∧ Below w.heap.size w w' ∧ elPost s m m' ∧ (RZ.se [some .u32] (some .i64)).mem w.heap.size w' m m' := by
  have c0 := count_nn hs
  refine own_of_tx (C := relementsC) (I := [fun _ e => EL s (e.nm 82) (e.nm 83)]) Try_mixed2 rfl Try.func31 yrelements_run (envOf [nmB (setInt s) (setBool s)]) w rfl (fun r hr => (List.not_mem_nil hr).elim) (.se [some .u32] (some .i64)) (elPost s) ?_ ?_
  · refine ⟨?_, ?_, ?_, ?_, ?_, ?_, ?_, ?_, ?_, trivial⟩
    all_goals
      intro e he hc
      have h0 : e.nm 0 = nmB (setInt s) (setBool s) := he 0 (by decide)
      have hS : setD (PX.dat e 0 (.a (cellsX 0 0 setK))) = s := by rw [setD_cells]; exact setE_of e 0 (show (e.nm 0).int = _ by rw [h0]; rfl) (show (e.nm 0).bool = _ by rw [h0]; rfl)
      simp only [Each, Owed, Cd.holds, dv1, dv2, di1, db2, dr1, dr2, dq1, dq2, do1, dlss_t, dlss_f, dgtr_t, dgtr_f, dleq_t, dleq_f, dgeq_t, dgeq_f, deql_t, deql_f, dneq_t, dneq_f, dno_t, dno_f, dan_t, dan_f, deq_t, deq_f, List.map_cons, List.map_nil, Nat.mul_one, Nat.add_zero, List.getElem?_cons_zero, List.getElem?_cons_succ, Option.some.injEq, exists_eq_left', and_true, and_assoc, Env.int, Env.bool, cut_nm, Nat.reduceLeDiff, Nat.reduceAdd, nums0, subc_d, relementsc0, relementsc1, relementsp0, relementsp1, datP, hS] at hc
    all_goals
      try (have f18 : (e.nm 18).int = setInt (normL s) := by (have q := hc; repeat first | exact q | exact q.1 | replace q := q.2)
           have g18 : (e.nm 18).bool = setBool (normL s) := by (have q := hc; repeat first | exact q | exact q.1 | replace q := q.2)
           have hN : setD (PX.dat e 0 (.a (cellsX 18 0 setK))) = normL s := by rw [setD_cells]; exact setE_of e 18 f18 g18)
    all_goals
      try (have f30 : (e.nm 30).int 0 = countL s := by
             have q : (e.nm 30).int = fun _ => countL (setD (PX.dat e 0 (.a (cellsX 18 0 setK)))) := by (have q := hc; repeat first | exact q | exact q.1 | replace q := q.2)
             rw [q, hN, count_norm])
    all_goals
      try (have H : EL s (e.nm 82) (e.nm 83) := by (have q := hc; repeat first | exact q | exact q.1 | replace q := q.2)
           have k0 := H.k0; have kN := H.kN; have k1 := H.k1)
    all_goals
      try (have c64 : ¬ 64 < (e.nm 30).int 0 := by (have q := hc; repeat first | exact q | exact q.1 | replace q := q.2))
    all_goals
      first
        | (show (setD (PX.dat e 0 (.a (cellsX 0 0 setK)))).wf; rw [hS]; exact hs)
        | (show (setD (PX.dat e 0 (.a (cellsX 18 0 setK)))).wf; rw [hN]; exact normL_wf hs)
        | (simp only [Each, Owed, Cd.holds, dv1, dv2, di1, db2, dr1, dr2, dq1, dq2, do1, dlss_t, dlss_f, dgtr_t, dgtr_f, dleq_t, dleq_f, dgeq_t, dgeq_f, deql_t, deql_f, dneq_t, dneq_f, dno_t, dno_f, dan_t, dan_f, deq_t, deq_f, List.map_cons, List.map_nil, Nat.mul_one, Nat.add_zero, List.getElem?_cons_zero, List.getElem?_cons_succ, Option.some.injEq, exists_eq_left', and_true, and_assoc, Env.int, Env.bool, cut_nm, Nat.reduceLeDiff, Nat.reduceAdd, nums0, subc_d]; first | omega | (rw [wrap_up (by omega) (by omega)]; omega) | fail "")
        | (exact ⟨Int.le_refl 0, c0, rfl, fun j hj => absurd hj (by show ¬ (j : Int) < 0; omega)⟩)
        | (have hk : (e.nm 82).int 0 < (e.nm 30).int 0 := by (have q := hc; repeat first | exact q | exact q.1 | replace q := q.2)
           have s0 : IntKind.i64.wrap ((e.nm 82).int 0 + 1) = (e.nm 82).int 0 + 1 := wrap_up k0 (by omega)
           have s1 : IntKind.i64.wrap ((e.nm 82).int 1 + 1) = (e.nm 82).int 1 + 1 := wrap_up (by omega) (by omega)
           have u1 : (e.nm 136).int = updC (e.nm 83).int ((e.nm 82).int 1).toNat [IntKind.u32.wrap ((e.nm 18).int 2 + IntKind.u32.wrap (IntKind.u32.wrap ((e.nm 82).int 0) * (e.nm 18).int 4))] := by (have q := hc; repeat first | exact q | exact q.1 | replace q := q.2)
           exact el_step hs (by omega) H (by omega) (show (e.nm 18).int 2 = _ by rw [f18]; rfl) (show (e.nm 18).int 4 = _ by rw [f18]; rfl) s0 s1 u1)
        | fail ""
  · refine ⟨?_, ?_, trivial⟩
    all_goals
      intro e u w' he hc hs0 hb
      have h0 : e.nm 0 = nmB (setInt s) (setBool s) := he 0 (by decide)
      have hS : setD (PX.dat e 0 (.a (cellsX 0 0 setK))) = s := by rw [setD_cells]; exact setE_of e 0 (show (e.nm 0).int = _ by rw [h0]; rfl) (show (e.nm 0).bool = _ by rw [h0]; rfl)
      simp only [Each, Owed, Cd.holds, dv1, dv2, di1, db2, dr1, dr2, dq1, dq2, do1, dlss_t, dlss_f, dgtr_t, dgtr_f, dleq_t, dleq_f, dgeq_t, dgeq_f, deql_t, deql_f, dneq_t, dneq_f, dno_t, dno_f, dan_t, dan_f, deq_t, deq_f, List.map_cons, List.map_nil, Nat.mul_one, Nat.add_zero, List.getElem?_cons_zero, List.getElem?_cons_succ, Option.some.injEq, exists_eq_left', and_true, and_assoc, Env.int, Env.bool, cut_nm, Nat.reduceLeDiff, Nat.reduceAdd, nums0, subc_d, relementsc0, relementsc1, relementsp0, relementsp1, datP, hS] at hc
      have f18 : (e.nm 18).int = setInt (normL s) := by (have q := hc; repeat first | exact q | exact q.1 | replace q := q.2)
      have g18 : (e.nm 18).bool = setBool (normL s) := by (have q := hc; repeat first | exact q | exact q.1 | replace q := q.2)
      have hN : setD (PX.dat e 0 (.a (cellsX 18 0 setK))) = normL s := by rw [setD_cells]; exact setE_of e 18 f18 g18
      have f30 : (e.nm 30).int 0 = countL s := by
        have q : (e.nm 30).int = fun _ => countL (setD (PX.dat e 0 (.a (cellsX 18 0 setK)))) := by (have q := hc; repeat first | exact q | exact q.1 | replace q := q.2)
        rw [q, hN, count_norm]
      rw [show u = _ from hs0]
    · have c64 : 64 < (e.nm 30).int 0 := by (have q := hc; repeat first | exact q | exact q.1 | replace q := q.2)
      refine ⟨nmI fun j => if j = 1 then 6 else 0, Nm.zero, rfl, ?_, Nat.le_refl _, .inl ⟨rfl, rfl⟩⟩
      unfold elPost
      rw [if_neg (by omega)]
      exact ⟨rfl, rfl⟩
    · have c64 : ¬ 64 < (e.nm 30).int 0 := by (have q := hc; repeat first | exact q | exact q.1 | replace q := q.2)
      have H : EL s (e.nm 82) (e.nm 83) := by (have q := hc; repeat first | exact q | exact q.1 | replace q := q.2)
      have k0 := H.k0; have kN := H.kN; have k1 := H.k1
      have ce : ¬ (e.nm 82).int 0 < (e.nm 30).int 0 := by (have q := hc; repeat first | exact q | exact q.1 | replace q := q.2)
      refine ⟨nmI fun j => if j = 1 then 0 else (e.nm 82).int 1, e.nm 83, rfl, ?_, hb.2.2.1⟩
      unfold elPost
      rw [if_pos (by omega)]
      exact ⟨show (e.nm 82).int 1 = countL s by omega, rfl, fun j hj => H.el j (by omega)⟩
def k_relements : Kon Try.prog where
  sg := ⟨31, [.a setK], .se [some .u32] (some .i64), false, false⟩
  pre ads := match ads with | [d1] => (setD d1).wf | _ => False
  post ads m m' := match ads with | [d1] => elPost (setD d1) m m' | _ => True
  body := ⟨_, Try.func31, by kernel_rfl, by kernel_rfl⟩
  free h := by cases h
  flat h := by cases h
  total h := by cases h
  same h := by cases h
  sound ads w hf hp := by
    obtain ⟨d1, _, rfl, f1, hf⟩ := fits_cons hf
    obtain rfl := fits_nil hf
    show Calls _ _ #[d1.val] w _
    rw [fits_set f1]
    exact relements_any _ hp w
end Go.Proofs.Ytjhdjclcfmcilaa.T2
