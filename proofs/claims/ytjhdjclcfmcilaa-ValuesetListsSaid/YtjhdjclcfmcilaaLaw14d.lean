/-
  ValuesetLists: for all sets a the call returns true: Elements returns what the reference returns, the elements rise and each is contained, Count is their number. No condition on the inputs.
-/
import Derived.Test.YtjhdjclcfmcilaaRows
import Derived.Test.YtjhdjclcfmcilaaEx14
import Derived.Test.YtjhdjclcfmcilaaVal27
namespace Go.Proofs.Ytjhdjclcfmcilaa
open Go.ChangeShapes Go.WideShapes Go.ChangeAt Go.RowKit
set_option linter.unusedVariables false
set_option linter.unusedSimpArgs false
set_option maxRecDepth 100000
theorem Try_laidOut : laidOutB Try.prog = true := by kernel_rfl
theorem contains_any2 (a : VSet) (n : Int) (h : a.wf ∧ u32R n) (w : World) : Calls Try.prog 25 #[a.val, .int .u32 n] w (Ret (.bool (containsL a n)) w) := contains_any a h.1 n h.2.1 h.2.2 w
def e_contains : Con Try.prog := .mk' ⟨25, [.a setK, .l (some .u32)], .l none, true⟩
  (fun ads => match ads with | [d1, d2] => (setD d1).wf ∧ u32R (numD d2) | _ => False)
  (fun ads => match ads with | [d1, d2] => fun _ => 0 | _ => fun _ => 0)
  (fun ads => match ads with | [d1, d2] => fun _ => containsL (setD d1) (numD d2) | _ => fun _ => false)
  ⟨_, Try.func25, by kernel_rfl, by kernel_rfl⟩ (fun ads w hf hp => by
    obtain ⟨d1, _, rfl, f1, hf⟩ := fits_cons hf
    obtain ⟨d2, _, rfl, f2, hf⟩ := fits_cons hf
    obtain rfl := fits_nil hf
    show Calls _ _ #[d1.val, d2.val] w _
    rw [fits_set f1, fits_num f2]
    exact contains_any2 (setD d1) (numD d2) hp w)
def e_ex : Con Try.prog := .mk' ⟨20, [], .l none, true⟩
  (fun ads => match ads with | [] => True | _ => False)
  (fun ads => match ads with | [] => fun _ => 0 | _ => fun _ => 0)
  (fun ads => match ads with | [] => fun _ => true | _ => fun _ => false)
  ⟨_, Try.func20, by kernel_rfl, by kernel_rfl⟩ (fun ads w hf hp => by
    obtain rfl := fits_nil hf
    exact ex14_any  w)
/-- What the elements of a set with few are: in range, contained, rising. -/
theorem elem_two {a : VSet} (ha : a.wf) (hc : countL a ≤ 64) (j : Nat) (hj : (j : Int) < countL a) : u32R (elemN (normL a) j) ∧ containsL a (elemN (normL a) j) = true ∧ ∀ i : Nat, i + 1 = j → elemN (normL a) i < elemN (normL a) j := by
  have na := normL_wf ha
  have va := normL_valid a
  obtain ⟨q1, q2, q3⟩ := elems_mem na va hc (elemN (normL a) j) (List.mem_map.2 ⟨j, List.mem_range.2 (by have : (j : Int) < countN (normL a) := hj; omega), rfl⟩)
  refine ⟨⟨q1, q2⟩, q3, fun i hi => ?_⟩
  subst hi
  have hj' : ((i + 1 : Nat) : Int) < countN (normL a) := hj
  have hr := (elem_bd na va i (by omega) hc).2.2.2
  refine elem_lt i ?_
  rcases Int.lt_or_eq_of_le na.2.2.2.2.1 with h | h
  · exact h
  · have := (count_reg na hr).2
    rw [← h, Int.ediv_zero] at this; omega
end Go.Proofs.Ytjhdjclcfmcilaa
namespace Go.Proofs.Ytjhdjclcfmcilaa.T2
open Go.ChangeShapes Go.WideShapes Go.ChangeAt Go.RowKit
set_option linter.unusedVariables false
set_option linter.unusedSimpArgs false
set_option maxRecDepth 100000
-- decompiler/decompilerlaw14.ValuesetLists: 3 ways, 17 owed
def yLawL_sg : List Sg := [⟨30, [.a setK], .se [some .u32] (some .i64), false, false⟩, ⟨31, [.a setK], .se [some .u32] (some .i64), false, false⟩, ⟨25, [.a setK, .l (some .u32)], .b (.l none), true, false⟩, ⟨27, [.a setK], .b (.l (some .i64)), true, false⟩, ⟨20, [], .b (.l none), true, false⟩]
def yLawL_args : List PX := [.a (cellsX 0 0 setK)]
def yLawL_rws : List Rw := []
def yLawL_cfg : Cfg := ⟨2, yLawL_sg, [⟨7, 6, 0, [.num (.s 7) (some .i64)], 7, .inr (.i 64), true⟩], [], []⟩
def yLawL_ls : List Lf := [⟨[.c (.an (.no (.c .neq (.v 14 1) (.v 42 1))) (.no (.c .neq (.v 14 0) (.v 42 0)))) false, .f 42 1 [(.a (cellsX 0 0 setK), 0)], .f 14 0 [(.a (cellsX 0 0 setK), 0)]], .v (.l (.t (.b false))), [⟨43, .row [some .u32] (.v 42 0) 43⟩, ⟨15, .row [some .u32] (.v 14 0) 15⟩, ⟨2, .cells 24 (cellsX 0 0 setK)⟩]⟩,
  ⟨[.c (.an (.an (.no (.c .neq (.r 15 1 0 (.v 110 0)) (.r 43 1 0 (.v 110 0)))) (.v 187 0)) (.no (.an (.c .gtr (.v 110 0) (.i 0)) (.c .leq (.r 15 1 0 (.v 110 0)) (.r 15 1 0 (.o .sub .i64 (.v 110 0) (.i 1))))))) false, .f 187 2 [(.a (cellsX 0 0 setK), 0), (.l (.n .u32 (.r 15 1 0 (.v 110 0))), 0)], .g 110 0 0, .f 42 1 [(.a (cellsX 0 0 setK), 0)], .f 14 0 [(.a (cellsX 0 0 setK), 0)], .c (.c .lss (.v 110 0) (.v 42 0)) true, .c (.c .lss (.v 110 0) (.v 14 0)) true, .c (.c .geq (.v 110 0) (.i 0)) true, .c (.c .neq (.v 14 1) (.v 42 1)) false, .c (.c .neq (.v 14 0) (.v 42 0)) false, .c (.c .geq (.v 42 0) (.i 0)) true, .c (.c .geq (.v 14 0) (.i 0)) true], .v (.l (.t (.b false))), [⟨43, .row [some .u32] (.v 42 0) 43⟩, ⟨15, .row [some .u32] (.v 14 0) 15⟩, ⟨2, .cells 24 (cellsX 0 0 setK)⟩]⟩,
  ⟨[.f 167 4 [], .f 143 3 [(.a (cellsX 0 0 setK), 0)], .c (.c .lss (.v 110 0) (.v 14 0)) false, .c (.c .geq (.v 14 0) (.i 0)) true, .g 110 0 0, .c (.c .neq (.v 14 1) (.v 42 1)) false, .c (.c .neq (.v 14 0) (.v 42 0)) false, .f 42 1 [(.a (cellsX 0 0 setK), 0)], .f 14 0 [(.a (cellsX 0 0 setK), 0)]], .v (.l (.t (.an (.no (.an (.no (.c .neq (.v 14 1) (.i 0))) (.no (.c .eql (.v 143 0) (.v 14 0))))) (.v 167 0)))), [⟨43, .row [some .u32] (.v 42 0) 43⟩, ⟨15, .row [some .u32] (.v 14 0) 15⟩, ⟨2, .cells 24 (cellsX 0 0 setK)⟩]⟩]
def yLawL_os : List Ob := [.pre [] 0 [(.a (cellsX 0 0 setK), 0)],
  .pre [.f 14 0 [(.a (cellsX 0 0 setK), 0)]] 1 [(.a (cellsX 0 0 setK), 0)],
  .cl [.c (.no (.c .neq (.v 14 1) (.v 42 1))) true, .f 42 1 [(.a (cellsX 0 0 setK), 0)], .f 14 0 [(.a (cellsX 0 0 setK), 0)]] (.c .geq (.v 14 0) (.i 0)),
  .cl [.c (.no (.c .neq (.v 14 1) (.v 42 1))) true, .f 42 1 [(.a (cellsX 0 0 setK), 0)], .f 14 0 [(.a (cellsX 0 0 setK), 0)]] (.c .geq (.v 42 0) (.i 0)),
  .inv [.c (.c .neq (.v 14 1) (.v 42 1)) false, .c (.c .neq (.v 14 0) (.v 42 0)) false, .f 42 1 [(.a (cellsX 0 0 setK), 0)], .f 14 0 [(.a (cellsX 0 0 setK), 0)]] 0 110 [.n .i64 (.i 0)] [],
  .cl [.g 110 0 0, .c (.c .neq (.v 14 1) (.v 42 1)) false, .c (.c .neq (.v 14 0) (.v 42 0)) false, .f 42 1 [(.a (cellsX 0 0 setK), 0)], .f 14 0 [(.a (cellsX 0 0 setK), 0)]] (.c .geq (.v 14 0) (.i 0)),
  .cl [.g 110 0 0, .f 42 1 [(.a (cellsX 0 0 setK), 0)], .f 14 0 [(.a (cellsX 0 0 setK), 0)], .c (.c .lss (.v 110 0) (.v 14 0)) true, .c (.c .neq (.v 14 1) (.v 42 1)) false, .c (.c .neq (.v 14 0) (.v 42 0)) false, .c (.c .geq (.v 14 0) (.i 0)) true] (.c .geq (.v 110 0) (.i 0)),
  .cl [.g 110 0 0, .f 42 1 [(.a (cellsX 0 0 setK), 0)], .f 14 0 [(.a (cellsX 0 0 setK), 0)], .c (.c .lss (.v 110 0) (.v 14 0)) true, .c (.c .geq (.v 110 0) (.i 0)) true, .c (.c .neq (.v 14 1) (.v 42 1)) false, .c (.c .neq (.v 14 0) (.v 42 0)) false, .c (.c .geq (.v 14 0) (.i 0)) true] (.c .lss (.v 110 0) (.v 42 0)),
  .cl [.g 110 0 0, .f 42 1 [(.a (cellsX 0 0 setK), 0)], .f 14 0 [(.a (cellsX 0 0 setK), 0)], .c (.c .lss (.v 110 0) (.v 14 0)) true, .c (.c .geq (.v 110 0) (.i 0)) true, .c (.c .neq (.v 14 1) (.v 42 1)) false, .c (.c .neq (.v 14 0) (.v 42 0)) false, .c (.c .geq (.v 14 0) (.i 0)) true] (.c .geq (.v 42 0) (.i 0)),
  .pre [.c (.no (.c .neq (.r 15 1 0 (.v 110 0)) (.r 43 1 0 (.v 110 0)))) true, .g 110 0 0, .f 42 1 [(.a (cellsX 0 0 setK), 0)], .f 14 0 [(.a (cellsX 0 0 setK), 0)], .c (.c .lss (.v 110 0) (.v 42 0)) true, .c (.c .lss (.v 110 0) (.v 14 0)) true, .c (.c .geq (.v 110 0) (.i 0)) true, .c (.c .neq (.v 14 1) (.v 42 1)) false, .c (.c .neq (.v 14 0) (.v 42 0)) false, .c (.c .geq (.v 42 0) (.i 0)) true, .c (.c .geq (.v 14 0) (.i 0)) true] 2 [(.a (cellsX 0 0 setK), 0), (.l (.n .u32 (.r 15 1 0 (.v 110 0))), 0)],
  .cl [.c (.no (.c .neq (.r 15 1 0 (.v 110 0)) (.r 43 1 0 (.v 110 0)))) true, .c (.v 187 0) true, .c (.c .gtr (.v 110 0) (.i 0)) true, .f 187 2 [(.a (cellsX 0 0 setK), 0), (.l (.n .u32 (.r 15 1 0 (.v 110 0))), 0)], .g 110 0 0, .f 42 1 [(.a (cellsX 0 0 setK), 0)], .f 14 0 [(.a (cellsX 0 0 setK), 0)], .c (.c .lss (.v 110 0) (.v 42 0)) true, .c (.c .lss (.v 110 0) (.v 14 0)) true, .c (.c .geq (.v 110 0) (.i 0)) true, .c (.c .neq (.v 14 1) (.v 42 1)) false, .c (.c .neq (.v 14 0) (.v 42 0)) false, .c (.c .geq (.v 42 0) (.i 0)) true, .c (.c .geq (.v 14 0) (.i 0)) true] (.c .geq (.o .sub .i64 (.v 110 0) (.i 1)) (.i 0)),
  .cl [.c (.no (.c .neq (.r 15 1 0 (.v 110 0)) (.r 43 1 0 (.v 110 0)))) true, .c (.v 187 0) true, .c (.c .gtr (.v 110 0) (.i 0)) true, .f 187 2 [(.a (cellsX 0 0 setK), 0), (.l (.n .u32 (.r 15 1 0 (.v 110 0))), 0)], .g 110 0 0, .f 42 1 [(.a (cellsX 0 0 setK), 0)], .f 14 0 [(.a (cellsX 0 0 setK), 0)], .c (.c .lss (.v 110 0) (.v 42 0)) true, .c (.c .lss (.v 110 0) (.v 14 0)) true, .c (.c .geq (.v 110 0) (.i 0)) true, .c (.c .neq (.v 14 1) (.v 42 1)) false, .c (.c .neq (.v 14 0) (.v 42 0)) false, .c (.c .geq (.v 42 0) (.i 0)) true, .c (.c .geq (.v 14 0) (.i 0)) true] (.c .lss (.o .sub .i64 (.v 110 0) (.i 1)) (.v 14 0)),
  .inv [.c (.c .neq (.r 15 1 0 (.v 110 0)) (.r 43 1 0 (.v 110 0))) false, .c (.v 187 0) true, .c (.an (.c .gtr (.v 110 0) (.i 0)) (.c .leq (.r 15 1 0 (.v 110 0)) (.r 15 1 0 (.o .sub .i64 (.v 110 0) (.i 1))))) false, .f 187 2 [(.a (cellsX 0 0 setK), 0), (.l (.n .u32 (.r 15 1 0 (.v 110 0))), 0)], .g 110 0 0, .f 42 1 [(.a (cellsX 0 0 setK), 0)], .f 14 0 [(.a (cellsX 0 0 setK), 0)], .c (.c .lss (.v 110 0) (.v 42 0)) true, .c (.c .lss (.v 110 0) (.v 14 0)) true, .c (.c .geq (.v 110 0) (.i 0)) true, .c (.c .neq (.v 14 1) (.v 42 1)) false, .c (.c .neq (.v 14 0) (.v 42 0)) false, .c (.c .geq (.v 42 0) (.i 0)) true, .c (.c .geq (.v 14 0) (.i 0)) true] 0 110 [.n .i64 (.o .add .i64 (.v 110 0) (.i 1))] [],
  .cl [.c (.c .neq (.r 15 1 0 (.v 110 0)) (.r 43 1 0 (.v 110 0))) false, .c (.v 187 0) true, .c (.an (.c .gtr (.v 110 0) (.i 0)) (.c .leq (.r 15 1 0 (.v 110 0)) (.r 15 1 0 (.o .sub .i64 (.v 110 0) (.i 1))))) false, .f 187 2 [(.a (cellsX 0 0 setK), 0), (.l (.n .u32 (.r 15 1 0 (.v 110 0))), 0)], .g 110 0 0, .f 42 1 [(.a (cellsX 0 0 setK), 0)], .f 14 0 [(.a (cellsX 0 0 setK), 0)], .c (.c .lss (.v 110 0) (.v 42 0)) true, .c (.c .lss (.v 110 0) (.v 14 0)) true, .c (.c .geq (.v 110 0) (.i 0)) true, .c (.c .neq (.v 14 1) (.v 42 1)) false, .c (.c .neq (.v 14 0) (.v 42 0)) false, .c (.c .geq (.v 42 0) (.i 0)) true, .c (.c .geq (.v 14 0) (.i 0)) true] (.c .lss (.v 110 0) (.o .add .i64 (.v 110 0) (.i 1))),
  .cl [.c (.c .neq (.r 15 1 0 (.v 110 0)) (.r 43 1 0 (.v 110 0))) false, .c (.v 187 0) true, .c (.an (.c .gtr (.v 110 0) (.i 0)) (.c .leq (.r 15 1 0 (.v 110 0)) (.r 15 1 0 (.o .sub .i64 (.v 110 0) (.i 1))))) false, .f 187 2 [(.a (cellsX 0 0 setK), 0), (.l (.n .u32 (.r 15 1 0 (.v 110 0))), 0)], .g 110 0 0, .f 42 1 [(.a (cellsX 0 0 setK), 0)], .f 14 0 [(.a (cellsX 0 0 setK), 0)], .c (.c .lss (.v 110 0) (.v 42 0)) true, .c (.c .lss (.v 110 0) (.v 14 0)) true, .c (.c .geq (.v 110 0) (.i 0)) true, .c (.c .neq (.v 14 1) (.v 42 1)) false, .c (.c .neq (.v 14 0) (.v 42 0)) false, .c (.c .geq (.v 42 0) (.i 0)) true, .c (.c .geq (.v 14 0) (.i 0)) true] (.c .lss (.v 110 0) (.i 64)),
  .pre [.c (.no (.c .neq (.v 14 1) (.i 0))) true, .c (.c .lss (.v 110 0) (.v 14 0)) false, .c (.c .geq (.v 14 0) (.i 0)) true, .g 110 0 0, .c (.c .neq (.v 14 1) (.v 42 1)) false, .c (.c .neq (.v 14 0) (.v 42 0)) false, .f 42 1 [(.a (cellsX 0 0 setK), 0)], .f 14 0 [(.a (cellsX 0 0 setK), 0)]] 3 [(.a (cellsX 0 0 setK), 0)],
  .pre [.c (.no (.an (.no (.c .neq (.v 14 1) (.i 0))) (.no (.c .eql (.v 143 0) (.v 14 0))))) true, .f 143 3 [(.a (cellsX 0 0 setK), 0)], .c (.c .lss (.v 110 0) (.v 14 0)) false, .c (.c .geq (.v 14 0) (.i 0)) true, .g 110 0 0, .c (.c .neq (.v 14 1) (.v 42 1)) false, .c (.c .neq (.v 14 0) (.v 42 0)) false, .f 42 1 [(.a (cellsX 0 0 setK), 0)], .f 14 0 [(.a (cellsX 0 0 setK), 0)]] 4 []]
theorem yLawL_run : funcX Try.prog yLawL_cfg 1000 4 7 Try.f7 yLawL_args yLawL_rws = some (yLawL_ls, yLawL_os) := by kernel_rfl
def lawLC : List (Kon Try.prog) := [k_elements, k_relements, e_contains.kon, e_count.kon, e_ex.kon]
theorem ll0 : lawLC[0]? = some k_elements := rfl
theorem ll1 : lawLC[1]? = some k_relements := rfl
theorem ll2 : lawLC[2]? = some e_contains.kon := rfl
theorem ll3 : lawLC[3]? = some e_count.kon := rfl
theorem ll4 : lawLC[4]? = some e_ex.kon := rfl
theorem lp0 {d : AD} {m m' : Nm} : k_elements.post [d] m m' ↔ elPost (setD d) m m' := Iff.rfl
theorem lp1 {d : AD} {m m' : Nm} : k_relements.post [d] m m' ↔ elPost (setD d) m m' := Iff.rfl
theorem lp2 {d d' : AD} {m m' : Nm} : e_contains.kon.post [d, d'] m m' ↔ (m.int = fun _ => 0) ∧ m.bool = fun _ => containsL (setD d) (numD d') := Iff.rfl
theorem lp3 {d : AD} {m m' : Nm} : e_count.kon.post [d] m m' ↔ (m.int = fun _ => countL (setD d)) ∧ m.bool = fun _ => false := Iff.rfl
theorem lp4 {m m' : Nm} : e_ex.kon.post [] m m' ↔ (m.int = fun _ => 0) ∧ m.bool = fun _ => true := Iff.rfl
theorem lr2 {d d' : AD} : e_contains.kon.pre [d, d'] ↔ (setD d).wf ∧ u32R (numD d') := Iff.rfl
theorem do_sub {e : Env} {x y : SX} : ((SX.o .sub .i64 x y).den e).1 = IntKind.i64.wrap ((x.den e).1 - (y.den e).1) := rfl
theorem do_add {e : Env} {x y : SX} : ((SX.o .add .i64 x y).den e).1 = IntKind.i64.wrap ((x.den e).1 + (y.den e).1) := rfl
theorem wrap_dn {x : Int} (h0 : 0 ≤ x) (h1 : x ≤ 1000000) : IntKind.i64.wrap (x - 1) = x - 1 := by rw [IntKind.wrap_i64]; omega
/-- Both lists are one. -/
theorem el_two {s : VSet} {m m' q q' : Nm} (h1 : elPost s m m') (h2 : elPost s q q') : m.int 1 = q.int 1 ∧ m.int 0 = q.int 0 ∧ ((m.int 0 = 0 ∧ m.int 1 = 6) ∨ (countL s ≤ 64 ∧ m.int 0 = countL s ∧ m.int 1 = 0 ∧ ∀ j : Nat, (j : Int) < countL s → m'.int j = elemN (normL s) j ∧ q'.int j = elemN (normL s) j)) := by
  unfold elPost at h1 h2
  by_cases h : countL s ≤ 64
  · rw [if_pos h] at h1 h2
    exact ⟨by omega, by omega, .inr ⟨h, h1.1, h1.2.1, fun j hj => ⟨h1.2.2 j hj, h2.2.2 j hj⟩⟩⟩
  · rw [if_neg h] at h1 h2
    exact ⟨by omega, by omega, .inl h1⟩
set_option maxHeartbeats 4000000 in
theorem valuesetLists_walk' (a : VSet) (ha : a.wf) (w : World) : Calls Try.prog 7 #[a.val] w (Ret (.bool true) w) := by
  have c0 := count_nn ha
  refine ret_of_tx (C := lawLC) (I := [fun d e => 0 ≤ e.int d 0 ∧ e.int d 0 ≤ 64]) Try_mixed2 rfl Try.func7 yLawL_run (envOf [nmB (setInt a) (setBool a)]) w rfl (fun r hr => (List.not_mem_nil hr).elim) _ ?_ ?_
  · refine ⟨?_, ?_, ?_, ?_, ?_, ?_, ?_, ?_, ?_, ?_, ?_, ?_, ?_, ?_, ?_, ?_, ?_, trivial⟩
    all_goals
      intro e he hc
      have h0 : e.nm 0 = nmB (setInt a) (setBool a) := he 0 (by decide)
      have hS : setD (PX.dat e 0 (.a (cellsX 0 0 setK))) = a := by rw [setD_cells]; exact setE_of e 0 (show (e.nm 0).int = _ by rw [h0]; rfl) (show (e.nm 0).bool = _ by rw [h0]; rfl)
      simp only [Each, Owed, Cd.holds, dv1, dv2, di1, db2, dr1, dr2, dq1, dq2, do1, dlss_t, dlss_f, dgtr_t, dgtr_f, dleq_t, dleq_f, dgeq_t, dgeq_f, deql_t, deql_f, dneq_t, dneq_f, dno_t, dno_f, dan_t, dan_f, deq_t, deq_f, List.map_cons, List.map_nil, Nat.mul_one, Nat.add_zero, List.getElem?_cons_zero, List.getElem?_cons_succ, Option.some.injEq, exists_eq_left', and_true, and_assoc, Env.int, Env.bool, cut_nm, Nat.reduceLeDiff, Nat.reduceAdd, nums0, subc_d, ll0, ll1, ll2, ll3, ll4, lp0, lp1, lp2, lp3, lp4, lr2, do_sub, do_add, numD_leaf, datP, hS] at hc ⊢
    all_goals
      try (have q1 : elPost a (e.nm 14) (e.nm 15) := by (have q := hc; repeat first | exact q | exact q.1 | replace q := q.2)
           have q2 : elPost a (e.nm 42) (e.nm 43) := by (have q := hc; repeat first | exact q | exact q.1 | replace q := q.2)
           have T := el_two q1 q2)
    all_goals
      try (have iv : 0 ≤ (e.nm 110).int 0 := by (have q := hc; repeat first | exact q | exact q.1 | replace q := q.2)
           have iu : (e.nm 110).int 0 < (e.nm 14).int 0 := by (have q := hc; repeat first | exact q | exact q.1 | replace q := q.2)
           have i64 : (e.nm 110).int 0 ≤ 64 := by (have q := hc; repeat first | exact q | exact q.1 | replace q := q.2)
           have s1 : IntKind.i64.wrap ((e.nm 110).int 0 + 1) = (e.nm 110).int 0 + 1 := wrap_up iv (by omega)
           have s2 : IntKind.i64.wrap ((e.nm 110).int 0 - 1) = (e.nm 110).int 0 - 1 := wrap_dn iv (by omega))
    all_goals
      first
        | (show (setD (PX.dat e 0 (.a (cellsX 0 0 setK)))).wf; rw [hS]; exact ha)
        | exact True.intro
        | omega
        | (rw [s1]; obtain ⟨t1, t2, ⟨t3, t4⟩ | ⟨t3, t4, t5, t6⟩⟩ := T <;> omega)
        | (rw [s2]; obtain ⟨t1, t2, ⟨t3, t4⟩ | ⟨t3, t4, t5, t6⟩⟩ := T <;> omega)
        | (obtain ⟨t1, t2, ⟨t3, t4⟩ | ⟨t3, t4, t5, t6⟩⟩ := T
           · omega
           · rw [(t6 ((e.nm 110).int 0).toNat (by omega)).1]
             exact ⟨ha, (elem_two ha t3 ((e.nm 110).int 0).toNat (by omega)).1⟩)
        | (obtain ⟨t1, t2, ⟨t3, t4⟩ | ⟨t3, t4, t5, t6⟩⟩ := T <;> omega)
        | fail ""
  · refine ⟨?_, ?_, ?_, trivial⟩
    all_goals
      intro e u he hc hs
      have h0 : e.nm 0 = nmB (setInt a) (setBool a) := he 0 (by decide)
      have hS : setD (PX.dat e 0 (.a (cellsX 0 0 setK))) = a := by rw [setD_cells]; exact setE_of e 0 (show (e.nm 0).int = _ by rw [h0]; rfl) (show (e.nm 0).bool = _ by rw [h0]; rfl)
      simp only [Each, Owed, Cd.holds, dv1, dv2, di1, db2, dr1, dr2, dq1, dq2, do1, dlss_t, dlss_f, dgtr_t, dgtr_f, dleq_t, dleq_f, dgeq_t, dgeq_f, deql_t, deql_f, dneq_t, dneq_f, dno_t, dno_f, dan_t, dan_f, deq_t, deq_f, List.map_cons, List.map_nil, Nat.mul_one, Nat.add_zero, List.getElem?_cons_zero, List.getElem?_cons_succ, Option.some.injEq, exists_eq_left', and_true, and_assoc, Env.int, Env.bool, cut_nm, Nat.reduceLeDiff, Nat.reduceAdd, nums0, subc_d, ll0, ll1, ll2, ll3, ll4, lp0, lp1, lp2, lp3, lp4, lr2, do_sub, do_add, numD_leaf, datP, hS] at hc
      have q1 : elPost a (e.nm 14) (e.nm 15) := by (have q := hc; repeat first | exact q | exact q.1 | replace q := q.2)
      have q2 : elPost a (e.nm 42) (e.nm 43) := by (have q := hc; repeat first | exact q | exact q.1 | replace q := q.2)
      obtain ⟨t1, t2, t3⟩ := el_two q1 q2
      rw [show u = _ from hs]
    · exfalso
      exact hc.1 ⟨t1, t2⟩
    · exfalso
      have i0 : 0 ≤ (e.nm 110).int 0 := by (have q := hc; repeat first | exact q | exact q.1 | replace q := q.2)
      have i1 : (e.nm 110).int 0 < (e.nm 14).int 0 := by (have q := hc; repeat first | exact q | exact q.1 | replace q := q.2)
      have g : (e.nm 187).bool = fun _ => containsL a ((e.nm 15).int ((e.nm 110).int 0).toNat) := by (have q := hc; repeat first | exact q | exact q.1 | replace q := q.2)
      have hne := hc.1
      rcases t3 with ⟨t3, t4⟩ | ⟨t3, t4, t5, t6⟩
      · omega
      · have s2 : IntKind.i64.wrap ((e.nm 110).int 0 - 1) = (e.nm 110).int 0 - 1 := wrap_dn i0 (by omega)
        obtain ⟨a1, a2⟩ := t6 ((e.nm 110).int 0).toNat (by omega)
        obtain ⟨-, b2, b3⟩ := elem_two ha t3 ((e.nm 110).int 0).toNat (by omega)
        refine hne ⟨by rw [a1, a2], ?_, fun c => ?_⟩
        · rw [g]
          show containsL a ((e.nm 15).int ((e.nm 110).int 0).toNat) = true
          rw [a1]
          exact b2
        · have d1 := c.1
          have d2 := c.2
          rw [s2, a1, (t6 ((e.nm 110).int 0 - 1).toNat (by omega)).1] at d2
          have := b3 ((e.nm 110).int 0 - 1).toNat (by omega)
          omega
    · have g1 : (e.nm 143).int = fun _ => countL a := by (have q := hc; repeat first | exact q | exact q.1 | replace q := q.2)
      have g2 : (e.nm 167).bool = fun _ => true := by (have q := hc; repeat first | exact q | exact q.1 | replace q := q.2)
      have e1 : (e.nm 143).int 0 = countL a := by rw [g1]
      have e2 : (e.nm 167).bool 0 = true := by rw [g2]
      refine congrArg Value.bool ?_
      show (SX.den e (.an (.no (.an (.no (.c .neq (.v 14 1) (.i 0))) (.no (.c .eql (.v 143 0) (.v 14 0))))) (.v 167 0))).2 = true
      simp only [Each, Owed, Cd.holds, dv1, dv2, di1, db2, dr1, dr2, dq1, dq2, do1, dlss_t, dlss_f, dgtr_t, dgtr_f, dleq_t, dleq_f, dgeq_t, dgeq_f, deql_t, deql_f, dneq_t, dneq_f, dno_t, dno_f, dan_t, dan_f, deq_t, deq_f, List.map_cons, List.map_nil, Nat.mul_one, Nat.add_zero, List.getElem?_cons_zero, List.getElem?_cons_succ, Option.some.injEq, exists_eq_left', and_true, and_assoc, Env.int, Env.bool, cut_nm, Nat.reduceLeDiff, Nat.reduceAdd, nums0, subc_d]
      refine ⟨fun c => ?_, e2⟩
      have d1 := c.1
      have d2 := c.2
      rcases t3 with ⟨t3, t4⟩ | ⟨t3, t4, t5, t6⟩ <;> omega
end Go.Proofs.Ytjhdjclcfmcilaa.T2
namespace Go.Proofs.Ytjhdjclcfmcilaa
open Go.ChangeShapes Go.WideShapes Go.ChangeAt Go.RowKit
set_option linter.unusedVariables false
theorem valuesetLists_walk (a : VSet) (ha : a.wf) (w : World) : Calls Try.prog 7 #[a.val] w (Ret (.bool true) w) := T2.valuesetLists_walk' a ha w
theorem valuesetLists_own : ownKnob Try.prog.godebug = none := by kernel_rfl
set_option maxRecDepth 100000 in
theorem valuesetLists_lifted (os : Os) (started : os.Started) (H : Type) (enc : TypeId × Value → H) :
    ReturnsInHanded {} Try.checked os 7 .any (Rows.valuesetListsSpec.pre6 enc Try.prog Try.f7 Rows.valuesetListsRow.domain false) (Rows.valuesetListsSpec.post enc Try.prog Try.f7 false true false false) := by
  refine returnsInHanded_of_change (C := Try.checked) valuesetLists_own started (by kernel_rfl) Try.func7
    (ChangeSpec.witness6 (enc := enc) (C := Try.checked) false ⟨#[], #[.agg #[.bool false, .bool false, .int .u32 0, .int .u32 0, .int .u32 0]], []⟩ 8 (by kernel_rfl) (by kernel_rfl) (by kernel_rfl) (by kernel_rfl)) ?_
  intro W base args ds gs before hval0 hW hcnd _
  have hval : ∀ (j : Nat) t v, Try.f7.params[j]? = some t → args[j]? = some v → Value.okWide Try.prog W .any base t v := hval0
  have hW' := hW
  obtain ⟨p, q, hA0, hV, rfl, hfz, hnd⟩ := hW
  have hA : DataW.TrodAll enc Try.prog W 0 (fun _ => true) true Try.f7.params.toList args.toList ds p := hA0
  have hA1 := hA
  obtain ⟨rfl, rfl⟩ := trodVars_none hV
  rw [Try.params7] at hA hval
  obtain ⟨v0, vs0, d0, ds0, p0, q0, hargs, hd0, hp0, h0, r0⟩ := trodAll_cons hA
  obtain ⟨hvn, hdn, hpn⟩ := trodAll_nil r0
  subst hdn hd0
  obtain rfl : args = #[v0] := by cases args; simp_all
  clear hargs hvn 
  obtain ⟨cs0, rfl, l0⟩ := open_flat [none, none, some .u32, some .u32, some .u32] 5 Try.underlying24 (by kernel_rfl) (by kernel_rfl) (hval 0 24 v0 rfl rfl) h0
  obtain ⟨s0, hs0, rfl⟩ := leaves_set l0
  simp only [List.append_nil] at hW'
  refine (valuesetLists_walk s0 hs0 W).mono fun e W' hr => ?_
  obtain ⟨rfl, hb⟩ := hr
  exact ⟨_, rfl, post_of_below (pa := p) (pv := []) hW' (fun _ _ _ => (trodAll_cons_mk (shut_bool Try.underlying4 _) trodAll_mk0)) (fun sp hsp => trodAll_stays Try_laidOut hb _ _ _ _ (by kernel_rfl) hA1 (fun x hx => hW'.lt x hx) hsp) (fun _ _ => rfl) (by simp)
    hb (ok_one (by kernel_rfl) rfl (okWide_bool_mk Try.underlying4 _))⟩
theorem valuesetLists_over : Rows.valuesetListsRow.holds Try.pinned (OpenSpec.ofChange Rows.valuesetListsSpec) :=
  OpenClaim.holds_of_wide 7 Try.f7 rfl rfl rfl rfl rfl rfl rfl ⟨rfl, rfl, rfl, rfl, rfl⟩ rfl rfl rfl rfl rfl (by kernel_rfl) Try.func7 (by kernel_rfl)
    (of_decide_eq_true (by kernel_rfl)) (by unfold Func.isWrapper; first | (rw [if_pos (by decide +kernel)]; kernel_rfl) | (rw [if_neg (by decide +kernel)]; exact ⟨rfl, rfl⟩))
    (fun os started H enc _ => valuesetLists_lifted os started H enc)
/-- THE STATEMENT -/
theorem valuesetLists_proved : Rows.ValuesetListsSaid := valuesetLists_over
end Go.Proofs.Ytjhdjclcfmcilaa
