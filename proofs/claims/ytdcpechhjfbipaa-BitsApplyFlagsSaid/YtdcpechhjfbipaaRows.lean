/-
  No cell of these rows narrows 'for every input' (looked for: loops, veiled, ifaces, maps, wideKeys, modest, calm, conditions, laid).
  DERIVED. THE GIVEN ROWS OF THIS SEAT. 9 by the template 'for every input the law returns true; each argument reads behind the call as it read before'; 0 by the template 'total and deterministic' (their statements: YtdcpechhjfbipaaTotals.lean).
  GIVEN WITH THE SEED: the statements are not yours to turn. If you find one false, say at which input.
  Laid BY PROGRAM, IN A SANDBOX (cutbox-rows.mjs): the forced cells as the released guide's own fill.sh prints them over the translation 4e9a39895e1ef6f3… (all of the seat's roots in one cut). By AI agents, Wed Nov 11 2026. No macro, syntax, notation, axiom, sorry.
-/
import Derived.Test.YtdcpechhjfbipaaChecked
import GoSem.Claim
import GoSem.ClaimJoined
import GoSem.ClaimMapViews
import Derived.JoinedTies
import Derived.KernelRfl
namespace Go.Proofs.Ytdcpechhjfbipaa
/- THE CELL 'sum', in the pinned program and in every row, IS THE sha256 OF THE DUMP (.gsa) THAT YtdcpechhjfbipaaProg.lean LOADS. Nothing in Lean hashes anything: it is a label: what it is worth is what the hold of that sum in a sandbox is worth. -/
noncomputable def Try.pinned : Pinned := { name := "ytdcpechhjfbipaa", sum := "4e9a39895e1ef6f3affb4cbd08d5d828dacfe6a7b42b8109bf8c44c19635035e", checked := Try.checked }
namespace Rows
def none {H : Type} : Left H := { results := [], args := [] }

/-- 'decompilerlaw01.BitsFlags': WHATEVER THE INPUT: true; the input reads as it did. -/
def bitsFlagsSpec : ChangeSpec := { name := "bitsFlags", fn := fun _ => fun
  | [d1, d2] => { results := [.lit (.bool true)], args := [d1, d2] }
  | _ => none }
def bitsFlagsRow : OpenClaim := { program := "ytdcpechhjfbipaa", sum := "4e9a39895e1ef6f3affb4cbd08d5d828dacfe6a7b42b8109bf8c44c19635035e", func := "decompiler/decompilerlaw01.BitsFlags", spec := "bitsFlags", apart := false }
def BitsFlagsSaid : Prop := bitsFlagsRow.holds Try.pinned (OpenSpec.ofChange bitsFlagsSpec)

/-- ITS FALSE NEIGHBOUR: 'it returns false'. Refute it at one input. -/
def bitsFlagsWrong : ChangeSpec := { name := "bitsFlags", fn := fun _ => fun
  | [d1, d2] => { results := [.lit (.bool false)], args := [d1, d2] }
  | _ => none }
def BitsFlagsWrongFalsely : Prop := bitsFlagsRow.holds Try.pinned (OpenSpec.ofChange bitsFlagsWrong)

/-- 'decompilerlaw01.BitsAdd': WHATEVER THE INPUT: true; the input reads as it did. -/
def bitsAddSpec : ChangeSpec := { name := "bitsAdd", fn := fun _ => fun
  | [d1, d2] => { results := [.lit (.bool true)], args := [d1, d2] }
  | _ => none }
def bitsAddRow : OpenClaim := { program := "ytdcpechhjfbipaa", sum := "4e9a39895e1ef6f3affb4cbd08d5d828dacfe6a7b42b8109bf8c44c19635035e", func := "decompiler/decompilerlaw01.BitsAdd", spec := "bitsAdd", apart := false }
def BitsAddSaid : Prop := bitsAddRow.holds Try.pinned (OpenSpec.ofChange bitsAddSpec)

/-- ITS FALSE NEIGHBOUR: 'it returns false'. Refute it at one input. -/
def bitsAddWrong : ChangeSpec := { name := "bitsAdd", fn := fun _ => fun
  | [d1, d2] => { results := [.lit (.bool false)], args := [d1, d2] }
  | _ => none }
def BitsAddWrongFalsely : Prop := bitsAddRow.holds Try.pinned (OpenSpec.ofChange bitsAddWrong)

/-- 'decompilerlaw01.BitsSub': WHATEVER THE INPUT: true; the input reads as it did. -/
def bitsSubSpec : ChangeSpec := { name := "bitsSub", fn := fun _ => fun
  | [d1, d2] => { results := [.lit (.bool true)], args := [d1, d2] }
  | _ => none }
def bitsSubRow : OpenClaim := { program := "ytdcpechhjfbipaa", sum := "4e9a39895e1ef6f3affb4cbd08d5d828dacfe6a7b42b8109bf8c44c19635035e", func := "decompiler/decompilerlaw01.BitsSub", spec := "bitsSub", apart := false }
def BitsSubSaid : Prop := bitsSubRow.holds Try.pinned (OpenSpec.ofChange bitsSubSpec)

/-- ITS FALSE NEIGHBOUR: 'it returns false'. Refute it at one input. -/
def bitsSubWrong : ChangeSpec := { name := "bitsSub", fn := fun _ => fun
  | [d1, d2] => { results := [.lit (.bool false)], args := [d1, d2] }
  | _ => none }
def BitsSubWrongFalsely : Prop := bitsSubRow.holds Try.pinned (OpenSpec.ofChange bitsSubWrong)

/-- 'decompilerlaw01.BitsBack': WHATEVER THE INPUT: true; the input reads as it did. -/
def bitsBackSpec : ChangeSpec := { name := "bitsBack", fn := fun _ => fun
  | [d1, d2] => { results := [.lit (.bool true)], args := [d1, d2] }
  | _ => none }
def bitsBackRow : OpenClaim := { program := "ytdcpechhjfbipaa", sum := "4e9a39895e1ef6f3affb4cbd08d5d828dacfe6a7b42b8109bf8c44c19635035e", func := "decompiler/decompilerlaw01.BitsBack", spec := "bitsBack", apart := false }
def BitsBackSaid : Prop := bitsBackRow.holds Try.pinned (OpenSpec.ofChange bitsBackSpec)

/-- ITS FALSE NEIGHBOUR: 'it returns false'. Refute it at one input. -/
def bitsBackWrong : ChangeSpec := { name := "bitsBack", fn := fun _ => fun
  | [d1, d2] => { results := [.lit (.bool false)], args := [d1, d2] }
  | _ => none }
def BitsBackWrongFalsely : Prop := bitsBackRow.holds Try.pinned (OpenSpec.ofChange bitsBackWrong)

/-- 'decompilerlaw01.BitsWidths': WHATEVER THE INPUT: true; the input reads as it did. -/
def bitsWidthsSpec : ChangeSpec := { name := "bitsWidths", fn := fun _ => fun
  | [d1, d2] => { results := [.lit (.bool true)], args := [d1, d2] }
  | _ => none }
def bitsWidthsRow : OpenClaim := { program := "ytdcpechhjfbipaa", sum := "4e9a39895e1ef6f3affb4cbd08d5d828dacfe6a7b42b8109bf8c44c19635035e", func := "decompiler/decompilerlaw01.BitsWidths", spec := "bitsWidths", apart := false }
def BitsWidthsSaid : Prop := bitsWidthsRow.holds Try.pinned (OpenSpec.ofChange bitsWidthsSpec)

/-- ITS FALSE NEIGHBOUR: 'it returns false'. Refute it at one input. -/
def bitsWidthsWrong : ChangeSpec := { name := "bitsWidths", fn := fun _ => fun
  | [d1, d2] => { results := [.lit (.bool false)], args := [d1, d2] }
  | _ => none }
def BitsWidthsWrongFalsely : Prop := bitsWidthsRow.holds Try.pinned (OpenSpec.ofChange bitsWidthsWrong)

/-- 'decompilerlaw01.BitsConditions': WHATEVER THE INPUT: true; the input reads as it did. -/
def bitsConditionsSpec : ChangeSpec := { name := "bitsConditions", fn := fun _ => fun
  | [d1, d2] => { results := [.lit (.bool true)], args := [d1, d2] }
  | _ => none }
def bitsConditionsRow : OpenClaim := { program := "ytdcpechhjfbipaa", sum := "4e9a39895e1ef6f3affb4cbd08d5d828dacfe6a7b42b8109bf8c44c19635035e", func := "decompiler/decompilerlaw01.BitsConditions", spec := "bitsConditions", apart := false }
def BitsConditionsSaid : Prop := bitsConditionsRow.holds Try.pinned (OpenSpec.ofChange bitsConditionsSpec)

/-- ITS FALSE NEIGHBOUR: 'it returns false'. Refute it at one input. -/
def bitsConditionsWrong : ChangeSpec := { name := "bitsConditions", fn := fun _ => fun
  | [d1, d2] => { results := [.lit (.bool false)], args := [d1, d2] }
  | _ => none }
def BitsConditionsWrongFalsely : Prop := bitsConditionsRow.holds Try.pinned (OpenSpec.ofChange bitsConditionsWrong)

/-- 'decompilerlaw01.BitsApply': WHATEVER THE INPUT: true; the input reads as it did. -/
def bitsApplySpec : ChangeSpec := { name := "bitsApply", fn := fun _ => fun
  | [d1, d2, d3] => { results := [.lit (.bool true)], args := [d1, d2, d3] }
  | _ => none }
def bitsApplyRow : OpenClaim := { program := "ytdcpechhjfbipaa", sum := "4e9a39895e1ef6f3affb4cbd08d5d828dacfe6a7b42b8109bf8c44c19635035e", func := "decompiler/decompilerlaw01.BitsApply", spec := "bitsApply", apart := false }
def BitsApplySaid : Prop := bitsApplyRow.holds Try.pinned (OpenSpec.ofChange bitsApplySpec)

/-- ITS FALSE NEIGHBOUR: 'it returns false'. Refute it at one input. -/
def bitsApplyWrong : ChangeSpec := { name := "bitsApply", fn := fun _ => fun
  | [d1, d2, d3] => { results := [.lit (.bool false)], args := [d1, d2, d3] }
  | _ => none }
def BitsApplyWrongFalsely : Prop := bitsApplyRow.holds Try.pinned (OpenSpec.ofChange bitsApplyWrong)

/-- 'decompilerlaw01.BitsApplyFlags': WHATEVER THE INPUT: true; the input reads as it did. -/
def bitsApplyFlagsSpec : ChangeSpec := { name := "bitsApplyFlags", fn := fun _ => fun
  | [d1, d2] => { results := [.lit (.bool true)], args := [d1, d2] }
  | _ => none }
def bitsApplyFlagsRow : OpenClaim := { program := "ytdcpechhjfbipaa", sum := "4e9a39895e1ef6f3affb4cbd08d5d828dacfe6a7b42b8109bf8c44c19635035e", func := "decompiler/decompilerlaw01.BitsApplyFlags", spec := "bitsApplyFlags", apart := false }
def BitsApplyFlagsSaid : Prop := bitsApplyFlagsRow.holds Try.pinned (OpenSpec.ofChange bitsApplyFlagsSpec)

/-- ITS FALSE NEIGHBOUR: 'it returns false'. Refute it at one input. -/
def bitsApplyFlagsWrong : ChangeSpec := { name := "bitsApplyFlags", fn := fun _ => fun
  | [d1, d2] => { results := [.lit (.bool false)], args := [d1, d2] }
  | _ => none }
def BitsApplyFlagsWrongFalsely : Prop := bitsApplyFlagsRow.holds Try.pinned (OpenSpec.ofChange bitsApplyFlagsWrong)

/-- 'decompilerlaw01.BitsShifts': WHATEVER THE INPUT: true; the input reads as it did. -/
def bitsShiftsSpec : ChangeSpec := { name := "bitsShifts", fn := fun _ => fun
  | [d1, d2] => { results := [.lit (.bool true)], args := [d1, d2] }
  | _ => none }
def bitsShiftsRow : OpenClaim := { program := "ytdcpechhjfbipaa", sum := "4e9a39895e1ef6f3affb4cbd08d5d828dacfe6a7b42b8109bf8c44c19635035e", func := "decompiler/decompilerlaw01.BitsShifts", spec := "bitsShifts", apart := false }
def BitsShiftsSaid : Prop := bitsShiftsRow.holds Try.pinned (OpenSpec.ofChange bitsShiftsSpec)

/-- ITS FALSE NEIGHBOUR: 'it returns false'. Refute it at one input. -/
def bitsShiftsWrong : ChangeSpec := { name := "bitsShifts", fn := fun _ => fun
  | [d1, d2] => { results := [.lit (.bool false)], args := [d1, d2] }
  | _ => none }
def BitsShiftsWrongFalsely : Prop := bitsShiftsRow.holds Try.pinned (OpenSpec.ofChange bitsShiftsWrong)

/- THE SECOND FORM. 'bulk': how many values and letters a reading holds, each counted each time it is reached (what is shared counts as often as it is met; a slice's spare places count too). A statement '..UptoSaid' is the law's where the arguments, and the package variables that the reading takes, are together of bulk at most 1048576: NARROWER than '..Said'. Prove '..Said' where nothing that the law and all that it calls make is longer than what came in: it says more and counts as full. Else prove '..UptoSaid'. A law counts once. -/
mutual
def uptoBulk {H : Type} : DataW H → Nat
  | .lit (.string bytes) => bytes.length + 1
  | .lit _ => 1
  | .nil => 1
  | .ptr d => uptoBulk d + 1
  | .slice elems spare => uptoBulkAll elems + uptoBulkAll spare + 1
  | .agg parts => uptoBulkAll parts + 1
  | .iface _ d => uptoBulk d + 1
  | .map entries => uptoBulkEntries entries + 1
  | .held _ => 1
def uptoBulkAll {H : Type} : List (DataW H) → Nat
  | [] => 0
  | d :: r => uptoBulk d + uptoBulkAll r
def uptoBulkEntries {H : Type} : List (Lit × DataW H) → Nat
  | [] => 0
  | x :: r => uptoBulkEntry x + uptoBulkEntries r
def uptoBulkEntry {H : Type} : Lit × DataW H → Nat
  | (.string bytes, d) => bytes.length + uptoBulk d + 1
  | (_, d) => uptoBulk d + 1
 end
def uptoSmall : (H : Type) → List (DataW H) → Bool := fun _ ds => decide (uptoBulkAll ds ≤ 1048576)
def OpenSpec.upto (s : _root_.Go.ChangeSpec) : _root_.Go.OpenSpec := { _root_.Go.OpenSpec.ofChange s with cond := some uptoSmall }

/-- 'decompilerlaw01.BitsFlags', WHERE WHAT IT READS IS OF BULK AT MOST 1048576: true; the input reads as it did. -/
def bitsFlagsUptoRow : OpenClaim := { program := "ytdcpechhjfbipaa", sum := "4e9a39895e1ef6f3affb4cbd08d5d828dacfe6a7b42b8109bf8c44c19635035e", func := "decompiler/decompilerlaw01.BitsFlags", spec := "bitsFlags", apart := false, narrowed := true }
def BitsFlagsUptoSaid : Prop := bitsFlagsUptoRow.holds Try.pinned (OpenSpec.upto bitsFlagsSpec)

/-- 'decompilerlaw01.BitsAdd', WHERE WHAT IT READS IS OF BULK AT MOST 1048576: true; the input reads as it did. -/
def bitsAddUptoRow : OpenClaim := { program := "ytdcpechhjfbipaa", sum := "4e9a39895e1ef6f3affb4cbd08d5d828dacfe6a7b42b8109bf8c44c19635035e", func := "decompiler/decompilerlaw01.BitsAdd", spec := "bitsAdd", apart := false, narrowed := true }
def BitsAddUptoSaid : Prop := bitsAddUptoRow.holds Try.pinned (OpenSpec.upto bitsAddSpec)

/-- 'decompilerlaw01.BitsSub', WHERE WHAT IT READS IS OF BULK AT MOST 1048576: true; the input reads as it did. -/
def bitsSubUptoRow : OpenClaim := { program := "ytdcpechhjfbipaa", sum := "4e9a39895e1ef6f3affb4cbd08d5d828dacfe6a7b42b8109bf8c44c19635035e", func := "decompiler/decompilerlaw01.BitsSub", spec := "bitsSub", apart := false, narrowed := true }
def BitsSubUptoSaid : Prop := bitsSubUptoRow.holds Try.pinned (OpenSpec.upto bitsSubSpec)

/-- 'decompilerlaw01.BitsBack', WHERE WHAT IT READS IS OF BULK AT MOST 1048576: true; the input reads as it did. -/
def bitsBackUptoRow : OpenClaim := { program := "ytdcpechhjfbipaa", sum := "4e9a39895e1ef6f3affb4cbd08d5d828dacfe6a7b42b8109bf8c44c19635035e", func := "decompiler/decompilerlaw01.BitsBack", spec := "bitsBack", apart := false, narrowed := true }
def BitsBackUptoSaid : Prop := bitsBackUptoRow.holds Try.pinned (OpenSpec.upto bitsBackSpec)

/-- 'decompilerlaw01.BitsWidths', WHERE WHAT IT READS IS OF BULK AT MOST 1048576: true; the input reads as it did. -/
def bitsWidthsUptoRow : OpenClaim := { program := "ytdcpechhjfbipaa", sum := "4e9a39895e1ef6f3affb4cbd08d5d828dacfe6a7b42b8109bf8c44c19635035e", func := "decompiler/decompilerlaw01.BitsWidths", spec := "bitsWidths", apart := false, narrowed := true }
def BitsWidthsUptoSaid : Prop := bitsWidthsUptoRow.holds Try.pinned (OpenSpec.upto bitsWidthsSpec)

/-- 'decompilerlaw01.BitsConditions', WHERE WHAT IT READS IS OF BULK AT MOST 1048576: true; the input reads as it did. -/
def bitsConditionsUptoRow : OpenClaim := { program := "ytdcpechhjfbipaa", sum := "4e9a39895e1ef6f3affb4cbd08d5d828dacfe6a7b42b8109bf8c44c19635035e", func := "decompiler/decompilerlaw01.BitsConditions", spec := "bitsConditions", apart := false, narrowed := true }
def BitsConditionsUptoSaid : Prop := bitsConditionsUptoRow.holds Try.pinned (OpenSpec.upto bitsConditionsSpec)

/-- 'decompilerlaw01.BitsApply', WHERE WHAT IT READS IS OF BULK AT MOST 1048576: true; the input reads as it did. -/
def bitsApplyUptoRow : OpenClaim := { program := "ytdcpechhjfbipaa", sum := "4e9a39895e1ef6f3affb4cbd08d5d828dacfe6a7b42b8109bf8c44c19635035e", func := "decompiler/decompilerlaw01.BitsApply", spec := "bitsApply", apart := false, narrowed := true }
def BitsApplyUptoSaid : Prop := bitsApplyUptoRow.holds Try.pinned (OpenSpec.upto bitsApplySpec)

/-- 'decompilerlaw01.BitsApplyFlags', WHERE WHAT IT READS IS OF BULK AT MOST 1048576: true; the input reads as it did. -/
def bitsApplyFlagsUptoRow : OpenClaim := { program := "ytdcpechhjfbipaa", sum := "4e9a39895e1ef6f3affb4cbd08d5d828dacfe6a7b42b8109bf8c44c19635035e", func := "decompiler/decompilerlaw01.BitsApplyFlags", spec := "bitsApplyFlags", apart := false, narrowed := true }
def BitsApplyFlagsUptoSaid : Prop := bitsApplyFlagsUptoRow.holds Try.pinned (OpenSpec.upto bitsApplyFlagsSpec)

/-- 'decompilerlaw01.BitsShifts', WHERE WHAT IT READS IS OF BULK AT MOST 1048576: true; the input reads as it did. -/
def bitsShiftsUptoRow : OpenClaim := { program := "ytdcpechhjfbipaa", sum := "4e9a39895e1ef6f3affb4cbd08d5d828dacfe6a7b42b8109bf8c44c19635035e", func := "decompiler/decompilerlaw01.BitsShifts", spec := "bitsShifts", apart := false, narrowed := true }
def BitsShiftsUptoSaid : Prop := bitsShiftsUptoRow.holds Try.pinned (OpenSpec.upto bitsShiftsSpec)

end Rows
end Go.Proofs.Ytdcpechhjfbipaa
