/-
  No cell of these rows narrows 'for every input' (looked for: loops, veiled, ifaces, maps, wideKeys, modest, calm, conditions, laid).
  DERIVED. THE GIVEN ROWS OF THIS SEAT. 9 by the template 'for every input the law returns true; each argument reads behind the call as it read before'; 0 by the template 'total and deterministic' (their statements: YtjhdjclcfmcilaaTotals.lean).
  GIVEN WITH THE SEED: the statements are not yours to turn. If you find one false, say at which input.
  Laid BY PROGRAM, IN A SANDBOX (cutbox-rows.mjs): the forced cells as the released guide's own fill.sh prints them over the translation c9768c2e27e5ad07… (all of the seat's roots in one cut). By AI agents, Wed Nov 11 2026. No macro, syntax, notation, axiom, sorry.
-/
import Derived.Test.YtjhdjclcfmcilaaChecked
import GoSem.Claim
import GoSem.ClaimJoined
import GoSem.ClaimMapViews
import Derived.JoinedTies
import Derived.KernelRfl
namespace Go.Proofs.Ytjhdjclcfmcilaa
/- THE CELL 'sum', in the pinned program and in every row, IS THE sha256 OF THE DUMP (.gsa) THAT YtjhdjclcfmcilaaProg.lean LOADS. Nothing in Lean hashes anything: it is a label: what it is worth is what the hold of that sum in a sandbox is worth. -/
noncomputable def Try.pinned : Pinned := { name := "ytjhdjclcfmcilaa", sum := "c9768c2e27e5ad07b7237303fe75c597a23ab8d44b59eb17a766c4d66aa12063", checked := Try.checked }
namespace Rows
def none {H : Type} : Left H := { results := [], args := [] }

/-- 'decompilerlaw14.ValuesetMakes': WHATEVER THE INPUT: true; the input reads as it did. -/
def valuesetMakesSpec : ChangeSpec := { name := "valuesetMakes", fn := fun _ => fun
  | [d1, d2, d3] => { results := [.lit (.bool true)], args := [d1, d2, d3] }
  | _ => none }
def valuesetMakesRow : OpenClaim := { program := "ytjhdjclcfmcilaa", sum := "c9768c2e27e5ad07b7237303fe75c597a23ab8d44b59eb17a766c4d66aa12063", func := "decompiler/decompilerlaw14.ValuesetMakes", spec := "valuesetMakes", apart := false }
def ValuesetMakesSaid : Prop := valuesetMakesRow.holds Try.pinned (OpenSpec.ofChange valuesetMakesSpec)

/-- ITS FALSE NEIGHBOUR: 'it returns false'. Refute it at one input. -/
def valuesetMakesWrong : ChangeSpec := { name := "valuesetMakes", fn := fun _ => fun
  | [d1, d2, d3] => { results := [.lit (.bool false)], args := [d1, d2, d3] }
  | _ => none }
def ValuesetMakesWrongFalsely : Prop := valuesetMakesRow.holds Try.pinned (OpenSpec.ofChange valuesetMakesWrong)

/-- 'decompilerlaw14.ValuesetOrder': WHATEVER THE INPUT: true; the input reads as it did. -/
def valuesetOrderSpec : ChangeSpec := { name := "valuesetOrder", fn := fun _ => fun
  | [d1, d2, d3] => { results := [.lit (.bool true)], args := [d1, d2, d3] }
  | _ => none }
def valuesetOrderRow : OpenClaim := { program := "ytjhdjclcfmcilaa", sum := "c9768c2e27e5ad07b7237303fe75c597a23ab8d44b59eb17a766c4d66aa12063", func := "decompiler/decompilerlaw14.ValuesetOrder", spec := "valuesetOrder", apart := false }
def ValuesetOrderSaid : Prop := valuesetOrderRow.holds Try.pinned (OpenSpec.ofChange valuesetOrderSpec)

/-- ITS FALSE NEIGHBOUR: 'it returns false'. Refute it at one input. -/
def valuesetOrderWrong : ChangeSpec := { name := "valuesetOrder", fn := fun _ => fun
  | [d1, d2, d3] => { results := [.lit (.bool false)], args := [d1, d2, d3] }
  | _ => none }
def ValuesetOrderWrongFalsely : Prop := valuesetOrderRow.holds Try.pinned (OpenSpec.ofChange valuesetOrderWrong)

/-- 'decompilerlaw14.ValuesetEnds': WHATEVER THE INPUT: true; the input reads as it did. -/
def valuesetEndsSpec : ChangeSpec := { name := "valuesetEnds", fn := fun _ => fun
  | [d] => { results := [.lit (.bool true)], args := [d] }
  | _ => none }
def valuesetEndsRow : OpenClaim := { program := "ytjhdjclcfmcilaa", sum := "c9768c2e27e5ad07b7237303fe75c597a23ab8d44b59eb17a766c4d66aa12063", func := "decompiler/decompilerlaw14.ValuesetEnds", spec := "valuesetEnds", apart := false }
def ValuesetEndsSaid : Prop := valuesetEndsRow.holds Try.pinned (OpenSpec.ofChange valuesetEndsSpec)

/-- ITS FALSE NEIGHBOUR: 'it returns false'. Refute it at one input. -/
def valuesetEndsWrong : ChangeSpec := { name := "valuesetEnds", fn := fun _ => fun
  | [d] => { results := [.lit (.bool false)], args := [d] }
  | _ => none }
def ValuesetEndsWrongFalsely : Prop := valuesetEndsRow.holds Try.pinned (OpenSpec.ofChange valuesetEndsWrong)

/-- 'decompilerlaw14.ValuesetAsks': WHATEVER THE INPUT: true; the input reads as it did. -/
def valuesetAsksSpec : ChangeSpec := { name := "valuesetAsks", fn := fun _ => fun
  | [d1, d2, d3] => { results := [.lit (.bool true)], args := [d1, d2, d3] }
  | _ => none }
def valuesetAsksRow : OpenClaim := { program := "ytjhdjclcfmcilaa", sum := "c9768c2e27e5ad07b7237303fe75c597a23ab8d44b59eb17a766c4d66aa12063", func := "decompiler/decompilerlaw14.ValuesetAsks", spec := "valuesetAsks", apart := false }
def ValuesetAsksSaid : Prop := valuesetAsksRow.holds Try.pinned (OpenSpec.ofChange valuesetAsksSpec)

/-- ITS FALSE NEIGHBOUR: 'it returns false'. Refute it at one input. -/
def valuesetAsksWrong : ChangeSpec := { name := "valuesetAsks", fn := fun _ => fun
  | [d1, d2, d3] => { results := [.lit (.bool false)], args := [d1, d2, d3] }
  | _ => none }
def ValuesetAsksWrongFalsely : Prop := valuesetAsksRow.holds Try.pinned (OpenSpec.ofChange valuesetAsksWrong)

/-- 'decompilerlaw14.ValuesetLists': WHATEVER THE INPUT: true; the input reads as it did. -/
def valuesetListsSpec : ChangeSpec := { name := "valuesetLists", fn := fun _ => fun
  | [d] => { results := [.lit (.bool true)], args := [d] }
  | _ => none }
def valuesetListsRow : OpenClaim := { program := "ytjhdjclcfmcilaa", sum := "c9768c2e27e5ad07b7237303fe75c597a23ab8d44b59eb17a766c4d66aa12063", func := "decompiler/decompilerlaw14.ValuesetLists", spec := "valuesetLists", apart := false }
def ValuesetListsSaid : Prop := valuesetListsRow.holds Try.pinned (OpenSpec.ofChange valuesetListsSpec)

/-- ITS FALSE NEIGHBOUR: 'it returns false'. Refute it at one input. -/
def valuesetListsWrong : ChangeSpec := { name := "valuesetLists", fn := fun _ => fun
  | [d] => { results := [.lit (.bool false)], args := [d] }
  | _ => none }
def ValuesetListsWrongFalsely : Prop := valuesetListsRow.holds Try.pinned (OpenSpec.ofChange valuesetListsWrong)

/-- 'decompilerlaw14.ValuesetCombines': WHATEVER THE INPUT: true; the input reads as it did. -/
def valuesetCombinesSpec : ChangeSpec := { name := "valuesetCombines", fn := fun _ => fun
  | [d1, d2] => { results := [.lit (.bool true)], args := [d1, d2] }
  | _ => none }
def valuesetCombinesRow : OpenClaim := { program := "ytjhdjclcfmcilaa", sum := "c9768c2e27e5ad07b7237303fe75c597a23ab8d44b59eb17a766c4d66aa12063", func := "decompiler/decompilerlaw14.ValuesetCombines", spec := "valuesetCombines", apart := false }
def ValuesetCombinesSaid : Prop := valuesetCombinesRow.holds Try.pinned (OpenSpec.ofChange valuesetCombinesSpec)

/-- ITS FALSE NEIGHBOUR: 'it returns false'. Refute it at one input. -/
def valuesetCombinesWrong : ChangeSpec := { name := "valuesetCombines", fn := fun _ => fun
  | [d1, d2] => { results := [.lit (.bool false)], args := [d1, d2] }
  | _ => none }
def ValuesetCombinesWrongFalsely : Prop := valuesetCombinesRow.holds Try.pinned (OpenSpec.ofChange valuesetCombinesWrong)

/-- 'decompilerlaw14.ValuesetCovers': WHATEVER THE INPUT: true; the input reads as it did. -/
def valuesetCoversSpec : ChangeSpec := { name := "valuesetCovers", fn := fun _ => fun
  | [d1, d2, d3] => { results := [.lit (.bool true)], args := [d1, d2, d3] }
  | _ => none }
def valuesetCoversRow : OpenClaim := { program := "ytjhdjclcfmcilaa", sum := "c9768c2e27e5ad07b7237303fe75c597a23ab8d44b59eb17a766c4d66aa12063", func := "decompiler/decompilerlaw14.ValuesetCovers", spec := "valuesetCovers", apart := false }
def ValuesetCoversSaid : Prop := valuesetCoversRow.holds Try.pinned (OpenSpec.ofChange valuesetCoversSpec)

/-- ITS FALSE NEIGHBOUR: 'it returns false'. Refute it at one input. -/
def valuesetCoversWrong : ChangeSpec := { name := "valuesetCovers", fn := fun _ => fun
  | [d1, d2, d3] => { results := [.lit (.bool false)], args := [d1, d2, d3] }
  | _ => none }
def ValuesetCoversWrongFalsely : Prop := valuesetCoversRow.holds Try.pinned (OpenSpec.ofChange valuesetCoversWrong)

/-- 'decompilerlaw14.ValuesetApplies': WHATEVER THE INPUT: true; the input reads as it did. -/
def valuesetAppliesSpec : ChangeSpec := { name := "valuesetApplies", fn := fun _ => fun
  | [d1, d2, d3] => { results := [.lit (.bool true)], args := [d1, d2, d3] }
  | _ => none }
def valuesetAppliesRow : OpenClaim := { program := "ytjhdjclcfmcilaa", sum := "c9768c2e27e5ad07b7237303fe75c597a23ab8d44b59eb17a766c4d66aa12063", func := "decompiler/decompilerlaw14.ValuesetApplies", spec := "valuesetApplies", apart := false }
def ValuesetAppliesSaid : Prop := valuesetAppliesRow.holds Try.pinned (OpenSpec.ofChange valuesetAppliesSpec)

/-- ITS FALSE NEIGHBOUR: 'it returns false'. Refute it at one input. -/
def valuesetAppliesWrong : ChangeSpec := { name := "valuesetApplies", fn := fun _ => fun
  | [d1, d2, d3] => { results := [.lit (.bool false)], args := [d1, d2, d3] }
  | _ => none }
def ValuesetAppliesWrongFalsely : Prop := valuesetAppliesRow.holds Try.pinned (OpenSpec.ofChange valuesetAppliesWrong)

/-- 'decompilerlaw14.ValuesetSound': WHATEVER THE INPUT: true; the input reads as it did. -/
def valuesetSoundSpec : ChangeSpec := { name := "valuesetSound", fn := fun _ => fun
  | [d1, d2, d3, d4, d5] => { results := [.lit (.bool true)], args := [d1, d2, d3, d4, d5] }
  | _ => none }
def valuesetSoundRow : OpenClaim := { program := "ytjhdjclcfmcilaa", sum := "c9768c2e27e5ad07b7237303fe75c597a23ab8d44b59eb17a766c4d66aa12063", func := "decompiler/decompilerlaw14.ValuesetSound", spec := "valuesetSound", apart := false }
def ValuesetSoundSaid : Prop := valuesetSoundRow.holds Try.pinned (OpenSpec.ofChange valuesetSoundSpec)

/-- ITS FALSE NEIGHBOUR: 'it returns false'. Refute it at one input. -/
def valuesetSoundWrong : ChangeSpec := { name := "valuesetSound", fn := fun _ => fun
  | [d1, d2, d3, d4, d5] => { results := [.lit (.bool false)], args := [d1, d2, d3, d4, d5] }
  | _ => none }
def ValuesetSoundWrongFalsely : Prop := valuesetSoundRow.holds Try.pinned (OpenSpec.ofChange valuesetSoundWrong)

/- THE SECOND FORM. 'bulk': how many values and letters a reading holds, each counted each time it is reached (what is shared counts as often as it is met; a slice's spare places count too). A statement '..UptoSaid' is the law's where the arguments, and the package variables that the reading takes, are together of bulk at most 1048576: NARROWER than '..Said'. Prove '..Said' where nothing that the law and all that it calls make is longer than what came in: it says more and counts as full. Else prove '..UptoSaid'. A law counts once. -/
mutual
def uptoBulk {H : Type} : DataW H → Nat
  | .lit (.string bytes) => bytes.length + 1
  | .lit _ => 1
  | .nil => 1
  | .ptr d => uptoBulk d + 1
  | .slice elems spare => uptoBulkAll elems + uptoBulkAll spare + 1
  | .agg parts => uptoBulkAll parts + 1
  | .iface _ d => uptoBulk d + 1
  | .map entries => uptoBulkEntries entries + 1
  | .held _ => 1
def uptoBulkAll {H : Type} : List (DataW H) → Nat
  | [] => 0
  | d :: r => uptoBulk d + uptoBulkAll r
def uptoBulkEntries {H : Type} : List (Lit × DataW H) → Nat
  | [] => 0
  | x :: r => uptoBulkEntry x + uptoBulkEntries r
def uptoBulkEntry {H : Type} : Lit × DataW H → Nat
  | (.string bytes, d) => bytes.length + uptoBulk d + 1
  | (_, d) => uptoBulk d + 1
 end
def uptoSmall : (H : Type) → List (DataW H) → Bool := fun _ ds => decide (uptoBulkAll ds ≤ 1048576)
def OpenSpec.upto (s : _root_.Go.ChangeSpec) : _root_.Go.OpenSpec := { _root_.Go.OpenSpec.ofChange s with cond := some uptoSmall }

/-- 'decompilerlaw14.ValuesetMakes', WHERE WHAT IT READS IS OF BULK AT MOST 1048576: true; the input reads as it did. -/
def valuesetMakesUptoRow : OpenClaim := { program := "ytjhdjclcfmcilaa", sum := "c9768c2e27e5ad07b7237303fe75c597a23ab8d44b59eb17a766c4d66aa12063", func := "decompiler/decompilerlaw14.ValuesetMakes", spec := "valuesetMakes", apart := false, narrowed := true }
def ValuesetMakesUptoSaid : Prop := valuesetMakesUptoRow.holds Try.pinned (OpenSpec.upto valuesetMakesSpec)

/-- 'decompilerlaw14.ValuesetOrder', WHERE WHAT IT READS IS OF BULK AT MOST 1048576: true; the input reads as it did. -/
def valuesetOrderUptoRow : OpenClaim := { program := "ytjhdjclcfmcilaa", sum := "c9768c2e27e5ad07b7237303fe75c597a23ab8d44b59eb17a766c4d66aa12063", func := "decompiler/decompilerlaw14.ValuesetOrder", spec := "valuesetOrder", apart := false, narrowed := true }
def ValuesetOrderUptoSaid : Prop := valuesetOrderUptoRow.holds Try.pinned (OpenSpec.upto valuesetOrderSpec)

/-- 'decompilerlaw14.ValuesetEnds', WHERE WHAT IT READS IS OF BULK AT MOST 1048576: true; the input reads as it did. -/
def valuesetEndsUptoRow : OpenClaim := { program := "ytjhdjclcfmcilaa", sum := "c9768c2e27e5ad07b7237303fe75c597a23ab8d44b59eb17a766c4d66aa12063", func := "decompiler/decompilerlaw14.ValuesetEnds", spec := "valuesetEnds", apart := false, narrowed := true }
def ValuesetEndsUptoSaid : Prop := valuesetEndsUptoRow.holds Try.pinned (OpenSpec.upto valuesetEndsSpec)

/-- 'decompilerlaw14.ValuesetAsks', WHERE WHAT IT READS IS OF BULK AT MOST 1048576: true; the input reads as it did. -/
def valuesetAsksUptoRow : OpenClaim := { program := "ytjhdjclcfmcilaa", sum := "c9768c2e27e5ad07b7237303fe75c597a23ab8d44b59eb17a766c4d66aa12063", func := "decompiler/decompilerlaw14.ValuesetAsks", spec := "valuesetAsks", apart := false, narrowed := true }
def ValuesetAsksUptoSaid : Prop := valuesetAsksUptoRow.holds Try.pinned (OpenSpec.upto valuesetAsksSpec)

/-- 'decompilerlaw14.ValuesetLists', WHERE WHAT IT READS IS OF BULK AT MOST 1048576: true; the input reads as it did. -/
def valuesetListsUptoRow : OpenClaim := { program := "ytjhdjclcfmcilaa", sum := "c9768c2e27e5ad07b7237303fe75c597a23ab8d44b59eb17a766c4d66aa12063", func := "decompiler/decompilerlaw14.ValuesetLists", spec := "valuesetLists", apart := false, narrowed := true }
def ValuesetListsUptoSaid : Prop := valuesetListsUptoRow.holds Try.pinned (OpenSpec.upto valuesetListsSpec)

/-- 'decompilerlaw14.ValuesetCombines', WHERE WHAT IT READS IS OF BULK AT MOST 1048576: true; the input reads as it did. -/
def valuesetCombinesUptoRow : OpenClaim := { program := "ytjhdjclcfmcilaa", sum := "c9768c2e27e5ad07b7237303fe75c597a23ab8d44b59eb17a766c4d66aa12063", func := "decompiler/decompilerlaw14.ValuesetCombines", spec := "valuesetCombines", apart := false, narrowed := true }
def ValuesetCombinesUptoSaid : Prop := valuesetCombinesUptoRow.holds Try.pinned (OpenSpec.upto valuesetCombinesSpec)

/-- 'decompilerlaw14.ValuesetCovers', WHERE WHAT IT READS IS OF BULK AT MOST 1048576: true; the input reads as it did. -/
def valuesetCoversUptoRow : OpenClaim := { program := "ytjhdjclcfmcilaa", sum := "c9768c2e27e5ad07b7237303fe75c597a23ab8d44b59eb17a766c4d66aa12063", func := "decompiler/decompilerlaw14.ValuesetCovers", spec := "valuesetCovers", apart := false, narrowed := true }
def ValuesetCoversUptoSaid : Prop := valuesetCoversUptoRow.holds Try.pinned (OpenSpec.upto valuesetCoversSpec)

/-- 'decompilerlaw14.ValuesetApplies', WHERE WHAT IT READS IS OF BULK AT MOST 1048576: true; the input reads as it did. -/
def valuesetAppliesUptoRow : OpenClaim := { program := "ytjhdjclcfmcilaa", sum := "c9768c2e27e5ad07b7237303fe75c597a23ab8d44b59eb17a766c4d66aa12063", func := "decompiler/decompilerlaw14.ValuesetApplies", spec := "valuesetApplies", apart := false, narrowed := true }
def ValuesetAppliesUptoSaid : Prop := valuesetAppliesUptoRow.holds Try.pinned (OpenSpec.upto valuesetAppliesSpec)

/-- 'decompilerlaw14.ValuesetSound', WHERE WHAT IT READS IS OF BULK AT MOST 1048576: true; the input reads as it did. -/
def valuesetSoundUptoRow : OpenClaim := { program := "ytjhdjclcfmcilaa", sum := "c9768c2e27e5ad07b7237303fe75c597a23ab8d44b59eb17a766c4d66aa12063", func := "decompiler/decompilerlaw14.ValuesetSound", spec := "valuesetSound", apart := false, narrowed := true }
def ValuesetSoundUptoSaid : Prop := valuesetSoundUptoRow.holds Try.pinned (OpenSpec.upto valuesetSoundSpec)

end Rows
end Go.Proofs.Ytjhdjclcfmcilaa
