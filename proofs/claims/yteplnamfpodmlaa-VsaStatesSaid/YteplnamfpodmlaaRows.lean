/-
  No cell of these rows narrows 'for every input' (looked for: loops, veiled, ifaces, maps, wideKeys, modest, calm, conditions, laid).
  DERIVED. THE GIVEN ROWS OF THIS SEAT. 8 by the template 'for every input the law returns true; each argument reads behind the call as it read before'; 0 by the template 'total and deterministic' (their statements: YteplnamfpodmlaaTotals.lean).
  GIVEN WITH THE SEED: the statements are not yours to turn. If you find one false, say at which input.
  Laid BY PROGRAM, IN A SANDBOX (cutbox-rows.mjs): the forced cells as the released guide's own fill.sh prints them over the translation 9022fe5556c60800… (all of the seat's roots in one cut). By AI agents, Wed Nov 11 2026. No macro, syntax, notation, axiom, sorry.
-/
import Derived.Test.YteplnamfpodmlaaChecked
import GoSem.Claim
import GoSem.ClaimJoined
import GoSem.ClaimMapViews
import Derived.JoinedTies
import Derived.KernelRfl
namespace Go.Proofs.Yteplnamfpodmlaa
/- THE CELL 'sum', in the pinned program and in every row, IS THE sha256 OF THE DUMP (.gsa) THAT YteplnamfpodmlaaProg.lean LOADS. Nothing in Lean hashes anything: it is a label: what it is worth is what the hold of that sum in a sandbox is worth. -/
noncomputable def Try.pinned : Pinned := { name := "yteplnamfpodmlaa", sum := "9022fe5556c60800e5ea5dae5733aa1206a19f463761765d78aa44538ff11cd6", checked := Try.checked }
namespace Rows
def none {H : Type} : Left H := { results := [], args := [] }

/-- 'decompilerlaw15.VsaFixed': WHATEVER THE INPUT: true; the input reads as it did. -/
def vsaFixedSpec : ChangeSpec := { name := "vsaFixed", fn := fun _ => fun
  | [d1, d2] => { results := [.lit (.bool true)], args := [d1, d2] }
  | _ => none }
def vsaFixedRow : OpenClaim := { program := "yteplnamfpodmlaa", sum := "9022fe5556c60800e5ea5dae5733aa1206a19f463761765d78aa44538ff11cd6", func := "decompiler/decompilerlaw15.VsaFixed", spec := "vsaFixed", unfollowed := true, recurses := true, apart := false }
def VsaFixedSaid : Prop := vsaFixedRow.holds Try.pinned (OpenSpec.ofChange vsaFixedSpec)

/-- ITS FALSE NEIGHBOUR: 'it returns false'. Refute it at one input. -/
def vsaFixedWrong : ChangeSpec := { name := "vsaFixed", fn := fun _ => fun
  | [d1, d2] => { results := [.lit (.bool false)], args := [d1, d2] }
  | _ => none }
def VsaFixedWrongFalsely : Prop := vsaFixedRow.holds Try.pinned (OpenSpec.ofChange vsaFixedWrong)

/-- 'decompilerlaw15.VsaStates': WHATEVER THE INPUT: true; the input reads as it did. -/
def vsaStatesSpec : ChangeSpec := { name := "vsaStates", fn := fun _ => fun
  | [d] => { results := [.lit (.bool true)], args := [d] }
  | _ => none }
def vsaStatesRow : OpenClaim := { program := "yteplnamfpodmlaa", sum := "9022fe5556c60800e5ea5dae5733aa1206a19f463761765d78aa44538ff11cd6", func := "decompiler/decompilerlaw15.VsaStates", spec := "vsaStates", unfollowed := true, recurses := true, apart := false }
def VsaStatesSaid : Prop := vsaStatesRow.holds Try.pinned (OpenSpec.ofChange vsaStatesSpec)

/-- ITS FALSE NEIGHBOUR: 'it returns false'. Refute it at one input. -/
def vsaStatesWrong : ChangeSpec := { name := "vsaStates", fn := fun _ => fun
  | [d] => { results := [.lit (.bool false)], args := [d] }
  | _ => none }
def VsaStatesWrongFalsely : Prop := vsaStatesRow.holds Try.pinned (OpenSpec.ofChange vsaStatesWrong)

/-- 'decompilerlaw15.VsaTransfer': WHATEVER THE INPUT: true; the input reads as it did. -/
def vsaTransferSpec : ChangeSpec := { name := "vsaTransfer", fn := fun _ => fun
  | [d1, d2] => { results := [.lit (.bool true)], args := [d1, d2] }
  | _ => none }
def vsaTransferRow : OpenClaim := { program := "yteplnamfpodmlaa", sum := "9022fe5556c60800e5ea5dae5733aa1206a19f463761765d78aa44538ff11cd6", func := "decompiler/decompilerlaw15.VsaTransfer", spec := "vsaTransfer", apart := false }
def VsaTransferSaid : Prop := vsaTransferRow.holds Try.pinned (OpenSpec.ofChange vsaTransferSpec)

/-- ITS FALSE NEIGHBOUR: 'it returns false'. Refute it at one input. -/
def vsaTransferWrong : ChangeSpec := { name := "vsaTransfer", fn := fun _ => fun
  | [d1, d2] => { results := [.lit (.bool false)], args := [d1, d2] }
  | _ => none }
def VsaTransferWrongFalsely : Prop := vsaTransferRow.holds Try.pinned (OpenSpec.ofChange vsaTransferWrong)

/-- 'decompilerlaw15.VsaTransferSound': WHATEVER THE INPUT: true; the input reads as it did. -/
def vsaTransferSoundSpec : ChangeSpec := { name := "vsaTransferSound", fn := fun _ => fun
  | [d] => { results := [.lit (.bool true)], args := [d] }
  | _ => none }
def vsaTransferSoundRow : OpenClaim := { program := "yteplnamfpodmlaa", sum := "9022fe5556c60800e5ea5dae5733aa1206a19f463761765d78aa44538ff11cd6", func := "decompiler/decompilerlaw15.VsaTransferSound", spec := "vsaTransferSound", apart := false }
def VsaTransferSoundSaid : Prop := vsaTransferSoundRow.holds Try.pinned (OpenSpec.ofChange vsaTransferSoundSpec)

/-- ITS FALSE NEIGHBOUR: 'it returns false'. Refute it at one input. -/
def vsaTransferSoundWrong : ChangeSpec := { name := "vsaTransferSound", fn := fun _ => fun
  | [d] => { results := [.lit (.bool false)], args := [d] }
  | _ => none }
def VsaTransferSoundWrongFalsely : Prop := vsaTransferSoundRow.holds Try.pinned (OpenSpec.ofChange vsaTransferSoundWrong)

/-- 'decompilerlaw15.VsaRefine': WHATEVER THE INPUT: true; the input reads as it did. -/
def vsaRefineSpec : ChangeSpec := { name := "vsaRefine", fn := fun _ => fun
  | [d] => { results := [.lit (.bool true)], args := [d] }
  | _ => none }
def vsaRefineRow : OpenClaim := { program := "yteplnamfpodmlaa", sum := "9022fe5556c60800e5ea5dae5733aa1206a19f463761765d78aa44538ff11cd6", func := "decompiler/decompilerlaw15.VsaRefine", spec := "vsaRefine", apart := false }
def VsaRefineSaid : Prop := vsaRefineRow.holds Try.pinned (OpenSpec.ofChange vsaRefineSpec)

/-- ITS FALSE NEIGHBOUR: 'it returns false'. Refute it at one input. -/
def vsaRefineWrong : ChangeSpec := { name := "vsaRefine", fn := fun _ => fun
  | [d] => { results := [.lit (.bool false)], args := [d] }
  | _ => none }
def VsaRefineWrongFalsely : Prop := vsaRefineRow.holds Try.pinned (OpenSpec.ofChange vsaRefineWrong)

/-- 'decompilerlaw15.VsaRefineSound': WHATEVER THE INPUT: true; the input reads as it did. -/
def vsaRefineSoundSpec : ChangeSpec := { name := "vsaRefineSound", fn := fun _ => fun
  | [d] => { results := [.lit (.bool true)], args := [d] }
  | _ => none }
def vsaRefineSoundRow : OpenClaim := { program := "yteplnamfpodmlaa", sum := "9022fe5556c60800e5ea5dae5733aa1206a19f463761765d78aa44538ff11cd6", func := "decompiler/decompilerlaw15.VsaRefineSound", spec := "vsaRefineSound", apart := false }
def VsaRefineSoundSaid : Prop := vsaRefineSoundRow.holds Try.pinned (OpenSpec.ofChange vsaRefineSoundSpec)

/-- ITS FALSE NEIGHBOUR: 'it returns false'. Refute it at one input. -/
def vsaRefineSoundWrong : ChangeSpec := { name := "vsaRefineSound", fn := fun _ => fun
  | [d] => { results := [.lit (.bool false)], args := [d] }
  | _ => none }
def VsaRefineSoundWrongFalsely : Prop := vsaRefineSoundRow.holds Try.pinned (OpenSpec.ofChange vsaRefineSoundWrong)

/-- 'decompilerlaw15.VsaValid': WHATEVER THE INPUT: true; the input reads as it did. -/
def vsaValidSpec : ChangeSpec := { name := "vsaValid", fn := fun _ => fun
  | [d1, d2] => { results := [.lit (.bool true)], args := [d1, d2] }
  | _ => none }
def vsaValidRow : OpenClaim := { program := "yteplnamfpodmlaa", sum := "9022fe5556c60800e5ea5dae5733aa1206a19f463761765d78aa44538ff11cd6", func := "decompiler/decompilerlaw15.VsaValid", spec := "vsaValid", apart := false }
def VsaValidSaid : Prop := vsaValidRow.holds Try.pinned (OpenSpec.ofChange vsaValidSpec)

/-- ITS FALSE NEIGHBOUR: 'it returns false'. Refute it at one input. -/
def vsaValidWrong : ChangeSpec := { name := "vsaValid", fn := fun _ => fun
  | [d1, d2] => { results := [.lit (.bool false)], args := [d1, d2] }
  | _ => none }
def VsaValidWrongFalsely : Prop := vsaValidRow.holds Try.pinned (OpenSpec.ofChange vsaValidWrong)

/-- 'decompilerlaw15.VsaSound': WHATEVER THE INPUT: true; the input reads as it did. -/
def vsaSoundSpec : ChangeSpec := { name := "vsaSound", fn := fun _ => fun
  | [d1, d2, d3] => { results := [.lit (.bool true)], args := [d1, d2, d3] }
  | _ => none }
def vsaSoundRow : OpenClaim := { program := "yteplnamfpodmlaa", sum := "9022fe5556c60800e5ea5dae5733aa1206a19f463761765d78aa44538ff11cd6", func := "decompiler/decompilerlaw15.VsaSound", spec := "vsaSound", unfollowed := true, recurses := true, apart := false }
def VsaSoundSaid : Prop := vsaSoundRow.holds Try.pinned (OpenSpec.ofChange vsaSoundSpec)

/-- ITS FALSE NEIGHBOUR: 'it returns false'. Refute it at one input. -/
def vsaSoundWrong : ChangeSpec := { name := "vsaSound", fn := fun _ => fun
  | [d1, d2, d3] => { results := [.lit (.bool false)], args := [d1, d2, d3] }
  | _ => none }
def VsaSoundWrongFalsely : Prop := vsaSoundRow.holds Try.pinned (OpenSpec.ofChange vsaSoundWrong)

/- THE SECOND FORM. 'bulk': how many values and letters a reading holds, each counted each time it is reached (what is shared counts as often as it is met; a slice's spare places count too). A statement '..UptoSaid' is the law's where the arguments, and the package variables that the reading takes, are together of bulk at most 1048576: NARROWER than '..Said'. Prove '..Said' where nothing that the law and all that it calls make is longer than what came in: it says more and counts as full. Else prove '..UptoSaid'. A law counts once. -/
mutual
def uptoBulk {H : Type} : DataW H → Nat
  | .lit (.string bytes) => bytes.length + 1
  | .lit _ => 1
  | .nil => 1
  | .ptr d => uptoBulk d + 1
  | .slice elems spare => uptoBulkAll elems + uptoBulkAll spare + 1
  | .agg parts => uptoBulkAll parts + 1
  | .iface _ d => uptoBulk d + 1
  | .map entries => uptoBulkEntries entries + 1
  | .held _ => 1
def uptoBulkAll {H : Type} : List (DataW H) → Nat
  | [] => 0
  | d :: r => uptoBulk d + uptoBulkAll r
def uptoBulkEntries {H : Type} : List (Lit × DataW H) → Nat
  | [] => 0
  | x :: r => uptoBulkEntry x + uptoBulkEntries r
def uptoBulkEntry {H : Type} : Lit × DataW H → Nat
  | (.string bytes, d) => bytes.length + uptoBulk d + 1
  | (_, d) => uptoBulk d + 1
 end
def uptoSmall : (H : Type) → List (DataW H) → Bool := fun _ ds => decide (uptoBulkAll ds ≤ 1048576)
def OpenSpec.upto (s : _root_.Go.ChangeSpec) : _root_.Go.OpenSpec := { _root_.Go.OpenSpec.ofChange s with cond := some uptoSmall }

/-- 'decompilerlaw15.VsaFixed', WHERE WHAT IT READS IS OF BULK AT MOST 1048576: true; the input reads as it did. -/
def vsaFixedUptoRow : OpenClaim := { program := "yteplnamfpodmlaa", sum := "9022fe5556c60800e5ea5dae5733aa1206a19f463761765d78aa44538ff11cd6", func := "decompiler/decompilerlaw15.VsaFixed", spec := "vsaFixed", unfollowed := true, recurses := true, apart := false, narrowed := true }
def VsaFixedUptoSaid : Prop := vsaFixedUptoRow.holds Try.pinned (OpenSpec.upto vsaFixedSpec)

/-- 'decompilerlaw15.VsaStates', WHERE WHAT IT READS IS OF BULK AT MOST 1048576: true; the input reads as it did. -/
def vsaStatesUptoRow : OpenClaim := { program := "yteplnamfpodmlaa", sum := "9022fe5556c60800e5ea5dae5733aa1206a19f463761765d78aa44538ff11cd6", func := "decompiler/decompilerlaw15.VsaStates", spec := "vsaStates", unfollowed := true, recurses := true, apart := false, narrowed := true }
def VsaStatesUptoSaid : Prop := vsaStatesUptoRow.holds Try.pinned (OpenSpec.upto vsaStatesSpec)

/-- 'decompilerlaw15.VsaTransfer', WHERE WHAT IT READS IS OF BULK AT MOST 1048576: true; the input reads as it did. -/
def vsaTransferUptoRow : OpenClaim := { program := "yteplnamfpodmlaa", sum := "9022fe5556c60800e5ea5dae5733aa1206a19f463761765d78aa44538ff11cd6", func := "decompiler/decompilerlaw15.VsaTransfer", spec := "vsaTransfer", apart := false, narrowed := true }
def VsaTransferUptoSaid : Prop := vsaTransferUptoRow.holds Try.pinned (OpenSpec.upto vsaTransferSpec)

/-- 'decompilerlaw15.VsaTransferSound', WHERE WHAT IT READS IS OF BULK AT MOST 1048576: true; the input reads as it did. -/
def vsaTransferSoundUptoRow : OpenClaim := { program := "yteplnamfpodmlaa", sum := "9022fe5556c60800e5ea5dae5733aa1206a19f463761765d78aa44538ff11cd6", func := "decompiler/decompilerlaw15.VsaTransferSound", spec := "vsaTransferSound", apart := false, narrowed := true }
def VsaTransferSoundUptoSaid : Prop := vsaTransferSoundUptoRow.holds Try.pinned (OpenSpec.upto vsaTransferSoundSpec)

/-- 'decompilerlaw15.VsaRefine', WHERE WHAT IT READS IS OF BULK AT MOST 1048576: true; the input reads as it did. -/
def vsaRefineUptoRow : OpenClaim := { program := "yteplnamfpodmlaa", sum := "9022fe5556c60800e5ea5dae5733aa1206a19f463761765d78aa44538ff11cd6", func := "decompiler/decompilerlaw15.VsaRefine", spec := "vsaRefine", apart := false, narrowed := true }
def VsaRefineUptoSaid : Prop := vsaRefineUptoRow.holds Try.pinned (OpenSpec.upto vsaRefineSpec)

/-- 'decompilerlaw15.VsaRefineSound', WHERE WHAT IT READS IS OF BULK AT MOST 1048576: true; the input reads as it did. -/
def vsaRefineSoundUptoRow : OpenClaim := { program := "yteplnamfpodmlaa", sum := "9022fe5556c60800e5ea5dae5733aa1206a19f463761765d78aa44538ff11cd6", func := "decompiler/decompilerlaw15.VsaRefineSound", spec := "vsaRefineSound", apart := false, narrowed := true }
def VsaRefineSoundUptoSaid : Prop := vsaRefineSoundUptoRow.holds Try.pinned (OpenSpec.upto vsaRefineSoundSpec)

/-- 'decompilerlaw15.VsaValid', WHERE WHAT IT READS IS OF BULK AT MOST 1048576: true; the input reads as it did. -/
def vsaValidUptoRow : OpenClaim := { program := "yteplnamfpodmlaa", sum := "9022fe5556c60800e5ea5dae5733aa1206a19f463761765d78aa44538ff11cd6", func := "decompiler/decompilerlaw15.VsaValid", spec := "vsaValid", apart := false, narrowed := true }
def VsaValidUptoSaid : Prop := vsaValidUptoRow.holds Try.pinned (OpenSpec.upto vsaValidSpec)

/-- 'decompilerlaw15.VsaSound', WHERE WHAT IT READS IS OF BULK AT MOST 1048576: true; the input reads as it did. -/
def vsaSoundUptoRow : OpenClaim := { program := "yteplnamfpodmlaa", sum := "9022fe5556c60800e5ea5dae5733aa1206a19f463761765d78aa44538ff11cd6", func := "decompiler/decompilerlaw15.VsaSound", spec := "vsaSound", unfollowed := true, recurses := true, apart := false, narrowed := true }
def VsaSoundUptoSaid : Prop := vsaSoundUptoRow.holds Try.pinned (OpenSpec.upto vsaSoundSpec)

end Rows
end Go.Proofs.Yteplnamfpodmlaa
