/-
  No cell of these rows narrows 'for every input' (looked for: loops, veiled, ifaces, maps, wideKeys, modest, calm, conditions, laid).
  DERIVED. THE GIVEN ROWS OF THIS SEAT. 7 by the template 'for every input the law returns true; each argument reads behind the call as it read before'; 0 by the template 'total and deterministic' (their statements: YtolmilcdhphnhaaTotals.lean).
  GIVEN WITH THE SEED: the statements are not yours to turn. If you find one false, say at which input.
  Laid BY PROGRAM, IN A SANDBOX (cutbox-rows.mjs): the forced cells as the released guide's own fill.sh prints them over the translation cb2bc8eddbdd3801… (all of the seat's roots in one cut). By AI agents, Wed Nov 11 2026. No macro, syntax, notation, axiom, sorry.
-/
import Derived.Test.YtolmilcdhphnhaaChecked
import GoSem.Claim
import GoSem.ClaimJoined
import GoSem.ClaimMapViews
import Derived.JoinedTies
import Derived.KernelRfl
namespace Go.Proofs.Ytolmilcdhphnhaa
/- THE CELL 'sum', in the pinned program and in every row, IS THE sha256 OF THE DUMP (.gsa) THAT YtolmilcdhphnhaaProg.lean LOADS. Nothing in Lean hashes anything: it is a label: what it is worth is what the hold of that sum in a sandbox is worth. -/
noncomputable def Try.pinned : Pinned := { name := "ytolmilcdhphnhaa", sum := "cb2bc8eddbdd3801bb288ee0657e00f5d59ead7cf1b9fc984c60a55aebb8bcce", checked := Try.checked }
namespace Rows
def none {H : Type} : Left H := { results := [], args := [] }

/-- 'hindcastlaw06.InputUnpacks': WHATEVER THE INPUT: true; the input reads as it did. -/
def inputUnpacksSpec : ChangeSpec := { name := "inputUnpacks", fn := fun _ => fun
  | [d1, d2] => { results := [.lit (.bool true)], args := [d1, d2] }
  | _ => none }
def inputUnpacksRow : OpenClaim := { program := "ytolmilcdhphnhaa", sum := "cb2bc8eddbdd3801bb288ee0657e00f5d59ead7cf1b9fc984c60a55aebb8bcce", func := "hindcast/hindcastlaw06.InputUnpacks", spec := "inputUnpacks", apart := false }
def InputUnpacksSaid : Prop := inputUnpacksRow.holds Try.pinned (OpenSpec.ofChange inputUnpacksSpec)

/-- ITS FALSE NEIGHBOUR: 'it returns false'. Refute it at one input. -/
def inputUnpacksWrong : ChangeSpec := { name := "inputUnpacks", fn := fun _ => fun
  | [d1, d2] => { results := [.lit (.bool false)], args := [d1, d2] }
  | _ => none }
def InputUnpacksWrongFalsely : Prop := inputUnpacksRow.holds Try.pinned (OpenSpec.ofChange inputUnpacksWrong)

/-- 'hindcastlaw06.InputBack': WHATEVER THE INPUT: true; the input reads as it did. -/
def inputBackSpec : ChangeSpec := { name := "inputBack", fn := fun _ => fun
  | [d1, d2, d3] => { results := [.lit (.bool true)], args := [d1, d2, d3] }
  | _ => none }
def inputBackRow : OpenClaim := { program := "ytolmilcdhphnhaa", sum := "cb2bc8eddbdd3801bb288ee0657e00f5d59ead7cf1b9fc984c60a55aebb8bcce", func := "hindcast/hindcastlaw06.InputBack", spec := "inputBack", apart := false }
def InputBackSaid : Prop := inputBackRow.holds Try.pinned (OpenSpec.ofChange inputBackSpec)

/-- ITS FALSE NEIGHBOUR: 'it returns false'. Refute it at one input. -/
def inputBackWrong : ChangeSpec := { name := "inputBack", fn := fun _ => fun
  | [d1, d2, d3] => { results := [.lit (.bool false)], args := [d1, d2, d3] }
  | _ => none }
def InputBackWrongFalsely : Prop := inputBackRow.holds Try.pinned (OpenSpec.ofChange inputBackWrong)

/-- 'hindcastlaw06.InputOne': WHATEVER THE INPUT: true; the input reads as it did. -/
def inputOneSpec : ChangeSpec := { name := "inputOne", fn := fun _ => fun
  | [d1, d2] => { results := [.lit (.bool true)], args := [d1, d2] }
  | _ => none }
def inputOneRow : OpenClaim := { program := "ytolmilcdhphnhaa", sum := "cb2bc8eddbdd3801bb288ee0657e00f5d59ead7cf1b9fc984c60a55aebb8bcce", func := "hindcast/hindcastlaw06.InputOne", spec := "inputOne", apart := false }
def InputOneSaid : Prop := inputOneRow.holds Try.pinned (OpenSpec.ofChange inputOneSpec)

/-- ITS FALSE NEIGHBOUR: 'it returns false'. Refute it at one input. -/
def inputOneWrong : ChangeSpec := { name := "inputOne", fn := fun _ => fun
  | [d1, d2] => { results := [.lit (.bool false)], args := [d1, d2] }
  | _ => none }
def InputOneWrongFalsely : Prop := inputOneRow.holds Try.pinned (OpenSpec.ofChange inputOneWrong)

/-- 'hindcastlaw06.InputTurned': WHATEVER THE INPUT: true; the input reads as it did. -/
def inputTurnedSpec : ChangeSpec := { name := "inputTurned", fn := fun _ => fun
  | [d] => { results := [.lit (.bool true)], args := [d] }
  | _ => none }
def inputTurnedRow : OpenClaim := { program := "ytolmilcdhphnhaa", sum := "cb2bc8eddbdd3801bb288ee0657e00f5d59ead7cf1b9fc984c60a55aebb8bcce", func := "hindcast/hindcastlaw06.InputTurned", spec := "inputTurned", apart := false }
def InputTurnedSaid : Prop := inputTurnedRow.holds Try.pinned (OpenSpec.ofChange inputTurnedSpec)

/-- ITS FALSE NEIGHBOUR: 'it returns false'. Refute it at one input. -/
def inputTurnedWrong : ChangeSpec := { name := "inputTurned", fn := fun _ => fun
  | [d] => { results := [.lit (.bool false)], args := [d] }
  | _ => none }
def InputTurnedWrongFalsely : Prop := inputTurnedRow.holds Try.pinned (OpenSpec.ofChange inputTurnedWrong)

/-- 'hindcastlaw06.InputBits': WHATEVER THE INPUT: true; the input reads as it did. -/
def inputBitsSpec : ChangeSpec := { name := "inputBits", fn := fun _ => fun
  | [d] => { results := [.lit (.bool true)], args := [d] }
  | _ => none }
def inputBitsRow : OpenClaim := { program := "ytolmilcdhphnhaa", sum := "cb2bc8eddbdd3801bb288ee0657e00f5d59ead7cf1b9fc984c60a55aebb8bcce", func := "hindcast/hindcastlaw06.InputBits", spec := "inputBits", apart := false }
def InputBitsSaid : Prop := inputBitsRow.holds Try.pinned (OpenSpec.ofChange inputBitsSpec)

/-- ITS FALSE NEIGHBOUR: 'it returns false'. Refute it at one input. -/
def inputBitsWrong : ChangeSpec := { name := "inputBits", fn := fun _ => fun
  | [d] => { results := [.lit (.bool false)], args := [d] }
  | _ => none }
def InputBitsWrongFalsely : Prop := inputBitsRow.holds Try.pinned (OpenSpec.ofChange inputBitsWrong)

/-- 'hindcastlaw06.InputPacks': WHATEVER THE INPUT: true; the input reads as it did. -/
def inputPacksSpec : ChangeSpec := { name := "inputPacks", fn := fun _ => fun
  | [d] => { results := [.lit (.bool true)], args := [d] }
  | _ => none }
def inputPacksRow : OpenClaim := { program := "ytolmilcdhphnhaa", sum := "cb2bc8eddbdd3801bb288ee0657e00f5d59ead7cf1b9fc984c60a55aebb8bcce", func := "hindcast/hindcastlaw06.InputPacks", spec := "inputPacks", apart := false }
def InputPacksSaid : Prop := inputPacksRow.holds Try.pinned (OpenSpec.ofChange inputPacksSpec)

/-- ITS FALSE NEIGHBOUR: 'it returns false'. Refute it at one input. -/
def inputPacksWrong : ChangeSpec := { name := "inputPacks", fn := fun _ => fun
  | [d] => { results := [.lit (.bool false)], args := [d] }
  | _ => none }
def InputPacksWrongFalsely : Prop := inputPacksRow.holds Try.pinned (OpenSpec.ofChange inputPacksWrong)

/-- 'hindcastlaw06.InputKnown': WHATEVER THE INPUT: true; the input reads as it did. -/
def inputKnownSpec : ChangeSpec := { name := "inputKnown", fn := fun _ => fun
  | [] => { results := [.lit (.bool true)], args := [] }
  | _ => none }
def inputKnownRow : OpenClaim := { program := "ytolmilcdhphnhaa", sum := "cb2bc8eddbdd3801bb288ee0657e00f5d59ead7cf1b9fc984c60a55aebb8bcce", func := "hindcast/hindcastlaw06.InputKnown", spec := "inputKnown", apart := false }
def InputKnownSaid : Prop := inputKnownRow.holds Try.pinned (OpenSpec.ofChange inputKnownSpec)

/-- ITS FALSE NEIGHBOUR: 'it returns false'. Refute it at one input. -/
def inputKnownWrong : ChangeSpec := { name := "inputKnown", fn := fun _ => fun
  | [] => { results := [.lit (.bool false)], args := [] }
  | _ => none }
def InputKnownWrongFalsely : Prop := inputKnownRow.holds Try.pinned (OpenSpec.ofChange inputKnownWrong)

/- THE SECOND FORM. 'bulk': how many values and letters a reading holds, each counted each time it is reached (what is shared counts as often as it is met; a slice's spare places count too). A statement '..UptoSaid' is the law's where the arguments, and the package variables that the reading takes, are together of bulk at most 1048576: NARROWER than '..Said'. Prove '..Said' where nothing that the law and all that it calls make is longer than what came in: it says more and counts as full. Else prove '..UptoSaid'. A law counts once. -/
mutual
def uptoBulk {H : Type} : DataW H → Nat
  | .lit (.string bytes) => bytes.length + 1
  | .lit _ => 1
  | .nil => 1
  | .ptr d => uptoBulk d + 1
  | .slice elems spare => uptoBulkAll elems + uptoBulkAll spare + 1
  | .agg parts => uptoBulkAll parts + 1
  | .iface _ d => uptoBulk d + 1
  | .map entries => uptoBulkEntries entries + 1
  | .held _ => 1
def uptoBulkAll {H : Type} : List (DataW H) → Nat
  | [] => 0
  | d :: r => uptoBulk d + uptoBulkAll r
def uptoBulkEntries {H : Type} : List (Lit × DataW H) → Nat
  | [] => 0
  | x :: r => uptoBulkEntry x + uptoBulkEntries r
def uptoBulkEntry {H : Type} : Lit × DataW H → Nat
  | (.string bytes, d) => bytes.length + uptoBulk d + 1
  | (_, d) => uptoBulk d + 1
 end
def uptoSmall : (H : Type) → List (DataW H) → Bool := fun _ ds => decide (uptoBulkAll ds ≤ 1048576)
def OpenSpec.upto (s : _root_.Go.ChangeSpec) : _root_.Go.OpenSpec := { _root_.Go.OpenSpec.ofChange s with cond := some uptoSmall }

/-- 'hindcastlaw06.InputUnpacks', WHERE WHAT IT READS IS OF BULK AT MOST 1048576: true; the input reads as it did. -/
def inputUnpacksUptoRow : OpenClaim := { program := "ytolmilcdhphnhaa", sum := "cb2bc8eddbdd3801bb288ee0657e00f5d59ead7cf1b9fc984c60a55aebb8bcce", func := "hindcast/hindcastlaw06.InputUnpacks", spec := "inputUnpacks", apart := false, narrowed := true }
def InputUnpacksUptoSaid : Prop := inputUnpacksUptoRow.holds Try.pinned (OpenSpec.upto inputUnpacksSpec)

/-- 'hindcastlaw06.InputBack', WHERE WHAT IT READS IS OF BULK AT MOST 1048576: true; the input reads as it did. -/
def inputBackUptoRow : OpenClaim := { program := "ytolmilcdhphnhaa", sum := "cb2bc8eddbdd3801bb288ee0657e00f5d59ead7cf1b9fc984c60a55aebb8bcce", func := "hindcast/hindcastlaw06.InputBack", spec := "inputBack", apart := false, narrowed := true }
def InputBackUptoSaid : Prop := inputBackUptoRow.holds Try.pinned (OpenSpec.upto inputBackSpec)

/-- 'hindcastlaw06.InputOne', WHERE WHAT IT READS IS OF BULK AT MOST 1048576: true; the input reads as it did. -/
def inputOneUptoRow : OpenClaim := { program := "ytolmilcdhphnhaa", sum := "cb2bc8eddbdd3801bb288ee0657e00f5d59ead7cf1b9fc984c60a55aebb8bcce", func := "hindcast/hindcastlaw06.InputOne", spec := "inputOne", apart := false, narrowed := true }
def InputOneUptoSaid : Prop := inputOneUptoRow.holds Try.pinned (OpenSpec.upto inputOneSpec)

/-- 'hindcastlaw06.InputTurned', WHERE WHAT IT READS IS OF BULK AT MOST 1048576: true; the input reads as it did. -/
def inputTurnedUptoRow : OpenClaim := { program := "ytolmilcdhphnhaa", sum := "cb2bc8eddbdd3801bb288ee0657e00f5d59ead7cf1b9fc984c60a55aebb8bcce", func := "hindcast/hindcastlaw06.InputTurned", spec := "inputTurned", apart := false, narrowed := true }
def InputTurnedUptoSaid : Prop := inputTurnedUptoRow.holds Try.pinned (OpenSpec.upto inputTurnedSpec)

/-- 'hindcastlaw06.InputBits', WHERE WHAT IT READS IS OF BULK AT MOST 1048576: true; the input reads as it did. -/
def inputBitsUptoRow : OpenClaim := { program := "ytolmilcdhphnhaa", sum := "cb2bc8eddbdd3801bb288ee0657e00f5d59ead7cf1b9fc984c60a55aebb8bcce", func := "hindcast/hindcastlaw06.InputBits", spec := "inputBits", apart := false, narrowed := true }
def InputBitsUptoSaid : Prop := inputBitsUptoRow.holds Try.pinned (OpenSpec.upto inputBitsSpec)

/-- 'hindcastlaw06.InputPacks', WHERE WHAT IT READS IS OF BULK AT MOST 1048576: true; the input reads as it did. -/
def inputPacksUptoRow : OpenClaim := { program := "ytolmilcdhphnhaa", sum := "cb2bc8eddbdd3801bb288ee0657e00f5d59ead7cf1b9fc984c60a55aebb8bcce", func := "hindcast/hindcastlaw06.InputPacks", spec := "inputPacks", apart := false, narrowed := true }
def InputPacksUptoSaid : Prop := inputPacksUptoRow.holds Try.pinned (OpenSpec.upto inputPacksSpec)

/-- 'hindcastlaw06.InputKnown', WHERE WHAT IT READS IS OF BULK AT MOST 1048576: true; the input reads as it did. -/
def inputKnownUptoRow : OpenClaim := { program := "ytolmilcdhphnhaa", sum := "cb2bc8eddbdd3801bb288ee0657e00f5d59ead7cf1b9fc984c60a55aebb8bcce", func := "hindcast/hindcastlaw06.InputKnown", spec := "inputKnown", apart := false, narrowed := true }
def InputKnownUptoSaid : Prop := inputKnownUptoRow.holds Try.pinned (OpenSpec.upto inputKnownSpec)

end Rows
end Go.Proofs.Ytolmilcdhphnhaa
