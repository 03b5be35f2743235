/-
  No cell of these rows narrows 'for every input' (looked for: loops, veiled, ifaces, maps, wideKeys, modest, calm, conditions, laid).
  DERIVED. THE GIVEN ROWS OF THIS SEAT. 4 by the template 'for every input the law returns true; each argument reads behind the call as it read before'; 0 by the template 'total and deterministic' (their statements: YtcehlicmghnghaaGreatTotals.lean).
  GIVEN WITH THE SEED: the statements are not yours to turn. If you find one false, say at which input.
  Laid BY PROGRAM, IN A SANDBOX (cutbox-rows.mjs): the forced cells as the released guide's own fill.sh prints them over the translation 424ec46528b999ff… (all of the seat's roots in one cut). By AI agents, Wed Nov 11 2026. No macro, syntax, notation, axiom, sorry.
-/
import Derived.Test.YtcehlicmghnghaaGreatChecked
import GoSem.Claim
import GoSem.ClaimJoined
import GoSem.ClaimMapViews
import Derived.JoinedTies
import Derived.KernelRfl
namespace Go.Proofs.YtcehlicmghnghaaGreat
/- THE CELL 'sum', in the pinned program and in every row, IS THE sha256 OF THE DUMP (.gsa) THAT YtcehlicmghnghaaGreatProg.lean LOADS. Nothing in Lean hashes anything: it is a label: what it is worth is what the hold of that sum in a sandbox is worth. -/
noncomputable def Tryz.pinned : Pinned := { name := "ytcehlicmghnghaagreat", sum := "424ec46528b999ff2087f0e0b9cbc64397c57ee9def1aeaa6d01593deaadd5b0", checked := Tryz.checked }
namespace Rows
def none {H : Type} : Left H := { results := [], args := [] }

/-- 'laws.FnExactFormatDisk': WHATEVER THE INPUT: true; the input reads as it did. -/
def fnExactFormatDiskSpec : ChangeSpec := { name := "fnExactFormatDisk", fn := fun _ => fun
  | [d] => { results := [.lit (.bool true)], args := [d] }
  | _ => none }
def fnExactFormatDiskRow : OpenClaim := { program := "ytcehlicmghnghaagreat", sum := "424ec46528b999ff2087f0e0b9cbc64397c57ee9def1aeaa6d01593deaadd5b0", func := "loop.example/g00287/laws.FnExactFormatDisk", spec := "fnExactFormatDisk", inPlace := ["internal/abi.NoEscape", "internal/bytealg.MakeNoZero"], unfollowed := true, recurses := true, apart := false }
def FnExactFormatDiskSaid : Prop := fnExactFormatDiskRow.holds Tryz.pinned (OpenSpec.ofChange fnExactFormatDiskSpec)

/-- ITS FALSE NEIGHBOUR: 'it returns false'. Refute it at one input. -/
def fnExactFormatDiskWrong : ChangeSpec := { name := "fnExactFormatDisk", fn := fun _ => fun
  | [d] => { results := [.lit (.bool false)], args := [d] }
  | _ => none }
def FnExactFormatDiskWrongFalsely : Prop := fnExactFormatDiskRow.holds Tryz.pinned (OpenSpec.ofChange fnExactFormatDiskWrong)

/-- 'laws.FnExactStoreNew': WHATEVER THE INPUT: true; the input reads as it did. -/
def fnExactStoreNewSpec : ChangeSpec := { name := "fnExactStoreNew", fn := fun _ => fun
  | [d] => { results := [.lit (.bool true)], args := [d] }
  | _ => none }
def fnExactStoreNewRow : OpenClaim := { program := "ytcehlicmghnghaagreat", sum := "424ec46528b999ff2087f0e0b9cbc64397c57ee9def1aeaa6d01593deaadd5b0", func := "loop.example/g00287/laws.FnExactStoreNew", spec := "fnExactStoreNew", inPlace := ["internal/abi.NoEscape", "internal/bytealg.MakeNoZero"], unfollowed := true, recurses := true, apart := false }
def FnExactStoreNewSaid : Prop := fnExactStoreNewRow.holds Tryz.pinned (OpenSpec.ofChange fnExactStoreNewSpec)

/-- ITS FALSE NEIGHBOUR: 'it returns false'. Refute it at one input. -/
def fnExactStoreNewWrong : ChangeSpec := { name := "fnExactStoreNew", fn := fun _ => fun
  | [d] => { results := [.lit (.bool false)], args := [d] }
  | _ => none }
def FnExactStoreNewWrongFalsely : Prop := fnExactStoreNewRow.holds Tryz.pinned (OpenSpec.ofChange fnExactStoreNewWrong)

/-- 'laws.FnExactStateNow': WHATEVER THE INPUT: true; the input reads as it did. -/
def fnExactStateNowSpec : ChangeSpec := { name := "fnExactStateNow", fn := fun _ => fun
  | [d] => { results := [.lit (.bool true)], args := [d] }
  | _ => none }
def fnExactStateNowRow : OpenClaim := { program := "ytcehlicmghnghaagreat", sum := "424ec46528b999ff2087f0e0b9cbc64397c57ee9def1aeaa6d01593deaadd5b0", func := "loop.example/g00287/laws.FnExactStateNow", spec := "fnExactStateNow", unfollowed := true, recurses := true, apart := false }
def FnExactStateNowSaid : Prop := fnExactStateNowRow.holds Tryz.pinned (OpenSpec.ofChange fnExactStateNowSpec)

/-- ITS FALSE NEIGHBOUR: 'it returns false'. Refute it at one input. -/
def fnExactStateNowWrong : ChangeSpec := { name := "fnExactStateNow", fn := fun _ => fun
  | [d] => { results := [.lit (.bool false)], args := [d] }
  | _ => none }
def FnExactStateNowWrongFalsely : Prop := fnExactStateNowRow.holds Tryz.pinned (OpenSpec.ofChange fnExactStateNowWrong)

/-- 'laws.FnExactRoomy': WHATEVER THE INPUT: true; the input reads as it did. -/
def fnExactRoomySpec : ChangeSpec := { name := "fnExactRoomy", fn := fun _ => fun
  | [d1, d2] => { results := [.lit (.bool true)], args := [d1, d2] }
  | _ => none }
def fnExactRoomyRow : OpenClaim := { program := "ytcehlicmghnghaagreat", sum := "424ec46528b999ff2087f0e0b9cbc64397c57ee9def1aeaa6d01593deaadd5b0", func := "loop.example/g00287/laws.FnExactRoomy", spec := "fnExactRoomy", unfollowed := true, recurses := true, apart := false }
def FnExactRoomySaid : Prop := fnExactRoomyRow.holds Tryz.pinned (OpenSpec.ofChange fnExactRoomySpec)

/-- ITS FALSE NEIGHBOUR: 'it returns false'. Refute it at one input. -/
def fnExactRoomyWrong : ChangeSpec := { name := "fnExactRoomy", fn := fun _ => fun
  | [d1, d2] => { results := [.lit (.bool false)], args := [d1, d2] }
  | _ => none }
def FnExactRoomyWrongFalsely : Prop := fnExactRoomyRow.holds Tryz.pinned (OpenSpec.ofChange fnExactRoomyWrong)

/- THE SECOND FORM. 'bulk': how many values and letters a reading holds, each counted each time it is reached (what is shared counts as often as it is met; a slice's spare places count too). A statement '..UptoSaid' is the law's where the arguments, and the package variables that the reading takes, are together of bulk at most 1048576: NARROWER than '..Said'. Prove '..Said' where nothing that the law and all that it calls make is longer than what came in: it says more and counts as full. Else prove '..UptoSaid'. A law counts once. -/
mutual
def uptoBulk {H : Type} : DataW H → Nat
  | .lit (.string bytes) => bytes.length + 1
  | .lit _ => 1
  | .nil => 1
  | .ptr d => uptoBulk d + 1
  | .slice elems spare => uptoBulkAll elems + uptoBulkAll spare + 1
  | .agg parts => uptoBulkAll parts + 1
  | .iface _ d => uptoBulk d + 1
  | .map entries => uptoBulkEntries entries + 1
  | .held _ => 1
def uptoBulkAll {H : Type} : List (DataW H) → Nat
  | [] => 0
  | d :: r => uptoBulk d + uptoBulkAll r
def uptoBulkEntries {H : Type} : List (Lit × DataW H) → Nat
  | [] => 0
  | x :: r => uptoBulkEntry x + uptoBulkEntries r
def uptoBulkEntry {H : Type} : Lit × DataW H → Nat
  | (.string bytes, d) => bytes.length + uptoBulk d + 1
  | (_, d) => uptoBulk d + 1
 end
def uptoSmall : (H : Type) → List (DataW H) → Bool := fun _ ds => decide (uptoBulkAll ds ≤ 1048576)
def OpenSpec.upto (s : _root_.Go.ChangeSpec) : _root_.Go.OpenSpec := { _root_.Go.OpenSpec.ofChange s with cond := some uptoSmall }

/-- 'laws.FnExactFormatDisk', WHERE WHAT IT READS IS OF BULK AT MOST 1048576: true; the input reads as it did. -/
def fnExactFormatDiskUptoRow : OpenClaim := { program := "ytcehlicmghnghaagreat", sum := "424ec46528b999ff2087f0e0b9cbc64397c57ee9def1aeaa6d01593deaadd5b0", func := "loop.example/g00287/laws.FnExactFormatDisk", spec := "fnExactFormatDisk", inPlace := ["internal/abi.NoEscape", "internal/bytealg.MakeNoZero"], unfollowed := true, recurses := true, apart := false, narrowed := true }
def FnExactFormatDiskUptoSaid : Prop := fnExactFormatDiskUptoRow.holds Tryz.pinned (OpenSpec.upto fnExactFormatDiskSpec)

/-- 'laws.FnExactStoreNew', WHERE WHAT IT READS IS OF BULK AT MOST 1048576: true; the input reads as it did. -/
def fnExactStoreNewUptoRow : OpenClaim := { program := "ytcehlicmghnghaagreat", sum := "424ec46528b999ff2087f0e0b9cbc64397c57ee9def1aeaa6d01593deaadd5b0", func := "loop.example/g00287/laws.FnExactStoreNew", spec := "fnExactStoreNew", inPlace := ["internal/abi.NoEscape", "internal/bytealg.MakeNoZero"], unfollowed := true, recurses := true, apart := false, narrowed := true }
def FnExactStoreNewUptoSaid : Prop := fnExactStoreNewUptoRow.holds Tryz.pinned (OpenSpec.upto fnExactStoreNewSpec)

/-- 'laws.FnExactStateNow', WHERE WHAT IT READS IS OF BULK AT MOST 1048576: true; the input reads as it did. -/
def fnExactStateNowUptoRow : OpenClaim := { program := "ytcehlicmghnghaagreat", sum := "424ec46528b999ff2087f0e0b9cbc64397c57ee9def1aeaa6d01593deaadd5b0", func := "loop.example/g00287/laws.FnExactStateNow", spec := "fnExactStateNow", unfollowed := true, recurses := true, apart := false, narrowed := true }
def FnExactStateNowUptoSaid : Prop := fnExactStateNowUptoRow.holds Tryz.pinned (OpenSpec.upto fnExactStateNowSpec)

/-- 'laws.FnExactRoomy', WHERE WHAT IT READS IS OF BULK AT MOST 1048576: true; the input reads as it did. -/
def fnExactRoomyUptoRow : OpenClaim := { program := "ytcehlicmghnghaagreat", sum := "424ec46528b999ff2087f0e0b9cbc64397c57ee9def1aeaa6d01593deaadd5b0", func := "loop.example/g00287/laws.FnExactRoomy", spec := "fnExactRoomy", unfollowed := true, recurses := true, apart := false, narrowed := true }
def FnExactRoomyUptoSaid : Prop := fnExactRoomyUptoRow.holds Tryz.pinned (OpenSpec.upto fnExactRoomySpec)

end Rows
end Go.Proofs.YtcehlicmghnghaaGreat
