/-
  No cell of these rows narrows 'for every input' (looked for: loops, veiled, ifaces, maps, wideKeys, modest, calm, conditions, laid).
  DERIVED. THE GIVEN ROWS OF THIS SEAT. 6 by the template 'for every input the law returns true; each argument reads behind the call as it read before'; 0 by the template 'total and deterministic' (their statements: YtpecafogemipmaaTotals.lean).
  GIVEN WITH THE SEED: the statements are not yours to turn. If you find one false, say at which input.
  Laid BY PROGRAM, IN A SANDBOX (cutbox-rows.mjs): the forced cells as the released guide's own fill.sh prints them over the translation 03412f5c8b584d17… (all of the seat's roots in one cut). By AI agents, Wed Nov 11 2026. No macro, syntax, notation, axiom, sorry.
-/
import Derived.Test.YtpecafogemipmaaChecked
import GoSem.Claim
import GoSem.ClaimJoined
import GoSem.ClaimMapViews
import Derived.JoinedTies
import Derived.KernelRfl
namespace Go.Proofs.Ytpecafogemipmaa
/- THE CELL 'sum', in the pinned program and in every row, IS THE sha256 OF THE DUMP (.gsa) THAT YtpecafogemipmaaProg.lean LOADS. Nothing in Lean hashes anything: it is a label: what it is worth is what the hold of that sum in a sandbox is worth. -/
noncomputable def Try.pinned : Pinned := { name := "ytpecafogemipmaa", sum := "03412f5c8b584d172607220b987bdcf2d01fb211ab9716bfbc4c3a658f2c3d84", checked := Try.checked }
namespace Rows
def none {H : Type} : Left H := { results := [], args := [] }

/-- 'laws.FnExactCheckOk': WHATEVER THE INPUT: true; the input reads as it did. -/
def fnExactCheckOkSpec : ChangeSpec := { name := "fnExactCheckOk", fn := fun _ => fun
  | [d] => { results := [.lit (.bool true)], args := [d] }
  | _ => none }
def fnExactCheckOkRow : OpenClaim := { program := "ytpecafogemipmaa", sum := "03412f5c8b584d172607220b987bdcf2d01fb211ab9716bfbc4c3a658f2c3d84", func := "loop.example/g00287/laws.FnExactCheckOk", spec := "fnExactCheckOk", unfollowed := true, recurses := true, apart := false }
def FnExactCheckOkSaid : Prop := fnExactCheckOkRow.holds Try.pinned (OpenSpec.ofChange fnExactCheckOkSpec)

/-- ITS FALSE NEIGHBOUR: 'it returns false'. Refute it at one input. -/
def fnExactCheckOkWrong : ChangeSpec := { name := "fnExactCheckOk", fn := fun _ => fun
  | [d] => { results := [.lit (.bool false)], args := [d] }
  | _ => none }
def FnExactCheckOkWrongFalsely : Prop := fnExactCheckOkRow.holds Try.pinned (OpenSpec.ofChange fnExactCheckOkWrong)

/-- 'laws.FnExactCheckText': WHATEVER THE INPUT: true; the input reads as it did. -/
def fnExactCheckTextSpec : ChangeSpec := { name := "fnExactCheckText", fn := fun _ => fun
  | [d] => { results := [.lit (.bool true)], args := [d] }
  | _ => none }
def fnExactCheckTextRow : OpenClaim := { program := "ytpecafogemipmaa", sum := "03412f5c8b584d172607220b987bdcf2d01fb211ab9716bfbc4c3a658f2c3d84", func := "loop.example/g00287/laws.FnExactCheckText", spec := "fnExactCheckText", unfollowed := true, recurses := true, apart := false }
def FnExactCheckTextSaid : Prop := fnExactCheckTextRow.holds Try.pinned (OpenSpec.ofChange fnExactCheckTextSpec)

/-- ITS FALSE NEIGHBOUR: 'it returns false'. Refute it at one input. -/
def fnExactCheckTextWrong : ChangeSpec := { name := "fnExactCheckText", fn := fun _ => fun
  | [d] => { results := [.lit (.bool false)], args := [d] }
  | _ => none }
def FnExactCheckTextWrongFalsely : Prop := fnExactCheckTextRow.holds Try.pinned (OpenSpec.ofChange fnExactCheckTextWrong)

/-- 'laws.FnExactWithout': WHATEVER THE INPUT: true; the input reads as it did. -/
def fnExactWithoutSpec : ChangeSpec := { name := "fnExactWithout", fn := fun _ => fun
  | [d1, d2] => { results := [.lit (.bool true)], args := [d1, d2] }
  | _ => none }
def fnExactWithoutRow : OpenClaim := { program := "ytpecafogemipmaa", sum := "03412f5c8b584d172607220b987bdcf2d01fb211ab9716bfbc4c3a658f2c3d84", func := "loop.example/g00287/laws.FnExactWithout", spec := "fnExactWithout", apart := false }
def FnExactWithoutSaid : Prop := fnExactWithoutRow.holds Try.pinned (OpenSpec.ofChange fnExactWithoutSpec)

/-- ITS FALSE NEIGHBOUR: 'it returns false'. Refute it at one input. -/
def fnExactWithoutWrong : ChangeSpec := { name := "fnExactWithout", fn := fun _ => fun
  | [d1, d2] => { results := [.lit (.bool false)], args := [d1, d2] }
  | _ => none }
def FnExactWithoutWrongFalsely : Prop := fnExactWithoutRow.holds Try.pinned (OpenSpec.ofChange fnExactWithoutWrong)

/-- 'laws.FnExactRecSize': WHATEVER THE INPUT: true; the input reads as it did. -/
def fnExactRecSizeSpec : ChangeSpec := { name := "fnExactRecSize", fn := fun _ => fun
  | [d] => { results := [.lit (.bool true)], args := [d] }
  | _ => none }
def fnExactRecSizeRow : OpenClaim := { program := "ytpecafogemipmaa", sum := "03412f5c8b584d172607220b987bdcf2d01fb211ab9716bfbc4c3a658f2c3d84", func := "loop.example/g00287/laws.FnExactRecSize", spec := "fnExactRecSize", apart := false }
def FnExactRecSizeSaid : Prop := fnExactRecSizeRow.holds Try.pinned (OpenSpec.ofChange fnExactRecSizeSpec)

/-- ITS FALSE NEIGHBOUR: 'it returns false'. Refute it at one input. -/
def fnExactRecSizeWrong : ChangeSpec := { name := "fnExactRecSize", fn := fun _ => fun
  | [d] => { results := [.lit (.bool false)], args := [d] }
  | _ => none }
def FnExactRecSizeWrongFalsely : Prop := fnExactRecSizeRow.holds Try.pinned (OpenSpec.ofChange fnExactRecSizeWrong)

/-- 'laws.FnExactReadCheck': WHATEVER THE INPUT: true; the input reads as it did. -/
def fnExactReadCheckSpec : ChangeSpec := { name := "fnExactReadCheck", fn := fun _ => fun
  | [d] => { results := [.lit (.bool true)], args := [d] }
  | _ => none }
def fnExactReadCheckRow : OpenClaim := { program := "ytpecafogemipmaa", sum := "03412f5c8b584d172607220b987bdcf2d01fb211ab9716bfbc4c3a658f2c3d84", func := "loop.example/g00287/laws.FnExactReadCheck", spec := "fnExactReadCheck", unfollowed := true, recurses := true, apart := false }
def FnExactReadCheckSaid : Prop := fnExactReadCheckRow.holds Try.pinned (OpenSpec.ofChange fnExactReadCheckSpec)

/-- ITS FALSE NEIGHBOUR: 'it returns false'. Refute it at one input. -/
def fnExactReadCheckWrong : ChangeSpec := { name := "fnExactReadCheck", fn := fun _ => fun
  | [d] => { results := [.lit (.bool false)], args := [d] }
  | _ => none }
def FnExactReadCheckWrongFalsely : Prop := fnExactReadCheckRow.holds Try.pinned (OpenSpec.ofChange fnExactReadCheckWrong)

/-- 'laws.FnExactNeeded': WHATEVER THE INPUT: true; the input reads as it did. -/
def fnExactNeededSpec : ChangeSpec := { name := "fnExactNeeded", fn := fun _ => fun
  | [d1, d2] => { results := [.lit (.bool true)], args := [d1, d2] }
  | _ => none }
def fnExactNeededRow : OpenClaim := { program := "ytpecafogemipmaa", sum := "03412f5c8b584d172607220b987bdcf2d01fb211ab9716bfbc4c3a658f2c3d84", func := "loop.example/g00287/laws.FnExactNeeded", spec := "fnExactNeeded", unfollowed := true, recurses := true, apart := false }
def FnExactNeededSaid : Prop := fnExactNeededRow.holds Try.pinned (OpenSpec.ofChange fnExactNeededSpec)

/-- ITS FALSE NEIGHBOUR: 'it returns false'. Refute it at one input. -/
def fnExactNeededWrong : ChangeSpec := { name := "fnExactNeeded", fn := fun _ => fun
  | [d1, d2] => { results := [.lit (.bool false)], args := [d1, d2] }
  | _ => none }
def FnExactNeededWrongFalsely : Prop := fnExactNeededRow.holds Try.pinned (OpenSpec.ofChange fnExactNeededWrong)

/- THE SECOND FORM. 'bulk': how many values and letters a reading holds, each counted each time it is reached (what is shared counts as often as it is met; a slice's spare places count too). A statement '..UptoSaid' is the law's where the arguments, and the package variables that the reading takes, are together of bulk at most 1048576: NARROWER than '..Said'. Prove '..Said' where nothing that the law and all that it calls make is longer than what came in: it says more and counts as full. Else prove '..UptoSaid'. A law counts once. -/
mutual
def uptoBulk {H : Type} : DataW H → Nat
  | .lit (.string bytes) => bytes.length + 1
  | .lit _ => 1
  | .nil => 1
  | .ptr d => uptoBulk d + 1
  | .slice elems spare => uptoBulkAll elems + uptoBulkAll spare + 1
  | .agg parts => uptoBulkAll parts + 1
  | .iface _ d => uptoBulk d + 1
  | .map entries => uptoBulkEntries entries + 1
  | .held _ => 1
def uptoBulkAll {H : Type} : List (DataW H) → Nat
  | [] => 0
  | d :: r => uptoBulk d + uptoBulkAll r
def uptoBulkEntries {H : Type} : List (Lit × DataW H) → Nat
  | [] => 0
  | x :: r => uptoBulkEntry x + uptoBulkEntries r
def uptoBulkEntry {H : Type} : Lit × DataW H → Nat
  | (.string bytes, d) => bytes.length + uptoBulk d + 1
  | (_, d) => uptoBulk d + 1
 end
def uptoSmall : (H : Type) → List (DataW H) → Bool := fun _ ds => decide (uptoBulkAll ds ≤ 1048576)
def OpenSpec.upto (s : _root_.Go.ChangeSpec) : _root_.Go.OpenSpec := { _root_.Go.OpenSpec.ofChange s with cond := some uptoSmall }

/-- 'laws.FnExactCheckOk', WHERE WHAT IT READS IS OF BULK AT MOST 1048576: true; the input reads as it did. -/
def fnExactCheckOkUptoRow : OpenClaim := { program := "ytpecafogemipmaa", sum := "03412f5c8b584d172607220b987bdcf2d01fb211ab9716bfbc4c3a658f2c3d84", func := "loop.example/g00287/laws.FnExactCheckOk", spec := "fnExactCheckOk", unfollowed := true, recurses := true, apart := false, narrowed := true }
def FnExactCheckOkUptoSaid : Prop := fnExactCheckOkUptoRow.holds Try.pinned (OpenSpec.upto fnExactCheckOkSpec)

/-- 'laws.FnExactCheckText', WHERE WHAT IT READS IS OF BULK AT MOST 1048576: true; the input reads as it did. -/
def fnExactCheckTextUptoRow : OpenClaim := { program := "ytpecafogemipmaa", sum := "03412f5c8b584d172607220b987bdcf2d01fb211ab9716bfbc4c3a658f2c3d84", func := "loop.example/g00287/laws.FnExactCheckText", spec := "fnExactCheckText", unfollowed := true, recurses := true, apart := false, narrowed := true }
def FnExactCheckTextUptoSaid : Prop := fnExactCheckTextUptoRow.holds Try.pinned (OpenSpec.upto fnExactCheckTextSpec)

/-- 'laws.FnExactWithout', WHERE WHAT IT READS IS OF BULK AT MOST 1048576: true; the input reads as it did. -/
def fnExactWithoutUptoRow : OpenClaim := { program := "ytpecafogemipmaa", sum := "03412f5c8b584d172607220b987bdcf2d01fb211ab9716bfbc4c3a658f2c3d84", func := "loop.example/g00287/laws.FnExactWithout", spec := "fnExactWithout", apart := false, narrowed := true }
def FnExactWithoutUptoSaid : Prop := fnExactWithoutUptoRow.holds Try.pinned (OpenSpec.upto fnExactWithoutSpec)

/-- 'laws.FnExactRecSize', WHERE WHAT IT READS IS OF BULK AT MOST 1048576: true; the input reads as it did. -/
def fnExactRecSizeUptoRow : OpenClaim := { program := "ytpecafogemipmaa", sum := "03412f5c8b584d172607220b987bdcf2d01fb211ab9716bfbc4c3a658f2c3d84", func := "loop.example/g00287/laws.FnExactRecSize", spec := "fnExactRecSize", apart := false, narrowed := true }
def FnExactRecSizeUptoSaid : Prop := fnExactRecSizeUptoRow.holds Try.pinned (OpenSpec.upto fnExactRecSizeSpec)

/-- 'laws.FnExactReadCheck', WHERE WHAT IT READS IS OF BULK AT MOST 1048576: true; the input reads as it did. -/
def fnExactReadCheckUptoRow : OpenClaim := { program := "ytpecafogemipmaa", sum := "03412f5c8b584d172607220b987bdcf2d01fb211ab9716bfbc4c3a658f2c3d84", func := "loop.example/g00287/laws.FnExactReadCheck", spec := "fnExactReadCheck", unfollowed := true, recurses := true, apart := false, narrowed := true }
def FnExactReadCheckUptoSaid : Prop := fnExactReadCheckUptoRow.holds Try.pinned (OpenSpec.upto fnExactReadCheckSpec)

/-- 'laws.FnExactNeeded', WHERE WHAT IT READS IS OF BULK AT MOST 1048576: true; the input reads as it did. -/
def fnExactNeededUptoRow : OpenClaim := { program := "ytpecafogemipmaa", sum := "03412f5c8b584d172607220b987bdcf2d01fb211ab9716bfbc4c3a658f2c3d84", func := "loop.example/g00287/laws.FnExactNeeded", spec := "fnExactNeeded", unfollowed := true, recurses := true, apart := false, narrowed := true }
def FnExactNeededUptoSaid : Prop := fnExactNeededUptoRow.holds Try.pinned (OpenSpec.upto fnExactNeededSpec)

end Rows
end Go.Proofs.Ytpecafogemipmaa
