/-
  No cell of these rows narrows 'for every input' (looked for: loops, veiled, ifaces, maps, wideKeys, modest, calm, conditions, laid).
  DERIVED. THE GIVEN ROWS OF THIS SEAT. 9 by the template 'for every input the law returns true; each argument reads behind the call as it read before'; 0 by the template 'total and deterministic' (their statements: YtgdcbjoaoagbpaaTotals.lean).
  GIVEN WITH THE SEED: the statements are not yours to turn. If you find one false, say at which input.
  Laid BY PROGRAM, IN A SANDBOX (cutbox-rows.mjs): the forced cells as the released guide's own fill.sh prints them over the translation fd289fe49923c85e… (all of the seat's roots in one cut). By AI agents, Wed Nov 11 2026. No macro, syntax, notation, axiom, sorry.
-/
import Derived.Test.YtgdcbjoaoagbpaaChecked
import GoSem.Claim
import GoSem.ClaimJoined
import GoSem.ClaimMapViews
import Derived.JoinedTies
import Derived.KernelRfl
namespace Go.Proofs.Ytgdcbjoaoagbpaa
/- THE CELL 'sum', in the pinned program and in every row, IS THE sha256 OF THE DUMP (.gsa) THAT YtgdcbjoaoagbpaaProg.lean LOADS. Nothing in Lean hashes anything: it is a label: what it is worth is what the hold of that sum in a sandbox is worth. -/
noncomputable def Try.pinned : Pinned := { name := "ytgdcbjoaoagbpaa", sum := "fd289fe49923c85e0bb01a1f5dcbe044ddcedb7b0f4ff511613e46460f5ccd71", checked := Try.checked }
namespace Rows
def none {H : Type} : Left H := { results := [], args := [] }

/-- 'laws.FnExactSameLog': WHATEVER THE INPUT: true; the input reads as it did. -/
def fnExactSameLogSpec : ChangeSpec := { name := "fnExactSameLog", fn := fun _ => fun
  | [d1, d2] => { results := [.lit (.bool true)], args := [d1, d2] }
  | _ => none }
def fnExactSameLogRow : OpenClaim := { program := "ytgdcbjoaoagbpaa", sum := "fd289fe49923c85e0bb01a1f5dcbe044ddcedb7b0f4ff511613e46460f5ccd71", func := "loop.example/g00287/laws.FnExactSameLog", spec := "fnExactSameLog", unfollowed := true, recurses := true, apart := false }
def FnExactSameLogSaid : Prop := fnExactSameLogRow.holds Try.pinned (OpenSpec.ofChange fnExactSameLogSpec)

/-- ITS FALSE NEIGHBOUR: 'it returns false'. Refute it at one input. -/
def fnExactSameLogWrong : ChangeSpec := { name := "fnExactSameLog", fn := fun _ => fun
  | [d1, d2] => { results := [.lit (.bool false)], args := [d1, d2] }
  | _ => none }
def FnExactSameLogWrongFalsely : Prop := fnExactSameLogRow.holds Try.pinned (OpenSpec.ofChange fnExactSameLogWrong)

/-- 'laws.FnExactNeededAll': WHATEVER THE INPUT: true; the input reads as it did. -/
def fnExactNeededAllSpec : ChangeSpec := { name := "fnExactNeededAll", fn := fun _ => fun
  | [d] => { results := [.lit (.bool true)], args := [d] }
  | _ => none }
def fnExactNeededAllRow : OpenClaim := { program := "ytgdcbjoaoagbpaa", sum := "fd289fe49923c85e0bb01a1f5dcbe044ddcedb7b0f4ff511613e46460f5ccd71", func := "loop.example/g00287/laws.FnExactNeededAll", spec := "fnExactNeededAll", unfollowed := true, recurses := true, apart := false }
def FnExactNeededAllSaid : Prop := fnExactNeededAllRow.holds Try.pinned (OpenSpec.ofChange fnExactNeededAllSpec)

/-- ITS FALSE NEIGHBOUR: 'it returns false'. Refute it at one input. -/
def fnExactNeededAllWrong : ChangeSpec := { name := "fnExactNeededAll", fn := fun _ => fun
  | [d] => { results := [.lit (.bool false)], args := [d] }
  | _ => none }
def FnExactNeededAllWrongFalsely : Prop := fnExactNeededAllRow.holds Try.pinned (OpenSpec.ofChange fnExactNeededAllWrong)

/-- 'laws.FnExactItemsOf': WHATEVER THE INPUT: true; the input reads as it did. -/
def fnExactItemsOfSpec : ChangeSpec := { name := "fnExactItemsOf", fn := fun _ => fun
  | [d] => { results := [.lit (.bool true)], args := [d] }
  | _ => none }
def fnExactItemsOfRow : OpenClaim := { program := "ytgdcbjoaoagbpaa", sum := "fd289fe49923c85e0bb01a1f5dcbe044ddcedb7b0f4ff511613e46460f5ccd71", func := "loop.example/g00287/laws.FnExactItemsOf", spec := "fnExactItemsOf", apart := false }
def FnExactItemsOfSaid : Prop := fnExactItemsOfRow.holds Try.pinned (OpenSpec.ofChange fnExactItemsOfSpec)

/-- ITS FALSE NEIGHBOUR: 'it returns false'. Refute it at one input. -/
def fnExactItemsOfWrong : ChangeSpec := { name := "fnExactItemsOf", fn := fun _ => fun
  | [d] => { results := [.lit (.bool false)], args := [d] }
  | _ => none }
def FnExactItemsOfWrongFalsely : Prop := fnExactItemsOfRow.holds Try.pinned (OpenSpec.ofChange fnExactItemsOfWrong)

/-- 'laws.FnExactFreeSegs': WHATEVER THE INPUT: true; the input reads as it did. -/
def fnExactFreeSegsSpec : ChangeSpec := { name := "fnExactFreeSegs", fn := fun _ => fun
  | [d] => { results := [.lit (.bool true)], args := [d] }
  | _ => none }
def fnExactFreeSegsRow : OpenClaim := { program := "ytgdcbjoaoagbpaa", sum := "fd289fe49923c85e0bb01a1f5dcbe044ddcedb7b0f4ff511613e46460f5ccd71", func := "loop.example/g00287/laws.FnExactFreeSegs", spec := "fnExactFreeSegs", unfollowed := true, recurses := true, apart := false }
def FnExactFreeSegsSaid : Prop := fnExactFreeSegsRow.holds Try.pinned (OpenSpec.ofChange fnExactFreeSegsSpec)

/-- ITS FALSE NEIGHBOUR: 'it returns false'. Refute it at one input. -/
def fnExactFreeSegsWrong : ChangeSpec := { name := "fnExactFreeSegs", fn := fun _ => fun
  | [d] => { results := [.lit (.bool false)], args := [d] }
  | _ => none }
def FnExactFreeSegsWrongFalsely : Prop := fnExactFreeSegsRow.holds Try.pinned (OpenSpec.ofChange fnExactFreeSegsWrong)

/-- 'laws.FnExactCheckOf': WHATEVER THE INPUT: true; the input reads as it did. -/
def fnExactCheckOfSpec : ChangeSpec := { name := "fnExactCheckOf", fn := fun _ => fun
  | [d] => { results := [.lit (.bool true)], args := [d] }
  | _ => none }
def fnExactCheckOfRow : OpenClaim := { program := "ytgdcbjoaoagbpaa", sum := "fd289fe49923c85e0bb01a1f5dcbe044ddcedb7b0f4ff511613e46460f5ccd71", func := "loop.example/g00287/laws.FnExactCheckOf", spec := "fnExactCheckOf", apart := false }
def FnExactCheckOfSaid : Prop := fnExactCheckOfRow.holds Try.pinned (OpenSpec.ofChange fnExactCheckOfSpec)

/-- ITS FALSE NEIGHBOUR: 'it returns false'. Refute it at one input. -/
def fnExactCheckOfWrong : ChangeSpec := { name := "fnExactCheckOf", fn := fun _ => fun
  | [d] => { results := [.lit (.bool false)], args := [d] }
  | _ => none }
def FnExactCheckOfWrongFalsely : Prop := fnExactCheckOfRow.holds Try.pinned (OpenSpec.ofChange fnExactCheckOfWrong)

/-- 'laws.FnExactNewestCheck': WHATEVER THE INPUT: true; the input reads as it did. -/
def fnExactNewestCheckSpec : ChangeSpec := { name := "fnExactNewestCheck", fn := fun _ => fun
  | [d] => { results := [.lit (.bool true)], args := [d] }
  | _ => none }
def fnExactNewestCheckRow : OpenClaim := { program := "ytgdcbjoaoagbpaa", sum := "fd289fe49923c85e0bb01a1f5dcbe044ddcedb7b0f4ff511613e46460f5ccd71", func := "loop.example/g00287/laws.FnExactNewestCheck", spec := "fnExactNewestCheck", unfollowed := true, recurses := true, apart := false }
def FnExactNewestCheckSaid : Prop := fnExactNewestCheckRow.holds Try.pinned (OpenSpec.ofChange fnExactNewestCheckSpec)

/-- ITS FALSE NEIGHBOUR: 'it returns false'. Refute it at one input. -/
def fnExactNewestCheckWrong : ChangeSpec := { name := "fnExactNewestCheck", fn := fun _ => fun
  | [d] => { results := [.lit (.bool false)], args := [d] }
  | _ => none }
def FnExactNewestCheckWrongFalsely : Prop := fnExactNewestCheckRow.holds Try.pinned (OpenSpec.ofChange fnExactNewestCheckWrong)

/-- 'laws.FnExactWriteCheck': WHATEVER THE INPUT: true; the input reads as it did. -/
def fnExactWriteCheckSpec : ChangeSpec := { name := "fnExactWriteCheck", fn := fun _ => fun
  | [d1, d2] => { results := [.lit (.bool true)], args := [d1, d2] }
  | _ => none }
def fnExactWriteCheckRow : OpenClaim := { program := "ytgdcbjoaoagbpaa", sum := "fd289fe49923c85e0bb01a1f5dcbe044ddcedb7b0f4ff511613e46460f5ccd71", func := "loop.example/g00287/laws.FnExactWriteCheck", spec := "fnExactWriteCheck", unfollowed := true, recurses := true, apart := false }
def FnExactWriteCheckSaid : Prop := fnExactWriteCheckRow.holds Try.pinned (OpenSpec.ofChange fnExactWriteCheckSpec)

/-- ITS FALSE NEIGHBOUR: 'it returns false'. Refute it at one input. -/
def fnExactWriteCheckWrong : ChangeSpec := { name := "fnExactWriteCheck", fn := fun _ => fun
  | [d1, d2] => { results := [.lit (.bool false)], args := [d1, d2] }
  | _ => none }
def FnExactWriteCheckWrongFalsely : Prop := fnExactWriteCheckRow.holds Try.pinned (OpenSpec.ofChange fnExactWriteCheckWrong)

/-- 'laws.FnExactSegOf': WHATEVER THE INPUT: true; the input reads as it did. -/
def fnExactSegOfSpec : ChangeSpec := { name := "fnExactSegOf", fn := fun _ => fun
  | [d1, d2] => { results := [.lit (.bool true)], args := [d1, d2] }
  | _ => none }
def fnExactSegOfRow : OpenClaim := { program := "ytgdcbjoaoagbpaa", sum := "fd289fe49923c85e0bb01a1f5dcbe044ddcedb7b0f4ff511613e46460f5ccd71", func := "loop.example/g00287/laws.FnExactSegOf", spec := "fnExactSegOf", apart := false }
def FnExactSegOfSaid : Prop := fnExactSegOfRow.holds Try.pinned (OpenSpec.ofChange fnExactSegOfSpec)

/-- ITS FALSE NEIGHBOUR: 'it returns false'. Refute it at one input. -/
def fnExactSegOfWrong : ChangeSpec := { name := "fnExactSegOf", fn := fun _ => fun
  | [d1, d2] => { results := [.lit (.bool false)], args := [d1, d2] }
  | _ => none }
def FnExactSegOfWrongFalsely : Prop := fnExactSegOfRow.holds Try.pinned (OpenSpec.ofChange fnExactSegOfWrong)

/-- 'laws.FnExactLiveOf': WHATEVER THE INPUT: true; the input reads as it did. -/
def fnExactLiveOfSpec : ChangeSpec := { name := "fnExactLiveOf", fn := fun _ => fun
  | [d1, d2] => { results := [.lit (.bool true)], args := [d1, d2] }
  | _ => none }
def fnExactLiveOfRow : OpenClaim := { program := "ytgdcbjoaoagbpaa", sum := "fd289fe49923c85e0bb01a1f5dcbe044ddcedb7b0f4ff511613e46460f5ccd71", func := "loop.example/g00287/laws.FnExactLiveOf", spec := "fnExactLiveOf", unfollowed := true, recurses := true, apart := false }
def FnExactLiveOfSaid : Prop := fnExactLiveOfRow.holds Try.pinned (OpenSpec.ofChange fnExactLiveOfSpec)

/-- ITS FALSE NEIGHBOUR: 'it returns false'. Refute it at one input. -/
def fnExactLiveOfWrong : ChangeSpec := { name := "fnExactLiveOf", fn := fun _ => fun
  | [d1, d2] => { results := [.lit (.bool false)], args := [d1, d2] }
  | _ => none }
def FnExactLiveOfWrongFalsely : Prop := fnExactLiveOfRow.holds Try.pinned (OpenSpec.ofChange fnExactLiveOfWrong)

/- THE SECOND FORM. 'bulk': how many values and letters a reading holds, each counted each time it is reached (what is shared counts as often as it is met; a slice's spare places count too). A statement '..UptoSaid' is the law's where the arguments, and the package variables that the reading takes, are together of bulk at most 1048576: NARROWER than '..Said'. Prove '..Said' where nothing that the law and all that it calls make is longer than what came in: it says more and counts as full. Else prove '..UptoSaid'. A law counts once. -/
mutual
def uptoBulk {H : Type} : DataW H → Nat
  | .lit (.string bytes) => bytes.length + 1
  | .lit _ => 1
  | .nil => 1
  | .ptr d => uptoBulk d + 1
  | .slice elems spare => uptoBulkAll elems + uptoBulkAll spare + 1
  | .agg parts => uptoBulkAll parts + 1
  | .iface _ d => uptoBulk d + 1
  | .map entries => uptoBulkEntries entries + 1
  | .held _ => 1
def uptoBulkAll {H : Type} : List (DataW H) → Nat
  | [] => 0
  | d :: r => uptoBulk d + uptoBulkAll r
def uptoBulkEntries {H : Type} : List (Lit × DataW H) → Nat
  | [] => 0
  | x :: r => uptoBulkEntry x + uptoBulkEntries r
def uptoBulkEntry {H : Type} : Lit × DataW H → Nat
  | (.string bytes, d) => bytes.length + uptoBulk d + 1
  | (_, d) => uptoBulk d + 1
 end
def uptoSmall : (H : Type) → List (DataW H) → Bool := fun _ ds => decide (uptoBulkAll ds ≤ 1048576)
def OpenSpec.upto (s : _root_.Go.ChangeSpec) : _root_.Go.OpenSpec := { _root_.Go.OpenSpec.ofChange s with cond := some uptoSmall }

/-- 'laws.FnExactSameLog', WHERE WHAT IT READS IS OF BULK AT MOST 1048576: true; the input reads as it did. -/
def fnExactSameLogUptoRow : OpenClaim := { program := "ytgdcbjoaoagbpaa", sum := "fd289fe49923c85e0bb01a1f5dcbe044ddcedb7b0f4ff511613e46460f5ccd71", func := "loop.example/g00287/laws.FnExactSameLog", spec := "fnExactSameLog", unfollowed := true, recurses := true, apart := false, narrowed := true }
def FnExactSameLogUptoSaid : Prop := fnExactSameLogUptoRow.holds Try.pinned (OpenSpec.upto fnExactSameLogSpec)

/-- 'laws.FnExactNeededAll', WHERE WHAT IT READS IS OF BULK AT MOST 1048576: true; the input reads as it did. -/
def fnExactNeededAllUptoRow : OpenClaim := { program := "ytgdcbjoaoagbpaa", sum := "fd289fe49923c85e0bb01a1f5dcbe044ddcedb7b0f4ff511613e46460f5ccd71", func := "loop.example/g00287/laws.FnExactNeededAll", spec := "fnExactNeededAll", unfollowed := true, recurses := true, apart := false, narrowed := true }
def FnExactNeededAllUptoSaid : Prop := fnExactNeededAllUptoRow.holds Try.pinned (OpenSpec.upto fnExactNeededAllSpec)

/-- 'laws.FnExactItemsOf', WHERE WHAT IT READS IS OF BULK AT MOST 1048576: true; the input reads as it did. -/
def fnExactItemsOfUptoRow : OpenClaim := { program := "ytgdcbjoaoagbpaa", sum := "fd289fe49923c85e0bb01a1f5dcbe044ddcedb7b0f4ff511613e46460f5ccd71", func := "loop.example/g00287/laws.FnExactItemsOf", spec := "fnExactItemsOf", apart := false, narrowed := true }
def FnExactItemsOfUptoSaid : Prop := fnExactItemsOfUptoRow.holds Try.pinned (OpenSpec.upto fnExactItemsOfSpec)

/-- 'laws.FnExactFreeSegs', WHERE WHAT IT READS IS OF BULK AT MOST 1048576: true; the input reads as it did. -/
def fnExactFreeSegsUptoRow : OpenClaim := { program := "ytgdcbjoaoagbpaa", sum := "fd289fe49923c85e0bb01a1f5dcbe044ddcedb7b0f4ff511613e46460f5ccd71", func := "loop.example/g00287/laws.FnExactFreeSegs", spec := "fnExactFreeSegs", unfollowed := true, recurses := true, apart := false, narrowed := true }
def FnExactFreeSegsUptoSaid : Prop := fnExactFreeSegsUptoRow.holds Try.pinned (OpenSpec.upto fnExactFreeSegsSpec)

/-- 'laws.FnExactCheckOf', WHERE WHAT IT READS IS OF BULK AT MOST 1048576: true; the input reads as it did. -/
def fnExactCheckOfUptoRow : OpenClaim := { program := "ytgdcbjoaoagbpaa", sum := "fd289fe49923c85e0bb01a1f5dcbe044ddcedb7b0f4ff511613e46460f5ccd71", func := "loop.example/g00287/laws.FnExactCheckOf", spec := "fnExactCheckOf", apart := false, narrowed := true }
def FnExactCheckOfUptoSaid : Prop := fnExactCheckOfUptoRow.holds Try.pinned (OpenSpec.upto fnExactCheckOfSpec)

/-- 'laws.FnExactNewestCheck', WHERE WHAT IT READS IS OF BULK AT MOST 1048576: true; the input reads as it did. -/
def fnExactNewestCheckUptoRow : OpenClaim := { program := "ytgdcbjoaoagbpaa", sum := "fd289fe49923c85e0bb01a1f5dcbe044ddcedb7b0f4ff511613e46460f5ccd71", func := "loop.example/g00287/laws.FnExactNewestCheck", spec := "fnExactNewestCheck", unfollowed := true, recurses := true, apart := false, narrowed := true }
def FnExactNewestCheckUptoSaid : Prop := fnExactNewestCheckUptoRow.holds Try.pinned (OpenSpec.upto fnExactNewestCheckSpec)

/-- 'laws.FnExactWriteCheck', WHERE WHAT IT READS IS OF BULK AT MOST 1048576: true; the input reads as it did. -/
def fnExactWriteCheckUptoRow : OpenClaim := { program := "ytgdcbjoaoagbpaa", sum := "fd289fe49923c85e0bb01a1f5dcbe044ddcedb7b0f4ff511613e46460f5ccd71", func := "loop.example/g00287/laws.FnExactWriteCheck", spec := "fnExactWriteCheck", unfollowed := true, recurses := true, apart := false, narrowed := true }
def FnExactWriteCheckUptoSaid : Prop := fnExactWriteCheckUptoRow.holds Try.pinned (OpenSpec.upto fnExactWriteCheckSpec)

/-- 'laws.FnExactSegOf', WHERE WHAT IT READS IS OF BULK AT MOST 1048576: true; the input reads as it did. -/
def fnExactSegOfUptoRow : OpenClaim := { program := "ytgdcbjoaoagbpaa", sum := "fd289fe49923c85e0bb01a1f5dcbe044ddcedb7b0f4ff511613e46460f5ccd71", func := "loop.example/g00287/laws.FnExactSegOf", spec := "fnExactSegOf", apart := false, narrowed := true }
def FnExactSegOfUptoSaid : Prop := fnExactSegOfUptoRow.holds Try.pinned (OpenSpec.upto fnExactSegOfSpec)

/-- 'laws.FnExactLiveOf', WHERE WHAT IT READS IS OF BULK AT MOST 1048576: true; the input reads as it did. -/
def fnExactLiveOfUptoRow : OpenClaim := { program := "ytgdcbjoaoagbpaa", sum := "fd289fe49923c85e0bb01a1f5dcbe044ddcedb7b0f4ff511613e46460f5ccd71", func := "loop.example/g00287/laws.FnExactLiveOf", spec := "fnExactLiveOf", unfollowed := true, recurses := true, apart := false, narrowed := true }
def FnExactLiveOfUptoSaid : Prop := fnExactLiveOfUptoRow.holds Try.pinned (OpenSpec.upto fnExactLiveOfSpec)

end Rows
end Go.Proofs.Ytgdcbjoaoagbpaa
