/-
  No cell of these rows narrows 'for every input' (looked for: loops, veiled, ifaces, maps, wideKeys, modest, calm, conditions, laid).
  DERIVED. THE GIVEN ROWS OF THIS SEAT. 3 by the template 'for every input the law returns true; each argument reads behind the call as it read before'; 0 by the template 'total and deterministic' (their statements: YtgdcbjoaoagbpaaGreatTotals.lean).
  GIVEN WITH THE SEED: the statements are not yours to turn. If you find one false, say at which input.
  Laid BY PROGRAM, IN A SANDBOX (cutbox-rows.mjs): the forced cells as the released guide's own fill.sh prints them over the translation 6bea1151a51a8df8… (all of the seat's roots in one cut). By AI agents, Wed Nov 11 2026. No macro, syntax, notation, axiom, sorry.
-/
import Derived.Test.YtgdcbjoaoagbpaaGreatChecked
import GoSem.Claim
import GoSem.ClaimJoined
import GoSem.ClaimMapViews
import Derived.JoinedTies
import Derived.KernelRfl
namespace Go.Proofs.YtgdcbjoaoagbpaaGreat
/- THE CELL 'sum', in the pinned program and in every row, IS THE sha256 OF THE DUMP (.gsa) THAT YtgdcbjoaoagbpaaGreatProg.lean LOADS. Nothing in Lean hashes anything: it is a label: what it is worth is what the hold of that sum in a sandbox is worth. -/
noncomputable def Tryz.pinned : Pinned := { name := "ytgdcbjoaoagbpaagreat", sum := "6bea1151a51a8df84d6be9f4c42fd20a6a7cb51fc1915fd62efb82310df81a1a", checked := Tryz.checked }
namespace Rows
def none {H : Type} : Left H := { results := [], args := [] }

/-- 'laws.FnExactLiveBytes': WHATEVER THE INPUT: true; the input reads as it did. -/
def fnExactLiveBytesSpec : ChangeSpec := { name := "fnExactLiveBytes", fn := fun _ => fun
  | [d] => { results := [.lit (.bool true)], args := [d] }
  | _ => none }
def fnExactLiveBytesRow : OpenClaim := { program := "ytgdcbjoaoagbpaagreat", sum := "6bea1151a51a8df84d6be9f4c42fd20a6a7cb51fc1915fd62efb82310df81a1a", func := "loop.example/g00287/laws.FnExactLiveBytes", spec := "fnExactLiveBytes", unfollowed := true, recurses := true, apart := false }
def FnExactLiveBytesSaid : Prop := fnExactLiveBytesRow.holds Tryz.pinned (OpenSpec.ofChange fnExactLiveBytesSpec)

/-- ITS FALSE NEIGHBOUR: 'it returns false'. Refute it at one input. -/
def fnExactLiveBytesWrong : ChangeSpec := { name := "fnExactLiveBytes", fn := fun _ => fun
  | [d] => { results := [.lit (.bool false)], args := [d] }
  | _ => none }
def FnExactLiveBytesWrongFalsely : Prop := fnExactLiveBytesRow.holds Tryz.pinned (OpenSpec.ofChange fnExactLiveBytesWrong)

/-- 'laws.FnExactGainOf': WHATEVER THE INPUT: true; the input reads as it did. -/
def fnExactGainOfSpec : ChangeSpec := { name := "fnExactGainOf", fn := fun _ => fun
  | [d1, d2] => { results := [.lit (.bool true)], args := [d1, d2] }
  | _ => none }
def fnExactGainOfRow : OpenClaim := { program := "ytgdcbjoaoagbpaagreat", sum := "6bea1151a51a8df84d6be9f4c42fd20a6a7cb51fc1915fd62efb82310df81a1a", func := "loop.example/g00287/laws.FnExactGainOf", spec := "fnExactGainOf", unfollowed := true, recurses := true, apart := false }
def FnExactGainOfSaid : Prop := fnExactGainOfRow.holds Tryz.pinned (OpenSpec.ofChange fnExactGainOfSpec)

/-- ITS FALSE NEIGHBOUR: 'it returns false'. Refute it at one input. -/
def fnExactGainOfWrong : ChangeSpec := { name := "fnExactGainOf", fn := fun _ => fun
  | [d1, d2] => { results := [.lit (.bool false)], args := [d1, d2] }
  | _ => none }
def FnExactGainOfWrongFalsely : Prop := fnExactGainOfRow.holds Tryz.pinned (OpenSpec.ofChange fnExactGainOfWrong)

/-- 'laws.FnExactVictimOf': WHATEVER THE INPUT: true; the input reads as it did. -/
def fnExactVictimOfSpec : ChangeSpec := { name := "fnExactVictimOf", fn := fun _ => fun
  | [d] => { results := [.lit (.bool true)], args := [d] }
  | _ => none }
def fnExactVictimOfRow : OpenClaim := { program := "ytgdcbjoaoagbpaagreat", sum := "6bea1151a51a8df84d6be9f4c42fd20a6a7cb51fc1915fd62efb82310df81a1a", func := "loop.example/g00287/laws.FnExactVictimOf", spec := "fnExactVictimOf", unfollowed := true, recurses := true, apart := false }
def FnExactVictimOfSaid : Prop := fnExactVictimOfRow.holds Tryz.pinned (OpenSpec.ofChange fnExactVictimOfSpec)

/-- ITS FALSE NEIGHBOUR: 'it returns false'. Refute it at one input. -/
def fnExactVictimOfWrong : ChangeSpec := { name := "fnExactVictimOf", fn := fun _ => fun
  | [d] => { results := [.lit (.bool false)], args := [d] }
  | _ => none }
def FnExactVictimOfWrongFalsely : Prop := fnExactVictimOfRow.holds Tryz.pinned (OpenSpec.ofChange fnExactVictimOfWrong)

/- THE SECOND FORM. 'bulk': how many values and letters a reading holds, each counted each time it is reached (what is shared counts as often as it is met; a slice's spare places count too). A statement '..UptoSaid' is the law's where the arguments, and the package variables that the reading takes, are together of bulk at most 1048576: NARROWER than '..Said'. Prove '..Said' where nothing that the law and all that it calls make is longer than what came in: it says more and counts as full. Else prove '..UptoSaid'. A law counts once. -/
mutual
def uptoBulk {H : Type} : DataW H → Nat
  | .lit (.string bytes) => bytes.length + 1
  | .lit _ => 1
  | .nil => 1
  | .ptr d => uptoBulk d + 1
  | .slice elems spare => uptoBulkAll elems + uptoBulkAll spare + 1
  | .agg parts => uptoBulkAll parts + 1
  | .iface _ d => uptoBulk d + 1
  | .map entries => uptoBulkEntries entries + 1
  | .held _ => 1
def uptoBulkAll {H : Type} : List (DataW H) → Nat
  | [] => 0
  | d :: r => uptoBulk d + uptoBulkAll r
def uptoBulkEntries {H : Type} : List (Lit × DataW H) → Nat
  | [] => 0
  | x :: r => uptoBulkEntry x + uptoBulkEntries r
def uptoBulkEntry {H : Type} : Lit × DataW H → Nat
  | (.string bytes, d) => bytes.length + uptoBulk d + 1
  | (_, d) => uptoBulk d + 1
 end
def uptoSmall : (H : Type) → List (DataW H) → Bool := fun _ ds => decide (uptoBulkAll ds ≤ 1048576)
def OpenSpec.upto (s : _root_.Go.ChangeSpec) : _root_.Go.OpenSpec := { _root_.Go.OpenSpec.ofChange s with cond := some uptoSmall }

/-- 'laws.FnExactLiveBytes', WHERE WHAT IT READS IS OF BULK AT MOST 1048576: true; the input reads as it did. -/
def fnExactLiveBytesUptoRow : OpenClaim := { program := "ytgdcbjoaoagbpaagreat", sum := "6bea1151a51a8df84d6be9f4c42fd20a6a7cb51fc1915fd62efb82310df81a1a", func := "loop.example/g00287/laws.FnExactLiveBytes", spec := "fnExactLiveBytes", unfollowed := true, recurses := true, apart := false, narrowed := true }
def FnExactLiveBytesUptoSaid : Prop := fnExactLiveBytesUptoRow.holds Tryz.pinned (OpenSpec.upto fnExactLiveBytesSpec)

/-- 'laws.FnExactGainOf', WHERE WHAT IT READS IS OF BULK AT MOST 1048576: true; the input reads as it did. -/
def fnExactGainOfUptoRow : OpenClaim := { program := "ytgdcbjoaoagbpaagreat", sum := "6bea1151a51a8df84d6be9f4c42fd20a6a7cb51fc1915fd62efb82310df81a1a", func := "loop.example/g00287/laws.FnExactGainOf", spec := "fnExactGainOf", unfollowed := true, recurses := true, apart := false, narrowed := true }
def FnExactGainOfUptoSaid : Prop := fnExactGainOfUptoRow.holds Tryz.pinned (OpenSpec.upto fnExactGainOfSpec)

/-- 'laws.FnExactVictimOf', WHERE WHAT IT READS IS OF BULK AT MOST 1048576: true; the input reads as it did. -/
def fnExactVictimOfUptoRow : OpenClaim := { program := "ytgdcbjoaoagbpaagreat", sum := "6bea1151a51a8df84d6be9f4c42fd20a6a7cb51fc1915fd62efb82310df81a1a", func := "loop.example/g00287/laws.FnExactVictimOf", spec := "fnExactVictimOf", unfollowed := true, recurses := true, apart := false, narrowed := true }
def FnExactVictimOfUptoSaid : Prop := fnExactVictimOfUptoRow.holds Tryz.pinned (OpenSpec.upto fnExactVictimOfSpec)

end Rows
end Go.Proofs.YtgdcbjoaoagbpaaGreat
