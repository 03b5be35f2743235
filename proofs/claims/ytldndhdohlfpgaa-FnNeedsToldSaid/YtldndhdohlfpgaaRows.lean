/-
  No cell of these rows narrows 'for every input' (looked for: loops, veiled, ifaces, maps, wideKeys, modest, calm, conditions, laid).
  DERIVED. THE GIVEN ROWS OF THIS SEAT. 5 by the template 'for every input the law returns true; each argument reads behind the call as it read before'; 0 by the template 'total and deterministic' (their statements: YtldndhdohlfpgaaTotals.lean).
  GIVEN WITH THE SEED: the statements are not yours to turn. If you find one false, say at which input.
  Laid BY PROGRAM, IN A SANDBOX (cutbox-rows.mjs): the forced cells as the released guide's own fill.sh prints them over the translation f54f535a3bc28db1… (all of the seat's roots in one cut). By AI agents, Wed Nov 11 2026. No macro, syntax, notation, axiom, sorry.
-/
import Derived.Test.YtldndhdohlfpgaaChecked
import GoSem.Claim
import GoSem.ClaimJoined
import GoSem.ClaimMapViews
import Derived.JoinedTies
import Derived.KernelRfl
namespace Go.Proofs.Ytldndhdohlfpgaa
/- THE CELL 'sum', in the pinned program and in every row, IS THE sha256 OF THE DUMP (.gsa) THAT YtldndhdohlfpgaaProg.lean LOADS. Nothing in Lean hashes anything: it is a label: what it is worth is what the hold of that sum in a sandbox is worth. -/
noncomputable def Try.pinned : Pinned := { name := "ytldndhdohlfpgaa", sum := "f54f535a3bc28db13fcab9c967cbf5a7a569ebf7a0ec699b205e6e178e59e15e", checked := Try.checked }
namespace Rows
def none {H : Type} : Left H := { results := [], args := [] }

/-- 'laws.FnChecks': WHATEVER THE INPUT: true; the input reads as it did. -/
def fnChecksSpec : ChangeSpec := { name := "fnChecks", fn := fun _ => fun
  | [d] => { results := [.lit (.bool true)], args := [d] }
  | _ => none }
def fnChecksRow : OpenClaim := { program := "ytldndhdohlfpgaa", sum := "f54f535a3bc28db13fcab9c967cbf5a7a569ebf7a0ec699b205e6e178e59e15e", func := "loop.example/g00287/laws.FnChecks", spec := "fnChecks", unfollowed := true, recurses := true, apart := false }
def FnChecksSaid : Prop := fnChecksRow.holds Try.pinned (OpenSpec.ofChange fnChecksSpec)

/-- ITS FALSE NEIGHBOUR: 'it returns false'. Refute it at one input. -/
def fnChecksWrong : ChangeSpec := { name := "fnChecks", fn := fun _ => fun
  | [d] => { results := [.lit (.bool false)], args := [d] }
  | _ => none }
def FnChecksWrongFalsely : Prop := fnChecksRow.holds Try.pinned (OpenSpec.ofChange fnChecksWrong)

/-- 'laws.FnChecksTorn': WHATEVER THE INPUT: true; the input reads as it did. -/
def fnChecksTornSpec : ChangeSpec := { name := "fnChecksTorn", fn := fun _ => fun
  | [d] => { results := [.lit (.bool true)], args := [d] }
  | _ => none }
def fnChecksTornRow : OpenClaim := { program := "ytldndhdohlfpgaa", sum := "f54f535a3bc28db13fcab9c967cbf5a7a569ebf7a0ec699b205e6e178e59e15e", func := "loop.example/g00287/laws.FnChecksTorn", spec := "fnChecksTorn", unfollowed := true, recurses := true, apart := false }
def FnChecksTornSaid : Prop := fnChecksTornRow.holds Try.pinned (OpenSpec.ofChange fnChecksTornSpec)

/-- ITS FALSE NEIGHBOUR: 'it returns false'. Refute it at one input. -/
def fnChecksTornWrong : ChangeSpec := { name := "fnChecksTorn", fn := fun _ => fun
  | [d] => { results := [.lit (.bool false)], args := [d] }
  | _ => none }
def FnChecksTornWrongFalsely : Prop := fnChecksTornRow.holds Try.pinned (OpenSpec.ofChange fnChecksTornWrong)

/-- 'laws.FnShrinksTwice': WHATEVER THE INPUT: true; the input reads as it did. -/
def fnShrinksTwiceSpec : ChangeSpec := { name := "fnShrinksTwice", fn := fun _ => fun
  | [d] => { results := [.lit (.bool true)], args := [d] }
  | _ => none }
def fnShrinksTwiceRow : OpenClaim := { program := "ytldndhdohlfpgaa", sum := "f54f535a3bc28db13fcab9c967cbf5a7a569ebf7a0ec699b205e6e178e59e15e", func := "loop.example/g00287/laws.FnShrinksTwice", spec := "fnShrinksTwice", unfollowed := true, recurses := true, apart := false }
def FnShrinksTwiceSaid : Prop := fnShrinksTwiceRow.holds Try.pinned (OpenSpec.ofChange fnShrinksTwiceSpec)

/-- ITS FALSE NEIGHBOUR: 'it returns false'. Refute it at one input. -/
def fnShrinksTwiceWrong : ChangeSpec := { name := "fnShrinksTwice", fn := fun _ => fun
  | [d] => { results := [.lit (.bool false)], args := [d] }
  | _ => none }
def FnShrinksTwiceWrongFalsely : Prop := fnShrinksTwiceRow.holds Try.pinned (OpenSpec.ofChange fnShrinksTwiceWrong)

/-- 'laws.FnShrinks': WHATEVER THE INPUT: true; the input reads as it did. -/
def fnShrinksSpec : ChangeSpec := { name := "fnShrinks", fn := fun _ => fun
  | [d] => { results := [.lit (.bool true)], args := [d] }
  | _ => none }
def fnShrinksRow : OpenClaim := { program := "ytldndhdohlfpgaa", sum := "f54f535a3bc28db13fcab9c967cbf5a7a569ebf7a0ec699b205e6e178e59e15e", func := "loop.example/g00287/laws.FnShrinks", spec := "fnShrinks", unfollowed := true, recurses := true, apart := false }
def FnShrinksSaid : Prop := fnShrinksRow.holds Try.pinned (OpenSpec.ofChange fnShrinksSpec)

/-- ITS FALSE NEIGHBOUR: 'it returns false'. Refute it at one input. -/
def fnShrinksWrong : ChangeSpec := { name := "fnShrinks", fn := fun _ => fun
  | [d] => { results := [.lit (.bool false)], args := [d] }
  | _ => none }
def FnShrinksWrongFalsely : Prop := fnShrinksRow.holds Try.pinned (OpenSpec.ofChange fnShrinksWrong)

/-- 'laws.FnNeedsTold': WHATEVER THE INPUT: true; the input reads as it did. -/
def fnNeedsToldSpec : ChangeSpec := { name := "fnNeedsTold", fn := fun _ => fun
  | [d] => { results := [.lit (.bool true)], args := [d] }
  | _ => none }
def fnNeedsToldRow : OpenClaim := { program := "ytldndhdohlfpgaa", sum := "f54f535a3bc28db13fcab9c967cbf5a7a569ebf7a0ec699b205e6e178e59e15e", func := "loop.example/g00287/laws.FnNeedsTold", spec := "fnNeedsTold", unfollowed := true, recurses := true, apart := false }
def FnNeedsToldSaid : Prop := fnNeedsToldRow.holds Try.pinned (OpenSpec.ofChange fnNeedsToldSpec)

/-- ITS FALSE NEIGHBOUR: 'it returns false'. Refute it at one input. -/
def fnNeedsToldWrong : ChangeSpec := { name := "fnNeedsTold", fn := fun _ => fun
  | [d] => { results := [.lit (.bool false)], args := [d] }
  | _ => none }
def FnNeedsToldWrongFalsely : Prop := fnNeedsToldRow.holds Try.pinned (OpenSpec.ofChange fnNeedsToldWrong)

/- THE SECOND FORM. 'bulk': how many values and letters a reading holds, each counted each time it is reached (what is shared counts as often as it is met; a slice's spare places count too). A statement '..UptoSaid' is the law's where the arguments, and the package variables that the reading takes, are together of bulk at most 1048576: NARROWER than '..Said'. Prove '..Said' where nothing that the law and all that it calls make is longer than what came in: it says more and counts as full. Else prove '..UptoSaid'. A law counts once. -/
mutual
def uptoBulk {H : Type} : DataW H → Nat
  | .lit (.string bytes) => bytes.length + 1
  | .lit _ => 1
  | .nil => 1
  | .ptr d => uptoBulk d + 1
  | .slice elems spare => uptoBulkAll elems + uptoBulkAll spare + 1
  | .agg parts => uptoBulkAll parts + 1
  | .iface _ d => uptoBulk d + 1
  | .map entries => uptoBulkEntries entries + 1
  | .held _ => 1
def uptoBulkAll {H : Type} : List (DataW H) → Nat
  | [] => 0
  | d :: r => uptoBulk d + uptoBulkAll r
def uptoBulkEntries {H : Type} : List (Lit × DataW H) → Nat
  | [] => 0
  | x :: r => uptoBulkEntry x + uptoBulkEntries r
def uptoBulkEntry {H : Type} : Lit × DataW H → Nat
  | (.string bytes, d) => bytes.length + uptoBulk d + 1
  | (_, d) => uptoBulk d + 1
 end
def uptoSmall : (H : Type) → List (DataW H) → Bool := fun _ ds => decide (uptoBulkAll ds ≤ 1048576)
def OpenSpec.upto (s : _root_.Go.ChangeSpec) : _root_.Go.OpenSpec := { _root_.Go.OpenSpec.ofChange s with cond := some uptoSmall }

/-- 'laws.FnChecks', WHERE WHAT IT READS IS OF BULK AT MOST 1048576: true; the input reads as it did. -/
def fnChecksUptoRow : OpenClaim := { program := "ytldndhdohlfpgaa", sum := "f54f535a3bc28db13fcab9c967cbf5a7a569ebf7a0ec699b205e6e178e59e15e", func := "loop.example/g00287/laws.FnChecks", spec := "fnChecks", unfollowed := true, recurses := true, apart := false, narrowed := true }
def FnChecksUptoSaid : Prop := fnChecksUptoRow.holds Try.pinned (OpenSpec.upto fnChecksSpec)

/-- 'laws.FnChecksTorn', WHERE WHAT IT READS IS OF BULK AT MOST 1048576: true; the input reads as it did. -/
def fnChecksTornUptoRow : OpenClaim := { program := "ytldndhdohlfpgaa", sum := "f54f535a3bc28db13fcab9c967cbf5a7a569ebf7a0ec699b205e6e178e59e15e", func := "loop.example/g00287/laws.FnChecksTorn", spec := "fnChecksTorn", unfollowed := true, recurses := true, apart := false, narrowed := true }
def FnChecksTornUptoSaid : Prop := fnChecksTornUptoRow.holds Try.pinned (OpenSpec.upto fnChecksTornSpec)

/-- 'laws.FnShrinksTwice', WHERE WHAT IT READS IS OF BULK AT MOST 1048576: true; the input reads as it did. -/
def fnShrinksTwiceUptoRow : OpenClaim := { program := "ytldndhdohlfpgaa", sum := "f54f535a3bc28db13fcab9c967cbf5a7a569ebf7a0ec699b205e6e178e59e15e", func := "loop.example/g00287/laws.FnShrinksTwice", spec := "fnShrinksTwice", unfollowed := true, recurses := true, apart := false, narrowed := true }
def FnShrinksTwiceUptoSaid : Prop := fnShrinksTwiceUptoRow.holds Try.pinned (OpenSpec.upto fnShrinksTwiceSpec)

/-- 'laws.FnShrinks', WHERE WHAT IT READS IS OF BULK AT MOST 1048576: true; the input reads as it did. -/
def fnShrinksUptoRow : OpenClaim := { program := "ytldndhdohlfpgaa", sum := "f54f535a3bc28db13fcab9c967cbf5a7a569ebf7a0ec699b205e6e178e59e15e", func := "loop.example/g00287/laws.FnShrinks", spec := "fnShrinks", unfollowed := true, recurses := true, apart := false, narrowed := true }
def FnShrinksUptoSaid : Prop := fnShrinksUptoRow.holds Try.pinned (OpenSpec.upto fnShrinksSpec)

/-- 'laws.FnNeedsTold', WHERE WHAT IT READS IS OF BULK AT MOST 1048576: true; the input reads as it did. -/
def fnNeedsToldUptoRow : OpenClaim := { program := "ytldndhdohlfpgaa", sum := "f54f535a3bc28db13fcab9c967cbf5a7a569ebf7a0ec699b205e6e178e59e15e", func := "loop.example/g00287/laws.FnNeedsTold", spec := "fnNeedsTold", unfollowed := true, recurses := true, apart := false, narrowed := true }
def FnNeedsToldUptoSaid : Prop := fnNeedsToldUptoRow.holds Try.pinned (OpenSpec.upto fnNeedsToldSpec)

end Rows
end Go.Proofs.Ytldndhdohlfpgaa
