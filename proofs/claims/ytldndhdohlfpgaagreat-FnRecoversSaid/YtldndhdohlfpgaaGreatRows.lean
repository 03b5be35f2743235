/-
  No cell of these rows narrows 'for every input' (looked for: loops, veiled, ifaces, maps, wideKeys, modest, calm, conditions, laid).
  DERIVED. THE GIVEN ROWS OF THIS SEAT. 5 by the template 'for every input the law returns true; each argument reads behind the call as it read before'; 0 by the template 'total and deterministic' (their statements: YtldndhdohlfpgaaGreatTotals.lean).
  GIVEN WITH THE SEED: the statements are not yours to turn. If you find one false, say at which input.
  Laid BY PROGRAM, IN A SANDBOX (cutbox-rows.mjs): the forced cells as the released guide's own fill.sh prints them over the translation f0427e8a668118e9… (all of the seat's roots in one cut). By AI agents, Wed Nov 11 2026. No macro, syntax, notation, axiom, sorry.
-/
import Derived.Test.YtldndhdohlfpgaaGreatChecked
import GoSem.Claim
import GoSem.ClaimJoined
import GoSem.ClaimMapViews
import Derived.JoinedTies
import Derived.KernelRfl
namespace Go.Proofs.YtldndhdohlfpgaaGreat
/- THE CELL 'sum', in the pinned program and in every row, IS THE sha256 OF THE DUMP (.gsa) THAT YtldndhdohlfpgaaGreatProg.lean LOADS. Nothing in Lean hashes anything: it is a label: what it is worth is what the hold of that sum in a sandbox is worth. -/
noncomputable def Tryz.pinned : Pinned := { name := "ytldndhdohlfpgaagreat", sum := "f0427e8a668118e94115644921c583a674a1bc7fadb6c63c55c00d203ca2daff", checked := Tryz.checked }
namespace Rows
def none {H : Type} : Left H := { results := [], args := [] }

/-- 'laws.FnOpens': WHATEVER THE INPUT: true; the input reads as it did. -/
def fnOpensSpec : ChangeSpec := { name := "fnOpens", fn := fun _ => fun
  | [d] => { results := [.lit (.bool true)], args := [d] }
  | _ => none }
def fnOpensRow : OpenClaim := { program := "ytldndhdohlfpgaagreat", sum := "f0427e8a668118e94115644921c583a674a1bc7fadb6c63c55c00d203ca2daff", func := "loop.example/g00287/laws.FnOpens", spec := "fnOpens", unfollowed := true, recurses := true, apart := false }
def FnOpensSaid : Prop := fnOpensRow.holds Tryz.pinned (OpenSpec.ofChange fnOpensSpec)

/-- ITS FALSE NEIGHBOUR: 'it returns false'. Refute it at one input. -/
def fnOpensWrong : ChangeSpec := { name := "fnOpens", fn := fun _ => fun
  | [d] => { results := [.lit (.bool false)], args := [d] }
  | _ => none }
def FnOpensWrongFalsely : Prop := fnOpensRow.holds Tryz.pinned (OpenSpec.ofChange fnOpensWrong)

/-- 'laws.FnRecovers': WHATEVER THE INPUT: true; the input reads as it did. -/
def fnRecoversSpec : ChangeSpec := { name := "fnRecovers", fn := fun _ => fun
  | [d] => { results := [.lit (.bool true)], args := [d] }
  | _ => none }
def fnRecoversRow : OpenClaim := { program := "ytldndhdohlfpgaagreat", sum := "f0427e8a668118e94115644921c583a674a1bc7fadb6c63c55c00d203ca2daff", func := "loop.example/g00287/laws.FnRecovers", spec := "fnRecovers", unfollowed := true, recurses := true, apart := false }
def FnRecoversSaid : Prop := fnRecoversRow.holds Tryz.pinned (OpenSpec.ofChange fnRecoversSpec)

/-- ITS FALSE NEIGHBOUR: 'it returns false'. Refute it at one input. -/
def fnRecoversWrong : ChangeSpec := { name := "fnRecovers", fn := fun _ => fun
  | [d] => { results := [.lit (.bool false)], args := [d] }
  | _ => none }
def FnRecoversWrongFalsely : Prop := fnRecoversRow.holds Tryz.pinned (OpenSpec.ofChange fnRecoversWrong)

/-- 'laws.FnAppends': WHATEVER THE INPUT: true; the input reads as it did. -/
def fnAppendsSpec : ChangeSpec := { name := "fnAppends", fn := fun _ => fun
  | [d] => { results := [.lit (.bool true)], args := [d] }
  | _ => none }
def fnAppendsRow : OpenClaim := { program := "ytldndhdohlfpgaagreat", sum := "f0427e8a668118e94115644921c583a674a1bc7fadb6c63c55c00d203ca2daff", func := "loop.example/g00287/laws.FnAppends", spec := "fnAppends", unfollowed := true, recurses := true, apart := false }
def FnAppendsSaid : Prop := fnAppendsRow.holds Tryz.pinned (OpenSpec.ofChange fnAppendsSpec)

/-- ITS FALSE NEIGHBOUR: 'it returns false'. Refute it at one input. -/
def fnAppendsWrong : ChangeSpec := { name := "fnAppends", fn := fun _ => fun
  | [d] => { results := [.lit (.bool false)], args := [d] }
  | _ => none }
def FnAppendsWrongFalsely : Prop := fnAppendsRow.holds Tryz.pinned (OpenSpec.ofChange fnAppendsWrong)

/-- 'laws.FnLogsTold': WHATEVER THE INPUT: true; the input reads as it did. -/
def fnLogsToldSpec : ChangeSpec := { name := "fnLogsTold", fn := fun _ => fun
  | [d] => { results := [.lit (.bool true)], args := [d] }
  | _ => none }
def fnLogsToldRow : OpenClaim := { program := "ytldndhdohlfpgaagreat", sum := "f0427e8a668118e94115644921c583a674a1bc7fadb6c63c55c00d203ca2daff", func := "loop.example/g00287/laws.FnLogsTold", spec := "fnLogsTold", unfollowed := true, recurses := true, apart := false }
def FnLogsToldSaid : Prop := fnLogsToldRow.holds Tryz.pinned (OpenSpec.ofChange fnLogsToldSpec)

/-- ITS FALSE NEIGHBOUR: 'it returns false'. Refute it at one input. -/
def fnLogsToldWrong : ChangeSpec := { name := "fnLogsTold", fn := fun _ => fun
  | [d] => { results := [.lit (.bool false)], args := [d] }
  | _ => none }
def FnLogsToldWrongFalsely : Prop := fnLogsToldRow.holds Tryz.pinned (OpenSpec.ofChange fnLogsToldWrong)

/-- 'laws.FnChecksTold': WHATEVER THE INPUT: true; the input reads as it did. -/
def fnChecksToldSpec : ChangeSpec := { name := "fnChecksTold", fn := fun _ => fun
  | [d] => { results := [.lit (.bool true)], args := [d] }
  | _ => none }
def fnChecksToldRow : OpenClaim := { program := "ytldndhdohlfpgaagreat", sum := "f0427e8a668118e94115644921c583a674a1bc7fadb6c63c55c00d203ca2daff", func := "loop.example/g00287/laws.FnChecksTold", spec := "fnChecksTold", inPlace := ["internal/abi.NoEscape", "internal/bytealg.MakeNoZero"], unfollowed := true, recurses := true, apart := false }
def FnChecksToldSaid : Prop := fnChecksToldRow.holds Tryz.pinned (OpenSpec.ofChange fnChecksToldSpec)

/-- ITS FALSE NEIGHBOUR: 'it returns false'. Refute it at one input. -/
def fnChecksToldWrong : ChangeSpec := { name := "fnChecksTold", fn := fun _ => fun
  | [d] => { results := [.lit (.bool false)], args := [d] }
  | _ => none }
def FnChecksToldWrongFalsely : Prop := fnChecksToldRow.holds Tryz.pinned (OpenSpec.ofChange fnChecksToldWrong)

/- THE SECOND FORM. 'bulk': how many values and letters a reading holds, each counted each time it is reached (what is shared counts as often as it is met; a slice's spare places count too). A statement '..UptoSaid' is the law's where the arguments, and the package variables that the reading takes, are together of bulk at most 1048576: NARROWER than '..Said'. Prove '..Said' where nothing that the law and all that it calls make is longer than what came in: it says more and counts as full. Else prove '..UptoSaid'. A law counts once. -/
mutual
def uptoBulk {H : Type} : DataW H → Nat
  | .lit (.string bytes) => bytes.length + 1
  | .lit _ => 1
  | .nil => 1
  | .ptr d => uptoBulk d + 1
  | .slice elems spare => uptoBulkAll elems + uptoBulkAll spare + 1
  | .agg parts => uptoBulkAll parts + 1
  | .iface _ d => uptoBulk d + 1
  | .map entries => uptoBulkEntries entries + 1
  | .held _ => 1
def uptoBulkAll {H : Type} : List (DataW H) → Nat
  | [] => 0
  | d :: r => uptoBulk d + uptoBulkAll r
def uptoBulkEntries {H : Type} : List (Lit × DataW H) → Nat
  | [] => 0
  | x :: r => uptoBulkEntry x + uptoBulkEntries r
def uptoBulkEntry {H : Type} : Lit × DataW H → Nat
  | (.string bytes, d) => bytes.length + uptoBulk d + 1
  | (_, d) => uptoBulk d + 1
 end
def uptoSmall : (H : Type) → List (DataW H) → Bool := fun _ ds => decide (uptoBulkAll ds ≤ 1048576)
def OpenSpec.upto (s : _root_.Go.ChangeSpec) : _root_.Go.OpenSpec := { _root_.Go.OpenSpec.ofChange s with cond := some uptoSmall }

/-- 'laws.FnOpens', WHERE WHAT IT READS IS OF BULK AT MOST 1048576: true; the input reads as it did. -/
def fnOpensUptoRow : OpenClaim := { program := "ytldndhdohlfpgaagreat", sum := "f0427e8a668118e94115644921c583a674a1bc7fadb6c63c55c00d203ca2daff", func := "loop.example/g00287/laws.FnOpens", spec := "fnOpens", unfollowed := true, recurses := true, apart := false, narrowed := true }
def FnOpensUptoSaid : Prop := fnOpensUptoRow.holds Tryz.pinned (OpenSpec.upto fnOpensSpec)

/-- 'laws.FnRecovers', WHERE WHAT IT READS IS OF BULK AT MOST 1048576: true; the input reads as it did. -/
def fnRecoversUptoRow : OpenClaim := { program := "ytldndhdohlfpgaagreat", sum := "f0427e8a668118e94115644921c583a674a1bc7fadb6c63c55c00d203ca2daff", func := "loop.example/g00287/laws.FnRecovers", spec := "fnRecovers", unfollowed := true, recurses := true, apart := false, narrowed := true }
def FnRecoversUptoSaid : Prop := fnRecoversUptoRow.holds Tryz.pinned (OpenSpec.upto fnRecoversSpec)

/-- 'laws.FnAppends', WHERE WHAT IT READS IS OF BULK AT MOST 1048576: true; the input reads as it did. -/
def fnAppendsUptoRow : OpenClaim := { program := "ytldndhdohlfpgaagreat", sum := "f0427e8a668118e94115644921c583a674a1bc7fadb6c63c55c00d203ca2daff", func := "loop.example/g00287/laws.FnAppends", spec := "fnAppends", unfollowed := true, recurses := true, apart := false, narrowed := true }
def FnAppendsUptoSaid : Prop := fnAppendsUptoRow.holds Tryz.pinned (OpenSpec.upto fnAppendsSpec)

/-- 'laws.FnLogsTold', WHERE WHAT IT READS IS OF BULK AT MOST 1048576: true; the input reads as it did. -/
def fnLogsToldUptoRow : OpenClaim := { program := "ytldndhdohlfpgaagreat", sum := "f0427e8a668118e94115644921c583a674a1bc7fadb6c63c55c00d203ca2daff", func := "loop.example/g00287/laws.FnLogsTold", spec := "fnLogsTold", unfollowed := true, recurses := true, apart := false, narrowed := true }
def FnLogsToldUptoSaid : Prop := fnLogsToldUptoRow.holds Tryz.pinned (OpenSpec.upto fnLogsToldSpec)

/-- 'laws.FnChecksTold', WHERE WHAT IT READS IS OF BULK AT MOST 1048576: true; the input reads as it did. -/
def fnChecksToldUptoRow : OpenClaim := { program := "ytldndhdohlfpgaagreat", sum := "f0427e8a668118e94115644921c583a674a1bc7fadb6c63c55c00d203ca2daff", func := "loop.example/g00287/laws.FnChecksTold", spec := "fnChecksTold", inPlace := ["internal/abi.NoEscape", "internal/bytealg.MakeNoZero"], unfollowed := true, recurses := true, apart := false, narrowed := true }
def FnChecksToldUptoSaid : Prop := fnChecksToldUptoRow.holds Tryz.pinned (OpenSpec.upto fnChecksToldSpec)

end Rows
end Go.Proofs.YtldndhdohlfpgaaGreat
