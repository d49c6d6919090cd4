/-
  No cell of these rows narrows 'for every input' (looked for: loops, veiled, ifaces, maps, wideKeys, modest, calm, conditions, laid).
  DERIVED. THE GIVEN ROWS OF THIS SEAT. 7 by the template 'for every input the law returns true; each argument reads behind the call as it read before'; 0 by the template 'total and deterministic' (their statements: YtalnddcijlkklaaTotals.lean).
  GIVEN WITH THE SEED: the statements are not yours to turn. If you find one false, say at which input.
  Laid BY PROGRAM, IN A SANDBOX (cutbox-rows.mjs): the forced cells as the released guide's own fill.sh prints them over the translation 143eec2e687f2a20… (all of the seat's roots in one cut). By AI agents, Wed Nov 11 2026. No macro, syntax, notation, axiom, sorry.
-/
import Derived.Test.YtalnddcijlkklaaChecked
import GoSem.Claim
import GoSem.ClaimJoined
import GoSem.ClaimMapViews
import Derived.JoinedTies
import Derived.KernelRfl
namespace Go.Proofs.Ytalnddcijlkklaa
/- THE CELL 'sum', in the pinned program and in every row, IS THE sha256 OF THE DUMP (.gsa) THAT YtalnddcijlkklaaProg.lean LOADS. Nothing in Lean hashes anything: it is a label: what it is worth is what the hold of that sum in a sandbox is worth. -/
noncomputable def Try.pinned : Pinned := { name := "ytalnddcijlkklaa", sum := "143eec2e687f2a2011aaf278911ce6227694bbd3ecb6b2a7a3d6c2fc22b47d9b", checked := Try.checked }
namespace Rows
def none {H : Type} : Left H := { results := [], args := [] }

/-- 'laws.FnExactCodeOK': WHATEVER THE INPUT: true; the input reads as it did. -/
def fnExactCodeOKSpec : ChangeSpec := { name := "fnExactCodeOK", fn := fun _ => fun
  | [d] => { results := [.lit (.bool true)], args := [d] }
  | _ => none }
def fnExactCodeOKRow : OpenClaim := { program := "ytalnddcijlkklaa", sum := "143eec2e687f2a2011aaf278911ce6227694bbd3ecb6b2a7a3d6c2fc22b47d9b", func := "loop.example/g00332/laws.FnExactCodeOK", spec := "fnExactCodeOK", apart := false }
def FnExactCodeOKSaid : Prop := fnExactCodeOKRow.holds Try.pinned (OpenSpec.ofChange fnExactCodeOKSpec)

/-- ITS FALSE NEIGHBOUR: 'it returns false'. Refute it at one input. -/
def fnExactCodeOKWrong : ChangeSpec := { name := "fnExactCodeOK", fn := fun _ => fun
  | [d] => { results := [.lit (.bool false)], args := [d] }
  | _ => none }
def FnExactCodeOKWrongFalsely : Prop := fnExactCodeOKRow.holds Try.pinned (OpenSpec.ofChange fnExactCodeOKWrong)

/-- 'laws.FnExactCodeDepth': WHATEVER THE INPUT: true; the input reads as it did. -/
def fnExactCodeDepthSpec : ChangeSpec := { name := "fnExactCodeDepth", fn := fun _ => fun
  | [d] => { results := [.lit (.bool true)], args := [d] }
  | _ => none }
def fnExactCodeDepthRow : OpenClaim := { program := "ytalnddcijlkklaa", sum := "143eec2e687f2a2011aaf278911ce6227694bbd3ecb6b2a7a3d6c2fc22b47d9b", func := "loop.example/g00332/laws.FnExactCodeDepth", spec := "fnExactCodeDepth", apart := false }
def FnExactCodeDepthSaid : Prop := fnExactCodeDepthRow.holds Try.pinned (OpenSpec.ofChange fnExactCodeDepthSpec)

/-- ITS FALSE NEIGHBOUR: 'it returns false'. Refute it at one input. -/
def fnExactCodeDepthWrong : ChangeSpec := { name := "fnExactCodeDepth", fn := fun _ => fun
  | [d] => { results := [.lit (.bool false)], args := [d] }
  | _ => none }
def FnExactCodeDepthWrongFalsely : Prop := fnExactCodeDepthRow.holds Try.pinned (OpenSpec.ofChange fnExactCodeDepthWrong)

/-- 'laws.FnExactStmtOK': WHATEVER THE INPUT: true; the input reads as it did. -/
def fnExactStmtOKSpec : ChangeSpec := { name := "fnExactStmtOK", fn := fun _ => fun
  | [d] => { results := [.lit (.bool true)], args := [d] }
  | _ => none }
def fnExactStmtOKRow : OpenClaim := { program := "ytalnddcijlkklaa", sum := "143eec2e687f2a2011aaf278911ce6227694bbd3ecb6b2a7a3d6c2fc22b47d9b", func := "loop.example/g00332/laws.FnExactStmtOK", spec := "fnExactStmtOK", unfollowed := true, recurses := true, apart := false }
def FnExactStmtOKSaid : Prop := fnExactStmtOKRow.holds Try.pinned (OpenSpec.ofChange fnExactStmtOKSpec)

/-- ITS FALSE NEIGHBOUR: 'it returns false'. Refute it at one input. -/
def fnExactStmtOKWrong : ChangeSpec := { name := "fnExactStmtOK", fn := fun _ => fun
  | [d] => { results := [.lit (.bool false)], args := [d] }
  | _ => none }
def FnExactStmtOKWrongFalsely : Prop := fnExactStmtOKRow.holds Try.pinned (OpenSpec.ofChange fnExactStmtOKWrong)

/-- 'laws.FnExactCompileExpr': WHATEVER THE INPUT: true; the input reads as it did. -/
def fnExactCompileExprSpec : ChangeSpec := { name := "fnExactCompileExpr", fn := fun _ => fun
  | [d] => { results := [.lit (.bool true)], args := [d] }
  | _ => none }
def fnExactCompileExprRow : OpenClaim := { program := "ytalnddcijlkklaa", sum := "143eec2e687f2a2011aaf278911ce6227694bbd3ecb6b2a7a3d6c2fc22b47d9b", func := "loop.example/g00332/laws.FnExactCompileExpr", spec := "fnExactCompileExpr", unfollowed := true, recurses := true, apart := false }
def FnExactCompileExprSaid : Prop := fnExactCompileExprRow.holds Try.pinned (OpenSpec.ofChange fnExactCompileExprSpec)

/-- ITS FALSE NEIGHBOUR: 'it returns false'. Refute it at one input. -/
def fnExactCompileExprWrong : ChangeSpec := { name := "fnExactCompileExpr", fn := fun _ => fun
  | [d] => { results := [.lit (.bool false)], args := [d] }
  | _ => none }
def FnExactCompileExprWrongFalsely : Prop := fnExactCompileExprRow.holds Try.pinned (OpenSpec.ofChange fnExactCompileExprWrong)

/-- 'laws.FnExactEvalExpr': WHATEVER THE INPUT: true; the input reads as it did. -/
def fnExactEvalExprSpec : ChangeSpec := { name := "fnExactEvalExpr", fn := fun _ => fun
  | [d1, d2] => { results := [.lit (.bool true)], args := [d1, d2] }
  | _ => none }
def fnExactEvalExprRow : OpenClaim := { program := "ytalnddcijlkklaa", sum := "143eec2e687f2a2011aaf278911ce6227694bbd3ecb6b2a7a3d6c2fc22b47d9b", func := "loop.example/g00332/laws.FnExactEvalExpr", spec := "fnExactEvalExpr", unfollowed := true, recurses := true, apart := false }
def FnExactEvalExprSaid : Prop := fnExactEvalExprRow.holds Try.pinned (OpenSpec.ofChange fnExactEvalExprSpec)

/-- ITS FALSE NEIGHBOUR: 'it returns false'. Refute it at one input. -/
def fnExactEvalExprWrong : ChangeSpec := { name := "fnExactEvalExpr", fn := fun _ => fun
  | [d1, d2] => { results := [.lit (.bool false)], args := [d1, d2] }
  | _ => none }
def FnExactEvalExprWrongFalsely : Prop := fnExactEvalExprRow.holds Try.pinned (OpenSpec.ofChange fnExactEvalExprWrong)

/-- 'laws.FnExactRunCode': WHATEVER THE INPUT: true; the input reads as it did. -/
def fnExactRunCodeSpec : ChangeSpec := { name := "fnExactRunCode", fn := fun _ => fun
  | [d1, d2] => { results := [.lit (.bool true)], args := [d1, d2] }
  | _ => none }
def fnExactRunCodeRow : OpenClaim := { program := "ytalnddcijlkklaa", sum := "143eec2e687f2a2011aaf278911ce6227694bbd3ecb6b2a7a3d6c2fc22b47d9b", func := "loop.example/g00332/laws.FnExactRunCode", spec := "fnExactRunCode", apart := false }
def FnExactRunCodeSaid : Prop := fnExactRunCodeRow.holds Try.pinned (OpenSpec.ofChange fnExactRunCodeSpec)

/-- ITS FALSE NEIGHBOUR: 'it returns false'. Refute it at one input. -/
def fnExactRunCodeWrong : ChangeSpec := { name := "fnExactRunCode", fn := fun _ => fun
  | [d1, d2] => { results := [.lit (.bool false)], args := [d1, d2] }
  | _ => none }
def FnExactRunCodeWrongFalsely : Prop := fnExactRunCodeRow.holds Try.pinned (OpenSpec.ofChange fnExactRunCodeWrong)

/-- 'laws.FnCode': WHATEVER THE INPUT: true; the input reads as it did. -/
def fnCodeSpec : ChangeSpec := { name := "fnCode", fn := fun _ => fun
  | [d1, d2] => { results := [.lit (.bool true)], args := [d1, d2] }
  | _ => none }
def fnCodeRow : OpenClaim := { program := "ytalnddcijlkklaa", sum := "143eec2e687f2a2011aaf278911ce6227694bbd3ecb6b2a7a3d6c2fc22b47d9b", func := "loop.example/g00332/laws.FnCode", spec := "fnCode", unfollowed := true, recurses := true, apart := false }
def FnCodeSaid : Prop := fnCodeRow.holds Try.pinned (OpenSpec.ofChange fnCodeSpec)

/-- ITS FALSE NEIGHBOUR: 'it returns false'. Refute it at one input. -/
def fnCodeWrong : ChangeSpec := { name := "fnCode", fn := fun _ => fun
  | [d1, d2] => { results := [.lit (.bool false)], args := [d1, d2] }
  | _ => none }
def FnCodeWrongFalsely : Prop := fnCodeRow.holds Try.pinned (OpenSpec.ofChange fnCodeWrong)

/- THE SECOND FORM. 'bulk': how many values and letters a reading holds, each counted each time it is reached (what is shared counts as often as it is met; a slice's spare places count too). A statement '..UptoSaid' is the law's where the arguments, and the package variables that the reading takes, are together of bulk at most 1048576: NARROWER than '..Said'. Prove '..Said' where nothing that the law and all that it calls make is longer than what came in: it says more and counts as full. Else prove '..UptoSaid'. A law counts once. -/
mutual
def uptoBulk {H : Type} : DataW H → Nat
  | .lit (.string bytes) => bytes.length + 1
  | .lit _ => 1
  | .nil => 1
  | .ptr d => uptoBulk d + 1
  | .slice elems spare => uptoBulkAll elems + uptoBulkAll spare + 1
  | .agg parts => uptoBulkAll parts + 1
  | .iface _ d => uptoBulk d + 1
  | .map entries => uptoBulkEntries entries + 1
  | .held _ => 1
def uptoBulkAll {H : Type} : List (DataW H) → Nat
  | [] => 0
  | d :: r => uptoBulk d + uptoBulkAll r
def uptoBulkEntries {H : Type} : List (Lit × DataW H) → Nat
  | [] => 0
  | x :: r => uptoBulkEntry x + uptoBulkEntries r
def uptoBulkEntry {H : Type} : Lit × DataW H → Nat
  | (.string bytes, d) => bytes.length + uptoBulk d + 1
  | (_, d) => uptoBulk d + 1
 end
def uptoSmall : (H : Type) → List (DataW H) → Bool := fun _ ds => decide (uptoBulkAll ds ≤ 1048576)
def OpenSpec.upto (s : _root_.Go.ChangeSpec) : _root_.Go.OpenSpec := { _root_.Go.OpenSpec.ofChange s with cond := some uptoSmall }

/-- 'laws.FnExactCodeOK', WHERE WHAT IT READS IS OF BULK AT MOST 1048576: true; the input reads as it did. -/
def fnExactCodeOKUptoRow : OpenClaim := { program := "ytalnddcijlkklaa", sum := "143eec2e687f2a2011aaf278911ce6227694bbd3ecb6b2a7a3d6c2fc22b47d9b", func := "loop.example/g00332/laws.FnExactCodeOK", spec := "fnExactCodeOK", apart := false, narrowed := true }
def FnExactCodeOKUptoSaid : Prop := fnExactCodeOKUptoRow.holds Try.pinned (OpenSpec.upto fnExactCodeOKSpec)

/-- 'laws.FnExactCodeDepth', WHERE WHAT IT READS IS OF BULK AT MOST 1048576: true; the input reads as it did. -/
def fnExactCodeDepthUptoRow : OpenClaim := { program := "ytalnddcijlkklaa", sum := "143eec2e687f2a2011aaf278911ce6227694bbd3ecb6b2a7a3d6c2fc22b47d9b", func := "loop.example/g00332/laws.FnExactCodeDepth", spec := "fnExactCodeDepth", apart := false, narrowed := true }
def FnExactCodeDepthUptoSaid : Prop := fnExactCodeDepthUptoRow.holds Try.pinned (OpenSpec.upto fnExactCodeDepthSpec)

/-- 'laws.FnExactStmtOK', WHERE WHAT IT READS IS OF BULK AT MOST 1048576: true; the input reads as it did. -/
def fnExactStmtOKUptoRow : OpenClaim := { program := "ytalnddcijlkklaa", sum := "143eec2e687f2a2011aaf278911ce6227694bbd3ecb6b2a7a3d6c2fc22b47d9b", func := "loop.example/g00332/laws.FnExactStmtOK", spec := "fnExactStmtOK", unfollowed := true, recurses := true, apart := false, narrowed := true }
def FnExactStmtOKUptoSaid : Prop := fnExactStmtOKUptoRow.holds Try.pinned (OpenSpec.upto fnExactStmtOKSpec)

/-- 'laws.FnExactCompileExpr', WHERE WHAT IT READS IS OF BULK AT MOST 1048576: true; the input reads as it did. -/
def fnExactCompileExprUptoRow : OpenClaim := { program := "ytalnddcijlkklaa", sum := "143eec2e687f2a2011aaf278911ce6227694bbd3ecb6b2a7a3d6c2fc22b47d9b", func := "loop.example/g00332/laws.FnExactCompileExpr", spec := "fnExactCompileExpr", unfollowed := true, recurses := true, apart := false, narrowed := true }
def FnExactCompileExprUptoSaid : Prop := fnExactCompileExprUptoRow.holds Try.pinned (OpenSpec.upto fnExactCompileExprSpec)

/-- 'laws.FnExactEvalExpr', WHERE WHAT IT READS IS OF BULK AT MOST 1048576: true; the input reads as it did. -/
def fnExactEvalExprUptoRow : OpenClaim := { program := "ytalnddcijlkklaa", sum := "143eec2e687f2a2011aaf278911ce6227694bbd3ecb6b2a7a3d6c2fc22b47d9b", func := "loop.example/g00332/laws.FnExactEvalExpr", spec := "fnExactEvalExpr", unfollowed := true, recurses := true, apart := false, narrowed := true }
def FnExactEvalExprUptoSaid : Prop := fnExactEvalExprUptoRow.holds Try.pinned (OpenSpec.upto fnExactEvalExprSpec)

/-- 'laws.FnExactRunCode', WHERE WHAT IT READS IS OF BULK AT MOST 1048576: true; the input reads as it did. -/
def fnExactRunCodeUptoRow : OpenClaim := { program := "ytalnddcijlkklaa", sum := "143eec2e687f2a2011aaf278911ce6227694bbd3ecb6b2a7a3d6c2fc22b47d9b", func := "loop.example/g00332/laws.FnExactRunCode", spec := "fnExactRunCode", apart := false, narrowed := true }
def FnExactRunCodeUptoSaid : Prop := fnExactRunCodeUptoRow.holds Try.pinned (OpenSpec.upto fnExactRunCodeSpec)

/-- 'laws.FnCode', WHERE WHAT IT READS IS OF BULK AT MOST 1048576: true; the input reads as it did. -/
def fnCodeUptoRow : OpenClaim := { program := "ytalnddcijlkklaa", sum := "143eec2e687f2a2011aaf278911ce6227694bbd3ecb6b2a7a3d6c2fc22b47d9b", func := "loop.example/g00332/laws.FnCode", spec := "fnCode", unfollowed := true, recurses := true, apart := false, narrowed := true }
def FnCodeUptoSaid : Prop := fnCodeUptoRow.holds Try.pinned (OpenSpec.upto fnCodeSpec)

end Rows
end Go.Proofs.Ytalnddcijlkklaa
