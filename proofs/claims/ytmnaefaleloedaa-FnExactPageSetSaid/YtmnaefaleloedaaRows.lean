/-
  No cell of these rows narrows 'for every input' (looked for: loops, veiled, ifaces, maps, wideKeys, modest, calm, conditions, laid).
  DERIVED. THE GIVEN ROWS OF THIS SEAT. 2 by the template 'for every input the law returns true; each argument reads behind the call as it read before'; 0 by the template 'total and deterministic' (their statements: YtmnaefaleloedaaTotals.lean).
  GIVEN WITH THE SEED: the statements are not yours to turn. If you find one false, say at which input.
  Laid BY PROGRAM, IN A SANDBOX (cutbox-rows.mjs): the forced cells as the released guide's own fill.sh prints them over the translation 2ebcde559a461e04… (all of the seat's roots in one cut). By AI agents, Wed Nov 11 2026. No macro, syntax, notation, axiom, sorry.
-/
import Derived.Test.YtmnaefaleloedaaChecked
import GoSem.Claim
import GoSem.ClaimJoined
import GoSem.ClaimMapViews
import Derived.JoinedTies
import Derived.KernelRfl
namespace Go.Proofs.Ytmnaefaleloedaa
/- THE CELL 'sum', in the pinned program and in every row, IS THE sha256 OF THE DUMP (.gsa) THAT YtmnaefaleloedaaProg.lean LOADS. Nothing in Lean hashes anything: it is a label: what it is worth is what the hold of that sum in a sandbox is worth. -/
noncomputable def Try.pinned : Pinned := { name := "ytmnaefaleloedaa", sum := "2ebcde559a461e04798f9227ad960f5061e824c5c0917af5b638d5d59d1d2a1d", checked := Try.checked }
namespace Rows
def none {H : Type} : Left H := { results := [], args := [] }

/-- 'laws.FnExactPageSet': WHATEVER THE INPUT: true; the input reads as it did. -/
def fnExactPageSetSpec : ChangeSpec := { name := "fnExactPageSet", fn := fun _ => fun
  | [d1, d2, d3, d4] => { results := [.lit (.bool true)], args := [d1, d2, d3, d4] }
  | _ => none }
def fnExactPageSetRow : OpenClaim := { program := "ytmnaefaleloedaa", sum := "2ebcde559a461e04798f9227ad960f5061e824c5c0917af5b638d5d59d1d2a1d", func := "loop.example/g00332/laws.FnExactPageSet", spec := "fnExactPageSet", unfollowed := true, recurses := true, apart := false }
def FnExactPageSetSaid : Prop := fnExactPageSetRow.holds Try.pinned (OpenSpec.ofChange fnExactPageSetSpec)

/-- ITS FALSE NEIGHBOUR: 'it returns false'. Refute it at one input. -/
def fnExactPageSetWrong : ChangeSpec := { name := "fnExactPageSet", fn := fun _ => fun
  | [d1, d2, d3, d4] => { results := [.lit (.bool false)], args := [d1, d2, d3, d4] }
  | _ => none }
def FnExactPageSetWrongFalsely : Prop := fnExactPageSetRow.holds Try.pinned (OpenSpec.ofChange fnExactPageSetWrong)

/-- 'laws.FnExactPageInsert': WHATEVER THE INPUT: true; the input reads as it did. -/
def fnExactPageInsertSpec : ChangeSpec := { name := "fnExactPageInsert", fn := fun _ => fun
  | [d1, d2] => { results := [.lit (.bool true)], args := [d1, d2] }
  | _ => none }
def fnExactPageInsertRow : OpenClaim := { program := "ytmnaefaleloedaa", sum := "2ebcde559a461e04798f9227ad960f5061e824c5c0917af5b638d5d59d1d2a1d", func := "loop.example/g00332/laws.FnExactPageInsert", spec := "fnExactPageInsert", unfollowed := true, recurses := true, apart := false }
def FnExactPageInsertSaid : Prop := fnExactPageInsertRow.holds Try.pinned (OpenSpec.ofChange fnExactPageInsertSpec)

/-- ITS FALSE NEIGHBOUR: 'it returns false'. Refute it at one input. -/
def fnExactPageInsertWrong : ChangeSpec := { name := "fnExactPageInsert", fn := fun _ => fun
  | [d1, d2] => { results := [.lit (.bool false)], args := [d1, d2] }
  | _ => none }
def FnExactPageInsertWrongFalsely : Prop := fnExactPageInsertRow.holds Try.pinned (OpenSpec.ofChange fnExactPageInsertWrong)

/- THE SECOND FORM. 'bulk': how many values and letters a reading holds, each counted each time it is reached (what is shared counts as often as it is met; a slice's spare places count too). A statement '..UptoSaid' is the law's where the arguments, and the package variables that the reading takes, are together of bulk at most 1048576: NARROWER than '..Said'. Prove '..Said' where nothing that the law and all that it calls make is longer than what came in: it says more and counts as full. Else prove '..UptoSaid'. A law counts once. -/
mutual
def uptoBulk {H : Type} : DataW H → Nat
  | .lit (.string bytes) => bytes.length + 1
  | .lit _ => 1
  | .nil => 1
  | .ptr d => uptoBulk d + 1
  | .slice elems spare => uptoBulkAll elems + uptoBulkAll spare + 1
  | .agg parts => uptoBulkAll parts + 1
  | .iface _ d => uptoBulk d + 1
  | .map entries => uptoBulkEntries entries + 1
  | .held _ => 1
def uptoBulkAll {H : Type} : List (DataW H) → Nat
  | [] => 0
  | d :: r => uptoBulk d + uptoBulkAll r
def uptoBulkEntries {H : Type} : List (Lit × DataW H) → Nat
  | [] => 0
  | x :: r => uptoBulkEntry x + uptoBulkEntries r
def uptoBulkEntry {H : Type} : Lit × DataW H → Nat
  | (.string bytes, d) => bytes.length + uptoBulk d + 1
  | (_, d) => uptoBulk d + 1
 end
def uptoSmall : (H : Type) → List (DataW H) → Bool := fun _ ds => decide (uptoBulkAll ds ≤ 1048576)
def OpenSpec.upto (s : _root_.Go.ChangeSpec) : _root_.Go.OpenSpec := { _root_.Go.OpenSpec.ofChange s with cond := some uptoSmall }

/-- 'laws.FnExactPageSet', WHERE WHAT IT READS IS OF BULK AT MOST 1048576: true; the input reads as it did. -/
def fnExactPageSetUptoRow : OpenClaim := { program := "ytmnaefaleloedaa", sum := "2ebcde559a461e04798f9227ad960f5061e824c5c0917af5b638d5d59d1d2a1d", func := "loop.example/g00332/laws.FnExactPageSet", spec := "fnExactPageSet", unfollowed := true, recurses := true, apart := false, narrowed := true }
def FnExactPageSetUptoSaid : Prop := fnExactPageSetUptoRow.holds Try.pinned (OpenSpec.upto fnExactPageSetSpec)

/-- 'laws.FnExactPageInsert', WHERE WHAT IT READS IS OF BULK AT MOST 1048576: true; the input reads as it did. -/
def fnExactPageInsertUptoRow : OpenClaim := { program := "ytmnaefaleloedaa", sum := "2ebcde559a461e04798f9227ad960f5061e824c5c0917af5b638d5d59d1d2a1d", func := "loop.example/g00332/laws.FnExactPageInsert", spec := "fnExactPageInsert", unfollowed := true, recurses := true, apart := false, narrowed := true }
def FnExactPageInsertUptoSaid : Prop := fnExactPageInsertUptoRow.holds Try.pinned (OpenSpec.upto fnExactPageInsertSpec)

end Rows
end Go.Proofs.Ytmnaefaleloedaa
