/-
  No cell of these rows narrows 'for every input' (looked for: loops, veiled, ifaces, maps, wideKeys, modest, calm, conditions, laid).
  DERIVED. THE GIVEN ROWS OF THIS SEAT. 2 by the template 'for every input the law returns true; each argument reads behind the call as it read before'; 0 by the template 'total and deterministic' (their statements: YtcloaaakhojjgaaGreatTotals.lean).
  GIVEN WITH THE SEED: the statements are not yours to turn. If you find one false, say at which input.
  Laid BY PROGRAM, IN A SANDBOX (cutbox-rows.mjs): the forced cells as the released guide's own fill.sh prints them over the translation 432561465e71e00a… (all of the seat's roots in one cut). By AI agents, Wed Nov 11 2026. No macro, syntax, notation, axiom, sorry.
-/
import Derived.Test.YtcloaaakhojjgaaGreatChecked
import GoSem.Claim
import GoSem.ClaimJoined
import GoSem.ClaimMapViews
import Derived.JoinedTies
import Derived.KernelRfl
namespace Go.Proofs.YtcloaaakhojjgaaGreat
/- THE CELL 'sum', in the pinned program and in every row, IS THE sha256 OF THE DUMP (.gsa) THAT YtcloaaakhojjgaaGreatProg.lean LOADS. Nothing in Lean hashes anything: it is a label: what it is worth is what the hold of that sum in a sandbox is worth. -/
noncomputable def Tryz.pinned : Pinned := { name := "ytcloaaakhojjgaagreat", sum := "432561465e71e00a5fa37d6038e3b9d713e5f3d91ca3b1d9d5537400fee9b16b", checked := Tryz.checked }
namespace Rows
def none {H : Type} : Left H := { results := [], args := [] }

/-- 'laws.FnFlush': WHATEVER THE INPUT: true; the input reads as it did. -/
def fnFlushSpec : ChangeSpec := { name := "fnFlush", fn := fun _ => fun
  | [d1, d2] => { results := [.lit (.bool true)], args := [d1, d2] }
  | _ => none }
def fnFlushRow : OpenClaim := { program := "ytcloaaakhojjgaagreat", sum := "432561465e71e00a5fa37d6038e3b9d713e5f3d91ca3b1d9d5537400fee9b16b", func := "loop.example/g00332/laws.FnFlush", spec := "fnFlush", unfollowed := true, recurses := true, apart := false }
def FnFlushSaid : Prop := fnFlushRow.holds Tryz.pinned (OpenSpec.ofChange fnFlushSpec)

/-- ITS FALSE NEIGHBOUR: 'it returns false'. Refute it at one input. -/
def fnFlushWrong : ChangeSpec := { name := "fnFlush", fn := fun _ => fun
  | [d1, d2] => { results := [.lit (.bool false)], args := [d1, d2] }
  | _ => none }
def FnFlushWrongFalsely : Prop := fnFlushRow.holds Tryz.pinned (OpenSpec.ofChange fnFlushWrong)

/-- 'laws.FnExactDirtyPages': WHATEVER THE INPUT: true; the input reads as it did. -/
def fnExactDirtyPagesSpec : ChangeSpec := { name := "fnExactDirtyPages", fn := fun _ => fun
  | [d] => { results := [.lit (.bool true)], args := [d] }
  | _ => none }
def fnExactDirtyPagesRow : OpenClaim := { program := "ytcloaaakhojjgaagreat", sum := "432561465e71e00a5fa37d6038e3b9d713e5f3d91ca3b1d9d5537400fee9b16b", func := "loop.example/g00332/laws.FnExactDirtyPages", spec := "fnExactDirtyPages", unfollowed := true, recurses := true, apart := false }
def FnExactDirtyPagesSaid : Prop := fnExactDirtyPagesRow.holds Tryz.pinned (OpenSpec.ofChange fnExactDirtyPagesSpec)

/-- ITS FALSE NEIGHBOUR: 'it returns false'. Refute it at one input. -/
def fnExactDirtyPagesWrong : ChangeSpec := { name := "fnExactDirtyPages", fn := fun _ => fun
  | [d] => { results := [.lit (.bool false)], args := [d] }
  | _ => none }
def FnExactDirtyPagesWrongFalsely : Prop := fnExactDirtyPagesRow.holds Tryz.pinned (OpenSpec.ofChange fnExactDirtyPagesWrong)

/- THE SECOND FORM. 'bulk': how many values and letters a reading holds, each counted each time it is reached (what is shared counts as often as it is met; a slice's spare places count too). A statement '..UptoSaid' is the law's where the arguments, and the package variables that the reading takes, are together of bulk at most 1048576: NARROWER than '..Said'. Prove '..Said' where nothing that the law and all that it calls make is longer than what came in: it says more and counts as full. Else prove '..UptoSaid'. A law counts once. -/
mutual
def uptoBulk {H : Type} : DataW H → Nat
  | .lit (.string bytes) => bytes.length + 1
  | .lit _ => 1
  | .nil => 1
  | .ptr d => uptoBulk d + 1
  | .slice elems spare => uptoBulkAll elems + uptoBulkAll spare + 1
  | .agg parts => uptoBulkAll parts + 1
  | .iface _ d => uptoBulk d + 1
  | .map entries => uptoBulkEntries entries + 1
  | .held _ => 1
def uptoBulkAll {H : Type} : List (DataW H) → Nat
  | [] => 0
  | d :: r => uptoBulk d + uptoBulkAll r
def uptoBulkEntries {H : Type} : List (Lit × DataW H) → Nat
  | [] => 0
  | x :: r => uptoBulkEntry x + uptoBulkEntries r
def uptoBulkEntry {H : Type} : Lit × DataW H → Nat
  | (.string bytes, d) => bytes.length + uptoBulk d + 1
  | (_, d) => uptoBulk d + 1
 end
def uptoSmall : (H : Type) → List (DataW H) → Bool := fun _ ds => decide (uptoBulkAll ds ≤ 1048576)
def OpenSpec.upto (s : _root_.Go.ChangeSpec) : _root_.Go.OpenSpec := { _root_.Go.OpenSpec.ofChange s with cond := some uptoSmall }

/-- 'laws.FnFlush', WHERE WHAT IT READS IS OF BULK AT MOST 1048576: true; the input reads as it did. -/
def fnFlushUptoRow : OpenClaim := { program := "ytcloaaakhojjgaagreat", sum := "432561465e71e00a5fa37d6038e3b9d713e5f3d91ca3b1d9d5537400fee9b16b", func := "loop.example/g00332/laws.FnFlush", spec := "fnFlush", unfollowed := true, recurses := true, apart := false, narrowed := true }
def FnFlushUptoSaid : Prop := fnFlushUptoRow.holds Tryz.pinned (OpenSpec.upto fnFlushSpec)

/-- 'laws.FnExactDirtyPages', WHERE WHAT IT READS IS OF BULK AT MOST 1048576: true; the input reads as it did. -/
def fnExactDirtyPagesUptoRow : OpenClaim := { program := "ytcloaaakhojjgaagreat", sum := "432561465e71e00a5fa37d6038e3b9d713e5f3d91ca3b1d9d5537400fee9b16b", func := "loop.example/g00332/laws.FnExactDirtyPages", spec := "fnExactDirtyPages", unfollowed := true, recurses := true, apart := false, narrowed := true }
def FnExactDirtyPagesUptoSaid : Prop := fnExactDirtyPagesUptoRow.holds Tryz.pinned (OpenSpec.upto fnExactDirtyPagesSpec)

end Rows
end Go.Proofs.YtcloaaakhojjgaaGreat
