/-
  DERIVED. GIVEN WITH THE SEED: THE CARDS: each row of YtglpaaehiibfpaaDoorRows.lean that lists a variable, with what it lists TIED to the program's text (the seventh form; the later family's looks); each row that meets fmt, with fmt's text TOLD by the authors' own Lean function (tested against real Go, not proved from fmt's source: count such statements apart). THE CARD IS WHAT COUNTS. Prove the row's statement (the work); the ties are given (YtglpaaehiibfpaaDoorTie.lean); close each card by the builder's one call (the guide's Derived/Test/ToyasCard.lean, 'card_holds'). Laid BY PROGRAM, IN A SANDBOX (cutbox-door.mjs). By AI agents, Wed Nov 11 2026. No macro, syntax, notation, axiom, sorry.
-/
import Derived.Test.YtglpaaehiibfpaaDoorRows
import GoSem.ClaimSeven
namespace Go.Proofs.YtglpaaehiibfpaaDoor
namespace Rows

/-- THE TIED CARD OF 'laws.FnExactExprText'. -/
def fnExactExprTextCard : Claim7 := { stood := { row := fnExactExprTextRow, standIns := [], harness := (true, "e4fa4afc094b3345defce39107520122eb5449c80f210a4944f50f12e9a9eb98"), looks := false }, kinds := [], alts := [], laidByText := true, laidKinds := [.data, .data, .data, .widerDeep, .data], laidTests := true, laidLooks := .later }
def FnExactExprTextCardSaid : Prop := Claim7.holds Tryd.pinned (.plain (OpenSpec.ofChange fnExactExprTextSpec)) fnExactExprTextCard

/-- THE TIED CARD OF 'laws.FnExactStmtText'. -/
def fnExactStmtTextCard : Claim7 := { stood := { row := fnExactStmtTextRow, standIns := [], harness := (true, "e4fa4afc094b3345defce39107520122eb5449c80f210a4944f50f12e9a9eb98"), looks := false }, kinds := [], alts := [], laidByText := true, laidKinds := [.data, .data, .data, .widerDeep, .data], laidTests := true, laidLooks := .later }
def FnExactStmtTextCardSaid : Prop := Claim7.holds Tryd.pinned (.plain (OpenSpec.ofChange fnExactStmtTextSpec)) fnExactStmtTextCard

/-- THE SECOND FORM's CARD OF 'laws.FnExactExprText'. -/
def fnExactExprTextUptoCard : Claim7 := { stood := { row := fnExactExprTextUptoRow, standIns := [], harness := (true, "e4fa4afc094b3345defce39107520122eb5449c80f210a4944f50f12e9a9eb98"), looks := false }, kinds := [], alts := [], laidByText := true, laidKinds := [.data, .data, .data, .widerDeep, .data], laidTests := true, laidLooks := .later }
def FnExactExprTextUptoCardSaid : Prop := Claim7.holds Tryd.pinned (.plain (OpenSpec.upto fnExactExprTextSpec)) fnExactExprTextUptoCard

/-- THE SECOND FORM's CARD OF 'laws.FnExactStmtText'. -/
def fnExactStmtTextUptoCard : Claim7 := { stood := { row := fnExactStmtTextUptoRow, standIns := [], harness := (true, "e4fa4afc094b3345defce39107520122eb5449c80f210a4944f50f12e9a9eb98"), looks := false }, kinds := [], alts := [], laidByText := true, laidKinds := [.data, .data, .data, .widerDeep, .data], laidTests := true, laidLooks := .later }
def FnExactStmtTextUptoCardSaid : Prop := Claim7.holds Tryd.pinned (.plain (OpenSpec.upto fnExactStmtTextSpec)) fnExactStmtTextUptoCard
end Rows
end Go.Proofs.YtglpaaehiibfpaaDoor
