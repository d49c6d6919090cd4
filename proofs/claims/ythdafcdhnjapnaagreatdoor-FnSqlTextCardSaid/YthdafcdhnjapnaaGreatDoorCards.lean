/-
  DERIVED. GIVEN WITH THE SEED: THE CARDS: each row of YthdafcdhnjapnaaGreatDoorRows.lean that lists a variable, with what it lists TIED to the program's text (the seventh form; the later family's looks); each row that meets fmt, with fmt's text TOLD by the authors' own Lean function (tested against real Go, not proved from fmt's source: count such statements apart). THE CARD IS WHAT COUNTS. Prove the row's statement (the work); the ties are given (YthdafcdhnjapnaaGreatDoorTie.lean); close each card by the builder's one call (the guide's Derived/Test/ToyasCard.lean, 'card_holds'). Laid BY PROGRAM, IN A SANDBOX (cutbox-door.mjs). By AI agents, Wed Nov 11 2026. No macro, syntax, notation, axiom, sorry.
-/
import Derived.Test.YthdafcdhnjapnaaGreatDoorRows
import GoSem.ClaimSeven
namespace Go.Proofs.YthdafcdhnjapnaaGreatDoor
namespace Rows

/-- THE TIED CARD OF 'laws.FnExprText'. -/
def fnExprTextCard : Claim7 := { stood := { row := fnExprTextRow, standIns := [], harness := (true, "33a9c400c407d053510ffcfdd792fc464fdc9e8eadb439c768c451c8cc76d6ba"), looks := true }, kinds := [], alts := [], laidByText := true, laidKinds := [.data, .data, .data, .sentinel, .sentinel, .widerDeep, .data], laidTests := true, laidLooks := .later }
def FnExprTextCardSaid : Prop := Claim7.holds Tryz.pinned (.plain (OpenSpec.ofChange fnExprTextSpec)) fnExprTextCard

/-- THE TIED CARD OF 'laws.FnBinds'. -/
def fnBindsCard : Claim7 := { stood := { row := fnBindsRow, standIns := [], harness := (true, "33a9c400c407d053510ffcfdd792fc464fdc9e8eadb439c768c451c8cc76d6ba"), looks := true }, kinds := [], alts := [], laidByText := true, laidKinds := [.data, .data, .data, .sentinel, .sentinel, .widerDeep, .data], laidTests := true, laidLooks := .later }
def FnBindsCardSaid : Prop := Claim7.holds Tryz.pinned (.plain (OpenSpec.ofChange fnBindsSpec)) fnBindsCard

/-- THE TIED CARD OF 'laws.FnSqlText'. -/
def fnSqlTextCard : Claim7 := { stood := { row := fnSqlTextRow, standIns := [], harness := (true, "33a9c400c407d053510ffcfdd792fc464fdc9e8eadb439c768c451c8cc76d6ba"), looks := true }, kinds := [], alts := [], laidByText := true, laidKinds := [.data, .data, .data, .sentinel, .sentinel, .widerDeep, .data], laidTests := true, laidLooks := .later }
def FnSqlTextCardSaid : Prop := Claim7.holds Tryz.pinned (.plain (OpenSpec.ofChange fnSqlTextSpec)) fnSqlTextCard

/-- THE SECOND FORM's CARD OF 'laws.FnExprText'. -/
def fnExprTextUptoCard : Claim7 := { stood := { row := fnExprTextUptoRow, standIns := [], harness := (true, "33a9c400c407d053510ffcfdd792fc464fdc9e8eadb439c768c451c8cc76d6ba"), looks := true }, kinds := [], alts := [], laidByText := true, laidKinds := [.data, .data, .data, .sentinel, .sentinel, .widerDeep, .data], laidTests := true, laidLooks := .later }
def FnExprTextUptoCardSaid : Prop := Claim7.holds Tryz.pinned (.plain (OpenSpec.upto fnExprTextSpec)) fnExprTextUptoCard

/-- THE SECOND FORM's CARD OF 'laws.FnBinds'. -/
def fnBindsUptoCard : Claim7 := { stood := { row := fnBindsUptoRow, standIns := [], harness := (true, "33a9c400c407d053510ffcfdd792fc464fdc9e8eadb439c768c451c8cc76d6ba"), looks := true }, kinds := [], alts := [], laidByText := true, laidKinds := [.data, .data, .data, .sentinel, .sentinel, .widerDeep, .data], laidTests := true, laidLooks := .later }
def FnBindsUptoCardSaid : Prop := Claim7.holds Tryz.pinned (.plain (OpenSpec.upto fnBindsSpec)) fnBindsUptoCard

/-- THE SECOND FORM's CARD OF 'laws.FnSqlText'. -/
def fnSqlTextUptoCard : Claim7 := { stood := { row := fnSqlTextUptoRow, standIns := [], harness := (true, "33a9c400c407d053510ffcfdd792fc464fdc9e8eadb439c768c451c8cc76d6ba"), looks := true }, kinds := [], alts := [], laidByText := true, laidKinds := [.data, .data, .data, .sentinel, .sentinel, .widerDeep, .data], laidTests := true, laidLooks := .later }
def FnSqlTextUptoCardSaid : Prop := Claim7.holds Tryz.pinned (.plain (OpenSpec.upto fnSqlTextSpec)) fnSqlTextUptoCard
end Rows
end Go.Proofs.YthdafcdhnjapnaaGreatDoor
