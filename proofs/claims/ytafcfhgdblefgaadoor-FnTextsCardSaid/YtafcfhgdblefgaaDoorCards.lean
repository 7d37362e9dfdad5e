/-
  DERIVED. GIVEN WITH THE SEED: THE CARDS: each row of YtafcfhgdblefgaaDoorRows.lean that lists a variable, with what it lists TIED to the program's text (the seventh form; the later family's looks); each row that meets fmt, with fmt's text TOLD by the authors' own Lean function (tested against real Go, not proved from fmt's source: count such statements apart). THE CARD IS WHAT COUNTS. Prove the row's statement (the work); the ties are given (YtafcfhgdblefgaaDoorTie.lean); close each card by the builder's one call (the guide's Derived/Test/ToyasCard.lean, 'card_holds'). Laid BY PROGRAM, IN A SANDBOX (cutbox-door.mjs). By AI agents, Wed Nov 11 2026. No macro, syntax, notation, axiom, sorry.
-/
import Derived.Test.YtafcfhgdblefgaaDoorRows
import GoSem.ClaimSeven
namespace Go.Proofs.YtafcfhgdblefgaaDoor
namespace Rows

/-- THE TIED CARD OF 'laws.FnExactOpOf'. -/
def fnExactOpOfCard : Claim7 := { stood := { row := fnExactOpOfRow, standIns := [], harness := (true, "89edd98da3c06b142424ac1fc94cc16a8e13cd083e4112fb6853e20324f24864"), looks := false }, kinds := [], alts := [], laidByText := true, laidKinds := [.data, .pinned], laidTests := true, laidLooks := .later }
def FnExactOpOfCardSaid : Prop := Claim7.holds Tryd.pinned (.plain (OpenSpec.ofChange fnExactOpOfSpec)) fnExactOpOfCard

/-- THE TIED CARD OF 'laws.FnExactProgOf'. -/
def fnExactProgOfCard : Claim7 := { stood := { row := fnExactProgOfRow, standIns := [], harness := (true, "89edd98da3c06b142424ac1fc94cc16a8e13cd083e4112fb6853e20324f24864"), looks := false }, kinds := [], alts := [], laidByText := true, laidKinds := [.data, .pinned], laidTests := true, laidLooks := .later }
def FnExactProgOfCardSaid : Prop := Claim7.holds Tryd.pinned (.plain (OpenSpec.ofChange fnExactProgOfSpec)) fnExactProgOfCard

/-- THE TIED CARD OF 'laws.FnTexts'. -/
def fnTextsCard : Claim7 := { stood := { row := fnTextsRow, standIns := [], harness := (true, "89edd98da3c06b142424ac1fc94cc16a8e13cd083e4112fb6853e20324f24864"), looks := false }, kinds := [], alts := [], laidByText := true, laidKinds := [.data, .pinned], laidTests := true, laidLooks := .later }
def FnTextsCardSaid : Prop := Claim7.holds Tryd.pinned (.plain (OpenSpec.ofChange fnTextsSpec)) fnTextsCard

/-- THE SECOND FORM's CARD OF 'laws.FnExactOpOf'. -/
def fnExactOpOfUptoCard : Claim7 := { stood := { row := fnExactOpOfUptoRow, standIns := [], harness := (true, "89edd98da3c06b142424ac1fc94cc16a8e13cd083e4112fb6853e20324f24864"), looks := false }, kinds := [], alts := [], laidByText := true, laidKinds := [.data, .pinned], laidTests := true, laidLooks := .later }
def FnExactOpOfUptoCardSaid : Prop := Claim7.holds Tryd.pinned (.plain (OpenSpec.upto fnExactOpOfSpec)) fnExactOpOfUptoCard

/-- THE SECOND FORM's CARD OF 'laws.FnExactProgOf'. -/
def fnExactProgOfUptoCard : Claim7 := { stood := { row := fnExactProgOfUptoRow, standIns := [], harness := (true, "89edd98da3c06b142424ac1fc94cc16a8e13cd083e4112fb6853e20324f24864"), looks := false }, kinds := [], alts := [], laidByText := true, laidKinds := [.data, .pinned], laidTests := true, laidLooks := .later }
def FnExactProgOfUptoCardSaid : Prop := Claim7.holds Tryd.pinned (.plain (OpenSpec.upto fnExactProgOfSpec)) fnExactProgOfUptoCard

/-- THE SECOND FORM's CARD OF 'laws.FnTexts'. -/
def fnTextsUptoCard : Claim7 := { stood := { row := fnTextsUptoRow, standIns := [], harness := (true, "89edd98da3c06b142424ac1fc94cc16a8e13cd083e4112fb6853e20324f24864"), looks := false }, kinds := [], alts := [], laidByText := true, laidKinds := [.data, .pinned], laidTests := true, laidLooks := .later }
def FnTextsUptoCardSaid : Prop := Claim7.holds Tryd.pinned (.plain (OpenSpec.upto fnTextsSpec)) fnTextsUptoCard
end Rows
end Go.Proofs.YtafcfhgdblefgaaDoor
