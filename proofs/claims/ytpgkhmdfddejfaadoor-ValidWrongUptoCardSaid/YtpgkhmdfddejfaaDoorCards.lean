/-
  DERIVED. GIVEN WITH THE SEED: THE CARDS: each row of YtpgkhmdfddejfaaDoorRows.lean that lists a variable, with what it lists TIED to the program's text (the seventh form; the later family's looks); each row that meets fmt, with fmt's text TOLD by the authors' own Lean function (tested against real Go, not proved from fmt's source: count such statements apart). THE CARD IS WHAT COUNTS. Prove the row's statement (the work); the ties are given (YtpgkhmdfddejfaaDoorTie.lean); close each card by the builder's one call (the guide's Derived/Test/ToyasCard.lean, 'card_holds'). Laid BY PROGRAM, IN A SANDBOX (cutbox-door.mjs). By AI agents, Wed Nov 11 2026. No macro, syntax, notation, axiom, sorry.
-/
import Derived.Test.YtpgkhmdfddejfaaDoorRows
import GoSem.ClaimSeven
namespace Go.Proofs.YtpgkhmdfddejfaaDoor
namespace Rows

/-- THE TIED CARD OF 'puppeteerlaw16.ValidLists'. -/
def validListsCard : Claim7 := { stood := { row := validListsRow, standIns := [], harness := (true, "50c5c46bdacdea4a05ec264d3e2a019085f8906ce7c4638048e626b89799bc7e"), looks := false }, kinds := [], alts := [], laidByText := true, laidKinds := [.listed, .data], laidTests := true, laidLooks := .later }
def ValidListsCardSaid : Prop := Claim7.holds Tryd.pinned (.plain (OpenSpec.ofChange validListsSpec)) validListsCard

/-- THE TIED CARD OF 'puppeteerlaw16.ValidTrees'. -/
def validTreesCard : Claim7 := { stood := { row := validTreesRow, standIns := [], harness := (true, "50c5c46bdacdea4a05ec264d3e2a019085f8906ce7c4638048e626b89799bc7e"), looks := false }, kinds := [], alts := [], laidByText := true, laidKinds := [.listed, .data], laidTests := true, laidLooks := .later }
def ValidTreesCardSaid : Prop := Claim7.holds Tryd.pinned (.plain (OpenSpec.ofChange validTreesSpec)) validTreesCard

/-- THE TIED CARD OF 'puppeteerlaw16.ValidWrong'. -/
def validWrongCard : Claim7 := { stood := { row := validWrongRow, standIns := [], harness := (true, "50c5c46bdacdea4a05ec264d3e2a019085f8906ce7c4638048e626b89799bc7e"), looks := false }, kinds := [], alts := [], laidByText := true, laidKinds := [.listed, .data], laidTests := true, laidLooks := .later }
def ValidWrongCardSaid : Prop := Claim7.holds Tryd.pinned (.plain (OpenSpec.ofChange validWrongSpec)) validWrongCard

/-- THE TIED CARD OF 'puppeteerlaw16.ValidPrograms'. -/
def validProgramsCard : Claim7 := { stood := { row := validProgramsRow, standIns := [], harness := (true, "50c5c46bdacdea4a05ec264d3e2a019085f8906ce7c4638048e626b89799bc7e"), looks := false }, kinds := [], alts := [], laidByText := true, laidKinds := [.listed, .data], laidTests := true, laidLooks := .later }
def ValidProgramsCardSaid : Prop := Claim7.holds Tryd.pinned (.plain (OpenSpec.ofChange validProgramsSpec)) validProgramsCard

/-- THE SECOND FORM's CARD OF 'puppeteerlaw16.ValidLists'. -/
def validListsUptoCard : Claim7 := { stood := { row := validListsUptoRow, standIns := [], harness := (true, "50c5c46bdacdea4a05ec264d3e2a019085f8906ce7c4638048e626b89799bc7e"), looks := false }, kinds := [], alts := [], laidByText := true, laidKinds := [.listed, .data], laidTests := true, laidLooks := .later }
def ValidListsUptoCardSaid : Prop := Claim7.holds Tryd.pinned (.plain (OpenSpec.upto validListsSpec)) validListsUptoCard

/-- THE SECOND FORM's CARD OF 'puppeteerlaw16.ValidTrees'. -/
def validTreesUptoCard : Claim7 := { stood := { row := validTreesUptoRow, standIns := [], harness := (true, "50c5c46bdacdea4a05ec264d3e2a019085f8906ce7c4638048e626b89799bc7e"), looks := false }, kinds := [], alts := [], laidByText := true, laidKinds := [.listed, .data], laidTests := true, laidLooks := .later }
def ValidTreesUptoCardSaid : Prop := Claim7.holds Tryd.pinned (.plain (OpenSpec.upto validTreesSpec)) validTreesUptoCard

/-- THE SECOND FORM's CARD OF 'puppeteerlaw16.ValidWrong'. -/
def validWrongUptoCard : Claim7 := { stood := { row := validWrongUptoRow, standIns := [], harness := (true, "50c5c46bdacdea4a05ec264d3e2a019085f8906ce7c4638048e626b89799bc7e"), looks := false }, kinds := [], alts := [], laidByText := true, laidKinds := [.listed, .data], laidTests := true, laidLooks := .later }
def ValidWrongUptoCardSaid : Prop := Claim7.holds Tryd.pinned (.plain (OpenSpec.upto validWrongSpec)) validWrongUptoCard

/-- THE SECOND FORM's CARD OF 'puppeteerlaw16.ValidPrograms'. -/
def validProgramsUptoCard : Claim7 := { stood := { row := validProgramsUptoRow, standIns := [], harness := (true, "50c5c46bdacdea4a05ec264d3e2a019085f8906ce7c4638048e626b89799bc7e"), looks := false }, kinds := [], alts := [], laidByText := true, laidKinds := [.listed, .data], laidTests := true, laidLooks := .later }
def ValidProgramsUptoCardSaid : Prop := Claim7.holds Tryd.pinned (.plain (OpenSpec.upto validProgramsSpec)) validProgramsUptoCard
end Rows
end Go.Proofs.YtpgkhmdfddejfaaDoor
