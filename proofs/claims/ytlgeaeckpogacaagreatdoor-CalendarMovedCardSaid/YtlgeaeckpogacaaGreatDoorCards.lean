/-
  DERIVED. GIVEN WITH THE SEED: THE CARDS: each row of YtlgeaeckpogacaaGreatDoorRows.lean that lists a variable, with what it lists TIED to the program's text (the seventh form; the later family's looks); each row that meets fmt, with fmt's text TOLD by the authors' own Lean function (tested against real Go, not proved from fmt's source: count such statements apart). THE CARD IS WHAT COUNTS. Prove the row's statement (the work); the ties are given (YtlgeaeckpogacaaGreatDoorTie.lean); close each card by the builder's one call (the guide's Derived/Test/ToyasCard.lean, 'card_holds'). Laid BY PROGRAM, IN A SANDBOX (cutbox-door.mjs). By AI agents, Wed Nov 11 2026. No macro, syntax, notation, axiom, sorry.
-/
import Derived.Test.YtlgeaeckpogacaaGreatDoorRows
import GoSem.ClaimSeven
namespace Go.Proofs.YtlgeaeckpogacaaGreatDoor
namespace Rows

/-- THE TIED CARD OF 'fastilaw35.CalendarSpec'. -/
def calendarSpecCard : Claim7 := { stood := { row := calendarSpecRow, standIns := [], harness := (true, "7efef3a7cfa1caf48847c5138001fd99dd596b5057b13c89155fbcd67e009163"), looks := true }, kinds := [], alts := [], laidByText := true, laidKinds := [.widerDeep, .data, .data], laidTests := true, laidLooks := .later }
def CalendarSpecCardSaid : Prop := Claim7.holds Tryz.pinned (.plain (OpenSpec.ofChange calendarSpecSpec)) calendarSpecCard

/-- THE TIED CARD OF 'fastilaw35.CalendarMovedSpec'. -/
def calendarMovedSpecCard : Claim7 := { stood := { row := calendarMovedSpecRow, standIns := [], harness := (true, "7efef3a7cfa1caf48847c5138001fd99dd596b5057b13c89155fbcd67e009163"), looks := true }, kinds := [], alts := [], laidByText := true, laidKinds := [.widerDeep, .data, .data], laidTests := true, laidLooks := .later }
def CalendarMovedSpecCardSaid : Prop := Claim7.holds Tryz.pinned (.plain (OpenSpec.ofChange calendarMovedSpecSpec)) calendarMovedSpecCard

/-- THE TIED CARD OF 'fastilaw35.CalendarDays'. -/
def calendarDaysCard : Claim7 := { stood := { row := calendarDaysRow, standIns := [], harness := (true, "7efef3a7cfa1caf48847c5138001fd99dd596b5057b13c89155fbcd67e009163"), looks := true }, kinds := [], alts := [], laidByText := true, laidKinds := [.widerDeep, .data, .data], laidTests := true, laidLooks := .later }
def CalendarDaysCardSaid : Prop := Claim7.holds Tryz.pinned (.plain (OpenSpec.ofChange calendarDaysSpec)) calendarDaysCard

/-- THE TIED CARD OF 'fastilaw35.CalendarLess'. -/
def calendarLessCard : Claim7 := { stood := { row := calendarLessRow, standIns := [], harness := (true, "7efef3a7cfa1caf48847c5138001fd99dd596b5057b13c89155fbcd67e009163"), looks := true }, kinds := [], alts := [], laidByText := true, laidKinds := [.widerDeep, .data, .data], laidTests := true, laidLooks := .later }
def CalendarLessCardSaid : Prop := Claim7.holds Tryz.pinned (.plain (OpenSpec.ofChange calendarLessSpec)) calendarLessCard

/-- THE TIED CARD OF 'fastilaw35.CalendarConditions'. -/
def calendarConditionsCard : Claim7 := { stood := { row := calendarConditionsRow, standIns := [], harness := (true, "7efef3a7cfa1caf48847c5138001fd99dd596b5057b13c89155fbcd67e009163"), looks := true }, kinds := [], alts := [], laidByText := true, laidKinds := [.widerDeep, .data, .data], laidTests := true, laidLooks := .later }
def CalendarConditionsCardSaid : Prop := Claim7.holds Tryz.pinned (.plain (OpenSpec.ofChange calendarConditionsSpec)) calendarConditionsCard

/-- THE TIED CARD OF 'fastilaw35.CalendarMoved'. -/
def calendarMovedCard : Claim7 := { stood := { row := calendarMovedRow, standIns := [], harness := (true, "7efef3a7cfa1caf48847c5138001fd99dd596b5057b13c89155fbcd67e009163"), looks := true }, kinds := [], alts := [], laidByText := true, laidKinds := [.widerDeep, .data, .data], laidTests := true, laidLooks := .later }
def CalendarMovedCardSaid : Prop := Claim7.holds Tryz.pinned (.plain (OpenSpec.ofChange calendarMovedSpec)) calendarMovedCard

/-- THE TIED CARD OF 'fastilaw35.CalendarDigest'. -/
def calendarDigestCard : Claim7 := { stood := { row := calendarDigestRow, standIns := [], harness := (true, "7efef3a7cfa1caf48847c5138001fd99dd596b5057b13c89155fbcd67e009163"), looks := true }, kinds := [], alts := [], laidByText := true, laidKinds := [.widerDeep, .data, .data], laidTests := true, laidLooks := .later }
def CalendarDigestCardSaid : Prop := Claim7.holds Tryz.pinned (.plain (OpenSpec.ofChange calendarDigestSpec)) calendarDigestCard

/-- THE SECOND FORM's CARD OF 'fastilaw35.CalendarSpec'. -/
def calendarSpecUptoCard : Claim7 := { stood := { row := calendarSpecUptoRow, standIns := [], harness := (true, "7efef3a7cfa1caf48847c5138001fd99dd596b5057b13c89155fbcd67e009163"), looks := true }, kinds := [], alts := [], laidByText := true, laidKinds := [.widerDeep, .data, .data], laidTests := true, laidLooks := .later }
def CalendarSpecUptoCardSaid : Prop := Claim7.holds Tryz.pinned (.plain (OpenSpec.upto calendarSpecSpec)) calendarSpecUptoCard

/-- THE SECOND FORM's CARD OF 'fastilaw35.CalendarMovedSpec'. -/
def calendarMovedSpecUptoCard : Claim7 := { stood := { row := calendarMovedSpecUptoRow, standIns := [], harness := (true, "7efef3a7cfa1caf48847c5138001fd99dd596b5057b13c89155fbcd67e009163"), looks := true }, kinds := [], alts := [], laidByText := true, laidKinds := [.widerDeep, .data, .data], laidTests := true, laidLooks := .later }
def CalendarMovedSpecUptoCardSaid : Prop := Claim7.holds Tryz.pinned (.plain (OpenSpec.upto calendarMovedSpecSpec)) calendarMovedSpecUptoCard

/-- THE SECOND FORM's CARD OF 'fastilaw35.CalendarDays'. -/
def calendarDaysUptoCard : Claim7 := { stood := { row := calendarDaysUptoRow, standIns := [], harness := (true, "7efef3a7cfa1caf48847c5138001fd99dd596b5057b13c89155fbcd67e009163"), looks := true }, kinds := [], alts := [], laidByText := true, laidKinds := [.widerDeep, .data, .data], laidTests := true, laidLooks := .later }
def CalendarDaysUptoCardSaid : Prop := Claim7.holds Tryz.pinned (.plain (OpenSpec.upto calendarDaysSpec)) calendarDaysUptoCard

/-- THE SECOND FORM's CARD OF 'fastilaw35.CalendarLess'. -/
def calendarLessUptoCard : Claim7 := { stood := { row := calendarLessUptoRow, standIns := [], harness := (true, "7efef3a7cfa1caf48847c5138001fd99dd596b5057b13c89155fbcd67e009163"), looks := true }, kinds := [], alts := [], laidByText := true, laidKinds := [.widerDeep, .data, .data], laidTests := true, laidLooks := .later }
def CalendarLessUptoCardSaid : Prop := Claim7.holds Tryz.pinned (.plain (OpenSpec.upto calendarLessSpec)) calendarLessUptoCard

/-- THE SECOND FORM's CARD OF 'fastilaw35.CalendarConditions'. -/
def calendarConditionsUptoCard : Claim7 := { stood := { row := calendarConditionsUptoRow, standIns := [], harness := (true, "7efef3a7cfa1caf48847c5138001fd99dd596b5057b13c89155fbcd67e009163"), looks := true }, kinds := [], alts := [], laidByText := true, laidKinds := [.widerDeep, .data, .data], laidTests := true, laidLooks := .later }
def CalendarConditionsUptoCardSaid : Prop := Claim7.holds Tryz.pinned (.plain (OpenSpec.upto calendarConditionsSpec)) calendarConditionsUptoCard

/-- THE SECOND FORM's CARD OF 'fastilaw35.CalendarMoved'. -/
def calendarMovedUptoCard : Claim7 := { stood := { row := calendarMovedUptoRow, standIns := [], harness := (true, "7efef3a7cfa1caf48847c5138001fd99dd596b5057b13c89155fbcd67e009163"), looks := true }, kinds := [], alts := [], laidByText := true, laidKinds := [.widerDeep, .data, .data], laidTests := true, laidLooks := .later }
def CalendarMovedUptoCardSaid : Prop := Claim7.holds Tryz.pinned (.plain (OpenSpec.upto calendarMovedSpec)) calendarMovedUptoCard

/-- THE SECOND FORM's CARD OF 'fastilaw35.CalendarDigest'. -/
def calendarDigestUptoCard : Claim7 := { stood := { row := calendarDigestUptoRow, standIns := [], harness := (true, "7efef3a7cfa1caf48847c5138001fd99dd596b5057b13c89155fbcd67e009163"), looks := true }, kinds := [], alts := [], laidByText := true, laidKinds := [.widerDeep, .data, .data], laidTests := true, laidLooks := .later }
def CalendarDigestUptoCardSaid : Prop := Claim7.holds Tryz.pinned (.plain (OpenSpec.upto calendarDigestSpec)) calendarDigestUptoCard
end Rows
end Go.Proofs.YtlgeaeckpogacaaGreatDoor
