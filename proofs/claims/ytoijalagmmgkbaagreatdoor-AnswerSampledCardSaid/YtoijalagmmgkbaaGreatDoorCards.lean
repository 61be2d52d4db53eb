/-
  DERIVED. GIVEN WITH THE SEED: THE CARDS: each row of YtoijalagmmgkbaaGreatDoorRows.lean that lists a variable, with what it lists TIED to the program's text (the seventh form; the later family's looks); each row that meets fmt, with fmt's text TOLD by the authors' own Lean function (tested against real Go, not proved from fmt's source: count such statements apart). THE CARD IS WHAT COUNTS. Prove the row's statement (the work); the ties are given (YtoijalagmmgkbaaGreatDoorTie.lean); close each card by the builder's one call (the guide's Derived/Test/ToyasCard.lean, 'card_holds'). Laid BY PROGRAM, IN A SANDBOX (cutbox-door.mjs). By AI agents, Wed Nov 11 2026. No macro, syntax, notation, axiom, sorry.
-/
import Derived.Test.YtoijalagmmgkbaaGreatDoorRows
import GoSem.ClaimSeven
namespace Go.Proofs.YtoijalagmmgkbaaGreatDoor
namespace Rows

/-- THE TIED CARD OF 'latecomerlaw20.AnswerContains'. -/
def answerContainsCard : Claim7 := { stood := { row := answerContainsRow, standIns := [], harness := (true, "eccc0c4c22fb9e3ded2bd59f3801ea4d0ac352cd856f8262ded1f6753cf8c024"), looks := true }, kinds := [], alts := [], laidByText := true, laidKinds := [.data, .data, .data, .data, .sentinel, .sentinel, .data, .data, .funcsDeep, .data, .data, .funcs, .pinned], laidTests := true, laidLooks := .later }
def AnswerContainsCardSaid : Prop := Claim7.holds Tryz.pinned (.plain (OpenSpec.ofChange answerContainsSpec)) answerContainsCard

/-- THE TIED CARD OF 'latecomerlaw20.AnswerExact'. -/
def answerExactCard : Claim7 := { stood := { row := answerExactRow, standIns := [], harness := (true, "eccc0c4c22fb9e3ded2bd59f3801ea4d0ac352cd856f8262ded1f6753cf8c024"), looks := true }, kinds := [], alts := [], laidByText := true, laidKinds := [.data, .data, .data, .data, .sentinel, .sentinel, .data, .data, .funcsDeep, .data, .data, .funcs, .pinned], laidTests := true, laidLooks := .later }
def AnswerExactCardSaid : Prop := Claim7.holds Tryz.pinned (.plain (OpenSpec.ofChange answerExactSpec)) answerExactCard

/-- THE TIED CARD OF 'latecomerlaw20.AnswerSampled'. -/
def answerSampledCard : Claim7 := { stood := { row := answerSampledRow, standIns := [], harness := (true, "eccc0c4c22fb9e3ded2bd59f3801ea4d0ac352cd856f8262ded1f6753cf8c024"), looks := true }, kinds := [], alts := [], laidByText := true, laidKinds := [.data, .data, .data, .data, .sentinel, .sentinel, .data, .data, .funcsDeep, .data, .data, .funcs, .pinned], laidTests := true, laidLooks := .later }
def AnswerSampledCardSaid : Prop := Claim7.holds Tryz.pinned (.plain (OpenSpec.ofChange answerSampledSpec)) answerSampledCard

/-- THE TIED CARD OF 'latecomerlaw20.AnswerSketched'. -/
def answerSketchedCard : Claim7 := { stood := { row := answerSketchedRow, standIns := [], harness := (true, "eccc0c4c22fb9e3ded2bd59f3801ea4d0ac352cd856f8262ded1f6753cf8c024"), looks := true }, kinds := [], alts := [], laidByText := true, laidKinds := [.data, .data, .data, .data, .sentinel, .sentinel, .data, .data, .funcsDeep, .data, .data, .funcs, .pinned], laidTests := true, laidLooks := .later }
def AnswerSketchedCardSaid : Prop := Claim7.holds Tryz.pinned (.plain (OpenSpec.ofChange answerSketchedSpec)) answerSketchedCard

/-- THE TIED CARD OF 'latecomerlaw20.AnswerNarrows'. -/
def answerNarrowsCard : Claim7 := { stood := { row := answerNarrowsRow, standIns := [], harness := (true, "eccc0c4c22fb9e3ded2bd59f3801ea4d0ac352cd856f8262ded1f6753cf8c024"), looks := true }, kinds := [], alts := [], laidByText := true, laidKinds := [.data, .data, .data, .data, .sentinel, .sentinel, .data, .data, .funcsDeep, .data, .data, .funcs, .pinned], laidTests := true, laidLooks := .later }
def AnswerNarrowsCardSaid : Prop := Claim7.holds Tryz.pinned (.plain (OpenSpec.ofChange answerNarrowsSpec)) answerNarrowsCard

/-- THE TIED CARD OF 'latecomerlaw20.AnswerTop'. -/
def answerTopCard : Claim7 := { stood := { row := answerTopRow, standIns := [], harness := (true, "eccc0c4c22fb9e3ded2bd59f3801ea4d0ac352cd856f8262ded1f6753cf8c024"), looks := true }, kinds := [], alts := [], laidByText := true, laidKinds := [.data, .data, .data, .data, .sentinel, .sentinel, .data, .data, .funcsDeep, .data, .data, .funcs, .pinned], laidTests := true, laidLooks := .later }
def AnswerTopCardSaid : Prop := Claim7.holds Tryz.pinned (.plain (OpenSpec.ofChange answerTopSpec)) answerTopCard

/-- THE TIED CARD OF 'latecomerlaw20.AnswerCounts'. -/
def answerCountsCard : Claim7 := { stood := { row := answerCountsRow, standIns := [], harness := (true, "eccc0c4c22fb9e3ded2bd59f3801ea4d0ac352cd856f8262ded1f6753cf8c024"), looks := true }, kinds := [], alts := [], laidByText := true, laidKinds := [.data, .data, .data, .data, .sentinel, .sentinel, .data, .data, .funcsDeep, .data, .data, .funcs, .pinned], laidTests := true, laidLooks := .later }
def AnswerCountsCardSaid : Prop := Claim7.holds Tryz.pinned (.plain (OpenSpec.ofChange answerCountsSpec)) answerCountsCard

/-- THE SECOND FORM's CARD OF 'latecomerlaw20.AnswerContains'. -/
def answerContainsUptoCard : Claim7 := { stood := { row := answerContainsUptoRow, standIns := [], harness := (true, "eccc0c4c22fb9e3ded2bd59f3801ea4d0ac352cd856f8262ded1f6753cf8c024"), looks := true }, kinds := [], alts := [], laidByText := true, laidKinds := [.data, .data, .data, .data, .sentinel, .sentinel, .data, .data, .funcsDeep, .data, .data, .funcs, .pinned], laidTests := true, laidLooks := .later }
def AnswerContainsUptoCardSaid : Prop := Claim7.holds Tryz.pinned (.plain (OpenSpec.upto answerContainsSpec)) answerContainsUptoCard

/-- THE SECOND FORM's CARD OF 'latecomerlaw20.AnswerExact'. -/
def answerExactUptoCard : Claim7 := { stood := { row := answerExactUptoRow, standIns := [], harness := (true, "eccc0c4c22fb9e3ded2bd59f3801ea4d0ac352cd856f8262ded1f6753cf8c024"), looks := true }, kinds := [], alts := [], laidByText := true, laidKinds := [.data, .data, .data, .data, .sentinel, .sentinel, .data, .data, .funcsDeep, .data, .data, .funcs, .pinned], laidTests := true, laidLooks := .later }
def AnswerExactUptoCardSaid : Prop := Claim7.holds Tryz.pinned (.plain (OpenSpec.upto answerExactSpec)) answerExactUptoCard

/-- THE SECOND FORM's CARD OF 'latecomerlaw20.AnswerSampled'. -/
def answerSampledUptoCard : Claim7 := { stood := { row := answerSampledUptoRow, standIns := [], harness := (true, "eccc0c4c22fb9e3ded2bd59f3801ea4d0ac352cd856f8262ded1f6753cf8c024"), looks := true }, kinds := [], alts := [], laidByText := true, laidKinds := [.data, .data, .data, .data, .sentinel, .sentinel, .data, .data, .funcsDeep, .data, .data, .funcs, .pinned], laidTests := true, laidLooks := .later }
def AnswerSampledUptoCardSaid : Prop := Claim7.holds Tryz.pinned (.plain (OpenSpec.upto answerSampledSpec)) answerSampledUptoCard

/-- THE SECOND FORM's CARD OF 'latecomerlaw20.AnswerSketched'. -/
def answerSketchedUptoCard : Claim7 := { stood := { row := answerSketchedUptoRow, standIns := [], harness := (true, "eccc0c4c22fb9e3ded2bd59f3801ea4d0ac352cd856f8262ded1f6753cf8c024"), looks := true }, kinds := [], alts := [], laidByText := true, laidKinds := [.data, .data, .data, .data, .sentinel, .sentinel, .data, .data, .funcsDeep, .data, .data, .funcs, .pinned], laidTests := true, laidLooks := .later }
def AnswerSketchedUptoCardSaid : Prop := Claim7.holds Tryz.pinned (.plain (OpenSpec.upto answerSketchedSpec)) answerSketchedUptoCard

/-- THE SECOND FORM's CARD OF 'latecomerlaw20.AnswerNarrows'. -/
def answerNarrowsUptoCard : Claim7 := { stood := { row := answerNarrowsUptoRow, standIns := [], harness := (true, "eccc0c4c22fb9e3ded2bd59f3801ea4d0ac352cd856f8262ded1f6753cf8c024"), looks := true }, kinds := [], alts := [], laidByText := true, laidKinds := [.data, .data, .data, .data, .sentinel, .sentinel, .data, .data, .funcsDeep, .data, .data, .funcs, .pinned], laidTests := true, laidLooks := .later }
def AnswerNarrowsUptoCardSaid : Prop := Claim7.holds Tryz.pinned (.plain (OpenSpec.upto answerNarrowsSpec)) answerNarrowsUptoCard

/-- THE SECOND FORM's CARD OF 'latecomerlaw20.AnswerTop'. -/
def answerTopUptoCard : Claim7 := { stood := { row := answerTopUptoRow, standIns := [], harness := (true, "eccc0c4c22fb9e3ded2bd59f3801ea4d0ac352cd856f8262ded1f6753cf8c024"), looks := true }, kinds := [], alts := [], laidByText := true, laidKinds := [.data, .data, .data, .data, .sentinel, .sentinel, .data, .data, .funcsDeep, .data, .data, .funcs, .pinned], laidTests := true, laidLooks := .later }
def AnswerTopUptoCardSaid : Prop := Claim7.holds Tryz.pinned (.plain (OpenSpec.upto answerTopSpec)) answerTopUptoCard

/-- THE SECOND FORM's CARD OF 'latecomerlaw20.AnswerCounts'. -/
def answerCountsUptoCard : Claim7 := { stood := { row := answerCountsUptoRow, standIns := [], harness := (true, "eccc0c4c22fb9e3ded2bd59f3801ea4d0ac352cd856f8262ded1f6753cf8c024"), looks := true }, kinds := [], alts := [], laidByText := true, laidKinds := [.data, .data, .data, .data, .sentinel, .sentinel, .data, .data, .funcsDeep, .data, .data, .funcs, .pinned], laidTests := true, laidLooks := .later }
def AnswerCountsUptoCardSaid : Prop := Claim7.holds Tryz.pinned (.plain (OpenSpec.upto answerCountsSpec)) answerCountsUptoCard
end Rows
end Go.Proofs.YtoijalagmmgkbaaGreatDoor
