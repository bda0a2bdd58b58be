/-
  DERIVED. GIVEN WITH THE SEED: THE CARDS: each row of YtpdnabhpkdchjaaDoorRows.lean that lists a variable, with what it lists TIED to the program's text (the seventh form; the later family's looks); each row that meets fmt, with fmt's text TOLD by the authors' own Lean function (tested against real Go, not proved from fmt's source: count such statements apart). THE CARD IS WHAT COUNTS. Prove the row's statement (the work); the ties are given (YtpdnabhpkdchjaaDoorTie.lean); close each card by the builder's one call (the guide's Derived/Test/ToyasCard.lean, 'card_holds'). Laid BY PROGRAM, IN A SANDBOX (cutbox-door.mjs). By AI agents, Wed Nov 11 2026. No macro, syntax, notation, axiom, sorry.
-/
import Derived.Test.YtpdnabhpkdchjaaDoorRows
import GoSem.ClaimSeven
namespace Go.Proofs.YtpdnabhpkdchjaaDoor
namespace Rows

/-- THE TIED CARD OF 'laws.FnExactWriteEvents'. -/
def fnExactWriteEventsCard : Claim7 := { stood := { row := fnExactWriteEventsRow, standIns := [], harness := (true, "3535572eedccaf819ec62b2d03865cafaa398ae32f8b1aa05a99bb5a0e86f2eb"), looks := false }, kinds := [], alts := [], laidByText := true, laidKinds := [.data, .data, .data, .data], laidTests := true, laidLooks := .later }
def FnExactWriteEventsCardSaid : Prop := Claim7.holds Tryd.pinned (.plain (OpenSpec.ofChange fnExactWriteEventsSpec)) fnExactWriteEventsCard

/-- THE TIED CARD OF 'laws.FnExactReadEvents'. -/
def fnExactReadEventsCard : Claim7 := { stood := { row := fnExactReadEventsRow, standIns := [], harness := (true, "3535572eedccaf819ec62b2d03865cafaa398ae32f8b1aa05a99bb5a0e86f2eb"), looks := false }, kinds := [], alts := [], laidByText := true, laidKinds := [.data, .data, .data, .data], laidTests := true, laidLooks := .later }
def FnExactReadEventsCardSaid : Prop := Claim7.holds Tryd.pinned (.plain (OpenSpec.ofChange fnExactReadEventsSpec)) fnExactReadEventsCard

/-- THE TIED CARD OF 'laws.FnExactAnswer'. -/
def fnExactAnswerCard : Claim7 := { stood := { row := fnExactAnswerRow, standIns := [], harness := (true, "3535572eedccaf819ec62b2d03865cafaa398ae32f8b1aa05a99bb5a0e86f2eb"), looks := false }, kinds := [], alts := [], laidByText := true, laidKinds := [.data, .data, .data, .data], laidTests := true, laidLooks := .later }
def FnExactAnswerCardSaid : Prop := Claim7.holds Tryd.pinned (.plain (OpenSpec.ofChange fnExactAnswerSpec)) fnExactAnswerCard

/-- THE TIED CARD OF 'laws.FnText'. -/
def fnTextCard : Claim7 := { stood := { row := fnTextRow, standIns := [], harness := (true, "3535572eedccaf819ec62b2d03865cafaa398ae32f8b1aa05a99bb5a0e86f2eb"), looks := false }, kinds := [], alts := [], laidByText := true, laidKinds := [.data, .data, .data, .data], laidTests := true, laidLooks := .later }
def FnTextCardSaid : Prop := Claim7.holds Tryd.pinned (.plain (OpenSpec.ofChange fnTextSpec)) fnTextCard

/-- THE SECOND FORM's CARD OF 'laws.FnExactWriteEvents'. -/
def fnExactWriteEventsUptoCard : Claim7 := { stood := { row := fnExactWriteEventsUptoRow, standIns := [], harness := (true, "3535572eedccaf819ec62b2d03865cafaa398ae32f8b1aa05a99bb5a0e86f2eb"), looks := false }, kinds := [], alts := [], laidByText := true, laidKinds := [.data, .data, .data, .data], laidTests := true, laidLooks := .later }
def FnExactWriteEventsUptoCardSaid : Prop := Claim7.holds Tryd.pinned (.plain (OpenSpec.upto fnExactWriteEventsSpec)) fnExactWriteEventsUptoCard

/-- THE SECOND FORM's CARD OF 'laws.FnExactReadEvents'. -/
def fnExactReadEventsUptoCard : Claim7 := { stood := { row := fnExactReadEventsUptoRow, standIns := [], harness := (true, "3535572eedccaf819ec62b2d03865cafaa398ae32f8b1aa05a99bb5a0e86f2eb"), looks := false }, kinds := [], alts := [], laidByText := true, laidKinds := [.data, .data, .data, .data], laidTests := true, laidLooks := .later }
def FnExactReadEventsUptoCardSaid : Prop := Claim7.holds Tryd.pinned (.plain (OpenSpec.upto fnExactReadEventsSpec)) fnExactReadEventsUptoCard

/-- THE SECOND FORM's CARD OF 'laws.FnExactAnswer'. -/
def fnExactAnswerUptoCard : Claim7 := { stood := { row := fnExactAnswerUptoRow, standIns := [], harness := (true, "3535572eedccaf819ec62b2d03865cafaa398ae32f8b1aa05a99bb5a0e86f2eb"), looks := false }, kinds := [], alts := [], laidByText := true, laidKinds := [.data, .data, .data, .data], laidTests := true, laidLooks := .later }
def FnExactAnswerUptoCardSaid : Prop := Claim7.holds Tryd.pinned (.plain (OpenSpec.upto fnExactAnswerSpec)) fnExactAnswerUptoCard

/-- THE SECOND FORM's CARD OF 'laws.FnText'. -/
def fnTextUptoCard : Claim7 := { stood := { row := fnTextUptoRow, standIns := [], harness := (true, "3535572eedccaf819ec62b2d03865cafaa398ae32f8b1aa05a99bb5a0e86f2eb"), looks := false }, kinds := [], alts := [], laidByText := true, laidKinds := [.data, .data, .data, .data], laidTests := true, laidLooks := .later }
def FnTextUptoCardSaid : Prop := Claim7.holds Tryd.pinned (.plain (OpenSpec.upto fnTextSpec)) fnTextUptoCard
end Rows
end Go.Proofs.YtpdnabhpkdchjaaDoor
