/-
  DERIVED. GIVEN WITH THE SEED: THE CARDS: each row of YtbcbkjpfjifihaaGreatDoorRows.lean that lists a variable, with what it lists TIED to the program's text (the seventh form; the later family's looks); each row that meets fmt, with fmt's text TOLD by the authors' own Lean function (tested against real Go, not proved from fmt's source: count such statements apart). THE CARD IS WHAT COUNTS. Prove the row's statement (the work); the ties are given (YtbcbkjpfjifihaaGreatDoorTie.lean); close each card by the builder's one call (the guide's Derived/Test/ToyasCard.lean, 'card_holds'). Laid BY PROGRAM, IN A SANDBOX (cutbox-door.mjs). By AI agents, Wed Nov 11 2026. No macro, syntax, notation, axiom, sorry.
-/
import Derived.Test.YtbcbkjpfjifihaaGreatDoorRows
import GoSem.ClaimSeven
namespace Go.Proofs.YtbcbkjpfjifihaaGreatDoor
namespace Rows

/-- THE TIED CARD OF 'stolelaw10.Jsons'. -/
def jsonsCard : Claim7 := { stood := { row := jsonsRow, standIns := [], harness := (true, "b6616eec22fea24a66f97d3951ad76587004edcc22fedc00bc34c092df36db72"), looks := true }, kinds := [], alts := [], laidByText := true, laidKinds := [.data, .data, .data, .data, .pinned], laidTests := true, laidLooks := .later }
def JsonsCardSaid : Prop := Claim7.holds Tryz.pinned (.plain (OpenSpec.ofChange jsonsSpec)) jsonsCard

/-- THE TIED CARD OF 'stolelaw10.JsonBack'. -/
def jsonBackCard : Claim7 := { stood := { row := jsonBackRow, standIns := [], harness := (true, "b6616eec22fea24a66f97d3951ad76587004edcc22fedc00bc34c092df36db72"), looks := true }, kinds := [], alts := [], laidByText := true, laidKinds := [.data, .data, .data, .data, .pinned], laidTests := true, laidLooks := .later }
def JsonBackCardSaid : Prop := Claim7.holds Tryz.pinned (.plain (OpenSpec.ofChange jsonBackSpec)) jsonBackCard

/-- THE TIED CARD OF 'stolelaw10.JsonForms'. -/
def jsonFormsCard : Claim7 := { stood := { row := jsonFormsRow, standIns := [], harness := (true, "b6616eec22fea24a66f97d3951ad76587004edcc22fedc00bc34c092df36db72"), looks := true }, kinds := [], alts := [], laidByText := true, laidKinds := [.data, .data, .data, .data, .pinned], laidTests := true, laidLooks := .later }
def JsonFormsCardSaid : Prop := Claim7.holds Tryz.pinned (.plain (OpenSpec.ofChange jsonFormsSpec)) jsonFormsCard

/-- THE TIED CARD OF 'stolelaw10.JsonNumbers'. -/
def jsonNumbersCard : Claim7 := { stood := { row := jsonNumbersRow, standIns := [], harness := (true, "b6616eec22fea24a66f97d3951ad76587004edcc22fedc00bc34c092df36db72"), looks := true }, kinds := [], alts := [], laidByText := true, laidKinds := [.data, .data, .data, .data, .pinned], laidTests := true, laidLooks := .later }
def JsonNumbersCardSaid : Prop := Claim7.holds Tryz.pinned (.plain (OpenSpec.ofChange jsonNumbersSpec)) jsonNumbersCard

/-- THE TIED CARD OF 'stolelaw10.JsonBlanks'. -/
def jsonBlanksCard : Claim7 := { stood := { row := jsonBlanksRow, standIns := [], harness := (true, "b6616eec22fea24a66f97d3951ad76587004edcc22fedc00bc34c092df36db72"), looks := true }, kinds := [], alts := [], laidByText := true, laidKinds := [.data, .data, .data, .data, .pinned], laidTests := true, laidLooks := .later }
def JsonBlanksCardSaid : Prop := Claim7.holds Tryz.pinned (.plain (OpenSpec.ofChange jsonBlanksSpec)) jsonBlanksCard

/-- THE TIED CARD OF 'stolelaw10.JsonEscapes'. -/
def jsonEscapesCard : Claim7 := { stood := { row := jsonEscapesRow, standIns := [], harness := (true, "b6616eec22fea24a66f97d3951ad76587004edcc22fedc00bc34c092df36db72"), looks := true }, kinds := [], alts := [], laidByText := true, laidKinds := [.data, .data, .data, .data, .pinned], laidTests := true, laidLooks := .later }
def JsonEscapesCardSaid : Prop := Claim7.holds Tryz.pinned (.plain (OpenSpec.ofChange jsonEscapesSpec)) jsonEscapesCard

/-- THE TIED CARD OF 'stolelaw10.JsonAgain'. -/
def jsonAgainCard : Claim7 := { stood := { row := jsonAgainRow, standIns := [], harness := (true, "b6616eec22fea24a66f97d3951ad76587004edcc22fedc00bc34c092df36db72"), looks := true }, kinds := [], alts := [], laidByText := true, laidKinds := [.data, .data, .data, .data, .pinned], laidTests := true, laidLooks := .later }
def JsonAgainCardSaid : Prop := Claim7.holds Tryz.pinned (.plain (OpenSpec.ofChange jsonAgainSpec)) jsonAgainCard

/-- THE SECOND FORM's CARD OF 'stolelaw10.Jsons'. -/
def jsonsUptoCard : Claim7 := { stood := { row := jsonsUptoRow, standIns := [], harness := (true, "b6616eec22fea24a66f97d3951ad76587004edcc22fedc00bc34c092df36db72"), looks := true }, kinds := [], alts := [], laidByText := true, laidKinds := [.data, .data, .data, .data, .pinned], laidTests := true, laidLooks := .later }
def JsonsUptoCardSaid : Prop := Claim7.holds Tryz.pinned (.plain (OpenSpec.upto jsonsSpec)) jsonsUptoCard

/-- THE SECOND FORM's CARD OF 'stolelaw10.JsonBack'. -/
def jsonBackUptoCard : Claim7 := { stood := { row := jsonBackUptoRow, standIns := [], harness := (true, "b6616eec22fea24a66f97d3951ad76587004edcc22fedc00bc34c092df36db72"), looks := true }, kinds := [], alts := [], laidByText := true, laidKinds := [.data, .data, .data, .data, .pinned], laidTests := true, laidLooks := .later }
def JsonBackUptoCardSaid : Prop := Claim7.holds Tryz.pinned (.plain (OpenSpec.upto jsonBackSpec)) jsonBackUptoCard

/-- THE SECOND FORM's CARD OF 'stolelaw10.JsonForms'. -/
def jsonFormsUptoCard : Claim7 := { stood := { row := jsonFormsUptoRow, standIns := [], harness := (true, "b6616eec22fea24a66f97d3951ad76587004edcc22fedc00bc34c092df36db72"), looks := true }, kinds := [], alts := [], laidByText := true, laidKinds := [.data, .data, .data, .data, .pinned], laidTests := true, laidLooks := .later }
def JsonFormsUptoCardSaid : Prop := Claim7.holds Tryz.pinned (.plain (OpenSpec.upto jsonFormsSpec)) jsonFormsUptoCard

/-- THE SECOND FORM's CARD OF 'stolelaw10.JsonNumbers'. -/
def jsonNumbersUptoCard : Claim7 := { stood := { row := jsonNumbersUptoRow, standIns := [], harness := (true, "b6616eec22fea24a66f97d3951ad76587004edcc22fedc00bc34c092df36db72"), looks := true }, kinds := [], alts := [], laidByText := true, laidKinds := [.data, .data, .data, .data, .pinned], laidTests := true, laidLooks := .later }
def JsonNumbersUptoCardSaid : Prop := Claim7.holds Tryz.pinned (.plain (OpenSpec.upto jsonNumbersSpec)) jsonNumbersUptoCard

/-- THE SECOND FORM's CARD OF 'stolelaw10.JsonBlanks'. -/
def jsonBlanksUptoCard : Claim7 := { stood := { row := jsonBlanksUptoRow, standIns := [], harness := (true, "b6616eec22fea24a66f97d3951ad76587004edcc22fedc00bc34c092df36db72"), looks := true }, kinds := [], alts := [], laidByText := true, laidKinds := [.data, .data, .data, .data, .pinned], laidTests := true, laidLooks := .later }
def JsonBlanksUptoCardSaid : Prop := Claim7.holds Tryz.pinned (.plain (OpenSpec.upto jsonBlanksSpec)) jsonBlanksUptoCard

/-- THE SECOND FORM's CARD OF 'stolelaw10.JsonEscapes'. -/
def jsonEscapesUptoCard : Claim7 := { stood := { row := jsonEscapesUptoRow, standIns := [], harness := (true, "b6616eec22fea24a66f97d3951ad76587004edcc22fedc00bc34c092df36db72"), looks := true }, kinds := [], alts := [], laidByText := true, laidKinds := [.data, .data, .data, .data, .pinned], laidTests := true, laidLooks := .later }
def JsonEscapesUptoCardSaid : Prop := Claim7.holds Tryz.pinned (.plain (OpenSpec.upto jsonEscapesSpec)) jsonEscapesUptoCard

/-- THE SECOND FORM's CARD OF 'stolelaw10.JsonAgain'. -/
def jsonAgainUptoCard : Claim7 := { stood := { row := jsonAgainUptoRow, standIns := [], harness := (true, "b6616eec22fea24a66f97d3951ad76587004edcc22fedc00bc34c092df36db72"), looks := true }, kinds := [], alts := [], laidByText := true, laidKinds := [.data, .data, .data, .data, .pinned], laidTests := true, laidLooks := .later }
def JsonAgainUptoCardSaid : Prop := Claim7.holds Tryz.pinned (.plain (OpenSpec.upto jsonAgainSpec)) jsonAgainUptoCard
end Rows
end Go.Proofs.YtbcbkjpfjifihaaGreatDoor
