/-
  DERIVED. GIVEN WITH THE SEED: THE CARDS: each row of YtepeeahckgpapaaDoorRows.lean that lists a variable, with what it lists TIED to the program's text (the seventh form; the later family's looks); each row that meets fmt, with fmt's text TOLD by the authors' own Lean function (tested against real Go, not proved from fmt's source: count such statements apart). THE CARD IS WHAT COUNTS. Prove the row's statement (the work); the ties are given (YtepeeahckgpapaaDoorTie.lean); close each card by the builder's one call (the guide's Derived/Test/ToyasCard.lean, 'card_holds'). Laid BY PROGRAM, IN A SANDBOX (cutbox-door.mjs). By AI agents, Wed Nov 11 2026. No macro, syntax, notation, axiom, sorry.
-/
import Derived.Test.YtepeeahckgpapaaDoorRows
import GoSem.ClaimSeven
namespace Go.Proofs.YtepeeahckgpapaaDoor
namespace Rows

/-- THE TIED CARD OF 'laws.FnExactSkeletonOf'. -/
def fnExactSkeletonOfCard : Claim7 := { stood := { row := fnExactSkeletonOfRow, standIns := [], harness := (true, "fa5d85ca24019f82723b3dd76fe1a9fd28b614c96b504decd3590ac6e4377b94"), looks := false }, kinds := [], alts := [], laidByText := true, laidKinds := [.data, .data, .pinned], laidTests := true, laidLooks := .later }
def FnExactSkeletonOfCardSaid : Prop := Claim7.holds Tryd.pinned (.plain (OpenSpec.ofChange fnExactSkeletonOfSpec)) fnExactSkeletonOfCard

/-- THE TIED CARD OF 'laws.FnExactColumns'. -/
def fnExactColumnsCard : Claim7 := { stood := { row := fnExactColumnsRow, standIns := [], harness := (true, "fa5d85ca24019f82723b3dd76fe1a9fd28b614c96b504decd3590ac6e4377b94"), looks := false }, kinds := [], alts := [], laidByText := true, laidKinds := [.data, .pinned], laidTests := true, laidLooks := .later }
def FnExactColumnsCardSaid : Prop := Claim7.holds Tryd.pinned (.plain (OpenSpec.ofChange fnExactColumnsSpec)) fnExactColumnsCard

/-- THE TIED CARD OF 'laws.FnExactJustified'. -/
def fnExactJustifiedCard : Claim7 := { stood := { row := fnExactJustifiedRow, standIns := [], harness := (true, "fa5d85ca24019f82723b3dd76fe1a9fd28b614c96b504decd3590ac6e4377b94"), looks := false }, kinds := [], alts := [], laidByText := true, laidKinds := [.data, .pinned], laidTests := true, laidLooks := .later }
def FnExactJustifiedCardSaid : Prop := Claim7.holds Tryd.pinned (.plain (OpenSpec.ofChange fnExactJustifiedSpec)) fnExactJustifiedCard

/-- THE TIED CARD OF 'laws.FnJustified'. -/
def fnJustifiedCard : Claim7 := { stood := { row := fnJustifiedRow, standIns := [], harness := (true, "fa5d85ca24019f82723b3dd76fe1a9fd28b614c96b504decd3590ac6e4377b94"), looks := false }, kinds := [], alts := [], laidByText := true, laidKinds := [.data, .pinned], laidTests := true, laidLooks := .later }
def FnJustifiedCardSaid : Prop := Claim7.holds Tryd.pinned (.plain (OpenSpec.ofChange fnJustifiedSpec)) fnJustifiedCard

/-- THE TIED CARD OF 'laws.FnExactPutMark'. -/
def fnExactPutMarkCard : Claim7 := { stood := { row := fnExactPutMarkRow, standIns := [], harness := (true, "fa5d85ca24019f82723b3dd76fe1a9fd28b614c96b504decd3590ac6e4377b94"), looks := false }, kinds := [], alts := [], laidByText := true, laidKinds := [.data, .pinned], laidTests := true, laidLooks := .later }
def FnExactPutMarkCardSaid : Prop := Claim7.holds Tryd.pinned (.plain (OpenSpec.ofChange fnExactPutMarkSpec)) fnExactPutMarkCard

/-- THE TIED CARD OF 'laws.FnMarked'. -/
def fnMarkedCard : Claim7 := { stood := { row := fnMarkedRow, standIns := [], harness := (true, "fa5d85ca24019f82723b3dd76fe1a9fd28b614c96b504decd3590ac6e4377b94"), looks := false }, kinds := [], alts := [], laidByText := true, laidKinds := [.data, .pinned], laidTests := true, laidLooks := .later }
def FnMarkedCardSaid : Prop := Claim7.holds Tryd.pinned (.plain (OpenSpec.ofChange fnMarkedSpec)) fnMarkedCard

/-- THE TIED CARD OF 'laws.FnHyphens'. -/
def fnHyphensCard : Claim7 := { stood := { row := fnHyphensRow, standIns := [], harness := (true, "fa5d85ca24019f82723b3dd76fe1a9fd28b614c96b504decd3590ac6e4377b94"), looks := false }, kinds := [], alts := [], laidByText := true, laidKinds := [.data, .pinned], laidTests := true, laidLooks := .later }
def FnHyphensCardSaid : Prop := Claim7.holds Tryd.pinned (.plain (OpenSpec.ofChange fnHyphensSpec)) fnHyphensCard

/-- THE SECOND FORM's CARD OF 'laws.FnExactSkeletonOf'. -/
def fnExactSkeletonOfUptoCard : Claim7 := { stood := { row := fnExactSkeletonOfUptoRow, standIns := [], harness := (true, "fa5d85ca24019f82723b3dd76fe1a9fd28b614c96b504decd3590ac6e4377b94"), looks := false }, kinds := [], alts := [], laidByText := true, laidKinds := [.data, .data, .pinned], laidTests := true, laidLooks := .later }
def FnExactSkeletonOfUptoCardSaid : Prop := Claim7.holds Tryd.pinned (.plain (OpenSpec.upto fnExactSkeletonOfSpec)) fnExactSkeletonOfUptoCard

/-- THE SECOND FORM's CARD OF 'laws.FnExactColumns'. -/
def fnExactColumnsUptoCard : Claim7 := { stood := { row := fnExactColumnsUptoRow, standIns := [], harness := (true, "fa5d85ca24019f82723b3dd76fe1a9fd28b614c96b504decd3590ac6e4377b94"), looks := false }, kinds := [], alts := [], laidByText := true, laidKinds := [.data, .pinned], laidTests := true, laidLooks := .later }
def FnExactColumnsUptoCardSaid : Prop := Claim7.holds Tryd.pinned (.plain (OpenSpec.upto fnExactColumnsSpec)) fnExactColumnsUptoCard

/-- THE SECOND FORM's CARD OF 'laws.FnExactJustified'. -/
def fnExactJustifiedUptoCard : Claim7 := { stood := { row := fnExactJustifiedUptoRow, standIns := [], harness := (true, "fa5d85ca24019f82723b3dd76fe1a9fd28b614c96b504decd3590ac6e4377b94"), looks := false }, kinds := [], alts := [], laidByText := true, laidKinds := [.data, .pinned], laidTests := true, laidLooks := .later }
def FnExactJustifiedUptoCardSaid : Prop := Claim7.holds Tryd.pinned (.plain (OpenSpec.upto fnExactJustifiedSpec)) fnExactJustifiedUptoCard

/-- THE SECOND FORM's CARD OF 'laws.FnJustified'. -/
def fnJustifiedUptoCard : Claim7 := { stood := { row := fnJustifiedUptoRow, standIns := [], harness := (true, "fa5d85ca24019f82723b3dd76fe1a9fd28b614c96b504decd3590ac6e4377b94"), looks := false }, kinds := [], alts := [], laidByText := true, laidKinds := [.data, .pinned], laidTests := true, laidLooks := .later }
def FnJustifiedUptoCardSaid : Prop := Claim7.holds Tryd.pinned (.plain (OpenSpec.upto fnJustifiedSpec)) fnJustifiedUptoCard

/-- THE SECOND FORM's CARD OF 'laws.FnExactPutMark'. -/
def fnExactPutMarkUptoCard : Claim7 := { stood := { row := fnExactPutMarkUptoRow, standIns := [], harness := (true, "fa5d85ca24019f82723b3dd76fe1a9fd28b614c96b504decd3590ac6e4377b94"), looks := false }, kinds := [], alts := [], laidByText := true, laidKinds := [.data, .pinned], laidTests := true, laidLooks := .later }
def FnExactPutMarkUptoCardSaid : Prop := Claim7.holds Tryd.pinned (.plain (OpenSpec.upto fnExactPutMarkSpec)) fnExactPutMarkUptoCard

/-- THE SECOND FORM's CARD OF 'laws.FnMarked'. -/
def fnMarkedUptoCard : Claim7 := { stood := { row := fnMarkedUptoRow, standIns := [], harness := (true, "fa5d85ca24019f82723b3dd76fe1a9fd28b614c96b504decd3590ac6e4377b94"), looks := false }, kinds := [], alts := [], laidByText := true, laidKinds := [.data, .pinned], laidTests := true, laidLooks := .later }
def FnMarkedUptoCardSaid : Prop := Claim7.holds Tryd.pinned (.plain (OpenSpec.upto fnMarkedSpec)) fnMarkedUptoCard

/-- THE SECOND FORM's CARD OF 'laws.FnHyphens'. -/
def fnHyphensUptoCard : Claim7 := { stood := { row := fnHyphensUptoRow, standIns := [], harness := (true, "fa5d85ca24019f82723b3dd76fe1a9fd28b614c96b504decd3590ac6e4377b94"), looks := false }, kinds := [], alts := [], laidByText := true, laidKinds := [.data, .pinned], laidTests := true, laidLooks := .later }
def FnHyphensUptoCardSaid : Prop := Claim7.holds Tryd.pinned (.plain (OpenSpec.upto fnHyphensSpec)) fnHyphensUptoCard
end Rows
end Go.Proofs.YtepeeahckgpapaaDoor
