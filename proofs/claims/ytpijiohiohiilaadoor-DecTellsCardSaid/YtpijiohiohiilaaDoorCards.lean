/-
  DERIVED. GIVEN WITH THE SEED: THE CARDS: each row of YtpijiohiohiilaaDoorRows.lean that lists a variable, with what it lists TIED to the program's text (the seventh form; the later family's looks); each row that meets fmt, with fmt's text TOLD by the authors' own Lean function (tested against real Go, not proved from fmt's source: count such statements apart). THE CARD IS WHAT COUNTS. Prove the row's statement (the work); the ties are given (YtpijiohiohiilaaDoorTie.lean); close each card by the builder's one call (the guide's Derived/Test/ToyasCard.lean, 'card_holds'). Laid BY PROGRAM, IN A SANDBOX (cutbox-door.mjs). By AI agents, Wed Nov 11 2026. No macro, syntax, notation, axiom, sorry.
-/
import Derived.Test.YtpijiohiohiilaaDoorRows
import GoSem.ClaimSeven
namespace Go.Proofs.YtpijiohiohiilaaDoor
namespace Rows

/-- THE TIED CARD OF 'quoinlaw02.InsnAlone'. -/
def insnAloneCard : Claim7 := { stood := { row := insnAloneRow, standIns := [], harness := (true, "12781dc4b1e6cffa12d2f2fb42d155aa3de110fb628ec27ba8a2d2aab9c2da4c"), looks := false }, kinds := [], alts := [], laidByText := true, laidKinds := [.widerDeep], laidTests := true, laidLooks := .later }
def InsnAloneCardSaid : Prop := Claim7.holds Tryd.pinned (.plain (OpenSpec.ofChange insnAloneSpec)) insnAloneCard

/-- THE TIED CARD OF 'quoinlaw02.InsnAll'. -/
def insnAllCard : Claim7 := { stood := { row := insnAllRow, standIns := [], harness := (true, "12781dc4b1e6cffa12d2f2fb42d155aa3de110fb628ec27ba8a2d2aab9c2da4c"), looks := false }, kinds := [], alts := [], laidByText := true, laidKinds := [.widerDeep], laidTests := true, laidLooks := .later }
def InsnAllCardSaid : Prop := Claim7.holds Tryd.pinned (.plain (OpenSpec.ofChange insnAllSpec)) insnAllCard

/-- THE TIED CARD OF 'quoinlaw04.DecBack'. -/
def decBackCard : Claim7 := { stood := { row := decBackRow, standIns := [], harness := (true, "12781dc4b1e6cffa12d2f2fb42d155aa3de110fb628ec27ba8a2d2aab9c2da4c"), looks := false }, kinds := [], alts := [], laidByText := true, laidKinds := [.data], laidTests := true, laidLooks := .later }
def DecBackCardSaid : Prop := Claim7.holds Tryd.pinned (.plain (OpenSpec.ofChange decBackSpec)) decBackCard

/-- THE TIED CARD OF 'quoinlaw04.DecFixed'. -/
def decFixedCard : Claim7 := { stood := { row := decFixedRow, standIns := [], harness := (true, "12781dc4b1e6cffa12d2f2fb42d155aa3de110fb628ec27ba8a2d2aab9c2da4c"), looks := false }, kinds := [], alts := [], laidByText := true, laidKinds := [.data], laidTests := true, laidLooks := .later }
def DecFixedCardSaid : Prop := Claim7.holds Tryd.pinned (.plain (OpenSpec.ofChange decFixedSpec)) decFixedCard

/-- THE TIED CARD OF 'quoinlaw18.LiNames'. -/
def liNamesCard : Claim7 := { stood := { row := liNamesRow, standIns := [], harness := (true, "12781dc4b1e6cffa12d2f2fb42d155aa3de110fb628ec27ba8a2d2aab9c2da4c"), looks := false }, kinds := [], alts := [], laidByText := true, laidKinds := [.widerDeep], laidTests := true, laidLooks := .later }
def LiNamesCardSaid : Prop := Claim7.holds Tryd.pinned (.plain (OpenSpec.ofChange liNamesSpec)) liNamesCard

/-- THE TIED CARD OF 'quoinlaw18.LiMakes'. -/
def liMakesCard : Claim7 := { stood := { row := liMakesRow, standIns := [], harness := (true, "12781dc4b1e6cffa12d2f2fb42d155aa3de110fb628ec27ba8a2d2aab9c2da4c"), looks := false }, kinds := [], alts := [], laidByText := true, laidKinds := [.widerDeep], laidTests := true, laidLooks := .later }
def LiMakesCardSaid : Prop := Claim7.holds Tryd.pinned (.plain (OpenSpec.ofChange liMakesSpec)) liMakesCard

/-- THE TIED CARD OF 'quoinlaw18.LiParts'. -/
def liPartsCard : Claim7 := { stood := { row := liPartsRow, standIns := [], harness := (true, "12781dc4b1e6cffa12d2f2fb42d155aa3de110fb628ec27ba8a2d2aab9c2da4c"), looks := false }, kinds := [], alts := [], laidByText := true, laidKinds := [.widerDeep], laidTests := true, laidLooks := .later }
def LiPartsCardSaid : Prop := Claim7.holds Tryd.pinned (.plain (OpenSpec.ofChange liPartsSpec)) liPartsCard

/-- THE TIED CARD OF 'quoinlaw02.InsnTells'. -/
def insnTellsCard : Claim7 := { stood := { row := insnTellsRow, standIns := [], harness := (true, "12781dc4b1e6cffa12d2f2fb42d155aa3de110fb628ec27ba8a2d2aab9c2da4c"), looks := false }, kinds := [], alts := [], laidByText := true, laidKinds := [.widerDeep], laidTests := true, laidLooks := .later }
def InsnTellsCardSaid : Prop := Claim7.holds Tryd.pinned (.plain (OpenSpec.ofChange insnTellsSpec)) insnTellsCard

/-- THE TIED CARD OF 'quoinlaw02.InsnLess'. -/
def insnLessCard : Claim7 := { stood := { row := insnLessRow, standIns := [], harness := (true, "12781dc4b1e6cffa12d2f2fb42d155aa3de110fb628ec27ba8a2d2aab9c2da4c"), looks := false }, kinds := [], alts := [], laidByText := true, laidKinds := [.widerDeep], laidTests := true, laidLooks := .later }
def InsnLessCardSaid : Prop := Claim7.holds Tryd.pinned (.plain (OpenSpec.ofChange insnLessSpec)) insnLessCard

/-- THE TIED CARD OF 'quoinlaw02.InsnNames'. -/
def insnNamesCard : Claim7 := { stood := { row := insnNamesRow, standIns := [], harness := (true, "12781dc4b1e6cffa12d2f2fb42d155aa3de110fb628ec27ba8a2d2aab9c2da4c"), looks := false }, kinds := [], alts := [], laidByText := true, laidKinds := [.widerDeep], laidTests := true, laidLooks := .later }
def InsnNamesCardSaid : Prop := Claim7.holds Tryd.pinned (.plain (OpenSpec.ofChange insnNamesSpec)) insnNamesCard

/-- THE TIED CARD OF 'quoinlaw18.LiShort'. -/
def liShortCard : Claim7 := { stood := { row := liShortRow, standIns := [], harness := (true, "12781dc4b1e6cffa12d2f2fb42d155aa3de110fb628ec27ba8a2d2aab9c2da4c"), looks := false }, kinds := [], alts := [], laidByText := true, laidKinds := [.widerDeep], laidTests := true, laidLooks := .later }
def LiShortCardSaid : Prop := Claim7.holds Tryd.pinned (.plain (OpenSpec.ofChange liShortSpec)) liShortCard

/-- THE TIED CARD OF 'quoinlaw18.LiHas'. -/
def liHasCard : Claim7 := { stood := { row := liHasRow, standIns := [], harness := (true, "12781dc4b1e6cffa12d2f2fb42d155aa3de110fb628ec27ba8a2d2aab9c2da4c"), looks := false }, kinds := [], alts := [], laidByText := true, laidKinds := [.widerDeep], laidTests := true, laidLooks := .later }
def LiHasCardSaid : Prop := Claim7.holds Tryd.pinned (.plain (OpenSpec.ofChange liHasSpec)) liHasCard

/-- THE TIED CARD OF 'quoinlaw03.EncNames'. -/
def encNamesCard : Claim7 := { stood := { row := encNamesRow, standIns := [], harness := (true, "12781dc4b1e6cffa12d2f2fb42d155aa3de110fb628ec27ba8a2d2aab9c2da4c"), looks := false }, kinds := [], alts := [], laidByText := true, laidKinds := [.data], laidTests := true, laidLooks := .later }
def EncNamesCardSaid : Prop := Claim7.holds Tryd.pinned (.plain (OpenSpec.ofChange encNamesSpec)) encNamesCard

/-- THE TIED CARD OF 'quoinlaw03.EncTells'. -/
def encTellsCard : Claim7 := { stood := { row := encTellsRow, standIns := [], harness := (true, "12781dc4b1e6cffa12d2f2fb42d155aa3de110fb628ec27ba8a2d2aab9c2da4c"), looks := false }, kinds := [], alts := [], laidByText := true, laidKinds := [.data], laidTests := true, laidLooks := .later }
def EncTellsCardSaid : Prop := Claim7.holds Tryd.pinned (.plain (OpenSpec.ofChange encTellsSpec)) encTellsCard

/-- THE TIED CARD OF 'quoinlaw04.DecNames'. -/
def decNamesCard : Claim7 := { stood := { row := decNamesRow, standIns := [], harness := (true, "12781dc4b1e6cffa12d2f2fb42d155aa3de110fb628ec27ba8a2d2aab9c2da4c"), looks := false }, kinds := [], alts := [], laidByText := true, laidKinds := [.data], laidTests := true, laidLooks := .later }
def DecNamesCardSaid : Prop := Claim7.holds Tryd.pinned (.plain (OpenSpec.ofChange decNamesSpec)) decNamesCard

/-- THE TIED CARD OF 'quoinlaw04.DecTells'. -/
def decTellsCard : Claim7 := { stood := { row := decTellsRow, standIns := [], harness := (true, "12781dc4b1e6cffa12d2f2fb42d155aa3de110fb628ec27ba8a2d2aab9c2da4c"), looks := false }, kinds := [], alts := [], laidByText := true, laidKinds := [.data], laidTests := true, laidLooks := .later }
def DecTellsCardSaid : Prop := Claim7.holds Tryd.pinned (.plain (OpenSpec.ofChange decTellsSpec)) decTellsCard

/-- THE TIED CARD OF 'quoinlaw03.EncAlone'. -/
def encAloneCard : Claim7 := { stood := { row := encAloneRow, standIns := [], harness := (true, "12781dc4b1e6cffa12d2f2fb42d155aa3de110fb628ec27ba8a2d2aab9c2da4c"), looks := false }, kinds := [], alts := [], laidByText := true, laidKinds := [.data], laidTests := true, laidLooks := .later }
def EncAloneCardSaid : Prop := Claim7.holds Tryd.pinned (.plain (OpenSpec.ofChange encAloneSpec)) encAloneCard

/-- THE SECOND FORM's CARD OF 'quoinlaw02.InsnAlone'. -/
def insnAloneUptoCard : Claim7 := { stood := { row := insnAloneUptoRow, standIns := [], harness := (true, "12781dc4b1e6cffa12d2f2fb42d155aa3de110fb628ec27ba8a2d2aab9c2da4c"), looks := false }, kinds := [], alts := [], laidByText := true, laidKinds := [.widerDeep], laidTests := true, laidLooks := .later }
def InsnAloneUptoCardSaid : Prop := Claim7.holds Tryd.pinned (.plain (OpenSpec.upto insnAloneSpec)) insnAloneUptoCard

/-- THE SECOND FORM's CARD OF 'quoinlaw02.InsnAll'. -/
def insnAllUptoCard : Claim7 := { stood := { row := insnAllUptoRow, standIns := [], harness := (true, "12781dc4b1e6cffa12d2f2fb42d155aa3de110fb628ec27ba8a2d2aab9c2da4c"), looks := false }, kinds := [], alts := [], laidByText := true, laidKinds := [.widerDeep], laidTests := true, laidLooks := .later }
def InsnAllUptoCardSaid : Prop := Claim7.holds Tryd.pinned (.plain (OpenSpec.upto insnAllSpec)) insnAllUptoCard

/-- THE SECOND FORM's CARD OF 'quoinlaw04.DecBack'. -/
def decBackUptoCard : Claim7 := { stood := { row := decBackUptoRow, standIns := [], harness := (true, "12781dc4b1e6cffa12d2f2fb42d155aa3de110fb628ec27ba8a2d2aab9c2da4c"), looks := false }, kinds := [], alts := [], laidByText := true, laidKinds := [.data], laidTests := true, laidLooks := .later }
def DecBackUptoCardSaid : Prop := Claim7.holds Tryd.pinned (.plain (OpenSpec.upto decBackSpec)) decBackUptoCard

/-- THE SECOND FORM's CARD OF 'quoinlaw04.DecFixed'. -/
def decFixedUptoCard : Claim7 := { stood := { row := decFixedUptoRow, standIns := [], harness := (true, "12781dc4b1e6cffa12d2f2fb42d155aa3de110fb628ec27ba8a2d2aab9c2da4c"), looks := false }, kinds := [], alts := [], laidByText := true, laidKinds := [.data], laidTests := true, laidLooks := .later }
def DecFixedUptoCardSaid : Prop := Claim7.holds Tryd.pinned (.plain (OpenSpec.upto decFixedSpec)) decFixedUptoCard

/-- THE SECOND FORM's CARD OF 'quoinlaw18.LiNames'. -/
def liNamesUptoCard : Claim7 := { stood := { row := liNamesUptoRow, standIns := [], harness := (true, "12781dc4b1e6cffa12d2f2fb42d155aa3de110fb628ec27ba8a2d2aab9c2da4c"), looks := false }, kinds := [], alts := [], laidByText := true, laidKinds := [.widerDeep], laidTests := true, laidLooks := .later }
def LiNamesUptoCardSaid : Prop := Claim7.holds Tryd.pinned (.plain (OpenSpec.upto liNamesSpec)) liNamesUptoCard

/-- THE SECOND FORM's CARD OF 'quoinlaw18.LiMakes'. -/
def liMakesUptoCard : Claim7 := { stood := { row := liMakesUptoRow, standIns := [], harness := (true, "12781dc4b1e6cffa12d2f2fb42d155aa3de110fb628ec27ba8a2d2aab9c2da4c"), looks := false }, kinds := [], alts := [], laidByText := true, laidKinds := [.widerDeep], laidTests := true, laidLooks := .later }
def LiMakesUptoCardSaid : Prop := Claim7.holds Tryd.pinned (.plain (OpenSpec.upto liMakesSpec)) liMakesUptoCard

/-- THE SECOND FORM's CARD OF 'quoinlaw18.LiParts'. -/
def liPartsUptoCard : Claim7 := { stood := { row := liPartsUptoRow, standIns := [], harness := (true, "12781dc4b1e6cffa12d2f2fb42d155aa3de110fb628ec27ba8a2d2aab9c2da4c"), looks := false }, kinds := [], alts := [], laidByText := true, laidKinds := [.widerDeep], laidTests := true, laidLooks := .later }
def LiPartsUptoCardSaid : Prop := Claim7.holds Tryd.pinned (.plain (OpenSpec.upto liPartsSpec)) liPartsUptoCard

/-- THE SECOND FORM's CARD OF 'quoinlaw02.InsnTells'. -/
def insnTellsUptoCard : Claim7 := { stood := { row := insnTellsUptoRow, standIns := [], harness := (true, "12781dc4b1e6cffa12d2f2fb42d155aa3de110fb628ec27ba8a2d2aab9c2da4c"), looks := false }, kinds := [], alts := [], laidByText := true, laidKinds := [.widerDeep], laidTests := true, laidLooks := .later }
def InsnTellsUptoCardSaid : Prop := Claim7.holds Tryd.pinned (.plain (OpenSpec.upto insnTellsSpec)) insnTellsUptoCard

/-- THE SECOND FORM's CARD OF 'quoinlaw02.InsnLess'. -/
def insnLessUptoCard : Claim7 := { stood := { row := insnLessUptoRow, standIns := [], harness := (true, "12781dc4b1e6cffa12d2f2fb42d155aa3de110fb628ec27ba8a2d2aab9c2da4c"), looks := false }, kinds := [], alts := [], laidByText := true, laidKinds := [.widerDeep], laidTests := true, laidLooks := .later }
def InsnLessUptoCardSaid : Prop := Claim7.holds Tryd.pinned (.plain (OpenSpec.upto insnLessSpec)) insnLessUptoCard

/-- THE SECOND FORM's CARD OF 'quoinlaw02.InsnNames'. -/
def insnNamesUptoCard : Claim7 := { stood := { row := insnNamesUptoRow, standIns := [], harness := (true, "12781dc4b1e6cffa12d2f2fb42d155aa3de110fb628ec27ba8a2d2aab9c2da4c"), looks := false }, kinds := [], alts := [], laidByText := true, laidKinds := [.widerDeep], laidTests := true, laidLooks := .later }
def InsnNamesUptoCardSaid : Prop := Claim7.holds Tryd.pinned (.plain (OpenSpec.upto insnNamesSpec)) insnNamesUptoCard

/-- THE SECOND FORM's CARD OF 'quoinlaw18.LiShort'. -/
def liShortUptoCard : Claim7 := { stood := { row := liShortUptoRow, standIns := [], harness := (true, "12781dc4b1e6cffa12d2f2fb42d155aa3de110fb628ec27ba8a2d2aab9c2da4c"), looks := false }, kinds := [], alts := [], laidByText := true, laidKinds := [.widerDeep], laidTests := true, laidLooks := .later }
def LiShortUptoCardSaid : Prop := Claim7.holds Tryd.pinned (.plain (OpenSpec.upto liShortSpec)) liShortUptoCard

/-- THE SECOND FORM's CARD OF 'quoinlaw18.LiHas'. -/
def liHasUptoCard : Claim7 := { stood := { row := liHasUptoRow, standIns := [], harness := (true, "12781dc4b1e6cffa12d2f2fb42d155aa3de110fb628ec27ba8a2d2aab9c2da4c"), looks := false }, kinds := [], alts := [], laidByText := true, laidKinds := [.widerDeep], laidTests := true, laidLooks := .later }
def LiHasUptoCardSaid : Prop := Claim7.holds Tryd.pinned (.plain (OpenSpec.upto liHasSpec)) liHasUptoCard

/-- THE SECOND FORM's CARD OF 'quoinlaw03.EncNames'. -/
def encNamesUptoCard : Claim7 := { stood := { row := encNamesUptoRow, standIns := [], harness := (true, "12781dc4b1e6cffa12d2f2fb42d155aa3de110fb628ec27ba8a2d2aab9c2da4c"), looks := false }, kinds := [], alts := [], laidByText := true, laidKinds := [.data], laidTests := true, laidLooks := .later }
def EncNamesUptoCardSaid : Prop := Claim7.holds Tryd.pinned (.plain (OpenSpec.upto encNamesSpec)) encNamesUptoCard

/-- THE SECOND FORM's CARD OF 'quoinlaw03.EncTells'. -/
def encTellsUptoCard : Claim7 := { stood := { row := encTellsUptoRow, standIns := [], harness := (true, "12781dc4b1e6cffa12d2f2fb42d155aa3de110fb628ec27ba8a2d2aab9c2da4c"), looks := false }, kinds := [], alts := [], laidByText := true, laidKinds := [.data], laidTests := true, laidLooks := .later }
def EncTellsUptoCardSaid : Prop := Claim7.holds Tryd.pinned (.plain (OpenSpec.upto encTellsSpec)) encTellsUptoCard

/-- THE SECOND FORM's CARD OF 'quoinlaw04.DecNames'. -/
def decNamesUptoCard : Claim7 := { stood := { row := decNamesUptoRow, standIns := [], harness := (true, "12781dc4b1e6cffa12d2f2fb42d155aa3de110fb628ec27ba8a2d2aab9c2da4c"), looks := false }, kinds := [], alts := [], laidByText := true, laidKinds := [.data], laidTests := true, laidLooks := .later }
def DecNamesUptoCardSaid : Prop := Claim7.holds Tryd.pinned (.plain (OpenSpec.upto decNamesSpec)) decNamesUptoCard

/-- THE SECOND FORM's CARD OF 'quoinlaw04.DecTells'. -/
def decTellsUptoCard : Claim7 := { stood := { row := decTellsUptoRow, standIns := [], harness := (true, "12781dc4b1e6cffa12d2f2fb42d155aa3de110fb628ec27ba8a2d2aab9c2da4c"), looks := false }, kinds := [], alts := [], laidByText := true, laidKinds := [.data], laidTests := true, laidLooks := .later }
def DecTellsUptoCardSaid : Prop := Claim7.holds Tryd.pinned (.plain (OpenSpec.upto decTellsSpec)) decTellsUptoCard

/-- THE SECOND FORM's CARD OF 'quoinlaw03.EncAlone'. -/
def encAloneUptoCard : Claim7 := { stood := { row := encAloneUptoRow, standIns := [], harness := (true, "12781dc4b1e6cffa12d2f2fb42d155aa3de110fb628ec27ba8a2d2aab9c2da4c"), looks := false }, kinds := [], alts := [], laidByText := true, laidKinds := [.data], laidTests := true, laidLooks := .later }
def EncAloneUptoCardSaid : Prop := Claim7.holds Tryd.pinned (.plain (OpenSpec.upto encAloneSpec)) encAloneUptoCard
end Rows
end Go.Proofs.YtpijiohiohiilaaDoor
