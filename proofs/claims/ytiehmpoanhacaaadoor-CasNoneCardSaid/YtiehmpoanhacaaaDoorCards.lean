/-
  DERIVED. GIVEN WITH THE SEED: THE CARDS: each row of YtiehmpoanhacaaaDoorRows.lean that lists a variable, with what it lists TIED to the program's text (the seventh form; the later family's looks); each row that meets fmt, with fmt's text TOLD by the authors' own Lean function (tested against real Go, not proved from fmt's source: count such statements apart). THE CARD IS WHAT COUNTS. Prove the row's statement (the work); the ties are given (YtiehmpoanhacaaaDoorTie.lean); close each card by the builder's one call (the guide's Derived/Test/ToyasCard.lean, 'card_holds'). Laid BY PROGRAM, IN A SANDBOX (cutbox-door.mjs). By AI agents, Wed Nov 11 2026. No macro, syntax, notation, axiom, sorry.
-/
import Derived.Test.YtiehmpoanhacaaaDoorRows
import GoSem.ClaimSeven
namespace Go.Proofs.YtiehmpoanhacaaaDoor
namespace Rows

/-- THE TIED CARD OF 'sakialaw16.GateBetween'. -/
def gateBetweenCard : Claim7 := { stood := { row := gateBetweenRow, standIns := [], harness := (true, "029eb4adfbdca8ef769c323f85a3368ca4da7c76af8c2ffbd539cfb32b8018c4"), looks := false }, kinds := [], alts := [], laidByText := true, laidKinds := [.data], laidTests := true, laidLooks := .later }
def GateBetweenCardSaid : Prop := Claim7.holds Tryd.pinned (.plain (OpenSpec.ofChange gateBetweenSpec)) gateBetweenCard

/-- THE TIED CARD OF 'sakialaw16.GateNone'. -/
def gateNoneCard : Claim7 := { stood := { row := gateNoneRow, standIns := [], harness := (true, "029eb4adfbdca8ef769c323f85a3368ca4da7c76af8c2ffbd539cfb32b8018c4"), looks := false }, kinds := [], alts := [], laidByText := true, laidKinds := [.data], laidTests := true, laidLooks := .later }
def GateNoneCardSaid : Prop := Claim7.holds Tryd.pinned (.plain (OpenSpec.ofChange gateNoneSpec)) gateNoneCard

/-- THE TIED CARD OF 'sakialaw11.LayoutTells'. -/
def layoutTellsCard : Claim7 := { stood := { row := layoutTellsRow, standIns := [], harness := (true, "029eb4adfbdca8ef769c323f85a3368ca4da7c76af8c2ffbd539cfb32b8018c4"), looks := false }, kinds := [], alts := [], laidByText := true, laidKinds := [.data, .data, .data], laidTests := true, laidLooks := .later }
def LayoutTellsCardSaid : Prop := Claim7.holds Tryd.pinned (.plain (OpenSpec.ofChange layoutTellsSpec)) layoutTellsCard

/-- THE TIED CARD OF 'sakialaw19.OneAlone'. -/
def oneAloneCard : Claim7 := { stood := { row := oneAloneRow, standIns := [], harness := (true, "029eb4adfbdca8ef769c323f85a3368ca4da7c76af8c2ffbd539cfb32b8018c4"), looks := false }, kinds := [], alts := [], laidByText := true, laidKinds := [.data], laidTests := true, laidLooks := .later }
def OneAloneCardSaid : Prop := Claim7.holds Tryd.pinned (.plain (OpenSpec.ofChange oneAloneSpec)) oneAloneCard

/-- THE TIED CARD OF 'sakialaw11.LayoutNone'. -/
def layoutNoneCard : Claim7 := { stood := { row := layoutNoneRow, standIns := [], harness := (true, "029eb4adfbdca8ef769c323f85a3368ca4da7c76af8c2ffbd539cfb32b8018c4"), looks := false }, kinds := [], alts := [], laidByText := true, laidKinds := [.data, .data, .data], laidTests := true, laidLooks := .later }
def LayoutNoneCardSaid : Prop := Claim7.holds Tryd.pinned (.plain (OpenSpec.ofChange layoutNoneSpec)) layoutNoneCard

/-- THE TIED CARD OF 'sakialaw19.OneNone'. -/
def oneNoneCard : Claim7 := { stood := { row := oneNoneRow, standIns := [], harness := (true, "029eb4adfbdca8ef769c323f85a3368ca4da7c76af8c2ffbd539cfb32b8018c4"), looks := false }, kinds := [], alts := [], laidByText := true, laidKinds := [.data], laidTests := true, laidLooks := .later }
def OneNoneCardSaid : Prop := Claim7.holds Tryd.pinned (.plain (OpenSpec.ofChange oneNoneSpec)) oneNoneCard

/-- THE TIED CARD OF 'sakialaw19.OneTiles'. -/
def oneTilesCard : Claim7 := { stood := { row := oneTilesRow, standIns := [], harness := (true, "029eb4adfbdca8ef769c323f85a3368ca4da7c76af8c2ffbd539cfb32b8018c4"), looks := false }, kinds := [], alts := [], laidByText := true, laidKinds := [.data], laidTests := true, laidLooks := .later }
def OneTilesCardSaid : Prop := Claim7.holds Tryd.pinned (.plain (OpenSpec.ofChange oneTilesSpec)) oneTilesCard

/-- THE TIED CARD OF 'sakialaw22.StampNone'. -/
def stampNoneCard : Claim7 := { stood := { row := stampNoneRow, standIns := [], harness := (true, "029eb4adfbdca8ef769c323f85a3368ca4da7c76af8c2ffbd539cfb32b8018c4"), looks := false }, kinds := [], alts := [], laidByText := true, laidKinds := [.data], laidTests := true, laidLooks := .later }
def StampNoneCardSaid : Prop := Claim7.holds Tryd.pinned (.plain (OpenSpec.ofChange stampNoneSpec)) stampNoneCard

/-- THE TIED CARD OF 'sakialaw21.FaaNone'. -/
def faaNoneCard : Claim7 := { stood := { row := faaNoneRow, standIns := [], harness := (true, "029eb4adfbdca8ef769c323f85a3368ca4da7c76af8c2ffbd539cfb32b8018c4"), looks := false }, kinds := [], alts := [], laidByText := true, laidKinds := [.data], laidTests := true, laidLooks := .later }
def FaaNoneCardSaid : Prop := Claim7.holds Tryd.pinned (.plain (OpenSpec.ofChange faaNoneSpec)) faaNoneCard

/-- THE TIED CARD OF 'sakialaw20.CasNone'. -/
def casNoneCard : Claim7 := { stood := { row := casNoneRow, standIns := [], harness := (true, "029eb4adfbdca8ef769c323f85a3368ca4da7c76af8c2ffbd539cfb32b8018c4"), looks := false }, kinds := [], alts := [], laidByText := true, laidKinds := [.data], laidTests := true, laidLooks := .later }
def CasNoneCardSaid : Prop := Claim7.holds Tryd.pinned (.plain (OpenSpec.ofChange casNoneSpec)) casNoneCard

/-- THE TIED CARD OF 'sakialaw22.StampTiles'. -/
def stampTilesCard : Claim7 := { stood := { row := stampTilesRow, standIns := [], harness := (true, "029eb4adfbdca8ef769c323f85a3368ca4da7c76af8c2ffbd539cfb32b8018c4"), looks := false }, kinds := [], alts := [], laidByText := true, laidKinds := [.data], laidTests := true, laidLooks := .later }
def StampTilesCardSaid : Prop := Claim7.holds Tryd.pinned (.plain (OpenSpec.ofChange stampTilesSpec)) stampTilesCard

/-- THE TIED CARD OF 'sakialaw21.FaaTiles'. -/
def faaTilesCard : Claim7 := { stood := { row := faaTilesRow, standIns := [], harness := (true, "029eb4adfbdca8ef769c323f85a3368ca4da7c76af8c2ffbd539cfb32b8018c4"), looks := false }, kinds := [], alts := [], laidByText := true, laidKinds := [.data], laidTests := true, laidLooks := .later }
def FaaTilesCardSaid : Prop := Claim7.holds Tryd.pinned (.plain (OpenSpec.ofChange faaTilesSpec)) faaTilesCard

/-- THE SECOND FORM's CARD OF 'sakialaw16.GateBetween'. -/
def gateBetweenUptoCard : Claim7 := { stood := { row := gateBetweenUptoRow, standIns := [], harness := (true, "029eb4adfbdca8ef769c323f85a3368ca4da7c76af8c2ffbd539cfb32b8018c4"), looks := false }, kinds := [], alts := [], laidByText := true, laidKinds := [.data], laidTests := true, laidLooks := .later }
def GateBetweenUptoCardSaid : Prop := Claim7.holds Tryd.pinned (.plain (OpenSpec.upto gateBetweenSpec)) gateBetweenUptoCard

/-- THE SECOND FORM's CARD OF 'sakialaw16.GateNone'. -/
def gateNoneUptoCard : Claim7 := { stood := { row := gateNoneUptoRow, standIns := [], harness := (true, "029eb4adfbdca8ef769c323f85a3368ca4da7c76af8c2ffbd539cfb32b8018c4"), looks := false }, kinds := [], alts := [], laidByText := true, laidKinds := [.data], laidTests := true, laidLooks := .later }
def GateNoneUptoCardSaid : Prop := Claim7.holds Tryd.pinned (.plain (OpenSpec.upto gateNoneSpec)) gateNoneUptoCard

/-- THE SECOND FORM's CARD OF 'sakialaw11.LayoutTells'. -/
def layoutTellsUptoCard : Claim7 := { stood := { row := layoutTellsUptoRow, standIns := [], harness := (true, "029eb4adfbdca8ef769c323f85a3368ca4da7c76af8c2ffbd539cfb32b8018c4"), looks := false }, kinds := [], alts := [], laidByText := true, laidKinds := [.data, .data, .data], laidTests := true, laidLooks := .later }
def LayoutTellsUptoCardSaid : Prop := Claim7.holds Tryd.pinned (.plain (OpenSpec.upto layoutTellsSpec)) layoutTellsUptoCard

/-- THE SECOND FORM's CARD OF 'sakialaw19.OneAlone'. -/
def oneAloneUptoCard : Claim7 := { stood := { row := oneAloneUptoRow, standIns := [], harness := (true, "029eb4adfbdca8ef769c323f85a3368ca4da7c76af8c2ffbd539cfb32b8018c4"), looks := false }, kinds := [], alts := [], laidByText := true, laidKinds := [.data], laidTests := true, laidLooks := .later }
def OneAloneUptoCardSaid : Prop := Claim7.holds Tryd.pinned (.plain (OpenSpec.upto oneAloneSpec)) oneAloneUptoCard

/-- THE SECOND FORM's CARD OF 'sakialaw11.LayoutNone'. -/
def layoutNoneUptoCard : Claim7 := { stood := { row := layoutNoneUptoRow, standIns := [], harness := (true, "029eb4adfbdca8ef769c323f85a3368ca4da7c76af8c2ffbd539cfb32b8018c4"), looks := false }, kinds := [], alts := [], laidByText := true, laidKinds := [.data, .data, .data], laidTests := true, laidLooks := .later }
def LayoutNoneUptoCardSaid : Prop := Claim7.holds Tryd.pinned (.plain (OpenSpec.upto layoutNoneSpec)) layoutNoneUptoCard

/-- THE SECOND FORM's CARD OF 'sakialaw19.OneNone'. -/
def oneNoneUptoCard : Claim7 := { stood := { row := oneNoneUptoRow, standIns := [], harness := (true, "029eb4adfbdca8ef769c323f85a3368ca4da7c76af8c2ffbd539cfb32b8018c4"), looks := false }, kinds := [], alts := [], laidByText := true, laidKinds := [.data], laidTests := true, laidLooks := .later }
def OneNoneUptoCardSaid : Prop := Claim7.holds Tryd.pinned (.plain (OpenSpec.upto oneNoneSpec)) oneNoneUptoCard

/-- THE SECOND FORM's CARD OF 'sakialaw19.OneTiles'. -/
def oneTilesUptoCard : Claim7 := { stood := { row := oneTilesUptoRow, standIns := [], harness := (true, "029eb4adfbdca8ef769c323f85a3368ca4da7c76af8c2ffbd539cfb32b8018c4"), looks := false }, kinds := [], alts := [], laidByText := true, laidKinds := [.data], laidTests := true, laidLooks := .later }
def OneTilesUptoCardSaid : Prop := Claim7.holds Tryd.pinned (.plain (OpenSpec.upto oneTilesSpec)) oneTilesUptoCard

/-- THE SECOND FORM's CARD OF 'sakialaw22.StampNone'. -/
def stampNoneUptoCard : Claim7 := { stood := { row := stampNoneUptoRow, standIns := [], harness := (true, "029eb4adfbdca8ef769c323f85a3368ca4da7c76af8c2ffbd539cfb32b8018c4"), looks := false }, kinds := [], alts := [], laidByText := true, laidKinds := [.data], laidTests := true, laidLooks := .later }
def StampNoneUptoCardSaid : Prop := Claim7.holds Tryd.pinned (.plain (OpenSpec.upto stampNoneSpec)) stampNoneUptoCard

/-- THE SECOND FORM's CARD OF 'sakialaw21.FaaNone'. -/
def faaNoneUptoCard : Claim7 := { stood := { row := faaNoneUptoRow, standIns := [], harness := (true, "029eb4adfbdca8ef769c323f85a3368ca4da7c76af8c2ffbd539cfb32b8018c4"), looks := false }, kinds := [], alts := [], laidByText := true, laidKinds := [.data], laidTests := true, laidLooks := .later }
def FaaNoneUptoCardSaid : Prop := Claim7.holds Tryd.pinned (.plain (OpenSpec.upto faaNoneSpec)) faaNoneUptoCard

/-- THE SECOND FORM's CARD OF 'sakialaw20.CasNone'. -/
def casNoneUptoCard : Claim7 := { stood := { row := casNoneUptoRow, standIns := [], harness := (true, "029eb4adfbdca8ef769c323f85a3368ca4da7c76af8c2ffbd539cfb32b8018c4"), looks := false }, kinds := [], alts := [], laidByText := true, laidKinds := [.data], laidTests := true, laidLooks := .later }
def CasNoneUptoCardSaid : Prop := Claim7.holds Tryd.pinned (.plain (OpenSpec.upto casNoneSpec)) casNoneUptoCard

/-- THE SECOND FORM's CARD OF 'sakialaw22.StampTiles'. -/
def stampTilesUptoCard : Claim7 := { stood := { row := stampTilesUptoRow, standIns := [], harness := (true, "029eb4adfbdca8ef769c323f85a3368ca4da7c76af8c2ffbd539cfb32b8018c4"), looks := false }, kinds := [], alts := [], laidByText := true, laidKinds := [.data], laidTests := true, laidLooks := .later }
def StampTilesUptoCardSaid : Prop := Claim7.holds Tryd.pinned (.plain (OpenSpec.upto stampTilesSpec)) stampTilesUptoCard

/-- THE SECOND FORM's CARD OF 'sakialaw21.FaaTiles'. -/
def faaTilesUptoCard : Claim7 := { stood := { row := faaTilesUptoRow, standIns := [], harness := (true, "029eb4adfbdca8ef769c323f85a3368ca4da7c76af8c2ffbd539cfb32b8018c4"), looks := false }, kinds := [], alts := [], laidByText := true, laidKinds := [.data], laidTests := true, laidLooks := .later }
def FaaTilesUptoCardSaid : Prop := Claim7.holds Tryd.pinned (.plain (OpenSpec.upto faaTilesSpec)) faaTilesUptoCard
end Rows
end Go.Proofs.YtiehmpoanhacaaaDoor
