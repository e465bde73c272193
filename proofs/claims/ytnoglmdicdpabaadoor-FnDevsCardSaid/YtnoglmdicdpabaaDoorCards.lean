/-
  DERIVED. GIVEN WITH THE SEED: THE CARDS: each row of YtnoglmdicdpabaaDoorRows.lean that lists a variable, with what it lists TIED to the program's text (the seventh form; the later family's looks); each row that meets fmt, with fmt's text TOLD by the authors' own Lean function (tested against real Go, not proved from fmt's source: count such statements apart). THE CARD IS WHAT COUNTS. Prove the row's statement (the work); the ties are given (YtnoglmdicdpabaaDoorTie.lean); close each card by the builder's one call (the guide's Derived/Test/ToyasCard.lean, 'card_holds'). Laid BY PROGRAM, IN A SANDBOX (cutbox-door.mjs). By AI agents, Wed Nov 11 2026. No macro, syntax, notation, axiom, sorry.
-/
import Derived.Test.YtnoglmdicdpabaaDoorRows
import GoSem.ClaimSeven
namespace Go.Proofs.YtnoglmdicdpabaaDoor
namespace Rows

/-- THE TIED CARD OF 'laws.FnExactStampText'. -/
def fnExactStampTextCard : Claim7 := { stood := { row := fnExactStampTextRow, standIns := [], harness := (true, "b8e3e6e3f9510477c5b0088a6380c581a9766d1aef3fa798f3823c9b8e517e24"), looks := true }, kinds := [], alts := [], laidByText := true, laidKinds := [.data, .data, .data], laidTests := true, laidLooks := .later }
def FnExactStampTextCardSaid : Prop := Claim7.holds Tryd.pinned (.plain (OpenSpec.ofChange fnExactStampTextSpec)) fnExactStampTextCard

/-- THE TIED CARD OF 'laws.FnExactDevsText'. -/
def fnExactDevsTextCard : Claim7 := { stood := { row := fnExactDevsTextRow, standIns := [], harness := (true, "b8e3e6e3f9510477c5b0088a6380c581a9766d1aef3fa798f3823c9b8e517e24"), looks := true }, kinds := [], alts := [], laidByText := true, laidKinds := [.data, .data, .data], laidTests := true, laidLooks := .later }
def FnExactDevsTextCardSaid : Prop := Claim7.holds Tryd.pinned (.plain (OpenSpec.ofChange fnExactDevsTextSpec)) fnExactDevsTextCard

/-- THE TIED CARD OF 'laws.FnExactParseStamp'. -/
def fnExactParseStampCard : Claim7 := { stood := { row := fnExactParseStampRow, standIns := [], harness := (true, "b8e3e6e3f9510477c5b0088a6380c581a9766d1aef3fa798f3823c9b8e517e24"), looks := true }, kinds := [], alts := [], laidByText := true, laidKinds := [.data, .data, .data, .data, .sentinel, .sentinel, .pinned], laidTests := true, laidLooks := .later }
def FnExactParseStampCardSaid : Prop := Claim7.holds Tryd.pinned (.plain (OpenSpec.ofChange fnExactParseStampSpec)) fnExactParseStampCard

/-- THE TIED CARD OF 'laws.FnStampOrder'. -/
def fnStampOrderCard : Claim7 := { stood := { row := fnStampOrderRow, standIns := [], harness := (true, "b8e3e6e3f9510477c5b0088a6380c581a9766d1aef3fa798f3823c9b8e517e24"), looks := true }, kinds := [], alts := [], laidByText := true, laidKinds := [.data, .data, .data, .data, .sentinel, .sentinel, .pinned], laidTests := true, laidLooks := .later }
def FnStampOrderCardSaid : Prop := Claim7.holds Tryd.pinned (.plain (OpenSpec.ofChange fnStampOrderSpec)) fnStampOrderCard

/-- THE TIED CARD OF 'laws.FnStampsRead'. -/
def fnStampsReadCard : Claim7 := { stood := { row := fnStampsReadRow, standIns := [], harness := (true, "b8e3e6e3f9510477c5b0088a6380c581a9766d1aef3fa798f3823c9b8e517e24"), looks := true }, kinds := [], alts := [], laidByText := true, laidKinds := [.data, .data, .data, .data, .sentinel, .sentinel, .pinned], laidTests := true, laidLooks := .later }
def FnStampsReadCardSaid : Prop := Claim7.holds Tryd.pinned (.plain (OpenSpec.ofChange fnStampsReadSpec)) fnStampsReadCard

/-- THE TIED CARD OF 'laws.FnExactParseDevs'. -/
def fnExactParseDevsCard : Claim7 := { stood := { row := fnExactParseDevsRow, standIns := [], harness := (true, "b8e3e6e3f9510477c5b0088a6380c581a9766d1aef3fa798f3823c9b8e517e24"), looks := true }, kinds := [], alts := [], laidByText := true, laidKinds := [.data, .data, .data, .data, .sentinel, .sentinel, .pinned], laidTests := true, laidLooks := .later }
def FnExactParseDevsCardSaid : Prop := Claim7.holds Tryd.pinned (.plain (OpenSpec.ofChange fnExactParseDevsSpec)) fnExactParseDevsCard

/-- THE TIED CARD OF 'laws.FnDevsRead'. -/
def fnDevsReadCard : Claim7 := { stood := { row := fnDevsReadRow, standIns := [], harness := (true, "b8e3e6e3f9510477c5b0088a6380c581a9766d1aef3fa798f3823c9b8e517e24"), looks := true }, kinds := [], alts := [], laidByText := true, laidKinds := [.data, .data, .data, .data, .sentinel, .sentinel, .pinned], laidTests := true, laidLooks := .later }
def FnDevsReadCardSaid : Prop := Claim7.holds Tryd.pinned (.plain (OpenSpec.ofChange fnDevsReadSpec)) fnDevsReadCard

/-- THE TIED CARD OF 'laws.FnDevs'. -/
def fnDevsCard : Claim7 := { stood := { row := fnDevsRow, standIns := [], harness := (true, "b8e3e6e3f9510477c5b0088a6380c581a9766d1aef3fa798f3823c9b8e517e24"), looks := true }, kinds := [], alts := [], laidByText := true, laidKinds := [.data, .data, .data, .data, .sentinel, .sentinel, .pinned], laidTests := true, laidLooks := .later }
def FnDevsCardSaid : Prop := Claim7.holds Tryd.pinned (.plain (OpenSpec.ofChange fnDevsSpec)) fnDevsCard

/-- THE SECOND FORM's CARD OF 'laws.FnExactStampText'. -/
def fnExactStampTextUptoCard : Claim7 := { stood := { row := fnExactStampTextUptoRow, standIns := [], harness := (true, "b8e3e6e3f9510477c5b0088a6380c581a9766d1aef3fa798f3823c9b8e517e24"), looks := true }, kinds := [], alts := [], laidByText := true, laidKinds := [.data, .data, .data], laidTests := true, laidLooks := .later }
def FnExactStampTextUptoCardSaid : Prop := Claim7.holds Tryd.pinned (.plain (OpenSpec.upto fnExactStampTextSpec)) fnExactStampTextUptoCard

/-- THE SECOND FORM's CARD OF 'laws.FnExactDevsText'. -/
def fnExactDevsTextUptoCard : Claim7 := { stood := { row := fnExactDevsTextUptoRow, standIns := [], harness := (true, "b8e3e6e3f9510477c5b0088a6380c581a9766d1aef3fa798f3823c9b8e517e24"), looks := true }, kinds := [], alts := [], laidByText := true, laidKinds := [.data, .data, .data], laidTests := true, laidLooks := .later }
def FnExactDevsTextUptoCardSaid : Prop := Claim7.holds Tryd.pinned (.plain (OpenSpec.upto fnExactDevsTextSpec)) fnExactDevsTextUptoCard

/-- THE SECOND FORM's CARD OF 'laws.FnExactParseStamp'. -/
def fnExactParseStampUptoCard : Claim7 := { stood := { row := fnExactParseStampUptoRow, standIns := [], harness := (true, "b8e3e6e3f9510477c5b0088a6380c581a9766d1aef3fa798f3823c9b8e517e24"), looks := true }, kinds := [], alts := [], laidByText := true, laidKinds := [.data, .data, .data, .data, .sentinel, .sentinel, .pinned], laidTests := true, laidLooks := .later }
def FnExactParseStampUptoCardSaid : Prop := Claim7.holds Tryd.pinned (.plain (OpenSpec.upto fnExactParseStampSpec)) fnExactParseStampUptoCard

/-- THE SECOND FORM's CARD OF 'laws.FnStampOrder'. -/
def fnStampOrderUptoCard : Claim7 := { stood := { row := fnStampOrderUptoRow, standIns := [], harness := (true, "b8e3e6e3f9510477c5b0088a6380c581a9766d1aef3fa798f3823c9b8e517e24"), looks := true }, kinds := [], alts := [], laidByText := true, laidKinds := [.data, .data, .data, .data, .sentinel, .sentinel, .pinned], laidTests := true, laidLooks := .later }
def FnStampOrderUptoCardSaid : Prop := Claim7.holds Tryd.pinned (.plain (OpenSpec.upto fnStampOrderSpec)) fnStampOrderUptoCard

/-- THE SECOND FORM's CARD OF 'laws.FnStampsRead'. -/
def fnStampsReadUptoCard : Claim7 := { stood := { row := fnStampsReadUptoRow, standIns := [], harness := (true, "b8e3e6e3f9510477c5b0088a6380c581a9766d1aef3fa798f3823c9b8e517e24"), looks := true }, kinds := [], alts := [], laidByText := true, laidKinds := [.data, .data, .data, .data, .sentinel, .sentinel, .pinned], laidTests := true, laidLooks := .later }
def FnStampsReadUptoCardSaid : Prop := Claim7.holds Tryd.pinned (.plain (OpenSpec.upto fnStampsReadSpec)) fnStampsReadUptoCard

/-- THE SECOND FORM's CARD OF 'laws.FnExactParseDevs'. -/
def fnExactParseDevsUptoCard : Claim7 := { stood := { row := fnExactParseDevsUptoRow, standIns := [], harness := (true, "b8e3e6e3f9510477c5b0088a6380c581a9766d1aef3fa798f3823c9b8e517e24"), looks := true }, kinds := [], alts := [], laidByText := true, laidKinds := [.data, .data, .data, .data, .sentinel, .sentinel, .pinned], laidTests := true, laidLooks := .later }
def FnExactParseDevsUptoCardSaid : Prop := Claim7.holds Tryd.pinned (.plain (OpenSpec.upto fnExactParseDevsSpec)) fnExactParseDevsUptoCard

/-- THE SECOND FORM's CARD OF 'laws.FnDevsRead'. -/
def fnDevsReadUptoCard : Claim7 := { stood := { row := fnDevsReadUptoRow, standIns := [], harness := (true, "b8e3e6e3f9510477c5b0088a6380c581a9766d1aef3fa798f3823c9b8e517e24"), looks := true }, kinds := [], alts := [], laidByText := true, laidKinds := [.data, .data, .data, .data, .sentinel, .sentinel, .pinned], laidTests := true, laidLooks := .later }
def FnDevsReadUptoCardSaid : Prop := Claim7.holds Tryd.pinned (.plain (OpenSpec.upto fnDevsReadSpec)) fnDevsReadUptoCard

/-- THE SECOND FORM's CARD OF 'laws.FnDevs'. -/
def fnDevsUptoCard : Claim7 := { stood := { row := fnDevsUptoRow, standIns := [], harness := (true, "b8e3e6e3f9510477c5b0088a6380c581a9766d1aef3fa798f3823c9b8e517e24"), looks := true }, kinds := [], alts := [], laidByText := true, laidKinds := [.data, .data, .data, .data, .sentinel, .sentinel, .pinned], laidTests := true, laidLooks := .later }
def FnDevsUptoCardSaid : Prop := Claim7.holds Tryd.pinned (.plain (OpenSpec.upto fnDevsSpec)) fnDevsUptoCard
end Rows
end Go.Proofs.YtnoglmdicdpabaaDoor
