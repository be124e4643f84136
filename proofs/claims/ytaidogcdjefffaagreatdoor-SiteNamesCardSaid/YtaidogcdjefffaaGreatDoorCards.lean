/-
  DERIVED. GIVEN WITH THE SEED: THE CARDS: each row of YtaidogcdjefffaaGreatDoorRows.lean that lists a variable, with what it lists TIED to the program's text (the seventh form; the later family's looks); each row that meets fmt, with fmt's text TOLD by the authors' own Lean function (tested against real Go, not proved from fmt's source: count such statements apart). THE CARD IS WHAT COUNTS. Prove the row's statement (the work); the ties are given (YtaidogcdjefffaaGreatDoorTie.lean); close each card by the builder's one call (the guide's Derived/Test/ToyasCard.lean, 'card_holds'). Laid BY PROGRAM, IN A SANDBOX (cutbox-door.mjs). By AI agents, Wed Nov 11 2026. No macro, syntax, notation, axiom, sorry.
-/
import Derived.Test.YtaidogcdjefffaaGreatDoorRows
import GoSem.ClaimSeven
namespace Go.Proofs.YtaidogcdjefffaaGreatDoor
namespace Rows

/-- THE TIED CARD OF 'planispherelaw24.SiteTurn'. -/
def siteTurnCard : Claim7 := { stood := { row := siteTurnRow, standIns := [], harness := (true, "fabe0a63d97645843e026c3f4ef3aaf14f21b49a133781d52c0e16756dedbde5"), looks := true }, kinds := [], alts := [], laidByText := true, laidKinds := [.data, .pinned], laidTests := true, laidLooks := .later }
def SiteTurnCardSaid : Prop := Claim7.holds Tryz.pinned (.plain (OpenSpec.ofChange siteTurnSpec)) siteTurnCard

/-- THE TIED CARD OF 'planispherelaw24.SiteArm'. -/
def siteArmCard : Claim7 := { stood := { row := siteArmRow, standIns := [], harness := (true, "fabe0a63d97645843e026c3f4ef3aaf14f21b49a133781d52c0e16756dedbde5"), looks := true }, kinds := [], alts := [], laidByText := true, laidKinds := [.data, .pinned], laidTests := true, laidLooks := .later }
def SiteArmCardSaid : Prop := Claim7.holds Tryz.pinned (.plain (OpenSpec.ofChange siteArmSpec)) siteArmCard

/-- THE TIED CARD OF 'planispherelaw24.SiteRise'. -/
def siteRiseCard : Claim7 := { stood := { row := siteRiseRow, standIns := [], harness := (true, "fabe0a63d97645843e026c3f4ef3aaf14f21b49a133781d52c0e16756dedbde5"), looks := true }, kinds := [], alts := [], laidByText := true, laidKinds := [.data, .pinned], laidTests := true, laidLooks := .later }
def SiteRiseCardSaid : Prop := Claim7.holds Tryz.pinned (.plain (OpenSpec.ofChange siteRiseSpec)) siteRiseCard

/-- THE TIED CARD OF 'planispherelaw24.SitePlace'. -/
def sitePlaceCard : Claim7 := { stood := { row := sitePlaceRow, standIns := [], harness := (true, "fabe0a63d97645843e026c3f4ef3aaf14f21b49a133781d52c0e16756dedbde5"), looks := true }, kinds := [], alts := [], laidByText := true, laidKinds := [.data, .pinned], laidTests := true, laidLooks := .later }
def SitePlaceCardSaid : Prop := Claim7.holds Tryz.pinned (.plain (OpenSpec.ofChange sitePlaceSpec)) sitePlaceCard

/-- THE TIED CARD OF 'planispherelaw24.SiteNames'. -/
def siteNamesCard : Claim7 := { stood := { row := siteNamesRow, standIns := [], harness := (true, "fabe0a63d97645843e026c3f4ef3aaf14f21b49a133781d52c0e16756dedbde5"), looks := true }, kinds := [], alts := [], laidByText := true, laidKinds := [.data, .pinned], laidTests := true, laidLooks := .later }
def SiteNamesCardSaid : Prop := Claim7.holds Tryz.pinned (.plain (OpenSpec.ofChange siteNamesSpec)) siteNamesCard

/-- THE SECOND FORM's CARD OF 'planispherelaw24.SiteTurn'. -/
def siteTurnUptoCard : Claim7 := { stood := { row := siteTurnUptoRow, standIns := [], harness := (true, "fabe0a63d97645843e026c3f4ef3aaf14f21b49a133781d52c0e16756dedbde5"), looks := true }, kinds := [], alts := [], laidByText := true, laidKinds := [.data, .pinned], laidTests := true, laidLooks := .later }
def SiteTurnUptoCardSaid : Prop := Claim7.holds Tryz.pinned (.plain (OpenSpec.upto siteTurnSpec)) siteTurnUptoCard

/-- THE SECOND FORM's CARD OF 'planispherelaw24.SiteArm'. -/
def siteArmUptoCard : Claim7 := { stood := { row := siteArmUptoRow, standIns := [], harness := (true, "fabe0a63d97645843e026c3f4ef3aaf14f21b49a133781d52c0e16756dedbde5"), looks := true }, kinds := [], alts := [], laidByText := true, laidKinds := [.data, .pinned], laidTests := true, laidLooks := .later }
def SiteArmUptoCardSaid : Prop := Claim7.holds Tryz.pinned (.plain (OpenSpec.upto siteArmSpec)) siteArmUptoCard

/-- THE SECOND FORM's CARD OF 'planispherelaw24.SiteRise'. -/
def siteRiseUptoCard : Claim7 := { stood := { row := siteRiseUptoRow, standIns := [], harness := (true, "fabe0a63d97645843e026c3f4ef3aaf14f21b49a133781d52c0e16756dedbde5"), looks := true }, kinds := [], alts := [], laidByText := true, laidKinds := [.data, .pinned], laidTests := true, laidLooks := .later }
def SiteRiseUptoCardSaid : Prop := Claim7.holds Tryz.pinned (.plain (OpenSpec.upto siteRiseSpec)) siteRiseUptoCard

/-- THE SECOND FORM's CARD OF 'planispherelaw24.SitePlace'. -/
def sitePlaceUptoCard : Claim7 := { stood := { row := sitePlaceUptoRow, standIns := [], harness := (true, "fabe0a63d97645843e026c3f4ef3aaf14f21b49a133781d52c0e16756dedbde5"), looks := true }, kinds := [], alts := [], laidByText := true, laidKinds := [.data, .pinned], laidTests := true, laidLooks := .later }
def SitePlaceUptoCardSaid : Prop := Claim7.holds Tryz.pinned (.plain (OpenSpec.upto sitePlaceSpec)) sitePlaceUptoCard

/-- THE SECOND FORM's CARD OF 'planispherelaw24.SiteNames'. -/
def siteNamesUptoCard : Claim7 := { stood := { row := siteNamesUptoRow, standIns := [], harness := (true, "fabe0a63d97645843e026c3f4ef3aaf14f21b49a133781d52c0e16756dedbde5"), looks := true }, kinds := [], alts := [], laidByText := true, laidKinds := [.data, .pinned], laidTests := true, laidLooks := .later }
def SiteNamesUptoCardSaid : Prop := Claim7.holds Tryz.pinned (.plain (OpenSpec.upto siteNamesSpec)) siteNamesUptoCard
end Rows
end Go.Proofs.YtaidogcdjefffaaGreatDoor
