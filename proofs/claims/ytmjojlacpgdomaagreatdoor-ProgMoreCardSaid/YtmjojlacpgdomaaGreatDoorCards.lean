/-
  DERIVED. GIVEN WITH THE SEED: THE CARDS: each row of YtmjojlacpgdomaaGreatDoorRows.lean that lists a variable, with what it lists TIED to the program's text (the seventh form; the later family's looks); each row that meets fmt, with fmt's text TOLD by the authors' own Lean function (tested against real Go, not proved from fmt's source: count such statements apart). THE CARD IS WHAT COUNTS. Prove the row's statement (the work); the ties are given (YtmjojlacpgdomaaGreatDoorTie.lean); close each card by the builder's one call (the guide's Derived/Test/ToyasCard.lean, 'card_holds'). Laid BY PROGRAM, IN A SANDBOX (cutbox-door.mjs). By AI agents, Wed Nov 11 2026. No macro, syntax, notation, axiom, sorry.
-/
import Derived.Test.YtmjojlacpgdomaaGreatDoorRows
import GoSem.ClaimSeven
namespace Go.Proofs.YtmjojlacpgdomaaGreatDoor
namespace Rows

/-- THE TIED CARD OF 'septumlaw23.ProgMore'. -/
def progMoreCard : Claim7 := { stood := { row := progMoreRow, standIns := [], harness := (true, "fccbd746c9987bcd556708ee478e1ca775cebd762a5a31886372b8b49cac1815"), looks := true }, kinds := [], alts := [], laidByText := true, laidKinds := [.data, .data, .data, .data, .sentinel, .sentinel, .pinned], laidTests := true, laidLooks := .later }
def ProgMoreCardSaid : Prop := Claim7.holds Tryz.pinned (.plain (OpenSpec.ofChange progMoreSpec)) progMoreCard

/-- THE TIED CARD OF 'septumlaw23.ProgTells'. -/
def progTellsCard : Claim7 := { stood := { row := progTellsRow, standIns := [], harness := (true, "fccbd746c9987bcd556708ee478e1ca775cebd762a5a31886372b8b49cac1815"), looks := true }, kinds := [], alts := [], laidByText := true, laidKinds := [.data, .data, .data, .data, .sentinel, .sentinel, .pinned], laidTests := true, laidLooks := .later }
def ProgTellsCardSaid : Prop := Claim7.holds Tryz.pinned (.plain (OpenSpec.ofChange progTellsSpec)) progTellsCard

/-- THE TIED CARD OF 'septumlaw23.ProgSmall'. -/
def progSmallCard : Claim7 := { stood := { row := progSmallRow, standIns := [], harness := (true, "fccbd746c9987bcd556708ee478e1ca775cebd762a5a31886372b8b49cac1815"), looks := true }, kinds := [], alts := [], laidByText := true, laidKinds := [.data, .data, .data, .data, .sentinel, .sentinel, .pinned], laidTests := true, laidLooks := .later }
def ProgSmallCardSaid : Prop := Claim7.holds Tryz.pinned (.plain (OpenSpec.ofChange progSmallSpec)) progSmallCard

/-- THE TIED CARD OF 'septumlaw23.ProgBack'. -/
def progBackCard : Claim7 := { stood := { row := progBackRow, standIns := [], harness := (true, "fccbd746c9987bcd556708ee478e1ca775cebd762a5a31886372b8b49cac1815"), looks := true }, kinds := [], alts := [], laidByText := true, laidKinds := [.data, .data, .data, .data, .sentinel, .sentinel, .pinned], laidTests := true, laidLooks := .later }
def ProgBackCardSaid : Prop := Claim7.holds Tryz.pinned (.plain (OpenSpec.ofChange progBackSpec)) progBackCard

/-- THE TIED CARD OF 'septumlaw23.ProgLines'. -/
def progLinesCard : Claim7 := { stood := { row := progLinesRow, standIns := [], harness := (true, "fccbd746c9987bcd556708ee478e1ca775cebd762a5a31886372b8b49cac1815"), looks := true }, kinds := [], alts := [], laidByText := true, laidKinds := [.data, .data, .data, .data, .sentinel, .sentinel, .pinned], laidTests := true, laidLooks := .later }
def ProgLinesCardSaid : Prop := Claim7.holds Tryz.pinned (.plain (OpenSpec.ofChange progLinesSpec)) progLinesCard

/-- THE TIED CARD OF 'septumlaw25.BootTells'. -/
def bootTellsCard : Claim7 := { stood := { row := bootTellsRow, standIns := [], harness := (true, "fccbd746c9987bcd556708ee478e1ca775cebd762a5a31886372b8b49cac1815"), looks := true }, kinds := [], alts := [], laidByText := true, laidKinds := [.data, .data, .data, .data, .sentinel, .sentinel, .pinned], laidTests := true, laidLooks := .later }
def BootTellsCardSaid : Prop := Claim7.holds Tryz.pinned (.plain (OpenSpec.ofChange bootTellsSpec)) bootTellsCard

/-- THE TIED CARD OF 'septumlaw25.BootSmall'. -/
def bootSmallCard : Claim7 := { stood := { row := bootSmallRow, standIns := [], harness := (true, "fccbd746c9987bcd556708ee478e1ca775cebd762a5a31886372b8b49cac1815"), looks := true }, kinds := [], alts := [], laidByText := true, laidKinds := [.data, .data, .data, .data, .sentinel, .sentinel, .pinned], laidTests := true, laidLooks := .later }
def BootSmallCardSaid : Prop := Claim7.holds Tryz.pinned (.plain (OpenSpec.ofChange bootSmallSpec)) bootSmallCard

/-- THE TIED CARD OF 'septumlaw25.BootBack'. -/
def bootBackCard : Claim7 := { stood := { row := bootBackRow, standIns := [], harness := (true, "fccbd746c9987bcd556708ee478e1ca775cebd762a5a31886372b8b49cac1815"), looks := true }, kinds := [], alts := [], laidByText := true, laidKinds := [.data, .data, .data, .data, .sentinel, .sentinel, .pinned], laidTests := true, laidLooks := .later }
def BootBackCardSaid : Prop := Claim7.holds Tryz.pinned (.plain (OpenSpec.ofChange bootBackSpec)) bootBackCard

/-- THE TIED CARD OF 'septumlaw25.BootShared'. -/
def bootSharedCard : Claim7 := { stood := { row := bootSharedRow, standIns := [], harness := (true, "fccbd746c9987bcd556708ee478e1ca775cebd762a5a31886372b8b49cac1815"), looks := true }, kinds := [], alts := [], laidByText := true, laidKinds := [.data, .data, .data, .data, .sentinel, .sentinel, .pinned], laidTests := true, laidLooks := .later }
def BootSharedCardSaid : Prop := Claim7.holds Tryz.pinned (.plain (OpenSpec.ofChange bootSharedSpec)) bootSharedCard

/-- THE TIED CARD OF 'septumlaw25.BootParts'. -/
def bootPartsCard : Claim7 := { stood := { row := bootPartsRow, standIns := [], harness := (true, "fccbd746c9987bcd556708ee478e1ca775cebd762a5a31886372b8b49cac1815"), looks := true }, kinds := [], alts := [], laidByText := true, laidKinds := [.data, .data, .data, .data, .sentinel, .sentinel, .pinned], laidTests := true, laidLooks := .later }
def BootPartsCardSaid : Prop := Claim7.holds Tryz.pinned (.plain (OpenSpec.ofChange bootPartsSpec)) bootPartsCard

/-- THE SECOND FORM's CARD OF 'septumlaw23.ProgMore'. -/
def progMoreUptoCard : Claim7 := { stood := { row := progMoreUptoRow, standIns := [], harness := (true, "fccbd746c9987bcd556708ee478e1ca775cebd762a5a31886372b8b49cac1815"), looks := true }, kinds := [], alts := [], laidByText := true, laidKinds := [.data, .data, .data, .data, .sentinel, .sentinel, .pinned], laidTests := true, laidLooks := .later }
def ProgMoreUptoCardSaid : Prop := Claim7.holds Tryz.pinned (.plain (OpenSpec.upto progMoreSpec)) progMoreUptoCard

/-- THE SECOND FORM's CARD OF 'septumlaw23.ProgTells'. -/
def progTellsUptoCard : Claim7 := { stood := { row := progTellsUptoRow, standIns := [], harness := (true, "fccbd746c9987bcd556708ee478e1ca775cebd762a5a31886372b8b49cac1815"), looks := true }, kinds := [], alts := [], laidByText := true, laidKinds := [.data, .data, .data, .data, .sentinel, .sentinel, .pinned], laidTests := true, laidLooks := .later }
def ProgTellsUptoCardSaid : Prop := Claim7.holds Tryz.pinned (.plain (OpenSpec.upto progTellsSpec)) progTellsUptoCard

/-- THE SECOND FORM's CARD OF 'septumlaw23.ProgSmall'. -/
def progSmallUptoCard : Claim7 := { stood := { row := progSmallUptoRow, standIns := [], harness := (true, "fccbd746c9987bcd556708ee478e1ca775cebd762a5a31886372b8b49cac1815"), looks := true }, kinds := [], alts := [], laidByText := true, laidKinds := [.data, .data, .data, .data, .sentinel, .sentinel, .pinned], laidTests := true, laidLooks := .later }
def ProgSmallUptoCardSaid : Prop := Claim7.holds Tryz.pinned (.plain (OpenSpec.upto progSmallSpec)) progSmallUptoCard

/-- THE SECOND FORM's CARD OF 'septumlaw23.ProgBack'. -/
def progBackUptoCard : Claim7 := { stood := { row := progBackUptoRow, standIns := [], harness := (true, "fccbd746c9987bcd556708ee478e1ca775cebd762a5a31886372b8b49cac1815"), looks := true }, kinds := [], alts := [], laidByText := true, laidKinds := [.data, .data, .data, .data, .sentinel, .sentinel, .pinned], laidTests := true, laidLooks := .later }
def ProgBackUptoCardSaid : Prop := Claim7.holds Tryz.pinned (.plain (OpenSpec.upto progBackSpec)) progBackUptoCard

/-- THE SECOND FORM's CARD OF 'septumlaw23.ProgLines'. -/
def progLinesUptoCard : Claim7 := { stood := { row := progLinesUptoRow, standIns := [], harness := (true, "fccbd746c9987bcd556708ee478e1ca775cebd762a5a31886372b8b49cac1815"), looks := true }, kinds := [], alts := [], laidByText := true, laidKinds := [.data, .data, .data, .data, .sentinel, .sentinel, .pinned], laidTests := true, laidLooks := .later }
def ProgLinesUptoCardSaid : Prop := Claim7.holds Tryz.pinned (.plain (OpenSpec.upto progLinesSpec)) progLinesUptoCard

/-- THE SECOND FORM's CARD OF 'septumlaw25.BootTells'. -/
def bootTellsUptoCard : Claim7 := { stood := { row := bootTellsUptoRow, standIns := [], harness := (true, "fccbd746c9987bcd556708ee478e1ca775cebd762a5a31886372b8b49cac1815"), looks := true }, kinds := [], alts := [], laidByText := true, laidKinds := [.data, .data, .data, .data, .sentinel, .sentinel, .pinned], laidTests := true, laidLooks := .later }
def BootTellsUptoCardSaid : Prop := Claim7.holds Tryz.pinned (.plain (OpenSpec.upto bootTellsSpec)) bootTellsUptoCard

/-- THE SECOND FORM's CARD OF 'septumlaw25.BootSmall'. -/
def bootSmallUptoCard : Claim7 := { stood := { row := bootSmallUptoRow, standIns := [], harness := (true, "fccbd746c9987bcd556708ee478e1ca775cebd762a5a31886372b8b49cac1815"), looks := true }, kinds := [], alts := [], laidByText := true, laidKinds := [.data, .data, .data, .data, .sentinel, .sentinel, .pinned], laidTests := true, laidLooks := .later }
def BootSmallUptoCardSaid : Prop := Claim7.holds Tryz.pinned (.plain (OpenSpec.upto bootSmallSpec)) bootSmallUptoCard

/-- THE SECOND FORM's CARD OF 'septumlaw25.BootBack'. -/
def bootBackUptoCard : Claim7 := { stood := { row := bootBackUptoRow, standIns := [], harness := (true, "fccbd746c9987bcd556708ee478e1ca775cebd762a5a31886372b8b49cac1815"), looks := true }, kinds := [], alts := [], laidByText := true, laidKinds := [.data, .data, .data, .data, .sentinel, .sentinel, .pinned], laidTests := true, laidLooks := .later }
def BootBackUptoCardSaid : Prop := Claim7.holds Tryz.pinned (.plain (OpenSpec.upto bootBackSpec)) bootBackUptoCard

/-- THE SECOND FORM's CARD OF 'septumlaw25.BootShared'. -/
def bootSharedUptoCard : Claim7 := { stood := { row := bootSharedUptoRow, standIns := [], harness := (true, "fccbd746c9987bcd556708ee478e1ca775cebd762a5a31886372b8b49cac1815"), looks := true }, kinds := [], alts := [], laidByText := true, laidKinds := [.data, .data, .data, .data, .sentinel, .sentinel, .pinned], laidTests := true, laidLooks := .later }
def BootSharedUptoCardSaid : Prop := Claim7.holds Tryz.pinned (.plain (OpenSpec.upto bootSharedSpec)) bootSharedUptoCard

/-- THE SECOND FORM's CARD OF 'septumlaw25.BootParts'. -/
def bootPartsUptoCard : Claim7 := { stood := { row := bootPartsUptoRow, standIns := [], harness := (true, "fccbd746c9987bcd556708ee478e1ca775cebd762a5a31886372b8b49cac1815"), looks := true }, kinds := [], alts := [], laidByText := true, laidKinds := [.data, .data, .data, .data, .sentinel, .sentinel, .pinned], laidTests := true, laidLooks := .later }
def BootPartsUptoCardSaid : Prop := Claim7.holds Tryz.pinned (.plain (OpenSpec.upto bootPartsSpec)) bootPartsUptoCard
end Rows
end Go.Proofs.YtmjojlacpgdomaaGreatDoor
