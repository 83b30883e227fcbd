/-
  DERIVED. GIVEN WITH THE SEED: THE CARDS: each row of YtcnepgnfecoeoaaDoorRows.lean that lists a variable, with what it lists TIED to the program's text (the seventh form; the later family's looks); each row that meets fmt, with fmt's text TOLD by the authors' own Lean function (tested against real Go, not proved from fmt's source: count such statements apart). THE CARD IS WHAT COUNTS. Prove the row's statement (the work); the ties are given (YtcnepgnfecoeoaaDoorTie.lean); close each card by the builder's one call (the guide's Derived/Test/ToyasCard.lean, 'card_holds'). Laid BY PROGRAM, IN A SANDBOX (cutbox-door.mjs). By AI agents, Wed Nov 11 2026. No macro, syntax, notation, axiom, sorry.
-/
import Derived.Test.YtcnepgnfecoeoaaDoorRows
import GoSem.ClaimSeven
namespace Go.Proofs.YtcnepgnfecoeoaaDoor
namespace Rows

/-- THE TIED CARD OF 'sallyportlaw07.FiveComes'. -/
def fiveComesCard : Claim7 := { stood := { row := fiveComesRow, standIns := [], harness := (true, "9d8960ee13ee7687a33cc20c126652ee23c9aa292d6960b473a869a70914d1f5"), looks := true }, kinds := [], alts := [], laidByText := true, laidKinds := [.data, .pinned, .pinned], laidTests := true, laidLooks := .later }
def FiveComesCardSaid : Prop := Claim7.holds Tryd.pinned (.plain (OpenSpec.ofChange fiveComesSpec)) fiveComesCard

/-- THE TIED CARD OF 'sallyportlaw07.FiveAgain'. -/
def fiveAgainCard : Claim7 := { stood := { row := fiveAgainRow, standIns := [], harness := (true, "9d8960ee13ee7687a33cc20c126652ee23c9aa292d6960b473a869a70914d1f5"), looks := true }, kinds := [], alts := [], laidByText := true, laidKinds := [.data, .pinned, .pinned], laidTests := true, laidLooks := .later }
def FiveAgainCardSaid : Prop := Claim7.holds Tryd.pinned (.plain (OpenSpec.ofChange fiveAgainSpec)) fiveAgainCard

/-- THE TIED CARD OF 'sallyportlaw09.ChunkWrites'. -/
def chunkWritesCard : Claim7 := { stood := { row := chunkWritesRow, standIns := [], harness := (true, "9d8960ee13ee7687a33cc20c126652ee23c9aa292d6960b473a869a70914d1f5"), looks := true }, kinds := [], alts := [], laidByText := true, laidKinds := [.data, .data, .data, .sentinel, .sentinel], laidTests := true, laidLooks := .later }
def ChunkWritesCardSaid : Prop := Claim7.holds Tryd.pinned (.plain (OpenSpec.ofChange chunkWritesSpec)) chunkWritesCard

/-- THE TIED CARD OF 'sallyportlaw07.FiveReads'. -/
def fiveReadsCard : Claim7 := { stood := { row := fiveReadsRow, standIns := [], harness := (true, "9d8960ee13ee7687a33cc20c126652ee23c9aa292d6960b473a869a70914d1f5"), looks := true }, kinds := [], alts := [], laidByText := true, laidKinds := [.data, .pinned, .pinned], laidTests := true, laidLooks := .later }
def FiveReadsCardSaid : Prop := Claim7.holds Tryd.pinned (.plain (OpenSpec.ofChange fiveReadsSpec)) fiveReadsCard

/-- THE TIED CARD OF 'sallyportlaw07.FiveWrites'. -/
def fiveWritesCard : Claim7 := { stood := { row := fiveWritesRow, standIns := [], harness := (true, "9d8960ee13ee7687a33cc20c126652ee23c9aa292d6960b473a869a70914d1f5"), looks := true }, kinds := [], alts := [], laidByText := true, laidKinds := [.data, .pinned, .pinned], laidTests := true, laidLooks := .later }
def FiveWritesCardSaid : Prop := Claim7.holds Tryd.pinned (.plain (OpenSpec.ofChange fiveWritesSpec)) fiveWritesCard

/-- THE TIED CARD OF 'sallyportlaw07.FiveBack'. -/
def fiveBackCard : Claim7 := { stood := { row := fiveBackRow, standIns := [], harness := (true, "9d8960ee13ee7687a33cc20c126652ee23c9aa292d6960b473a869a70914d1f5"), looks := true }, kinds := [], alts := [], laidByText := true, laidKinds := [.data, .pinned, .pinned], laidTests := true, laidLooks := .later }
def FiveBackCardSaid : Prop := Claim7.holds Tryd.pinned (.plain (OpenSpec.ofChange fiveBackSpec)) fiveBackCard

/-- THE TIED CARD OF 'sallyportlaw17.SocksComes'. -/
def socksComesCard : Claim7 := { stood := { row := socksComesRow, standIns := [], harness := (true, "9d8960ee13ee7687a33cc20c126652ee23c9aa292d6960b473a869a70914d1f5"), looks := true }, kinds := [], alts := [], laidByText := true, laidKinds := [.data, .pinned, .pinned], laidTests := true, laidLooks := .later }
def SocksComesCardSaid : Prop := Claim7.holds Tryd.pinned (.plain (OpenSpec.ofChange socksComesSpec)) socksComesCard

/-- THE TIED CARD OF 'sallyportlaw17.SocksLocked'. -/
def socksLockedCard : Claim7 := { stood := { row := socksLockedRow, standIns := [], harness := (true, "9d8960ee13ee7687a33cc20c126652ee23c9aa292d6960b473a869a70914d1f5"), looks := true }, kinds := [], alts := [], laidByText := true, laidKinds := [.data, .pinned, .pinned], laidTests := true, laidLooks := .later }
def SocksLockedCardSaid : Prop := Claim7.holds Tryd.pinned (.plain (OpenSpec.ofChange socksLockedSpec)) socksLockedCard

/-- THE TIED CARD OF 'sallyportlaw17.SocksOpens'. -/
def socksOpensCard : Claim7 := { stood := { row := socksOpensRow, standIns := [], harness := (true, "9d8960ee13ee7687a33cc20c126652ee23c9aa292d6960b473a869a70914d1f5"), looks := true }, kinds := [], alts := [], laidByText := true, laidKinds := [.data, .pinned, .pinned], laidTests := true, laidLooks := .later }
def SocksOpensCardSaid : Prop := Claim7.holds Tryd.pinned (.plain (OpenSpec.ofChange socksOpensSpec)) socksOpensCard

/-- THE TIED CARD OF 'sallyportlaw17.SocksSays'. -/
def socksSaysCard : Claim7 := { stood := { row := socksSaysRow, standIns := [], harness := (true, "9d8960ee13ee7687a33cc20c126652ee23c9aa292d6960b473a869a70914d1f5"), looks := true }, kinds := [], alts := [], laidByText := true, laidKinds := [.data, .pinned, .pinned], laidTests := true, laidLooks := .later }
def SocksSaysCardSaid : Prop := Claim7.holds Tryd.pinned (.plain (OpenSpec.ofChange socksSaysSpec)) socksSaysCard

/-- THE SECOND FORM's CARD OF 'sallyportlaw07.FiveComes'. -/
def fiveComesUptoCard : Claim7 := { stood := { row := fiveComesUptoRow, standIns := [], harness := (true, "9d8960ee13ee7687a33cc20c126652ee23c9aa292d6960b473a869a70914d1f5"), looks := true }, kinds := [], alts := [], laidByText := true, laidKinds := [.data, .pinned, .pinned], laidTests := true, laidLooks := .later }
def FiveComesUptoCardSaid : Prop := Claim7.holds Tryd.pinned (.plain (OpenSpec.upto fiveComesSpec)) fiveComesUptoCard

/-- THE SECOND FORM's CARD OF 'sallyportlaw07.FiveAgain'. -/
def fiveAgainUptoCard : Claim7 := { stood := { row := fiveAgainUptoRow, standIns := [], harness := (true, "9d8960ee13ee7687a33cc20c126652ee23c9aa292d6960b473a869a70914d1f5"), looks := true }, kinds := [], alts := [], laidByText := true, laidKinds := [.data, .pinned, .pinned], laidTests := true, laidLooks := .later }
def FiveAgainUptoCardSaid : Prop := Claim7.holds Tryd.pinned (.plain (OpenSpec.upto fiveAgainSpec)) fiveAgainUptoCard

/-- THE SECOND FORM's CARD OF 'sallyportlaw09.ChunkWrites'. -/
def chunkWritesUptoCard : Claim7 := { stood := { row := chunkWritesUptoRow, standIns := [], harness := (true, "9d8960ee13ee7687a33cc20c126652ee23c9aa292d6960b473a869a70914d1f5"), looks := true }, kinds := [], alts := [], laidByText := true, laidKinds := [.data, .data, .data, .sentinel, .sentinel], laidTests := true, laidLooks := .later }
def ChunkWritesUptoCardSaid : Prop := Claim7.holds Tryd.pinned (.plain (OpenSpec.upto chunkWritesSpec)) chunkWritesUptoCard

/-- THE SECOND FORM's CARD OF 'sallyportlaw07.FiveReads'. -/
def fiveReadsUptoCard : Claim7 := { stood := { row := fiveReadsUptoRow, standIns := [], harness := (true, "9d8960ee13ee7687a33cc20c126652ee23c9aa292d6960b473a869a70914d1f5"), looks := true }, kinds := [], alts := [], laidByText := true, laidKinds := [.data, .pinned, .pinned], laidTests := true, laidLooks := .later }
def FiveReadsUptoCardSaid : Prop := Claim7.holds Tryd.pinned (.plain (OpenSpec.upto fiveReadsSpec)) fiveReadsUptoCard

/-- THE SECOND FORM's CARD OF 'sallyportlaw07.FiveWrites'. -/
def fiveWritesUptoCard : Claim7 := { stood := { row := fiveWritesUptoRow, standIns := [], harness := (true, "9d8960ee13ee7687a33cc20c126652ee23c9aa292d6960b473a869a70914d1f5"), looks := true }, kinds := [], alts := [], laidByText := true, laidKinds := [.data, .pinned, .pinned], laidTests := true, laidLooks := .later }
def FiveWritesUptoCardSaid : Prop := Claim7.holds Tryd.pinned (.plain (OpenSpec.upto fiveWritesSpec)) fiveWritesUptoCard

/-- THE SECOND FORM's CARD OF 'sallyportlaw07.FiveBack'. -/
def fiveBackUptoCard : Claim7 := { stood := { row := fiveBackUptoRow, standIns := [], harness := (true, "9d8960ee13ee7687a33cc20c126652ee23c9aa292d6960b473a869a70914d1f5"), looks := true }, kinds := [], alts := [], laidByText := true, laidKinds := [.data, .pinned, .pinned], laidTests := true, laidLooks := .later }
def FiveBackUptoCardSaid : Prop := Claim7.holds Tryd.pinned (.plain (OpenSpec.upto fiveBackSpec)) fiveBackUptoCard

/-- THE SECOND FORM's CARD OF 'sallyportlaw17.SocksComes'. -/
def socksComesUptoCard : Claim7 := { stood := { row := socksComesUptoRow, standIns := [], harness := (true, "9d8960ee13ee7687a33cc20c126652ee23c9aa292d6960b473a869a70914d1f5"), looks := true }, kinds := [], alts := [], laidByText := true, laidKinds := [.data, .pinned, .pinned], laidTests := true, laidLooks := .later }
def SocksComesUptoCardSaid : Prop := Claim7.holds Tryd.pinned (.plain (OpenSpec.upto socksComesSpec)) socksComesUptoCard

/-- THE SECOND FORM's CARD OF 'sallyportlaw17.SocksLocked'. -/
def socksLockedUptoCard : Claim7 := { stood := { row := socksLockedUptoRow, standIns := [], harness := (true, "9d8960ee13ee7687a33cc20c126652ee23c9aa292d6960b473a869a70914d1f5"), looks := true }, kinds := [], alts := [], laidByText := true, laidKinds := [.data, .pinned, .pinned], laidTests := true, laidLooks := .later }
def SocksLockedUptoCardSaid : Prop := Claim7.holds Tryd.pinned (.plain (OpenSpec.upto socksLockedSpec)) socksLockedUptoCard

/-- THE SECOND FORM's CARD OF 'sallyportlaw17.SocksOpens'. -/
def socksOpensUptoCard : Claim7 := { stood := { row := socksOpensUptoRow, standIns := [], harness := (true, "9d8960ee13ee7687a33cc20c126652ee23c9aa292d6960b473a869a70914d1f5"), looks := true }, kinds := [], alts := [], laidByText := true, laidKinds := [.data, .pinned, .pinned], laidTests := true, laidLooks := .later }
def SocksOpensUptoCardSaid : Prop := Claim7.holds Tryd.pinned (.plain (OpenSpec.upto socksOpensSpec)) socksOpensUptoCard

/-- THE SECOND FORM's CARD OF 'sallyportlaw17.SocksSays'. -/
def socksSaysUptoCard : Claim7 := { stood := { row := socksSaysUptoRow, standIns := [], harness := (true, "9d8960ee13ee7687a33cc20c126652ee23c9aa292d6960b473a869a70914d1f5"), looks := true }, kinds := [], alts := [], laidByText := true, laidKinds := [.data, .pinned, .pinned], laidTests := true, laidLooks := .later }
def SocksSaysUptoCardSaid : Prop := Claim7.holds Tryd.pinned (.plain (OpenSpec.upto socksSaysSpec)) socksSaysUptoCard
end Rows
end Go.Proofs.YtcnepgnfecoeoaaDoor
