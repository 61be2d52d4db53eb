/-
  DERIVED. GIVEN WITH THE SEED: THE CARDS: each row of YtleifmkjbmhlpaaGreatDoorRows.lean that lists a variable, with what it lists TIED to the program's text (the seventh form; the later family's looks); each row that meets fmt, with fmt's text TOLD by the authors' own Lean function (tested against real Go, not proved from fmt's source: count such statements apart). THE CARD IS WHAT COUNTS. Prove the row's statement (the work); the ties are given (YtleifmkjbmhlpaaGreatDoorTie.lean); close each card by the builder's one call (the guide's Derived/Test/ToyasCard.lean, 'card_holds'). Laid BY PROGRAM, IN A SANDBOX (cutbox-door.mjs). By AI agents, Wed Nov 11 2026. No macro, syntax, notation, axiom, sorry.
-/
import Derived.Test.YtleifmkjbmhlpaaGreatDoorRows
import GoSem.ClaimSeven
namespace Go.Proofs.YtleifmkjbmhlpaaGreatDoor
namespace Rows

/-- THE TIED CARD OF 'latecomerlaw21.CertifyOpens'. -/
def certifyOpensCard : Claim7 := { stood := { row := certifyOpensRow, standIns := [], harness := (true, "58d8aa37e820f9e7abaf34b81b15ca277f9d04db2e090aec4e0979f3adaa3f7c"), looks := true }, kinds := [], alts := [], laidByText := true, laidKinds := [.data, .data, .data, .data, .sentinel, .sentinel, .data, .funcsDeep, .data, .funcs, .pinned], laidTests := true, laidLooks := .later }
def CertifyOpensCardSaid : Prop := Claim7.holds Tryz.pinned (.plain (OpenSpec.ofChange certifyOpensSpec)) certifyOpensCard

/-- THE TIED CARD OF 'latecomerlaw21.CertifySmall'. -/
def certifySmallCard : Claim7 := { stood := { row := certifySmallRow, standIns := [], harness := (true, "58d8aa37e820f9e7abaf34b81b15ca277f9d04db2e090aec4e0979f3adaa3f7c"), looks := true }, kinds := [], alts := [], laidByText := true, laidKinds := [.data, .data, .data, .data, .sentinel, .sentinel, .data, .funcsDeep, .data, .funcs, .pinned], laidTests := true, laidLooks := .later }
def CertifySmallCardSaid : Prop := Claim7.holds Tryz.pinned (.plain (OpenSpec.ofChange certifySmallSpec)) certifySmallCard

/-- THE TIED CARD OF 'latecomerlaw21.CertifyRoot'. -/
def certifyRootCard : Claim7 := { stood := { row := certifyRootRow, standIns := [], harness := (true, "58d8aa37e820f9e7abaf34b81b15ca277f9d04db2e090aec4e0979f3adaa3f7c"), looks := true }, kinds := [], alts := [], laidByText := true, laidKinds := [.data, .data, .data, .data, .sentinel, .sentinel, .data, .funcsDeep, .data, .funcs, .pinned], laidTests := true, laidLooks := .later }
def CertifyRootCardSaid : Prop := Claim7.holds Tryz.pinned (.plain (OpenSpec.ofChange certifyRootSpec)) certifyRootCard

/-- THE TIED CARD OF 'latecomerlaw21.CertifyMatchesReference'. -/
def certifyMatchesReferenceCard : Claim7 := { stood := { row := certifyMatchesReferenceRow, standIns := [], harness := (true, "58d8aa37e820f9e7abaf34b81b15ca277f9d04db2e090aec4e0979f3adaa3f7c"), looks := true }, kinds := [], alts := [], laidByText := true, laidKinds := [.data, .data, .data, .data, .sentinel, .sentinel, .data, .funcsDeep, .data, .funcs, .pinned], laidTests := true, laidLooks := .later }
def CertifyMatchesReferenceCardSaid : Prop := Claim7.holds Tryz.pinned (.plain (OpenSpec.ofChange certifyMatchesReferenceSpec)) certifyMatchesReferenceCard

/-- THE TIED CARD OF 'latecomerlaw21.CertifyComplete'. -/
def certifyCompleteCard : Claim7 := { stood := { row := certifyCompleteRow, standIns := [], harness := (true, "58d8aa37e820f9e7abaf34b81b15ca277f9d04db2e090aec4e0979f3adaa3f7c"), looks := true }, kinds := [], alts := [], laidByText := true, laidKinds := [.data, .data, .data, .data, .sentinel, .sentinel, .data, .funcsDeep, .data, .funcs, .pinned], laidTests := true, laidLooks := .later }
def CertifyCompleteCardSaid : Prop := Claim7.holds Tryz.pinned (.plain (OpenSpec.ofChange certifyCompleteSpec)) certifyCompleteCard

/-- THE TIED CARD OF 'latecomerlaw21.CertifySound'. -/
def certifySoundCard : Claim7 := { stood := { row := certifySoundRow, standIns := [], harness := (true, "58d8aa37e820f9e7abaf34b81b15ca277f9d04db2e090aec4e0979f3adaa3f7c"), looks := true }, kinds := [], alts := [], laidByText := true, laidKinds := [.data, .data, .data, .data, .sentinel, .sentinel, .data, .funcsDeep, .data, .funcs, .pinned], laidTests := true, laidLooks := .later }
def CertifySoundCardSaid : Prop := Claim7.holds Tryz.pinned (.plain (OpenSpec.ofChange certifySoundSpec)) certifySoundCard

/-- THE SECOND FORM's CARD OF 'latecomerlaw21.CertifyOpens'. -/
def certifyOpensUptoCard : Claim7 := { stood := { row := certifyOpensUptoRow, standIns := [], harness := (true, "58d8aa37e820f9e7abaf34b81b15ca277f9d04db2e090aec4e0979f3adaa3f7c"), looks := true }, kinds := [], alts := [], laidByText := true, laidKinds := [.data, .data, .data, .data, .sentinel, .sentinel, .data, .funcsDeep, .data, .funcs, .pinned], laidTests := true, laidLooks := .later }
def CertifyOpensUptoCardSaid : Prop := Claim7.holds Tryz.pinned (.plain (OpenSpec.upto certifyOpensSpec)) certifyOpensUptoCard

/-- THE SECOND FORM's CARD OF 'latecomerlaw21.CertifySmall'. -/
def certifySmallUptoCard : Claim7 := { stood := { row := certifySmallUptoRow, standIns := [], harness := (true, "58d8aa37e820f9e7abaf34b81b15ca277f9d04db2e090aec4e0979f3adaa3f7c"), looks := true }, kinds := [], alts := [], laidByText := true, laidKinds := [.data, .data, .data, .data, .sentinel, .sentinel, .data, .funcsDeep, .data, .funcs, .pinned], laidTests := true, laidLooks := .later }
def CertifySmallUptoCardSaid : Prop := Claim7.holds Tryz.pinned (.plain (OpenSpec.upto certifySmallSpec)) certifySmallUptoCard

/-- THE SECOND FORM's CARD OF 'latecomerlaw21.CertifyRoot'. -/
def certifyRootUptoCard : Claim7 := { stood := { row := certifyRootUptoRow, standIns := [], harness := (true, "58d8aa37e820f9e7abaf34b81b15ca277f9d04db2e090aec4e0979f3adaa3f7c"), looks := true }, kinds := [], alts := [], laidByText := true, laidKinds := [.data, .data, .data, .data, .sentinel, .sentinel, .data, .funcsDeep, .data, .funcs, .pinned], laidTests := true, laidLooks := .later }
def CertifyRootUptoCardSaid : Prop := Claim7.holds Tryz.pinned (.plain (OpenSpec.upto certifyRootSpec)) certifyRootUptoCard

/-- THE SECOND FORM's CARD OF 'latecomerlaw21.CertifyMatchesReference'. -/
def certifyMatchesReferenceUptoCard : Claim7 := { stood := { row := certifyMatchesReferenceUptoRow, standIns := [], harness := (true, "58d8aa37e820f9e7abaf34b81b15ca277f9d04db2e090aec4e0979f3adaa3f7c"), looks := true }, kinds := [], alts := [], laidByText := true, laidKinds := [.data, .data, .data, .data, .sentinel, .sentinel, .data, .funcsDeep, .data, .funcs, .pinned], laidTests := true, laidLooks := .later }
def CertifyMatchesReferenceUptoCardSaid : Prop := Claim7.holds Tryz.pinned (.plain (OpenSpec.upto certifyMatchesReferenceSpec)) certifyMatchesReferenceUptoCard

/-- THE SECOND FORM's CARD OF 'latecomerlaw21.CertifyComplete'. -/
def certifyCompleteUptoCard : Claim7 := { stood := { row := certifyCompleteUptoRow, standIns := [], harness := (true, "58d8aa37e820f9e7abaf34b81b15ca277f9d04db2e090aec4e0979f3adaa3f7c"), looks := true }, kinds := [], alts := [], laidByText := true, laidKinds := [.data, .data, .data, .data, .sentinel, .sentinel, .data, .funcsDeep, .data, .funcs, .pinned], laidTests := true, laidLooks := .later }
def CertifyCompleteUptoCardSaid : Prop := Claim7.holds Tryz.pinned (.plain (OpenSpec.upto certifyCompleteSpec)) certifyCompleteUptoCard

/-- THE SECOND FORM's CARD OF 'latecomerlaw21.CertifySound'. -/
def certifySoundUptoCard : Claim7 := { stood := { row := certifySoundUptoRow, standIns := [], harness := (true, "58d8aa37e820f9e7abaf34b81b15ca277f9d04db2e090aec4e0979f3adaa3f7c"), looks := true }, kinds := [], alts := [], laidByText := true, laidKinds := [.data, .data, .data, .data, .sentinel, .sentinel, .data, .funcsDeep, .data, .funcs, .pinned], laidTests := true, laidLooks := .later }
def CertifySoundUptoCardSaid : Prop := Claim7.holds Tryz.pinned (.plain (OpenSpec.upto certifySoundSpec)) certifySoundUptoCard
end Rows
end Go.Proofs.YtleifmkjbmhlpaaGreatDoor
