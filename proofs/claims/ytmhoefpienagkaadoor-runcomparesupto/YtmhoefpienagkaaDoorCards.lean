/-
  DERIVED. GIVEN WITH THE SEED: THE CARDS: each row of YtmhoefpienagkaaDoorRows.lean that lists a variable, with what it lists TIED to the program's text (the seventh form; the later family's looks); each row that meets fmt, with fmt's text TOLD by the authors' own Lean function (tested against real Go, not proved from fmt's source: count such statements apart). THE CARD IS WHAT COUNTS. Prove the row's statement (the work); the ties are given (YtmhoefpienagkaaDoorTie.lean); close each card by the builder's one call (the guide's Derived/Test/ToyasCard.lean, 'card_holds'). Laid BY PROGRAM, IN A SANDBOX (cutbox-door.mjs). By AI agents, Wed Nov 11 2026. No macro, syntax, notation, axiom, sorry.
-/
import Derived.Test.YtmhoefpienagkaaDoorRows
import GoSem.ClaimSeven
namespace Go.Proofs.YtmhoefpienagkaaDoor
namespace Rows

/-- THE TIED CARD OF 'scorialaw11.RunCompares'. -/
def runComparesCard : Claim7 := { stood := { row := runComparesRow, standIns := [], harness := (true, "c19d45fe95d26eae919e7504de4ea2c2cd858ebbd01bd0bc5e0f212d1cc0d358"), looks := true }, kinds := [], alts := [], laidByText := true, laidKinds := [.funcs, .funcs], laidTests := true, laidLooks := .later }
def RunComparesCardSaid : Prop := Claim7.holds Tryd.pinned (.plain (OpenSpec.ofChange runComparesSpec)) runComparesCard

/-- THE TIED CARD OF 'scorialaw11.RunOrder'. -/
def runOrderCard : Claim7 := { stood := { row := runOrderRow, standIns := [], harness := (true, "c19d45fe95d26eae919e7504de4ea2c2cd858ebbd01bd0bc5e0f212d1cc0d358"), looks := true }, kinds := [], alts := [], laidByText := true, laidKinds := [.funcs, .funcs], laidTests := true, laidLooks := .later }
def RunOrderCardSaid : Prop := Claim7.holds Tryd.pinned (.plain (OpenSpec.ofChange runOrderSpec)) runOrderCard

/-- THE TIED CARD OF 'scorialaw11.RunDigests'. -/
def runDigestsCard : Claim7 := { stood := { row := runDigestsRow, standIns := [], harness := (true, "c19d45fe95d26eae919e7504de4ea2c2cd858ebbd01bd0bc5e0f212d1cc0d358"), looks := true }, kinds := [], alts := [], laidByText := true, laidKinds := [.data, .data, .funcs, .funcs], laidTests := true, laidLooks := .later }
def RunDigestsCardSaid : Prop := Claim7.holds Tryd.pinned (.plain (OpenSpec.ofChange runDigestsSpec)) runDigestsCard

/-- THE SECOND FORM's CARD OF 'scorialaw11.RunCompares'. -/
def runComparesUptoCard : Claim7 := { stood := { row := runComparesUptoRow, standIns := [], harness := (true, "c19d45fe95d26eae919e7504de4ea2c2cd858ebbd01bd0bc5e0f212d1cc0d358"), looks := true }, kinds := [], alts := [], laidByText := true, laidKinds := [.funcs, .funcs], laidTests := true, laidLooks := .later }
def RunComparesUptoCardSaid : Prop := Claim7.holds Tryd.pinned (.plain (OpenSpec.upto runComparesSpec)) runComparesUptoCard

/-- THE SECOND FORM's CARD OF 'scorialaw11.RunOrder'. -/
def runOrderUptoCard : Claim7 := { stood := { row := runOrderUptoRow, standIns := [], harness := (true, "c19d45fe95d26eae919e7504de4ea2c2cd858ebbd01bd0bc5e0f212d1cc0d358"), looks := true }, kinds := [], alts := [], laidByText := true, laidKinds := [.funcs, .funcs], laidTests := true, laidLooks := .later }
def RunOrderUptoCardSaid : Prop := Claim7.holds Tryd.pinned (.plain (OpenSpec.upto runOrderSpec)) runOrderUptoCard

/-- THE SECOND FORM's CARD OF 'scorialaw11.RunDigests'. -/
def runDigestsUptoCard : Claim7 := { stood := { row := runDigestsUptoRow, standIns := [], harness := (true, "c19d45fe95d26eae919e7504de4ea2c2cd858ebbd01bd0bc5e0f212d1cc0d358"), looks := true }, kinds := [], alts := [], laidByText := true, laidKinds := [.data, .data, .funcs, .funcs], laidTests := true, laidLooks := .later }
def RunDigestsUptoCardSaid : Prop := Claim7.holds Tryd.pinned (.plain (OpenSpec.upto runDigestsSpec)) runDigestsUptoCard
end Rows
end Go.Proofs.YtmhoefpienagkaaDoor
