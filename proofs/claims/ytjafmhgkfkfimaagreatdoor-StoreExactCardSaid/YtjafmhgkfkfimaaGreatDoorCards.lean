/-
  DERIVED. GIVEN WITH THE SEED: THE CARDS: each row of YtjafmhgkfkfimaaGreatDoorRows.lean that lists a variable, with what it lists TIED to the program's text (the seventh form; the later family's looks); each row that meets fmt, with fmt's text TOLD by the authors' own Lean function (tested against real Go, not proved from fmt's source: count such statements apart). THE CARD IS WHAT COUNTS. Prove the row's statement (the work); the ties are given (YtjafmhgkfkfimaaGreatDoorTie.lean); close each card by the builder's one call (the guide's Derived/Test/ToyasCard.lean, 'card_holds'). Laid BY PROGRAM, IN A SANDBOX (cutbox-door.mjs). By AI agents, Wed Nov 11 2026. No macro, syntax, notation, axiom, sorry.
-/
import Derived.Test.YtjafmhgkfkfimaaGreatDoorRows
import GoSem.ClaimSeven
namespace Go.Proofs.YtjafmhgkfkfimaaGreatDoor
namespace Rows

/-- THE TIED CARD OF 'lectionarylaw15.StoreKeeps'. -/
def storeKeepsCard : Claim7 := { stood := { row := storeKeepsRow, standIns := [], harness := (true, "fc2cf1d0ec890d36fc196ce7c35f1748c4256bae0b9028bb5d6c5fde9bb3da16"), looks := false }, kinds := [], alts := [], laidByText := true, laidKinds := [.data, .pinned], laidTests := true, laidLooks := .later }
def StoreKeepsCardSaid : Prop := Claim7.holds Tryz.pinned (.plain (OpenSpec.ofChange storeKeepsSpec)) storeKeepsCard

/-- THE TIED CARD OF 'lectionarylaw15.StoreExact'. -/
def storeExactCard : Claim7 := { stood := { row := storeExactRow, standIns := [], harness := (true, "fc2cf1d0ec890d36fc196ce7c35f1748c4256bae0b9028bb5d6c5fde9bb3da16"), looks := false }, kinds := [], alts := [], laidByText := true, laidKinds := [.data, .pinned], laidTests := true, laidLooks := .later }
def StoreExactCardSaid : Prop := Claim7.holds Tryz.pinned (.plain (OpenSpec.ofChange storeExactSpec)) storeExactCard

/-- THE SECOND FORM's CARD OF 'lectionarylaw15.StoreKeeps'. -/
def storeKeepsUptoCard : Claim7 := { stood := { row := storeKeepsUptoRow, standIns := [], harness := (true, "fc2cf1d0ec890d36fc196ce7c35f1748c4256bae0b9028bb5d6c5fde9bb3da16"), looks := false }, kinds := [], alts := [], laidByText := true, laidKinds := [.data, .pinned], laidTests := true, laidLooks := .later }
def StoreKeepsUptoCardSaid : Prop := Claim7.holds Tryz.pinned (.plain (OpenSpec.upto storeKeepsSpec)) storeKeepsUptoCard

/-- THE SECOND FORM's CARD OF 'lectionarylaw15.StoreExact'. -/
def storeExactUptoCard : Claim7 := { stood := { row := storeExactUptoRow, standIns := [], harness := (true, "fc2cf1d0ec890d36fc196ce7c35f1748c4256bae0b9028bb5d6c5fde9bb3da16"), looks := false }, kinds := [], alts := [], laidByText := true, laidKinds := [.data, .pinned], laidTests := true, laidLooks := .later }
def StoreExactUptoCardSaid : Prop := Claim7.holds Tryz.pinned (.plain (OpenSpec.upto storeExactSpec)) storeExactUptoCard
end Rows
end Go.Proofs.YtjafmhgkfkfimaaGreatDoor
