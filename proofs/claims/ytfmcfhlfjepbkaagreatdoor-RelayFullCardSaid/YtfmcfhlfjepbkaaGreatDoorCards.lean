/-
  DERIVED. GIVEN WITH THE SEED: THE CARDS: each row of YtfmcfhlfjepbkaaGreatDoorRows.lean that lists a variable, with what it lists TIED to the program's text (the seventh form; the later family's looks); each row that meets fmt, with fmt's text TOLD by the authors' own Lean function (tested against real Go, not proved from fmt's source: count such statements apart). THE CARD IS WHAT COUNTS. Prove the row's statement (the work); the ties are given (YtfmcfhlfjepbkaaGreatDoorTie.lean); close each card by the builder's one call (the guide's Derived/Test/ToyasCard.lean, 'card_holds'). Laid BY PROGRAM, IN A SANDBOX (cutbox-door.mjs). By AI agents, Wed Nov 11 2026. No macro, syntax, notation, axiom, sorry.
-/
import Derived.Test.YtfmcfhlfjepbkaaGreatDoorRows
import GoSem.ClaimSeven
namespace Go.Proofs.YtfmcfhlfjepbkaaGreatDoor
namespace Rows

/-- THE TIED CARD OF 'lectionarylaw16.RelayOnce'. -/
def relayOnceCard : Claim7 := { stood := { row := relayOnceRow, standIns := [], harness := (true, "ca7062eab4ca7ee56b854f24efa7a2dab44b86687345a008159fcfd3135798e2"), looks := false }, kinds := [], alts := [], laidByText := true, laidKinds := [.data, .pinned], laidTests := true, laidLooks := .later }
def RelayOnceCardSaid : Prop := Claim7.holds Tryz.pinned (.plain (OpenSpec.ofChange relayOnceSpec)) relayOnceCard

/-- THE TIED CARD OF 'lectionarylaw16.OnceSubmits'. -/
def onceSubmitsCard : Claim7 := { stood := { row := onceSubmitsRow, standIns := [], harness := (true, "ca7062eab4ca7ee56b854f24efa7a2dab44b86687345a008159fcfd3135798e2"), looks := false }, kinds := [], alts := [], laidByText := true, laidKinds := [.data, .pinned], laidTests := true, laidLooks := .later }
def OnceSubmitsCardSaid : Prop := Claim7.holds Tryz.pinned (.plain (OpenSpec.ofChange onceSubmitsSpec)) onceSubmitsCard

/-- THE TIED CARD OF 'lectionarylaw16.RelayFull'. -/
def relayFullCard : Claim7 := { stood := { row := relayFullRow, standIns := [], harness := (true, "ca7062eab4ca7ee56b854f24efa7a2dab44b86687345a008159fcfd3135798e2"), looks := false }, kinds := [], alts := [], laidByText := true, laidKinds := [.data, .pinned], laidTests := true, laidLooks := .later }
def RelayFullCardSaid : Prop := Claim7.holds Tryz.pinned (.plain (OpenSpec.ofChange relayFullSpec)) relayFullCard

/-- THE TIED CARD OF 'lectionarylaw16.RelayForged'. -/
def relayForgedCard : Claim7 := { stood := { row := relayForgedRow, standIns := [], harness := (true, "ca7062eab4ca7ee56b854f24efa7a2dab44b86687345a008159fcfd3135798e2"), looks := false }, kinds := [], alts := [], laidByText := true, laidKinds := [.data, .pinned], laidTests := true, laidLooks := .later }
def RelayForgedCardSaid : Prop := Claim7.holds Tryz.pinned (.plain (OpenSpec.ofChange relayForgedSpec)) relayForgedCard

/-- THE TIED CARD OF 'lectionarylaw16.RelayOpens'. -/
def relayOpensCard : Claim7 := { stood := { row := relayOpensRow, standIns := [], harness := (true, "ca7062eab4ca7ee56b854f24efa7a2dab44b86687345a008159fcfd3135798e2"), looks := false }, kinds := [], alts := [], laidByText := true, laidKinds := [.data, .pinned], laidTests := true, laidLooks := .later }
def RelayOpensCardSaid : Prop := Claim7.holds Tryz.pinned (.plain (OpenSpec.ofChange relayOpensSpec)) relayOpensCard

/-- THE TIED CARD OF 'lectionarylaw16.RelayHalf'. -/
def relayHalfCard : Claim7 := { stood := { row := relayHalfRow, standIns := [], harness := (true, "ca7062eab4ca7ee56b854f24efa7a2dab44b86687345a008159fcfd3135798e2"), looks := false }, kinds := [], alts := [], laidByText := true, laidKinds := [.data, .pinned], laidTests := true, laidLooks := .later }
def RelayHalfCardSaid : Prop := Claim7.holds Tryz.pinned (.plain (OpenSpec.ofChange relayHalfSpec)) relayHalfCard

/-- THE TIED CARD OF 'lectionarylaw16.HalfSubmits'. -/
def halfSubmitsCard : Claim7 := { stood := { row := halfSubmitsRow, standIns := [], harness := (true, "ca7062eab4ca7ee56b854f24efa7a2dab44b86687345a008159fcfd3135798e2"), looks := false }, kinds := [], alts := [], laidByText := true, laidKinds := [.data, .pinned], laidTests := true, laidLooks := .later }
def HalfSubmitsCardSaid : Prop := Claim7.holds Tryz.pinned (.plain (OpenSpec.ofChange halfSubmitsSpec)) halfSubmitsCard

/-- THE TIED CARD OF 'lectionarylaw16.RelayExact'. -/
def relayExactCard : Claim7 := { stood := { row := relayExactRow, standIns := [], harness := (true, "ca7062eab4ca7ee56b854f24efa7a2dab44b86687345a008159fcfd3135798e2"), looks := false }, kinds := [], alts := [], laidByText := true, laidKinds := [.data, .pinned], laidTests := true, laidLooks := .later }
def RelayExactCardSaid : Prop := Claim7.holds Tryz.pinned (.plain (OpenSpec.ofChange relayExactSpec)) relayExactCard

/-- THE TIED CARD OF 'lectionarylaw16.RelayJoins'. -/
def relayJoinsCard : Claim7 := { stood := { row := relayJoinsRow, standIns := [], harness := (true, "ca7062eab4ca7ee56b854f24efa7a2dab44b86687345a008159fcfd3135798e2"), looks := false }, kinds := [], alts := [], laidByText := true, laidKinds := [.data, .pinned], laidTests := true, laidLooks := .later }
def RelayJoinsCardSaid : Prop := Claim7.holds Tryz.pinned (.plain (OpenSpec.ofChange relayJoinsSpec)) relayJoinsCard

/-- THE TIED CARD OF 'lectionarylaw16.RelayAsks'. -/
def relayAsksCard : Claim7 := { stood := { row := relayAsksRow, standIns := [], harness := (true, "ca7062eab4ca7ee56b854f24efa7a2dab44b86687345a008159fcfd3135798e2"), looks := false }, kinds := [], alts := [], laidByText := true, laidKinds := [.data, .pinned], laidTests := true, laidLooks := .later }
def RelayAsksCardSaid : Prop := Claim7.holds Tryz.pinned (.plain (OpenSpec.ofChange relayAsksSpec)) relayAsksCard

/-- THE TIED CARD OF 'lectionarylaw16.RelaySubmits'. -/
def relaySubmitsCard : Claim7 := { stood := { row := relaySubmitsRow, standIns := [], harness := (true, "ca7062eab4ca7ee56b854f24efa7a2dab44b86687345a008159fcfd3135798e2"), looks := false }, kinds := [], alts := [], laidByText := true, laidKinds := [.data, .pinned], laidTests := true, laidLooks := .later }
def RelaySubmitsCardSaid : Prop := Claim7.holds Tryz.pinned (.plain (OpenSpec.ofChange relaySubmitsSpec)) relaySubmitsCard

/-- THE TIED CARD OF 'lectionarylaw16.RelayCrashes'. -/
def relayCrashesCard : Claim7 := { stood := { row := relayCrashesRow, standIns := [], harness := (true, "ca7062eab4ca7ee56b854f24efa7a2dab44b86687345a008159fcfd3135798e2"), looks := false }, kinds := [], alts := [], laidByText := true, laidKinds := [.data, .pinned], laidTests := true, laidLooks := .later }
def RelayCrashesCardSaid : Prop := Claim7.holds Tryz.pinned (.plain (OpenSpec.ofChange relayCrashesSpec)) relayCrashesCard

/-- THE SECOND FORM's CARD OF 'lectionarylaw16.RelayOnce'. -/
def relayOnceUptoCard : Claim7 := { stood := { row := relayOnceUptoRow, standIns := [], harness := (true, "ca7062eab4ca7ee56b854f24efa7a2dab44b86687345a008159fcfd3135798e2"), looks := false }, kinds := [], alts := [], laidByText := true, laidKinds := [.data, .pinned], laidTests := true, laidLooks := .later }
def RelayOnceUptoCardSaid : Prop := Claim7.holds Tryz.pinned (.plain (OpenSpec.upto relayOnceSpec)) relayOnceUptoCard

/-- THE SECOND FORM's CARD OF 'lectionarylaw16.OnceSubmits'. -/
def onceSubmitsUptoCard : Claim7 := { stood := { row := onceSubmitsUptoRow, standIns := [], harness := (true, "ca7062eab4ca7ee56b854f24efa7a2dab44b86687345a008159fcfd3135798e2"), looks := false }, kinds := [], alts := [], laidByText := true, laidKinds := [.data, .pinned], laidTests := true, laidLooks := .later }
def OnceSubmitsUptoCardSaid : Prop := Claim7.holds Tryz.pinned (.plain (OpenSpec.upto onceSubmitsSpec)) onceSubmitsUptoCard

/-- THE SECOND FORM's CARD OF 'lectionarylaw16.RelayFull'. -/
def relayFullUptoCard : Claim7 := { stood := { row := relayFullUptoRow, standIns := [], harness := (true, "ca7062eab4ca7ee56b854f24efa7a2dab44b86687345a008159fcfd3135798e2"), looks := false }, kinds := [], alts := [], laidByText := true, laidKinds := [.data, .pinned], laidTests := true, laidLooks := .later }
def RelayFullUptoCardSaid : Prop := Claim7.holds Tryz.pinned (.plain (OpenSpec.upto relayFullSpec)) relayFullUptoCard

/-- THE SECOND FORM's CARD OF 'lectionarylaw16.RelayForged'. -/
def relayForgedUptoCard : Claim7 := { stood := { row := relayForgedUptoRow, standIns := [], harness := (true, "ca7062eab4ca7ee56b854f24efa7a2dab44b86687345a008159fcfd3135798e2"), looks := false }, kinds := [], alts := [], laidByText := true, laidKinds := [.data, .pinned], laidTests := true, laidLooks := .later }
def RelayForgedUptoCardSaid : Prop := Claim7.holds Tryz.pinned (.plain (OpenSpec.upto relayForgedSpec)) relayForgedUptoCard

/-- THE SECOND FORM's CARD OF 'lectionarylaw16.RelayOpens'. -/
def relayOpensUptoCard : Claim7 := { stood := { row := relayOpensUptoRow, standIns := [], harness := (true, "ca7062eab4ca7ee56b854f24efa7a2dab44b86687345a008159fcfd3135798e2"), looks := false }, kinds := [], alts := [], laidByText := true, laidKinds := [.data, .pinned], laidTests := true, laidLooks := .later }
def RelayOpensUptoCardSaid : Prop := Claim7.holds Tryz.pinned (.plain (OpenSpec.upto relayOpensSpec)) relayOpensUptoCard

/-- THE SECOND FORM's CARD OF 'lectionarylaw16.RelayHalf'. -/
def relayHalfUptoCard : Claim7 := { stood := { row := relayHalfUptoRow, standIns := [], harness := (true, "ca7062eab4ca7ee56b854f24efa7a2dab44b86687345a008159fcfd3135798e2"), looks := false }, kinds := [], alts := [], laidByText := true, laidKinds := [.data, .pinned], laidTests := true, laidLooks := .later }
def RelayHalfUptoCardSaid : Prop := Claim7.holds Tryz.pinned (.plain (OpenSpec.upto relayHalfSpec)) relayHalfUptoCard

/-- THE SECOND FORM's CARD OF 'lectionarylaw16.HalfSubmits'. -/
def halfSubmitsUptoCard : Claim7 := { stood := { row := halfSubmitsUptoRow, standIns := [], harness := (true, "ca7062eab4ca7ee56b854f24efa7a2dab44b86687345a008159fcfd3135798e2"), looks := false }, kinds := [], alts := [], laidByText := true, laidKinds := [.data, .pinned], laidTests := true, laidLooks := .later }
def HalfSubmitsUptoCardSaid : Prop := Claim7.holds Tryz.pinned (.plain (OpenSpec.upto halfSubmitsSpec)) halfSubmitsUptoCard

/-- THE SECOND FORM's CARD OF 'lectionarylaw16.RelayExact'. -/
def relayExactUptoCard : Claim7 := { stood := { row := relayExactUptoRow, standIns := [], harness := (true, "ca7062eab4ca7ee56b854f24efa7a2dab44b86687345a008159fcfd3135798e2"), looks := false }, kinds := [], alts := [], laidByText := true, laidKinds := [.data, .pinned], laidTests := true, laidLooks := .later }
def RelayExactUptoCardSaid : Prop := Claim7.holds Tryz.pinned (.plain (OpenSpec.upto relayExactSpec)) relayExactUptoCard

/-- THE SECOND FORM's CARD OF 'lectionarylaw16.RelayJoins'. -/
def relayJoinsUptoCard : Claim7 := { stood := { row := relayJoinsUptoRow, standIns := [], harness := (true, "ca7062eab4ca7ee56b854f24efa7a2dab44b86687345a008159fcfd3135798e2"), looks := false }, kinds := [], alts := [], laidByText := true, laidKinds := [.data, .pinned], laidTests := true, laidLooks := .later }
def RelayJoinsUptoCardSaid : Prop := Claim7.holds Tryz.pinned (.plain (OpenSpec.upto relayJoinsSpec)) relayJoinsUptoCard

/-- THE SECOND FORM's CARD OF 'lectionarylaw16.RelayAsks'. -/
def relayAsksUptoCard : Claim7 := { stood := { row := relayAsksUptoRow, standIns := [], harness := (true, "ca7062eab4ca7ee56b854f24efa7a2dab44b86687345a008159fcfd3135798e2"), looks := false }, kinds := [], alts := [], laidByText := true, laidKinds := [.data, .pinned], laidTests := true, laidLooks := .later }
def RelayAsksUptoCardSaid : Prop := Claim7.holds Tryz.pinned (.plain (OpenSpec.upto relayAsksSpec)) relayAsksUptoCard

/-- THE SECOND FORM's CARD OF 'lectionarylaw16.RelaySubmits'. -/
def relaySubmitsUptoCard : Claim7 := { stood := { row := relaySubmitsUptoRow, standIns := [], harness := (true, "ca7062eab4ca7ee56b854f24efa7a2dab44b86687345a008159fcfd3135798e2"), looks := false }, kinds := [], alts := [], laidByText := true, laidKinds := [.data, .pinned], laidTests := true, laidLooks := .later }
def RelaySubmitsUptoCardSaid : Prop := Claim7.holds Tryz.pinned (.plain (OpenSpec.upto relaySubmitsSpec)) relaySubmitsUptoCard

/-- THE SECOND FORM's CARD OF 'lectionarylaw16.RelayCrashes'. -/
def relayCrashesUptoCard : Claim7 := { stood := { row := relayCrashesUptoRow, standIns := [], harness := (true, "ca7062eab4ca7ee56b854f24efa7a2dab44b86687345a008159fcfd3135798e2"), looks := false }, kinds := [], alts := [], laidByText := true, laidKinds := [.data, .pinned], laidTests := true, laidLooks := .later }
def RelayCrashesUptoCardSaid : Prop := Claim7.holds Tryz.pinned (.plain (OpenSpec.upto relayCrashesSpec)) relayCrashesUptoCard
end Rows
end Go.Proofs.YtfmcfhlfjepbkaaGreatDoor
