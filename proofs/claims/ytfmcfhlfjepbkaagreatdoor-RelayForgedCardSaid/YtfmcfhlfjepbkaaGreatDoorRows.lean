/-
  NARROWER THAN 'FOR EVERY INPUT', by the rows' own cells (each row's printed sentence says how): RelayOnce: laid · OnceSubmits: laid · RelayFull: laid · RelayForged: laid · RelayOpens: laid · RelayHalf: laid · HalfSubmits: laid · RelayExact: laid · RelayJoins: laid · RelayAsks: laid · RelaySubmits: laid · RelayCrashes: laid.
  DERIVED. THE GIVEN ROWS OF THIS SEAT. 12 by the template 'for every input the law returns true; each argument reads behind the call as it read before'; 0 by the template 'total and deterministic' (their statements: YtfmcfhlfjepbkaaGreatDoorTotals.lean).
  GIVEN WITH THE SEED: the statements are not yours to turn. If you find one false, say at which input.
  Laid BY PROGRAM, IN A SANDBOX (cutbox-rows.mjs): the forced cells as the released guide's own fill.sh prints them over the translation d3bb85c526c7253a… (all of the seat's roots in one cut). By AI agents, Wed Nov 11 2026. No macro, syntax, notation, axiom, sorry.
-/
import Derived.Test.YtfmcfhlfjepbkaaGreatDoorChecked
import GoSem.PinnedTables
import GoSem.Claim
import GoSem.ClaimJoined
import GoSem.ClaimMapViews
import Derived.JoinedTies
import Derived.KernelRfl
namespace Go.Proofs.YtfmcfhlfjepbkaaGreatDoor
/- THE CELL 'sum', in the pinned program and in every row, IS THE sha256 OF THE DUMP (.gsa) THAT YtfmcfhlfjepbkaaGreatDoorProg.lean LOADS. Nothing in Lean hashes anything: it is a label: what it is worth is what the hold of that sum in a sandbox is worth. -/
noncomputable def Tryz.pinned : Pinned := { name := "ytfmcfhlfjepbkaagreatdoor", sum := "d3bb85c526c7253a2a1aa190498a5c6f378c122a2b1cfdebc099bbe15b2decd9", checked := Tryz.checked }
namespace Rows
def none {H : Type} : Left H := { results := [], args := [] }

/- WHAT THE LISTED PACKAGE-LEVEL VARIABLES READ AS WHEN THE CALL BEGINS. Each datum BY PROGRAM (the guide's laid-datum.mjs) off the statement by which the dump's own 'gosem.cut.vars' lays the variable. In a bare row this is a premise. The card (YtfmcfhlfjepbkaaGreatDoorCards.lean) ties it to the program's text. -/
def laid_unicode_utf8_acceptRanges {H : Type} : DataW H := .agg [.agg [.lit (.int .u8 128), .lit (.int .u8 191)], .agg [.lit (.int .u8 160), .lit (.int .u8 191)], .agg [.lit (.int .u8 128), .lit (.int .u8 159)], .agg [.lit (.int .u8 144), .lit (.int .u8 191)], .agg [.lit (.int .u8 128), .lit (.int .u8 143)], .agg [.lit (.int .u8 0), .lit (.int .u8 0)], .agg [.lit (.int .u8 0), .lit (.int .u8 0)], .agg [.lit (.int .u8 0), .lit (.int .u8 0)], .agg [.lit (.int .u8 0), .lit (.int .u8 0)], .agg [.lit (.int .u8 0), .lit (.int .u8 0)], .agg [.lit (.int .u8 0), .lit (.int .u8 0)], .agg [.lit (.int .u8 0), .lit (.int .u8 0)], .agg [.lit (.int .u8 0), .lit (.int .u8 0)], .agg [.lit (.int .u8 0), .lit (.int .u8 0)], .agg [.lit (.int .u8 0), .lit (.int .u8 0)], .agg [.lit (.int .u8 0), .lit (.int .u8 0)]]
/-- One of Go's own tables, pinned by name: the form's constant. -/
def laid_unicode_utf8_first : DataW Unit := Go.Pinned.utf8First

/-- 'lectionarylaw16.RelayOnce': WHATEVER THE INPUT: true; the input reads as it did. -/
def relayOnceSpec : ChangeSpec := { name := "relayOnce", fn := fun _ => fun
  | [d] => { results := [.lit (.bool true)], args := [d] }
  | _ => none }
def relayOnceRow : OpenClaim := { program := "ytfmcfhlfjepbkaagreatdoor", sum := "d3bb85c526c7253a2a1aa190498a5c6f378c122a2b1cfdebc099bbe15b2decd9", func := "lectionary/lectionarylaw16.RelayOnce", spec := "relayOnce", inPlace := ["internal/abi.NoEscape", "internal/bytealg.MakeNoZero"], unfollowed := true, recurses := true, named := ["unicode/utf8.first", "unicode/utf8.acceptRanges"], plainKeys := false, apart := false, laid := [("unicode/utf8.acceptRanges", laid_unicode_utf8_acceptRanges), ("unicode/utf8.first", laid_unicode_utf8_first)] }
def RelayOnceSaid : Prop := relayOnceRow.holds Tryz.pinned (OpenSpec.ofChange relayOnceSpec)

/-- ITS FALSE NEIGHBOUR: 'it returns false'. Refute it at one input. -/
def relayOnceWrong : ChangeSpec := { name := "relayOnce", fn := fun _ => fun
  | [d] => { results := [.lit (.bool false)], args := [d] }
  | _ => none }
def RelayOnceWrongFalsely : Prop := relayOnceRow.holds Tryz.pinned (OpenSpec.ofChange relayOnceWrong)

/-- 'lectionarylaw16.OnceSubmits': WHATEVER THE INPUT: true; the input reads as it did. -/
def onceSubmitsSpec : ChangeSpec := { name := "onceSubmits", fn := fun _ => fun
  | [d] => { results := [.lit (.bool true)], args := [d] }
  | _ => none }
def onceSubmitsRow : OpenClaim := { program := "ytfmcfhlfjepbkaagreatdoor", sum := "d3bb85c526c7253a2a1aa190498a5c6f378c122a2b1cfdebc099bbe15b2decd9", func := "lectionary/lectionarylaw16.OnceSubmits", spec := "onceSubmits", inPlace := ["internal/abi.NoEscape", "internal/bytealg.MakeNoZero"], unfollowed := true, recurses := true, named := ["unicode/utf8.first", "unicode/utf8.acceptRanges"], plainKeys := false, apart := false, laid := [("unicode/utf8.acceptRanges", laid_unicode_utf8_acceptRanges), ("unicode/utf8.first", laid_unicode_utf8_first)] }
def OnceSubmitsSaid : Prop := onceSubmitsRow.holds Tryz.pinned (OpenSpec.ofChange onceSubmitsSpec)

/-- ITS FALSE NEIGHBOUR: 'it returns false'. Refute it at one input. -/
def onceSubmitsWrong : ChangeSpec := { name := "onceSubmits", fn := fun _ => fun
  | [d] => { results := [.lit (.bool false)], args := [d] }
  | _ => none }
def OnceSubmitsWrongFalsely : Prop := onceSubmitsRow.holds Tryz.pinned (OpenSpec.ofChange onceSubmitsWrong)

/-- 'lectionarylaw16.RelayFull': WHATEVER THE INPUT: true; the input reads as it did. -/
def relayFullSpec : ChangeSpec := { name := "relayFull", fn := fun _ => fun
  | [d] => { results := [.lit (.bool true)], args := [d] }
  | _ => none }
def relayFullRow : OpenClaim := { program := "ytfmcfhlfjepbkaagreatdoor", sum := "d3bb85c526c7253a2a1aa190498a5c6f378c122a2b1cfdebc099bbe15b2decd9", func := "lectionary/lectionarylaw16.RelayFull", spec := "relayFull", inPlace := ["internal/abi.NoEscape", "internal/bytealg.MakeNoZero"], unfollowed := true, recurses := true, named := ["unicode/utf8.first", "unicode/utf8.acceptRanges"], plainKeys := false, apart := false, laid := [("unicode/utf8.acceptRanges", laid_unicode_utf8_acceptRanges), ("unicode/utf8.first", laid_unicode_utf8_first)] }
def RelayFullSaid : Prop := relayFullRow.holds Tryz.pinned (OpenSpec.ofChange relayFullSpec)

/-- ITS FALSE NEIGHBOUR: 'it returns false'. Refute it at one input. -/
def relayFullWrong : ChangeSpec := { name := "relayFull", fn := fun _ => fun
  | [d] => { results := [.lit (.bool false)], args := [d] }
  | _ => none }
def RelayFullWrongFalsely : Prop := relayFullRow.holds Tryz.pinned (OpenSpec.ofChange relayFullWrong)

/-- 'lectionarylaw16.RelayForged': WHATEVER THE INPUT: true; the input reads as it did. -/
def relayForgedSpec : ChangeSpec := { name := "relayForged", fn := fun _ => fun
  | [d] => { results := [.lit (.bool true)], args := [d] }
  | _ => none }
def relayForgedRow : OpenClaim := { program := "ytfmcfhlfjepbkaagreatdoor", sum := "d3bb85c526c7253a2a1aa190498a5c6f378c122a2b1cfdebc099bbe15b2decd9", func := "lectionary/lectionarylaw16.RelayForged", spec := "relayForged", inPlace := ["internal/abi.NoEscape", "internal/bytealg.MakeNoZero"], unfollowed := true, recurses := true, named := ["unicode/utf8.first", "unicode/utf8.acceptRanges"], plainKeys := false, apart := false, laid := [("unicode/utf8.acceptRanges", laid_unicode_utf8_acceptRanges), ("unicode/utf8.first", laid_unicode_utf8_first)] }
def RelayForgedSaid : Prop := relayForgedRow.holds Tryz.pinned (OpenSpec.ofChange relayForgedSpec)

/-- ITS FALSE NEIGHBOUR: 'it returns false'. Refute it at one input. -/
def relayForgedWrong : ChangeSpec := { name := "relayForged", fn := fun _ => fun
  | [d] => { results := [.lit (.bool false)], args := [d] }
  | _ => none }
def RelayForgedWrongFalsely : Prop := relayForgedRow.holds Tryz.pinned (OpenSpec.ofChange relayForgedWrong)

/-- 'lectionarylaw16.RelayOpens': WHATEVER THE INPUT: true; the input reads as it did. -/
def relayOpensSpec : ChangeSpec := { name := "relayOpens", fn := fun _ => fun
  | [d] => { results := [.lit (.bool true)], args := [d] }
  | _ => none }
def relayOpensRow : OpenClaim := { program := "ytfmcfhlfjepbkaagreatdoor", sum := "d3bb85c526c7253a2a1aa190498a5c6f378c122a2b1cfdebc099bbe15b2decd9", func := "lectionary/lectionarylaw16.RelayOpens", spec := "relayOpens", inPlace := ["internal/abi.NoEscape", "internal/bytealg.MakeNoZero"], unfollowed := true, recurses := true, named := ["unicode/utf8.first", "unicode/utf8.acceptRanges"], plainKeys := false, apart := false, laid := [("unicode/utf8.acceptRanges", laid_unicode_utf8_acceptRanges), ("unicode/utf8.first", laid_unicode_utf8_first)] }
def RelayOpensSaid : Prop := relayOpensRow.holds Tryz.pinned (OpenSpec.ofChange relayOpensSpec)

/-- ITS FALSE NEIGHBOUR: 'it returns false'. Refute it at one input. -/
def relayOpensWrong : ChangeSpec := { name := "relayOpens", fn := fun _ => fun
  | [d] => { results := [.lit (.bool false)], args := [d] }
  | _ => none }
def RelayOpensWrongFalsely : Prop := relayOpensRow.holds Tryz.pinned (OpenSpec.ofChange relayOpensWrong)

/-- 'lectionarylaw16.RelayHalf': WHATEVER THE INPUT: true; the input reads as it did. -/
def relayHalfSpec : ChangeSpec := { name := "relayHalf", fn := fun _ => fun
  | [d] => { results := [.lit (.bool true)], args := [d] }
  | _ => none }
def relayHalfRow : OpenClaim := { program := "ytfmcfhlfjepbkaagreatdoor", sum := "d3bb85c526c7253a2a1aa190498a5c6f378c122a2b1cfdebc099bbe15b2decd9", func := "lectionary/lectionarylaw16.RelayHalf", spec := "relayHalf", inPlace := ["internal/abi.NoEscape", "internal/bytealg.MakeNoZero"], unfollowed := true, recurses := true, named := ["unicode/utf8.first", "unicode/utf8.acceptRanges"], plainKeys := false, apart := false, laid := [("unicode/utf8.acceptRanges", laid_unicode_utf8_acceptRanges), ("unicode/utf8.first", laid_unicode_utf8_first)] }
def RelayHalfSaid : Prop := relayHalfRow.holds Tryz.pinned (OpenSpec.ofChange relayHalfSpec)

/-- ITS FALSE NEIGHBOUR: 'it returns false'. Refute it at one input. -/
def relayHalfWrong : ChangeSpec := { name := "relayHalf", fn := fun _ => fun
  | [d] => { results := [.lit (.bool false)], args := [d] }
  | _ => none }
def RelayHalfWrongFalsely : Prop := relayHalfRow.holds Tryz.pinned (OpenSpec.ofChange relayHalfWrong)

/-- 'lectionarylaw16.HalfSubmits': WHATEVER THE INPUT: true; the input reads as it did. -/
def halfSubmitsSpec : ChangeSpec := { name := "halfSubmits", fn := fun _ => fun
  | [d] => { results := [.lit (.bool true)], args := [d] }
  | _ => none }
def halfSubmitsRow : OpenClaim := { program := "ytfmcfhlfjepbkaagreatdoor", sum := "d3bb85c526c7253a2a1aa190498a5c6f378c122a2b1cfdebc099bbe15b2decd9", func := "lectionary/lectionarylaw16.HalfSubmits", spec := "halfSubmits", inPlace := ["internal/abi.NoEscape", "internal/bytealg.MakeNoZero"], unfollowed := true, recurses := true, named := ["unicode/utf8.first", "unicode/utf8.acceptRanges"], plainKeys := false, apart := false, laid := [("unicode/utf8.acceptRanges", laid_unicode_utf8_acceptRanges), ("unicode/utf8.first", laid_unicode_utf8_first)] }
def HalfSubmitsSaid : Prop := halfSubmitsRow.holds Tryz.pinned (OpenSpec.ofChange halfSubmitsSpec)

/-- ITS FALSE NEIGHBOUR: 'it returns false'. Refute it at one input. -/
def halfSubmitsWrong : ChangeSpec := { name := "halfSubmits", fn := fun _ => fun
  | [d] => { results := [.lit (.bool false)], args := [d] }
  | _ => none }
def HalfSubmitsWrongFalsely : Prop := halfSubmitsRow.holds Tryz.pinned (OpenSpec.ofChange halfSubmitsWrong)

/-- 'lectionarylaw16.RelayExact': WHATEVER THE INPUT: true; the input reads as it did. -/
def relayExactSpec : ChangeSpec := { name := "relayExact", fn := fun _ => fun
  | [d] => { results := [.lit (.bool true)], args := [d] }
  | _ => none }
def relayExactRow : OpenClaim := { program := "ytfmcfhlfjepbkaagreatdoor", sum := "d3bb85c526c7253a2a1aa190498a5c6f378c122a2b1cfdebc099bbe15b2decd9", func := "lectionary/lectionarylaw16.RelayExact", spec := "relayExact", inPlace := ["internal/abi.NoEscape", "internal/bytealg.MakeNoZero"], unfollowed := true, recurses := true, named := ["unicode/utf8.first", "unicode/utf8.acceptRanges"], plainKeys := false, apart := false, laid := [("unicode/utf8.acceptRanges", laid_unicode_utf8_acceptRanges), ("unicode/utf8.first", laid_unicode_utf8_first)] }
def RelayExactSaid : Prop := relayExactRow.holds Tryz.pinned (OpenSpec.ofChange relayExactSpec)

/-- ITS FALSE NEIGHBOUR: 'it returns false'. Refute it at one input. -/
def relayExactWrong : ChangeSpec := { name := "relayExact", fn := fun _ => fun
  | [d] => { results := [.lit (.bool false)], args := [d] }
  | _ => none }
def RelayExactWrongFalsely : Prop := relayExactRow.holds Tryz.pinned (OpenSpec.ofChange relayExactWrong)

/-- 'lectionarylaw16.RelayJoins': WHATEVER THE INPUT: true; the input reads as it did. -/
def relayJoinsSpec : ChangeSpec := { name := "relayJoins", fn := fun _ => fun
  | [d] => { results := [.lit (.bool true)], args := [d] }
  | _ => none }
def relayJoinsRow : OpenClaim := { program := "ytfmcfhlfjepbkaagreatdoor", sum := "d3bb85c526c7253a2a1aa190498a5c6f378c122a2b1cfdebc099bbe15b2decd9", func := "lectionary/lectionarylaw16.RelayJoins", spec := "relayJoins", inPlace := ["internal/abi.NoEscape", "internal/bytealg.MakeNoZero"], unfollowed := true, recurses := true, named := ["unicode/utf8.first", "unicode/utf8.acceptRanges"], plainKeys := false, apart := false, laid := [("unicode/utf8.acceptRanges", laid_unicode_utf8_acceptRanges), ("unicode/utf8.first", laid_unicode_utf8_first)] }
def RelayJoinsSaid : Prop := relayJoinsRow.holds Tryz.pinned (OpenSpec.ofChange relayJoinsSpec)

/-- ITS FALSE NEIGHBOUR: 'it returns false'. Refute it at one input. -/
def relayJoinsWrong : ChangeSpec := { name := "relayJoins", fn := fun _ => fun
  | [d] => { results := [.lit (.bool false)], args := [d] }
  | _ => none }
def RelayJoinsWrongFalsely : Prop := relayJoinsRow.holds Tryz.pinned (OpenSpec.ofChange relayJoinsWrong)

/-- 'lectionarylaw16.RelayAsks': WHATEVER THE INPUT: true; the input reads as it did. -/
def relayAsksSpec : ChangeSpec := { name := "relayAsks", fn := fun _ => fun
  | [d] => { results := [.lit (.bool true)], args := [d] }
  | _ => none }
def relayAsksRow : OpenClaim := { program := "ytfmcfhlfjepbkaagreatdoor", sum := "d3bb85c526c7253a2a1aa190498a5c6f378c122a2b1cfdebc099bbe15b2decd9", func := "lectionary/lectionarylaw16.RelayAsks", spec := "relayAsks", inPlace := ["internal/abi.NoEscape", "internal/bytealg.MakeNoZero"], unfollowed := true, recurses := true, named := ["unicode/utf8.first", "unicode/utf8.acceptRanges"], plainKeys := false, apart := false, laid := [("unicode/utf8.acceptRanges", laid_unicode_utf8_acceptRanges), ("unicode/utf8.first", laid_unicode_utf8_first)] }
def RelayAsksSaid : Prop := relayAsksRow.holds Tryz.pinned (OpenSpec.ofChange relayAsksSpec)

/-- ITS FALSE NEIGHBOUR: 'it returns false'. Refute it at one input. -/
def relayAsksWrong : ChangeSpec := { name := "relayAsks", fn := fun _ => fun
  | [d] => { results := [.lit (.bool false)], args := [d] }
  | _ => none }
def RelayAsksWrongFalsely : Prop := relayAsksRow.holds Tryz.pinned (OpenSpec.ofChange relayAsksWrong)

/-- 'lectionarylaw16.RelaySubmits': WHATEVER THE INPUT: true; the input reads as it did. -/
def relaySubmitsSpec : ChangeSpec := { name := "relaySubmits", fn := fun _ => fun
  | [d] => { results := [.lit (.bool true)], args := [d] }
  | _ => none }
def relaySubmitsRow : OpenClaim := { program := "ytfmcfhlfjepbkaagreatdoor", sum := "d3bb85c526c7253a2a1aa190498a5c6f378c122a2b1cfdebc099bbe15b2decd9", func := "lectionary/lectionarylaw16.RelaySubmits", spec := "relaySubmits", inPlace := ["internal/abi.NoEscape", "internal/bytealg.MakeNoZero"], unfollowed := true, recurses := true, named := ["unicode/utf8.first", "unicode/utf8.acceptRanges"], plainKeys := false, apart := false, laid := [("unicode/utf8.acceptRanges", laid_unicode_utf8_acceptRanges), ("unicode/utf8.first", laid_unicode_utf8_first)] }
def RelaySubmitsSaid : Prop := relaySubmitsRow.holds Tryz.pinned (OpenSpec.ofChange relaySubmitsSpec)

/-- ITS FALSE NEIGHBOUR: 'it returns false'. Refute it at one input. -/
def relaySubmitsWrong : ChangeSpec := { name := "relaySubmits", fn := fun _ => fun
  | [d] => { results := [.lit (.bool false)], args := [d] }
  | _ => none }
def RelaySubmitsWrongFalsely : Prop := relaySubmitsRow.holds Tryz.pinned (OpenSpec.ofChange relaySubmitsWrong)

/-- 'lectionarylaw16.RelayCrashes': WHATEVER THE INPUT: true; the input reads as it did. -/
def relayCrashesSpec : ChangeSpec := { name := "relayCrashes", fn := fun _ => fun
  | [d] => { results := [.lit (.bool true)], args := [d] }
  | _ => none }
def relayCrashesRow : OpenClaim := { program := "ytfmcfhlfjepbkaagreatdoor", sum := "d3bb85c526c7253a2a1aa190498a5c6f378c122a2b1cfdebc099bbe15b2decd9", func := "lectionary/lectionarylaw16.RelayCrashes", spec := "relayCrashes", inPlace := ["internal/abi.NoEscape", "internal/bytealg.MakeNoZero"], unfollowed := true, recurses := true, named := ["unicode/utf8.first", "unicode/utf8.acceptRanges"], plainKeys := false, apart := false, laid := [("unicode/utf8.acceptRanges", laid_unicode_utf8_acceptRanges), ("unicode/utf8.first", laid_unicode_utf8_first)] }
def RelayCrashesSaid : Prop := relayCrashesRow.holds Tryz.pinned (OpenSpec.ofChange relayCrashesSpec)

/-- ITS FALSE NEIGHBOUR: 'it returns false'. Refute it at one input. -/
def relayCrashesWrong : ChangeSpec := { name := "relayCrashes", fn := fun _ => fun
  | [d] => { results := [.lit (.bool false)], args := [d] }
  | _ => none }
def RelayCrashesWrongFalsely : Prop := relayCrashesRow.holds Tryz.pinned (OpenSpec.ofChange relayCrashesWrong)

/- THE SECOND FORM. 'bulk': how many values and letters a reading holds, each counted each time it is reached (what is shared counts as often as it is met; a slice's spare places count too). A statement '..UptoSaid' is the law's where the arguments, and the package variables that the reading takes, are together of bulk at most 1048576: NARROWER than '..Said'. Prove '..Said' where nothing that the law and all that it calls make is longer than what came in: it says more and counts as full. Else prove '..UptoSaid'. A law counts once. -/
mutual
def uptoBulk {H : Type} : DataW H → Nat
  | .lit (.string bytes) => bytes.length + 1
  | .lit _ => 1
  | .nil => 1
  | .ptr d => uptoBulk d + 1
  | .slice elems spare => uptoBulkAll elems + uptoBulkAll spare + 1
  | .agg parts => uptoBulkAll parts + 1
  | .iface _ d => uptoBulk d + 1
  | .map entries => uptoBulkEntries entries + 1
  | .held _ => 1
def uptoBulkAll {H : Type} : List (DataW H) → Nat
  | [] => 0
  | d :: r => uptoBulk d + uptoBulkAll r
def uptoBulkEntries {H : Type} : List (Lit × DataW H) → Nat
  | [] => 0
  | x :: r => uptoBulkEntry x + uptoBulkEntries r
def uptoBulkEntry {H : Type} : Lit × DataW H → Nat
  | (.string bytes, d) => bytes.length + uptoBulk d + 1
  | (_, d) => uptoBulk d + 1
 end
def uptoSmall : (H : Type) → List (DataW H) → Bool := fun _ ds => decide (uptoBulkAll ds ≤ 1048576)
def OpenSpec.upto (s : _root_.Go.ChangeSpec) : _root_.Go.OpenSpec := { _root_.Go.OpenSpec.ofChange s with cond := some uptoSmall }

/-- 'lectionarylaw16.RelayOnce', WHERE WHAT IT READS IS OF BULK AT MOST 1048576: true; the input reads as it did. -/
def relayOnceUptoRow : OpenClaim := { program := "ytfmcfhlfjepbkaagreatdoor", sum := "d3bb85c526c7253a2a1aa190498a5c6f378c122a2b1cfdebc099bbe15b2decd9", func := "lectionary/lectionarylaw16.RelayOnce", spec := "relayOnce", inPlace := ["internal/abi.NoEscape", "internal/bytealg.MakeNoZero"], unfollowed := true, recurses := true, named := ["unicode/utf8.first", "unicode/utf8.acceptRanges"], plainKeys := false, apart := false, laid := [("unicode/utf8.acceptRanges", laid_unicode_utf8_acceptRanges), ("unicode/utf8.first", laid_unicode_utf8_first)], narrowed := true }
def RelayOnceUptoSaid : Prop := relayOnceUptoRow.holds Tryz.pinned (OpenSpec.upto relayOnceSpec)

/-- 'lectionarylaw16.OnceSubmits', WHERE WHAT IT READS IS OF BULK AT MOST 1048576: true; the input reads as it did. -/
def onceSubmitsUptoRow : OpenClaim := { program := "ytfmcfhlfjepbkaagreatdoor", sum := "d3bb85c526c7253a2a1aa190498a5c6f378c122a2b1cfdebc099bbe15b2decd9", func := "lectionary/lectionarylaw16.OnceSubmits", spec := "onceSubmits", inPlace := ["internal/abi.NoEscape", "internal/bytealg.MakeNoZero"], unfollowed := true, recurses := true, named := ["unicode/utf8.first", "unicode/utf8.acceptRanges"], plainKeys := false, apart := false, laid := [("unicode/utf8.acceptRanges", laid_unicode_utf8_acceptRanges), ("unicode/utf8.first", laid_unicode_utf8_first)], narrowed := true }
def OnceSubmitsUptoSaid : Prop := onceSubmitsUptoRow.holds Tryz.pinned (OpenSpec.upto onceSubmitsSpec)

/-- 'lectionarylaw16.RelayFull', WHERE WHAT IT READS IS OF BULK AT MOST 1048576: true; the input reads as it did. -/
def relayFullUptoRow : OpenClaim := { program := "ytfmcfhlfjepbkaagreatdoor", sum := "d3bb85c526c7253a2a1aa190498a5c6f378c122a2b1cfdebc099bbe15b2decd9", func := "lectionary/lectionarylaw16.RelayFull", spec := "relayFull", inPlace := ["internal/abi.NoEscape", "internal/bytealg.MakeNoZero"], unfollowed := true, recurses := true, named := ["unicode/utf8.first", "unicode/utf8.acceptRanges"], plainKeys := false, apart := false, laid := [("unicode/utf8.acceptRanges", laid_unicode_utf8_acceptRanges), ("unicode/utf8.first", laid_unicode_utf8_first)], narrowed := true }
def RelayFullUptoSaid : Prop := relayFullUptoRow.holds Tryz.pinned (OpenSpec.upto relayFullSpec)

/-- 'lectionarylaw16.RelayForged', WHERE WHAT IT READS IS OF BULK AT MOST 1048576: true; the input reads as it did. -/
def relayForgedUptoRow : OpenClaim := { program := "ytfmcfhlfjepbkaagreatdoor", sum := "d3bb85c526c7253a2a1aa190498a5c6f378c122a2b1cfdebc099bbe15b2decd9", func := "lectionary/lectionarylaw16.RelayForged", spec := "relayForged", inPlace := ["internal/abi.NoEscape", "internal/bytealg.MakeNoZero"], unfollowed := true, recurses := true, named := ["unicode/utf8.first", "unicode/utf8.acceptRanges"], plainKeys := false, apart := false, laid := [("unicode/utf8.acceptRanges", laid_unicode_utf8_acceptRanges), ("unicode/utf8.first", laid_unicode_utf8_first)], narrowed := true }
def RelayForgedUptoSaid : Prop := relayForgedUptoRow.holds Tryz.pinned (OpenSpec.upto relayForgedSpec)

/-- 'lectionarylaw16.RelayOpens', WHERE WHAT IT READS IS OF BULK AT MOST 1048576: true; the input reads as it did. -/
def relayOpensUptoRow : OpenClaim := { program := "ytfmcfhlfjepbkaagreatdoor", sum := "d3bb85c526c7253a2a1aa190498a5c6f378c122a2b1cfdebc099bbe15b2decd9", func := "lectionary/lectionarylaw16.RelayOpens", spec := "relayOpens", inPlace := ["internal/abi.NoEscape", "internal/bytealg.MakeNoZero"], unfollowed := true, recurses := true, named := ["unicode/utf8.first", "unicode/utf8.acceptRanges"], plainKeys := false, apart := false, laid := [("unicode/utf8.acceptRanges", laid_unicode_utf8_acceptRanges), ("unicode/utf8.first", laid_unicode_utf8_first)], narrowed := true }
def RelayOpensUptoSaid : Prop := relayOpensUptoRow.holds Tryz.pinned (OpenSpec.upto relayOpensSpec)

/-- 'lectionarylaw16.RelayHalf', WHERE WHAT IT READS IS OF BULK AT MOST 1048576: true; the input reads as it did. -/
def relayHalfUptoRow : OpenClaim := { program := "ytfmcfhlfjepbkaagreatdoor", sum := "d3bb85c526c7253a2a1aa190498a5c6f378c122a2b1cfdebc099bbe15b2decd9", func := "lectionary/lectionarylaw16.RelayHalf", spec := "relayHalf", inPlace := ["internal/abi.NoEscape", "internal/bytealg.MakeNoZero"], unfollowed := true, recurses := true, named := ["unicode/utf8.first", "unicode/utf8.acceptRanges"], plainKeys := false, apart := false, laid := [("unicode/utf8.acceptRanges", laid_unicode_utf8_acceptRanges), ("unicode/utf8.first", laid_unicode_utf8_first)], narrowed := true }
def RelayHalfUptoSaid : Prop := relayHalfUptoRow.holds Tryz.pinned (OpenSpec.upto relayHalfSpec)

/-- 'lectionarylaw16.HalfSubmits', WHERE WHAT IT READS IS OF BULK AT MOST 1048576: true; the input reads as it did. -/
def halfSubmitsUptoRow : OpenClaim := { program := "ytfmcfhlfjepbkaagreatdoor", sum := "d3bb85c526c7253a2a1aa190498a5c6f378c122a2b1cfdebc099bbe15b2decd9", func := "lectionary/lectionarylaw16.HalfSubmits", spec := "halfSubmits", inPlace := ["internal/abi.NoEscape", "internal/bytealg.MakeNoZero"], unfollowed := true, recurses := true, named := ["unicode/utf8.first", "unicode/utf8.acceptRanges"], plainKeys := false, apart := false, laid := [("unicode/utf8.acceptRanges", laid_unicode_utf8_acceptRanges), ("unicode/utf8.first", laid_unicode_utf8_first)], narrowed := true }
def HalfSubmitsUptoSaid : Prop := halfSubmitsUptoRow.holds Tryz.pinned (OpenSpec.upto halfSubmitsSpec)

/-- 'lectionarylaw16.RelayExact', WHERE WHAT IT READS IS OF BULK AT MOST 1048576: true; the input reads as it did. -/
def relayExactUptoRow : OpenClaim := { program := "ytfmcfhlfjepbkaagreatdoor", sum := "d3bb85c526c7253a2a1aa190498a5c6f378c122a2b1cfdebc099bbe15b2decd9", func := "lectionary/lectionarylaw16.RelayExact", spec := "relayExact", inPlace := ["internal/abi.NoEscape", "internal/bytealg.MakeNoZero"], unfollowed := true, recurses := true, named := ["unicode/utf8.first", "unicode/utf8.acceptRanges"], plainKeys := false, apart := false, laid := [("unicode/utf8.acceptRanges", laid_unicode_utf8_acceptRanges), ("unicode/utf8.first", laid_unicode_utf8_first)], narrowed := true }
def RelayExactUptoSaid : Prop := relayExactUptoRow.holds Tryz.pinned (OpenSpec.upto relayExactSpec)

/-- 'lectionarylaw16.RelayJoins', WHERE WHAT IT READS IS OF BULK AT MOST 1048576: true; the input reads as it did. -/
def relayJoinsUptoRow : OpenClaim := { program := "ytfmcfhlfjepbkaagreatdoor", sum := "d3bb85c526c7253a2a1aa190498a5c6f378c122a2b1cfdebc099bbe15b2decd9", func := "lectionary/lectionarylaw16.RelayJoins", spec := "relayJoins", inPlace := ["internal/abi.NoEscape", "internal/bytealg.MakeNoZero"], unfollowed := true, recurses := true, named := ["unicode/utf8.first", "unicode/utf8.acceptRanges"], plainKeys := false, apart := false, laid := [("unicode/utf8.acceptRanges", laid_unicode_utf8_acceptRanges), ("unicode/utf8.first", laid_unicode_utf8_first)], narrowed := true }
def RelayJoinsUptoSaid : Prop := relayJoinsUptoRow.holds Tryz.pinned (OpenSpec.upto relayJoinsSpec)

/-- 'lectionarylaw16.RelayAsks', WHERE WHAT IT READS IS OF BULK AT MOST 1048576: true; the input reads as it did. -/
def relayAsksUptoRow : OpenClaim := { program := "ytfmcfhlfjepbkaagreatdoor", sum := "d3bb85c526c7253a2a1aa190498a5c6f378c122a2b1cfdebc099bbe15b2decd9", func := "lectionary/lectionarylaw16.RelayAsks", spec := "relayAsks", inPlace := ["internal/abi.NoEscape", "internal/bytealg.MakeNoZero"], unfollowed := true, recurses := true, named := ["unicode/utf8.first", "unicode/utf8.acceptRanges"], plainKeys := false, apart := false, laid := [("unicode/utf8.acceptRanges", laid_unicode_utf8_acceptRanges), ("unicode/utf8.first", laid_unicode_utf8_first)], narrowed := true }
def RelayAsksUptoSaid : Prop := relayAsksUptoRow.holds Tryz.pinned (OpenSpec.upto relayAsksSpec)

/-- 'lectionarylaw16.RelaySubmits', WHERE WHAT IT READS IS OF BULK AT MOST 1048576: true; the input reads as it did. -/
def relaySubmitsUptoRow : OpenClaim := { program := "ytfmcfhlfjepbkaagreatdoor", sum := "d3bb85c526c7253a2a1aa190498a5c6f378c122a2b1cfdebc099bbe15b2decd9", func := "lectionary/lectionarylaw16.RelaySubmits", spec := "relaySubmits", inPlace := ["internal/abi.NoEscape", "internal/bytealg.MakeNoZero"], unfollowed := true, recurses := true, named := ["unicode/utf8.first", "unicode/utf8.acceptRanges"], plainKeys := false, apart := false, laid := [("unicode/utf8.acceptRanges", laid_unicode_utf8_acceptRanges), ("unicode/utf8.first", laid_unicode_utf8_first)], narrowed := true }
def RelaySubmitsUptoSaid : Prop := relaySubmitsUptoRow.holds Tryz.pinned (OpenSpec.upto relaySubmitsSpec)

/-- 'lectionarylaw16.RelayCrashes', WHERE WHAT IT READS IS OF BULK AT MOST 1048576: true; the input reads as it did. -/
def relayCrashesUptoRow : OpenClaim := { program := "ytfmcfhlfjepbkaagreatdoor", sum := "d3bb85c526c7253a2a1aa190498a5c6f378c122a2b1cfdebc099bbe15b2decd9", func := "lectionary/lectionarylaw16.RelayCrashes", spec := "relayCrashes", inPlace := ["internal/abi.NoEscape", "internal/bytealg.MakeNoZero"], unfollowed := true, recurses := true, named := ["unicode/utf8.first", "unicode/utf8.acceptRanges"], plainKeys := false, apart := false, laid := [("unicode/utf8.acceptRanges", laid_unicode_utf8_acceptRanges), ("unicode/utf8.first", laid_unicode_utf8_first)], narrowed := true }
def RelayCrashesUptoSaid : Prop := relayCrashesUptoRow.holds Tryz.pinned (OpenSpec.upto relayCrashesSpec)

end Rows
end Go.Proofs.YtfmcfhlfjepbkaaGreatDoor
