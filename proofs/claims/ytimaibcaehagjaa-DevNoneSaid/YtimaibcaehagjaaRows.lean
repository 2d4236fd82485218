/-
  No cell of these rows narrows 'for every input' (looked for: loops, veiled, ifaces, maps, wideKeys, modest, calm, conditions, laid).
  DERIVED. THE GIVEN ROWS OF THIS SEAT. 12 by the template 'for every input the law returns true; each argument reads behind the call as it read before'; 0 by the template 'total and deterministic' (their statements: YtimaibcaehagjaaTotals.lean).
  GIVEN WITH THE SEED: the statements are not yours to turn. If you find one false, say at which input.
  Laid BY PROGRAM, IN A SANDBOX (cutbox-rows.mjs): the forced cells as the released guide's own fill.sh prints them over the translation bb2cc9fb2c06b8b7… (all of the seat's roots in one cut). By AI agents, Wed Nov 11 2026. No macro, syntax, notation, axiom, sorry.
-/
import Derived.Test.YtimaibcaehagjaaChecked
import GoSem.Claim
import GoSem.ClaimJoined
import GoSem.ClaimMapViews
import Derived.JoinedTies
import Derived.KernelRfl
namespace Go.Proofs.Ytimaibcaehagjaa
/- THE CELL 'sum', in the pinned program and in every row, IS THE sha256 OF THE DUMP (.gsa) THAT YtimaibcaehagjaaProg.lean LOADS. Nothing in Lean hashes anything: it is a label: what it is worth is what the hold of that sum in a sandbox is worth. -/
noncomputable def Try.pinned : Pinned := { name := "ytimaibcaehagjaa", sum := "bb2cc9fb2c06b8b77d9f152467bc4ca79a57c43f626933110dbf3518eb042c25", checked := Try.checked }
namespace Rows
def none {H : Type} : Left H := { results := [], args := [] }

/-- 'offshootlaw09.TxLater': WHATEVER THE INPUT: true; the input reads as it did. -/
def txLaterSpec : ChangeSpec := { name := "txLater", fn := fun _ => fun
  | [d1, d2] => { results := [.lit (.bool true)], args := [d1, d2] }
  | _ => none }
def txLaterRow : OpenClaim := { program := "ytimaibcaehagjaa", sum := "bb2cc9fb2c06b8b77d9f152467bc4ca79a57c43f626933110dbf3518eb042c25", func := "offshoot/offshootlaw09.TxLater", spec := "txLater", unfollowed := true, recurses := true, apart := false }
def TxLaterSaid : Prop := txLaterRow.holds Try.pinned (OpenSpec.ofChange txLaterSpec)

/-- ITS FALSE NEIGHBOUR: 'it returns false'. Refute it at one input. -/
def txLaterWrong : ChangeSpec := { name := "txLater", fn := fun _ => fun
  | [d1, d2] => { results := [.lit (.bool false)], args := [d1, d2] }
  | _ => none }
def TxLaterWrongFalsely : Prop := txLaterRow.holds Try.pinned (OpenSpec.ofChange txLaterWrong)

/-- 'offshootlaw09.TxNone': WHATEVER THE INPUT: true; the input reads as it did. -/
def txNoneSpec : ChangeSpec := { name := "txNone", fn := fun _ => fun
  | [d1, d2] => { results := [.lit (.bool true)], args := [d1, d2] }
  | _ => none }
def txNoneRow : OpenClaim := { program := "ytimaibcaehagjaa", sum := "bb2cc9fb2c06b8b77d9f152467bc4ca79a57c43f626933110dbf3518eb042c25", func := "offshoot/offshootlaw09.TxNone", spec := "txNone", inPlace := ["maps.clone"], unfollowed := true, recurses := true, apart := false }
def TxNoneSaid : Prop := txNoneRow.holds Try.pinned (OpenSpec.ofChange txNoneSpec)

/-- ITS FALSE NEIGHBOUR: 'it returns false'. Refute it at one input. -/
def txNoneWrong : ChangeSpec := { name := "txNone", fn := fun _ => fun
  | [d1, d2] => { results := [.lit (.bool false)], args := [d1, d2] }
  | _ => none }
def TxNoneWrongFalsely : Prop := txNoneRow.holds Try.pinned (OpenSpec.ofChange txNoneWrong)

/-- 'offshootlaw03.DevSure': WHATEVER THE INPUT: true; the input reads as it did. -/
def devSureSpec : ChangeSpec := { name := "devSure", fn := fun _ => fun
  | [d1, d2, d3] => { results := [.lit (.bool true)], args := [d1, d2, d3] }
  | _ => none }
def devSureRow : OpenClaim := { program := "ytimaibcaehagjaa", sum := "bb2cc9fb2c06b8b77d9f152467bc4ca79a57c43f626933110dbf3518eb042c25", func := "offshoot/offshootlaw03.DevSure", spec := "devSure", inPlace := ["internal/abi.NoEscape", "internal/bytealg.MakeNoZero"], unfollowed := true, recurses := true, apart := false }
def DevSureSaid : Prop := devSureRow.holds Try.pinned (OpenSpec.ofChange devSureSpec)

/-- ITS FALSE NEIGHBOUR: 'it returns false'. Refute it at one input. -/
def devSureWrong : ChangeSpec := { name := "devSure", fn := fun _ => fun
  | [d1, d2, d3] => { results := [.lit (.bool false)], args := [d1, d2, d3] }
  | _ => none }
def DevSureWrongFalsely : Prop := devSureRow.holds Try.pinned (OpenSpec.ofChange devSureWrong)

/-- 'offshootlaw03.DevTorn': WHATEVER THE INPUT: true; the input reads as it did. -/
def devTornSpec : ChangeSpec := { name := "devTorn", fn := fun _ => fun
  | [d1, d2, d3] => { results := [.lit (.bool true)], args := [d1, d2, d3] }
  | _ => none }
def devTornRow : OpenClaim := { program := "ytimaibcaehagjaa", sum := "bb2cc9fb2c06b8b77d9f152467bc4ca79a57c43f626933110dbf3518eb042c25", func := "offshoot/offshootlaw03.DevTorn", spec := "devTorn", inPlace := ["internal/abi.NoEscape", "internal/bytealg.MakeNoZero"], unfollowed := true, recurses := true, apart := false }
def DevTornSaid : Prop := devTornRow.holds Try.pinned (OpenSpec.ofChange devTornSpec)

/-- ITS FALSE NEIGHBOUR: 'it returns false'. Refute it at one input. -/
def devTornWrong : ChangeSpec := { name := "devTorn", fn := fun _ => fun
  | [d1, d2, d3] => { results := [.lit (.bool false)], args := [d1, d2, d3] }
  | _ => none }
def DevTornWrongFalsely : Prop := devTornRow.holds Try.pinned (OpenSpec.ofChange devTornWrong)

/-- 'offshootlaw03.DevActs': WHATEVER THE INPUT: true; the input reads as it did. -/
def devActsSpec : ChangeSpec := { name := "devActs", fn := fun _ => fun
  | [d1, d2] => { results := [.lit (.bool true)], args := [d1, d2] }
  | _ => none }
def devActsRow : OpenClaim := { program := "ytimaibcaehagjaa", sum := "bb2cc9fb2c06b8b77d9f152467bc4ca79a57c43f626933110dbf3518eb042c25", func := "offshoot/offshootlaw03.DevActs", spec := "devActs", inPlace := ["internal/abi.NoEscape", "internal/bytealg.MakeNoZero"], unfollowed := true, recurses := true, apart := false }
def DevActsSaid : Prop := devActsRow.holds Try.pinned (OpenSpec.ofChange devActsSpec)

/-- ITS FALSE NEIGHBOUR: 'it returns false'. Refute it at one input. -/
def devActsWrong : ChangeSpec := { name := "devActs", fn := fun _ => fun
  | [d1, d2] => { results := [.lit (.bool false)], args := [d1, d2] }
  | _ => none }
def DevActsWrongFalsely : Prop := devActsRow.holds Try.pinned (OpenSpec.ofChange devActsWrong)

/-- 'offshootlaw03.DevMany': WHATEVER THE INPUT: true; the input reads as it did. -/
def devManySpec : ChangeSpec := { name := "devMany", fn := fun _ => fun
  | [d1, d2] => { results := [.lit (.bool true)], args := [d1, d2] }
  | _ => none }
def devManyRow : OpenClaim := { program := "ytimaibcaehagjaa", sum := "bb2cc9fb2c06b8b77d9f152467bc4ca79a57c43f626933110dbf3518eb042c25", func := "offshoot/offshootlaw03.DevMany", spec := "devMany", inPlace := ["internal/abi.NoEscape", "internal/bytealg.MakeNoZero"], unfollowed := true, recurses := true, apart := false }
def DevManySaid : Prop := devManyRow.holds Try.pinned (OpenSpec.ofChange devManySpec)

/-- ITS FALSE NEIGHBOUR: 'it returns false'. Refute it at one input. -/
def devManyWrong : ChangeSpec := { name := "devMany", fn := fun _ => fun
  | [d1, d2] => { results := [.lit (.bool false)], args := [d1, d2] }
  | _ => none }
def DevManyWrongFalsely : Prop := devManyRow.holds Try.pinned (OpenSpec.ofChange devManyWrong)

/-- 'offshootlaw03.DevNone': WHATEVER THE INPUT: true; the input reads as it did. -/
def devNoneSpec : ChangeSpec := { name := "devNone", fn := fun _ => fun
  | [d1, d2] => { results := [.lit (.bool true)], args := [d1, d2] }
  | _ => none }
def devNoneRow : OpenClaim := { program := "ytimaibcaehagjaa", sum := "bb2cc9fb2c06b8b77d9f152467bc4ca79a57c43f626933110dbf3518eb042c25", func := "offshoot/offshootlaw03.DevNone", spec := "devNone", inPlace := ["internal/abi.NoEscape", "internal/bytealg.MakeNoZero", "maps.clone"], unfollowed := true, recurses := true, apart := false }
def DevNoneSaid : Prop := devNoneRow.holds Try.pinned (OpenSpec.ofChange devNoneSpec)

/-- ITS FALSE NEIGHBOUR: 'it returns false'. Refute it at one input. -/
def devNoneWrong : ChangeSpec := { name := "devNone", fn := fun _ => fun
  | [d1, d2] => { results := [.lit (.bool false)], args := [d1, d2] }
  | _ => none }
def DevNoneWrongFalsely : Prop := devNoneRow.holds Try.pinned (OpenSpec.ofChange devNoneWrong)

/-- 'offshootlaw04.LogSectors': WHATEVER THE INPUT: true; the input reads as it did. -/
def logSectorsSpec : ChangeSpec := { name := "logSectors", fn := fun _ => fun
  | [d] => { results := [.lit (.bool true)], args := [d] }
  | _ => none }
def logSectorsRow : OpenClaim := { program := "ytimaibcaehagjaa", sum := "bb2cc9fb2c06b8b77d9f152467bc4ca79a57c43f626933110dbf3518eb042c25", func := "offshoot/offshootlaw04.LogSectors", spec := "logSectors", inPlace := ["internal/abi.NoEscape", "internal/bytealg.MakeNoZero"], unfollowed := true, recurses := true, apart := false }
def LogSectorsSaid : Prop := logSectorsRow.holds Try.pinned (OpenSpec.ofChange logSectorsSpec)

/-- ITS FALSE NEIGHBOUR: 'it returns false'. Refute it at one input. -/
def logSectorsWrong : ChangeSpec := { name := "logSectors", fn := fun _ => fun
  | [d] => { results := [.lit (.bool false)], args := [d] }
  | _ => none }
def LogSectorsWrongFalsely : Prop := logSectorsRow.holds Try.pinned (OpenSpec.ofChange logSectorsWrong)

/-- 'offshootlaw04.LogPlays': WHATEVER THE INPUT: true; the input reads as it did. -/
def logPlaysSpec : ChangeSpec := { name := "logPlays", fn := fun _ => fun
  | [d1, d2, d3] => { results := [.lit (.bool true)], args := [d1, d2, d3] }
  | _ => none }
def logPlaysRow : OpenClaim := { program := "ytimaibcaehagjaa", sum := "bb2cc9fb2c06b8b77d9f152467bc4ca79a57c43f626933110dbf3518eb042c25", func := "offshoot/offshootlaw04.LogPlays", spec := "logPlays", inPlace := ["internal/abi.NoEscape", "internal/bytealg.MakeNoZero"], unfollowed := true, recurses := true, apart := false }
def LogPlaysSaid : Prop := logPlaysRow.holds Try.pinned (OpenSpec.ofChange logPlaysSpec)

/-- ITS FALSE NEIGHBOUR: 'it returns false'. Refute it at one input. -/
def logPlaysWrong : ChangeSpec := { name := "logPlays", fn := fun _ => fun
  | [d1, d2, d3] => { results := [.lit (.bool false)], args := [d1, d2, d3] }
  | _ => none }
def LogPlaysWrongFalsely : Prop := logPlaysRow.holds Try.pinned (OpenSpec.ofChange logPlaysWrong)

/-- 'offshootlaw04.LogNone': WHATEVER THE INPUT: true; the input reads as it did. -/
def logNoneSpec : ChangeSpec := { name := "logNone", fn := fun _ => fun
  | [d1, d2, d3] => { results := [.lit (.bool true)], args := [d1, d2, d3] }
  | _ => none }
def logNoneRow : OpenClaim := { program := "ytimaibcaehagjaa", sum := "bb2cc9fb2c06b8b77d9f152467bc4ca79a57c43f626933110dbf3518eb042c25", func := "offshoot/offshootlaw04.LogNone", spec := "logNone", inPlace := ["internal/abi.NoEscape", "internal/bytealg.MakeNoZero"], unfollowed := true, recurses := true, apart := false }
def LogNoneSaid : Prop := logNoneRow.holds Try.pinned (OpenSpec.ofChange logNoneSpec)

/-- ITS FALSE NEIGHBOUR: 'it returns false'. Refute it at one input. -/
def logNoneWrong : ChangeSpec := { name := "logNone", fn := fun _ => fun
  | [d1, d2, d3] => { results := [.lit (.bool false)], args := [d1, d2, d3] }
  | _ => none }
def LogNoneWrongFalsely : Prop := logNoneRow.holds Try.pinned (OpenSpec.ofChange logNoneWrong)

/-- 'offshootlaw04.LogFalls': WHATEVER THE INPUT: true; the input reads as it did. -/
def logFallsSpec : ChangeSpec := { name := "logFalls", fn := fun _ => fun
  | [d1, d2, d3] => { results := [.lit (.bool true)], args := [d1, d2, d3] }
  | _ => none }
def logFallsRow : OpenClaim := { program := "ytimaibcaehagjaa", sum := "bb2cc9fb2c06b8b77d9f152467bc4ca79a57c43f626933110dbf3518eb042c25", func := "offshoot/offshootlaw04.LogFalls", spec := "logFalls", inPlace := ["internal/abi.NoEscape", "internal/bytealg.MakeNoZero"], unfollowed := true, recurses := true, apart := false }
def LogFallsSaid : Prop := logFallsRow.holds Try.pinned (OpenSpec.ofChange logFallsSpec)

/-- ITS FALSE NEIGHBOUR: 'it returns false'. Refute it at one input. -/
def logFallsWrong : ChangeSpec := { name := "logFalls", fn := fun _ => fun
  | [d1, d2, d3] => { results := [.lit (.bool false)], args := [d1, d2, d3] }
  | _ => none }
def LogFallsWrongFalsely : Prop := logFallsRow.holds Try.pinned (OpenSpec.ofChange logFallsWrong)

/-- 'offshootlaw04.LogForged': WHATEVER THE INPUT: true; the input reads as it did. -/
def logForgedSpec : ChangeSpec := { name := "logForged", fn := fun _ => fun
  | [d1, d2, d3] => { results := [.lit (.bool true)], args := [d1, d2, d3] }
  | _ => none }
def logForgedRow : OpenClaim := { program := "ytimaibcaehagjaa", sum := "bb2cc9fb2c06b8b77d9f152467bc4ca79a57c43f626933110dbf3518eb042c25", func := "offshoot/offshootlaw04.LogForged", spec := "logForged", inPlace := ["internal/abi.NoEscape", "internal/bytealg.MakeNoZero"], unfollowed := true, recurses := true, apart := false }
def LogForgedSaid : Prop := logForgedRow.holds Try.pinned (OpenSpec.ofChange logForgedSpec)

/-- ITS FALSE NEIGHBOUR: 'it returns false'. Refute it at one input. -/
def logForgedWrong : ChangeSpec := { name := "logForged", fn := fun _ => fun
  | [d1, d2, d3] => { results := [.lit (.bool false)], args := [d1, d2, d3] }
  | _ => none }
def LogForgedWrongFalsely : Prop := logForgedRow.holds Try.pinned (OpenSpec.ofChange logForgedWrong)

/- THE SECOND FORM. 'bulk': how many values and letters a reading holds, each counted each time it is reached (what is shared counts as often as it is met; a slice's spare places count too). A statement '..UptoSaid' is the law's where the arguments, and the package variables that the reading takes, are together of bulk at most 1048576: NARROWER than '..Said'. Prove '..Said' where nothing that the law and all that it calls make is longer than what came in: it says more and counts as full. Else prove '..UptoSaid'. A law counts once. -/
mutual
def uptoBulk {H : Type} : DataW H → Nat
  | .lit (.string bytes) => bytes.length + 1
  | .lit _ => 1
  | .nil => 1
  | .ptr d => uptoBulk d + 1
  | .slice elems spare => uptoBulkAll elems + uptoBulkAll spare + 1
  | .agg parts => uptoBulkAll parts + 1
  | .iface _ d => uptoBulk d + 1
  | .map entries => uptoBulkEntries entries + 1
  | .held _ => 1
def uptoBulkAll {H : Type} : List (DataW H) → Nat
  | [] => 0
  | d :: r => uptoBulk d + uptoBulkAll r
def uptoBulkEntries {H : Type} : List (Lit × DataW H) → Nat
  | [] => 0
  | x :: r => uptoBulkEntry x + uptoBulkEntries r
def uptoBulkEntry {H : Type} : Lit × DataW H → Nat
  | (.string bytes, d) => bytes.length + uptoBulk d + 1
  | (_, d) => uptoBulk d + 1
 end
def uptoSmall : (H : Type) → List (DataW H) → Bool := fun _ ds => decide (uptoBulkAll ds ≤ 1048576)
def OpenSpec.upto (s : _root_.Go.ChangeSpec) : _root_.Go.OpenSpec := { _root_.Go.OpenSpec.ofChange s with cond := some uptoSmall }

/-- 'offshootlaw09.TxLater', WHERE WHAT IT READS IS OF BULK AT MOST 1048576: true; the input reads as it did. -/
def txLaterUptoRow : OpenClaim := { program := "ytimaibcaehagjaa", sum := "bb2cc9fb2c06b8b77d9f152467bc4ca79a57c43f626933110dbf3518eb042c25", func := "offshoot/offshootlaw09.TxLater", spec := "txLater", unfollowed := true, recurses := true, apart := false, narrowed := true }
def TxLaterUptoSaid : Prop := txLaterUptoRow.holds Try.pinned (OpenSpec.upto txLaterSpec)

/-- 'offshootlaw09.TxNone', WHERE WHAT IT READS IS OF BULK AT MOST 1048576: true; the input reads as it did. -/
def txNoneUptoRow : OpenClaim := { program := "ytimaibcaehagjaa", sum := "bb2cc9fb2c06b8b77d9f152467bc4ca79a57c43f626933110dbf3518eb042c25", func := "offshoot/offshootlaw09.TxNone", spec := "txNone", inPlace := ["maps.clone"], unfollowed := true, recurses := true, apart := false, narrowed := true }
def TxNoneUptoSaid : Prop := txNoneUptoRow.holds Try.pinned (OpenSpec.upto txNoneSpec)

/-- 'offshootlaw03.DevSure', WHERE WHAT IT READS IS OF BULK AT MOST 1048576: true; the input reads as it did. -/
def devSureUptoRow : OpenClaim := { program := "ytimaibcaehagjaa", sum := "bb2cc9fb2c06b8b77d9f152467bc4ca79a57c43f626933110dbf3518eb042c25", func := "offshoot/offshootlaw03.DevSure", spec := "devSure", inPlace := ["internal/abi.NoEscape", "internal/bytealg.MakeNoZero"], unfollowed := true, recurses := true, apart := false, narrowed := true }
def DevSureUptoSaid : Prop := devSureUptoRow.holds Try.pinned (OpenSpec.upto devSureSpec)

/-- 'offshootlaw03.DevTorn', WHERE WHAT IT READS IS OF BULK AT MOST 1048576: true; the input reads as it did. -/
def devTornUptoRow : OpenClaim := { program := "ytimaibcaehagjaa", sum := "bb2cc9fb2c06b8b77d9f152467bc4ca79a57c43f626933110dbf3518eb042c25", func := "offshoot/offshootlaw03.DevTorn", spec := "devTorn", inPlace := ["internal/abi.NoEscape", "internal/bytealg.MakeNoZero"], unfollowed := true, recurses := true, apart := false, narrowed := true }
def DevTornUptoSaid : Prop := devTornUptoRow.holds Try.pinned (OpenSpec.upto devTornSpec)

/-- 'offshootlaw03.DevActs', WHERE WHAT IT READS IS OF BULK AT MOST 1048576: true; the input reads as it did. -/
def devActsUptoRow : OpenClaim := { program := "ytimaibcaehagjaa", sum := "bb2cc9fb2c06b8b77d9f152467bc4ca79a57c43f626933110dbf3518eb042c25", func := "offshoot/offshootlaw03.DevActs", spec := "devActs", inPlace := ["internal/abi.NoEscape", "internal/bytealg.MakeNoZero"], unfollowed := true, recurses := true, apart := false, narrowed := true }
def DevActsUptoSaid : Prop := devActsUptoRow.holds Try.pinned (OpenSpec.upto devActsSpec)

/-- 'offshootlaw03.DevMany', WHERE WHAT IT READS IS OF BULK AT MOST 1048576: true; the input reads as it did. -/
def devManyUptoRow : OpenClaim := { program := "ytimaibcaehagjaa", sum := "bb2cc9fb2c06b8b77d9f152467bc4ca79a57c43f626933110dbf3518eb042c25", func := "offshoot/offshootlaw03.DevMany", spec := "devMany", inPlace := ["internal/abi.NoEscape", "internal/bytealg.MakeNoZero"], unfollowed := true, recurses := true, apart := false, narrowed := true }
def DevManyUptoSaid : Prop := devManyUptoRow.holds Try.pinned (OpenSpec.upto devManySpec)

/-- 'offshootlaw03.DevNone', WHERE WHAT IT READS IS OF BULK AT MOST 1048576: true; the input reads as it did. -/
def devNoneUptoRow : OpenClaim := { program := "ytimaibcaehagjaa", sum := "bb2cc9fb2c06b8b77d9f152467bc4ca79a57c43f626933110dbf3518eb042c25", func := "offshoot/offshootlaw03.DevNone", spec := "devNone", inPlace := ["internal/abi.NoEscape", "internal/bytealg.MakeNoZero", "maps.clone"], unfollowed := true, recurses := true, apart := false, narrowed := true }
def DevNoneUptoSaid : Prop := devNoneUptoRow.holds Try.pinned (OpenSpec.upto devNoneSpec)

/-- 'offshootlaw04.LogSectors', WHERE WHAT IT READS IS OF BULK AT MOST 1048576: true; the input reads as it did. -/
def logSectorsUptoRow : OpenClaim := { program := "ytimaibcaehagjaa", sum := "bb2cc9fb2c06b8b77d9f152467bc4ca79a57c43f626933110dbf3518eb042c25", func := "offshoot/offshootlaw04.LogSectors", spec := "logSectors", inPlace := ["internal/abi.NoEscape", "internal/bytealg.MakeNoZero"], unfollowed := true, recurses := true, apart := false, narrowed := true }
def LogSectorsUptoSaid : Prop := logSectorsUptoRow.holds Try.pinned (OpenSpec.upto logSectorsSpec)

/-- 'offshootlaw04.LogPlays', WHERE WHAT IT READS IS OF BULK AT MOST 1048576: true; the input reads as it did. -/
def logPlaysUptoRow : OpenClaim := { program := "ytimaibcaehagjaa", sum := "bb2cc9fb2c06b8b77d9f152467bc4ca79a57c43f626933110dbf3518eb042c25", func := "offshoot/offshootlaw04.LogPlays", spec := "logPlays", inPlace := ["internal/abi.NoEscape", "internal/bytealg.MakeNoZero"], unfollowed := true, recurses := true, apart := false, narrowed := true }
def LogPlaysUptoSaid : Prop := logPlaysUptoRow.holds Try.pinned (OpenSpec.upto logPlaysSpec)

/-- 'offshootlaw04.LogNone', WHERE WHAT IT READS IS OF BULK AT MOST 1048576: true; the input reads as it did. -/
def logNoneUptoRow : OpenClaim := { program := "ytimaibcaehagjaa", sum := "bb2cc9fb2c06b8b77d9f152467bc4ca79a57c43f626933110dbf3518eb042c25", func := "offshoot/offshootlaw04.LogNone", spec := "logNone", inPlace := ["internal/abi.NoEscape", "internal/bytealg.MakeNoZero"], unfollowed := true, recurses := true, apart := false, narrowed := true }
def LogNoneUptoSaid : Prop := logNoneUptoRow.holds Try.pinned (OpenSpec.upto logNoneSpec)

/-- 'offshootlaw04.LogFalls', WHERE WHAT IT READS IS OF BULK AT MOST 1048576: true; the input reads as it did. -/
def logFallsUptoRow : OpenClaim := { program := "ytimaibcaehagjaa", sum := "bb2cc9fb2c06b8b77d9f152467bc4ca79a57c43f626933110dbf3518eb042c25", func := "offshoot/offshootlaw04.LogFalls", spec := "logFalls", inPlace := ["internal/abi.NoEscape", "internal/bytealg.MakeNoZero"], unfollowed := true, recurses := true, apart := false, narrowed := true }
def LogFallsUptoSaid : Prop := logFallsUptoRow.holds Try.pinned (OpenSpec.upto logFallsSpec)

/-- 'offshootlaw04.LogForged', WHERE WHAT IT READS IS OF BULK AT MOST 1048576: true; the input reads as it did. -/
def logForgedUptoRow : OpenClaim := { program := "ytimaibcaehagjaa", sum := "bb2cc9fb2c06b8b77d9f152467bc4ca79a57c43f626933110dbf3518eb042c25", func := "offshoot/offshootlaw04.LogForged", spec := "logForged", inPlace := ["internal/abi.NoEscape", "internal/bytealg.MakeNoZero"], unfollowed := true, recurses := true, apart := false, narrowed := true }
def LogForgedUptoSaid : Prop := logForgedUptoRow.holds Try.pinned (OpenSpec.upto logForgedSpec)

end Rows
end Go.Proofs.Ytimaibcaehagjaa
