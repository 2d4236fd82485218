/-
  No cell of these rows narrows 'for every input' (looked for: loops, veiled, ifaces, maps, wideKeys, modest, calm, conditions, laid).
  DERIVED. THE GIVEN ROWS OF THIS SEAT. 6 by the template 'for every input the law returns true; each argument reads behind the call as it read before'; 0 by the template 'total and deterministic' (their statements: YtfbkgaandmebaaaGreatTotals.lean).
  GIVEN WITH THE SEED: the statements are not yours to turn. If you find one false, say at which input.
  Laid BY PROGRAM, IN A SANDBOX (cutbox-rows.mjs): the forced cells as the released guide's own fill.sh prints them over the translation 246f7e62ad98d6e9… (all of the seat's roots in one cut). By AI agents, Wed Nov 11 2026. No macro, syntax, notation, axiom, sorry.
-/
import Derived.Test.YtfbkgaandmebaaaGreatChecked
import GoSem.Claim
import GoSem.ClaimJoined
import GoSem.ClaimMapViews
import Derived.JoinedTies
import Derived.KernelRfl
namespace Go.Proofs.YtfbkgaandmebaaaGreat
/- THE CELL 'sum', in the pinned program and in every row, IS THE sha256 OF THE DUMP (.gsa) THAT YtfbkgaandmebaaaGreatProg.lean LOADS. Nothing in Lean hashes anything: it is a label: what it is worth is what the hold of that sum in a sandbox is worth. -/
noncomputable def Tryz.pinned : Pinned := { name := "ytfbkgaandmebaaagreat", sum := "246f7e62ad98d6e965a2583fa03e3f37a6a099f29a78d7d1fdb3b4790122dca9", checked := Tryz.checked }
namespace Rows
def none {H : Type} : Left H := { results := [], args := [] }

/-- 'offshootlaw06.RecLast': WHATEVER THE INPUT: true; the input reads as it did. -/
def recLastSpec : ChangeSpec := { name := "recLast", fn := fun _ => fun
  | [d] => { results := [.lit (.bool true)], args := [d] }
  | _ => none }
def recLastRow : OpenClaim := { program := "ytfbkgaandmebaaagreat", sum := "246f7e62ad98d6e965a2583fa03e3f37a6a099f29a78d7d1fdb3b4790122dca9", func := "offshoot/offshootlaw06.RecLast", spec := "recLast", inPlace := ["internal/abi.NoEscape", "internal/bytealg.MakeNoZero", "slices.overlaps[offshoot/api.Body]", "maps.clone"], unfollowed := true, recurses := true, apart := false }
def RecLastSaid : Prop := recLastRow.holds Tryz.pinned (OpenSpec.ofChange recLastSpec)

/-- ITS FALSE NEIGHBOUR: 'it returns false'. Refute it at one input. -/
def recLastWrong : ChangeSpec := { name := "recLast", fn := fun _ => fun
  | [d] => { results := [.lit (.bool false)], args := [d] }
  | _ => none }
def RecLastWrongFalsely : Prop := recLastRow.holds Tryz.pinned (OpenSpec.ofChange recLastWrong)

/-- 'offshootlaw06.RecSnaps': WHATEVER THE INPUT: true; the input reads as it did. -/
def recSnapsSpec : ChangeSpec := { name := "recSnaps", fn := fun _ => fun
  | [d1, d2] => { results := [.lit (.bool true)], args := [d1, d2] }
  | _ => none }
def recSnapsRow : OpenClaim := { program := "ytfbkgaandmebaaagreat", sum := "246f7e62ad98d6e965a2583fa03e3f37a6a099f29a78d7d1fdb3b4790122dca9", func := "offshoot/offshootlaw06.RecSnaps", spec := "recSnaps", inPlace := ["internal/abi.NoEscape", "internal/bytealg.MakeNoZero", "slices.overlaps[offshoot/api.Body]", "maps.clone"], unfollowed := true, recurses := true, apart := false }
def RecSnapsSaid : Prop := recSnapsRow.holds Tryz.pinned (OpenSpec.ofChange recSnapsSpec)

/-- ITS FALSE NEIGHBOUR: 'it returns false'. Refute it at one input. -/
def recSnapsWrong : ChangeSpec := { name := "recSnaps", fn := fun _ => fun
  | [d1, d2] => { results := [.lit (.bool false)], args := [d1, d2] }
  | _ => none }
def RecSnapsWrongFalsely : Prop := recSnapsRow.holds Tryz.pinned (OpenSpec.ofChange recSnapsWrong)

/-- 'offshootlaw06.RecGoes': WHATEVER THE INPUT: true; the input reads as it did. -/
def recGoesSpec : ChangeSpec := { name := "recGoes", fn := fun _ => fun
  | [d1, d2] => { results := [.lit (.bool true)], args := [d1, d2] }
  | _ => none }
def recGoesRow : OpenClaim := { program := "ytfbkgaandmebaaagreat", sum := "246f7e62ad98d6e965a2583fa03e3f37a6a099f29a78d7d1fdb3b4790122dca9", func := "offshoot/offshootlaw06.RecGoes", spec := "recGoes", inPlace := ["internal/abi.NoEscape", "internal/bytealg.MakeNoZero", "slices.overlaps[offshoot/api.Body]", "maps.clone"], unfollowed := true, recurses := true, apart := false }
def RecGoesSaid : Prop := recGoesRow.holds Tryz.pinned (OpenSpec.ofChange recGoesSpec)

/-- ITS FALSE NEIGHBOUR: 'it returns false'. Refute it at one input. -/
def recGoesWrong : ChangeSpec := { name := "recGoes", fn := fun _ => fun
  | [d1, d2] => { results := [.lit (.bool false)], args := [d1, d2] }
  | _ => none }
def RecGoesWrongFalsely : Prop := recGoesRow.holds Tryz.pinned (OpenSpec.ofChange recGoesWrong)

/-- 'offshootlaw06.RecFalls': WHATEVER THE INPUT: true; the input reads as it did. -/
def recFallsSpec : ChangeSpec := { name := "recFalls", fn := fun _ => fun
  | [d1, d2, d3] => { results := [.lit (.bool true)], args := [d1, d2, d3] }
  | _ => none }
def recFallsRow : OpenClaim := { program := "ytfbkgaandmebaaagreat", sum := "246f7e62ad98d6e965a2583fa03e3f37a6a099f29a78d7d1fdb3b4790122dca9", func := "offshoot/offshootlaw06.RecFalls", spec := "recFalls", inPlace := ["internal/abi.NoEscape", "internal/bytealg.MakeNoZero", "slices.overlaps[offshoot/api.Body]", "maps.clone"], unfollowed := true, recurses := true, apart := false }
def RecFallsSaid : Prop := recFallsRow.holds Tryz.pinned (OpenSpec.ofChange recFallsSpec)

/-- ITS FALSE NEIGHBOUR: 'it returns false'. Refute it at one input. -/
def recFallsWrong : ChangeSpec := { name := "recFalls", fn := fun _ => fun
  | [d1, d2, d3] => { results := [.lit (.bool false)], args := [d1, d2, d3] }
  | _ => none }
def RecFallsWrongFalsely : Prop := recFallsRow.holds Tryz.pinned (OpenSpec.ofChange recFallsWrong)

/-- 'offshootlaw06.RecPlays': WHATEVER THE INPUT: true; the input reads as it did. -/
def recPlaysSpec : ChangeSpec := { name := "recPlays", fn := fun _ => fun
  | [d1, d2] => { results := [.lit (.bool true)], args := [d1, d2] }
  | _ => none }
def recPlaysRow : OpenClaim := { program := "ytfbkgaandmebaaagreat", sum := "246f7e62ad98d6e965a2583fa03e3f37a6a099f29a78d7d1fdb3b4790122dca9", func := "offshoot/offshootlaw06.RecPlays", spec := "recPlays", inPlace := ["internal/abi.NoEscape", "internal/bytealg.MakeNoZero", "slices.overlaps[offshoot/api.Body]", "maps.clone"], unfollowed := true, recurses := true, apart := false }
def RecPlaysSaid : Prop := recPlaysRow.holds Tryz.pinned (OpenSpec.ofChange recPlaysSpec)

/-- ITS FALSE NEIGHBOUR: 'it returns false'. Refute it at one input. -/
def recPlaysWrong : ChangeSpec := { name := "recPlays", fn := fun _ => fun
  | [d1, d2] => { results := [.lit (.bool false)], args := [d1, d2] }
  | _ => none }
def RecPlaysWrongFalsely : Prop := recPlaysRow.holds Tryz.pinned (OpenSpec.ofChange recPlaysWrong)

/-- 'offshootlaw06.RecNone': WHATEVER THE INPUT: true; the input reads as it did. -/
def recNoneSpec : ChangeSpec := { name := "recNone", fn := fun _ => fun
  | [d1, d2] => { results := [.lit (.bool true)], args := [d1, d2] }
  | _ => none }
def recNoneRow : OpenClaim := { program := "ytfbkgaandmebaaagreat", sum := "246f7e62ad98d6e965a2583fa03e3f37a6a099f29a78d7d1fdb3b4790122dca9", func := "offshoot/offshootlaw06.RecNone", spec := "recNone", inPlace := ["internal/abi.NoEscape", "internal/bytealg.MakeNoZero", "slices.overlaps[offshoot/api.Body]", "maps.clone"], unfollowed := true, recurses := true, apart := false }
def RecNoneSaid : Prop := recNoneRow.holds Tryz.pinned (OpenSpec.ofChange recNoneSpec)

/-- ITS FALSE NEIGHBOUR: 'it returns false'. Refute it at one input. -/
def recNoneWrong : ChangeSpec := { name := "recNone", fn := fun _ => fun
  | [d1, d2] => { results := [.lit (.bool false)], args := [d1, d2] }
  | _ => none }
def RecNoneWrongFalsely : Prop := recNoneRow.holds Tryz.pinned (OpenSpec.ofChange recNoneWrong)

/- THE SECOND FORM. 'bulk': how many values and letters a reading holds, each counted each time it is reached (what is shared counts as often as it is met; a slice's spare places count too). A statement '..UptoSaid' is the law's where the arguments, and the package variables that the reading takes, are together of bulk at most 1048576: NARROWER than '..Said'. Prove '..Said' where nothing that the law and all that it calls make is longer than what came in: it says more and counts as full. Else prove '..UptoSaid'. A law counts once. -/
mutual
def uptoBulk {H : Type} : DataW H → Nat
  | .lit (.string bytes) => bytes.length + 1
  | .lit _ => 1
  | .nil => 1
  | .ptr d => uptoBulk d + 1
  | .slice elems spare => uptoBulkAll elems + uptoBulkAll spare + 1
  | .agg parts => uptoBulkAll parts + 1
  | .iface _ d => uptoBulk d + 1
  | .map entries => uptoBulkEntries entries + 1
  | .held _ => 1
def uptoBulkAll {H : Type} : List (DataW H) → Nat
  | [] => 0
  | d :: r => uptoBulk d + uptoBulkAll r
def uptoBulkEntries {H : Type} : List (Lit × DataW H) → Nat
  | [] => 0
  | x :: r => uptoBulkEntry x + uptoBulkEntries r
def uptoBulkEntry {H : Type} : Lit × DataW H → Nat
  | (.string bytes, d) => bytes.length + uptoBulk d + 1
  | (_, d) => uptoBulk d + 1
 end
def uptoSmall : (H : Type) → List (DataW H) → Bool := fun _ ds => decide (uptoBulkAll ds ≤ 1048576)
def OpenSpec.upto (s : _root_.Go.ChangeSpec) : _root_.Go.OpenSpec := { _root_.Go.OpenSpec.ofChange s with cond := some uptoSmall }

/-- 'offshootlaw06.RecLast', WHERE WHAT IT READS IS OF BULK AT MOST 1048576: true; the input reads as it did. -/
def recLastUptoRow : OpenClaim := { program := "ytfbkgaandmebaaagreat", sum := "246f7e62ad98d6e965a2583fa03e3f37a6a099f29a78d7d1fdb3b4790122dca9", func := "offshoot/offshootlaw06.RecLast", spec := "recLast", inPlace := ["internal/abi.NoEscape", "internal/bytealg.MakeNoZero", "slices.overlaps[offshoot/api.Body]", "maps.clone"], unfollowed := true, recurses := true, apart := false, narrowed := true }
def RecLastUptoSaid : Prop := recLastUptoRow.holds Tryz.pinned (OpenSpec.upto recLastSpec)

/-- 'offshootlaw06.RecSnaps', WHERE WHAT IT READS IS OF BULK AT MOST 1048576: true; the input reads as it did. -/
def recSnapsUptoRow : OpenClaim := { program := "ytfbkgaandmebaaagreat", sum := "246f7e62ad98d6e965a2583fa03e3f37a6a099f29a78d7d1fdb3b4790122dca9", func := "offshoot/offshootlaw06.RecSnaps", spec := "recSnaps", inPlace := ["internal/abi.NoEscape", "internal/bytealg.MakeNoZero", "slices.overlaps[offshoot/api.Body]", "maps.clone"], unfollowed := true, recurses := true, apart := false, narrowed := true }
def RecSnapsUptoSaid : Prop := recSnapsUptoRow.holds Tryz.pinned (OpenSpec.upto recSnapsSpec)

/-- 'offshootlaw06.RecGoes', WHERE WHAT IT READS IS OF BULK AT MOST 1048576: true; the input reads as it did. -/
def recGoesUptoRow : OpenClaim := { program := "ytfbkgaandmebaaagreat", sum := "246f7e62ad98d6e965a2583fa03e3f37a6a099f29a78d7d1fdb3b4790122dca9", func := "offshoot/offshootlaw06.RecGoes", spec := "recGoes", inPlace := ["internal/abi.NoEscape", "internal/bytealg.MakeNoZero", "slices.overlaps[offshoot/api.Body]", "maps.clone"], unfollowed := true, recurses := true, apart := false, narrowed := true }
def RecGoesUptoSaid : Prop := recGoesUptoRow.holds Tryz.pinned (OpenSpec.upto recGoesSpec)

/-- 'offshootlaw06.RecFalls', WHERE WHAT IT READS IS OF BULK AT MOST 1048576: true; the input reads as it did. -/
def recFallsUptoRow : OpenClaim := { program := "ytfbkgaandmebaaagreat", sum := "246f7e62ad98d6e965a2583fa03e3f37a6a099f29a78d7d1fdb3b4790122dca9", func := "offshoot/offshootlaw06.RecFalls", spec := "recFalls", inPlace := ["internal/abi.NoEscape", "internal/bytealg.MakeNoZero", "slices.overlaps[offshoot/api.Body]", "maps.clone"], unfollowed := true, recurses := true, apart := false, narrowed := true }
def RecFallsUptoSaid : Prop := recFallsUptoRow.holds Tryz.pinned (OpenSpec.upto recFallsSpec)

/-- 'offshootlaw06.RecPlays', WHERE WHAT IT READS IS OF BULK AT MOST 1048576: true; the input reads as it did. -/
def recPlaysUptoRow : OpenClaim := { program := "ytfbkgaandmebaaagreat", sum := "246f7e62ad98d6e965a2583fa03e3f37a6a099f29a78d7d1fdb3b4790122dca9", func := "offshoot/offshootlaw06.RecPlays", spec := "recPlays", inPlace := ["internal/abi.NoEscape", "internal/bytealg.MakeNoZero", "slices.overlaps[offshoot/api.Body]", "maps.clone"], unfollowed := true, recurses := true, apart := false, narrowed := true }
def RecPlaysUptoSaid : Prop := recPlaysUptoRow.holds Tryz.pinned (OpenSpec.upto recPlaysSpec)

/-- 'offshootlaw06.RecNone', WHERE WHAT IT READS IS OF BULK AT MOST 1048576: true; the input reads as it did. -/
def recNoneUptoRow : OpenClaim := { program := "ytfbkgaandmebaaagreat", sum := "246f7e62ad98d6e965a2583fa03e3f37a6a099f29a78d7d1fdb3b4790122dca9", func := "offshoot/offshootlaw06.RecNone", spec := "recNone", inPlace := ["internal/abi.NoEscape", "internal/bytealg.MakeNoZero", "slices.overlaps[offshoot/api.Body]", "maps.clone"], unfollowed := true, recurses := true, apart := false, narrowed := true }
def RecNoneUptoSaid : Prop := recNoneUptoRow.holds Tryz.pinned (OpenSpec.upto recNoneSpec)

end Rows
end Go.Proofs.YtfbkgaandmebaaaGreat
