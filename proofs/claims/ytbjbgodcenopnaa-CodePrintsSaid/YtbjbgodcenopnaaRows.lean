/-
  NARROWER THAN 'FOR EVERY INPUT', by the rows' own cells (each row's printed sentence says how): ShowValues: loops.
  DERIVED. THE GIVEN ROWS OF THIS SEAT. 6 by the template 'for every input the law returns true; each argument reads behind the call as it read before'; 0 by the template 'total and deterministic' (their statements: YtbjbgodcenopnaaTotals.lean).
  GIVEN WITH THE SEED: the statements are not yours to turn. If you find one false, say at which input.
  Laid BY PROGRAM, IN A SANDBOX (cutbox-rows.mjs): the forced cells as the released guide's own fill.sh prints them over the translation cf469c7876b3723e… (all of the seat's roots in one cut). By AI agents, Wed Nov 11 2026. No macro, syntax, notation, axiom, sorry.
-/
import Derived.Test.YtbjbgodcenopnaaChecked
import GoSem.Claim
import GoSem.ClaimJoined
import GoSem.ClaimMapViews
import Derived.JoinedTies
import Derived.KernelRfl
namespace Go.Proofs.Ytbjbgodcenopnaa
/- THE CELL 'sum', in the pinned program and in every row, IS THE sha256 OF THE DUMP (.gsa) THAT YtbjbgodcenopnaaProg.lean LOADS. Nothing in Lean hashes anything: it is a label: what it is worth is what the hold of that sum in a sandbox is worth. -/
noncomputable def Try.pinned : Pinned := { name := "ytbjbgodcenopnaa", sum := "cf469c7876b3723e1e0676dba4458d22b156dc999263e1bedf02778af699226a", checked := Try.checked }
namespace Rows
def none {H : Type} : Left H := { results := [], args := [] }

/-- 'offshootlaw13.ShowPreds': WHATEVER THE INPUT: true; the input reads as it did. -/
def showPredsSpec : ChangeSpec := { name := "showPreds", fn := fun _ => fun
  | [d] => { results := [.lit (.bool true)], args := [d] }
  | _ => none }
def showPredsRow : OpenClaim := { program := "ytbjbgodcenopnaa", sum := "cf469c7876b3723e1e0676dba4458d22b156dc999263e1bedf02778af699226a", func := "offshoot/offshootlaw13.ShowPreds", spec := "showPreds", inPlace := ["math.Float64frombits", "math.Float64bits", "internal/abi.NoEscape", "internal/bytealg.MakeNoZero"], unfollowed := true, recurses := true, apart := false }
def ShowPredsSaid : Prop := showPredsRow.holds Try.pinned (OpenSpec.ofChange showPredsSpec)

/-- ITS FALSE NEIGHBOUR: 'it returns false'. Refute it at one input. -/
def showPredsWrong : ChangeSpec := { name := "showPreds", fn := fun _ => fun
  | [d] => { results := [.lit (.bool false)], args := [d] }
  | _ => none }
def ShowPredsWrongFalsely : Prop := showPredsRow.holds Try.pinned (OpenSpec.ofChange showPredsWrong)

/-- 'offshootlaw13.ShowValues': WHATEVER THE INPUT: true; the input reads as it did. -/
def showValuesSpec : ChangeSpec := { name := "showValues", fn := fun _ => fun
  | [d] => { results := [.lit (.bool true)], args := [d] }
  | _ => none }
def showValuesRow : OpenClaim := { program := "ytbjbgodcenopnaa", sum := "cf469c7876b3723e1e0676dba4458d22b156dc999263e1bedf02778af699226a", func := "offshoot/offshootlaw13.ShowValues", spec := "showValues", inPlace := ["math.Float64bits", "math.Float64frombits", "internal/abi.NoEscape", "internal/bytealg.MakeNoZero"], unfollowed := true, recurses := true, loops := true, apart := false }
def ShowValuesSaid : Prop := showValuesRow.holds Try.pinned (OpenSpec.ofChange showValuesSpec)

/-- ITS FALSE NEIGHBOUR: 'it returns false'. Refute it at one input. -/
def showValuesWrong : ChangeSpec := { name := "showValues", fn := fun _ => fun
  | [d] => { results := [.lit (.bool false)], args := [d] }
  | _ => none }
def ShowValuesWrongFalsely : Prop := showValuesRow.holds Try.pinned (OpenSpec.ofChange showValuesWrong)

/-- 'offshootlaw12.ParseDeep': WHATEVER THE INPUT: true; the input reads as it did. -/
def parseDeepSpec : ChangeSpec := { name := "parseDeep", fn := fun _ => fun
  | [d1, d2] => { results := [.lit (.bool true)], args := [d1, d2] }
  | _ => none }
def parseDeepRow : OpenClaim := { program := "ytbjbgodcenopnaa", sum := "cf469c7876b3723e1e0676dba4458d22b156dc999263e1bedf02778af699226a", func := "offshoot/offshootlaw12.ParseDeep", spec := "parseDeep", inPlace := ["internal/abi.NoEscape", "internal/bytealg.IndexByteString", "math.Float64frombits", "math.Float64bits"], unfollowed := true, recurses := true, apart := false }
def ParseDeepSaid : Prop := parseDeepRow.holds Try.pinned (OpenSpec.ofChange parseDeepSpec)

/-- ITS FALSE NEIGHBOUR: 'it returns false'. Refute it at one input. -/
def parseDeepWrong : ChangeSpec := { name := "parseDeep", fn := fun _ => fun
  | [d1, d2] => { results := [.lit (.bool false)], args := [d1, d2] }
  | _ => none }
def ParseDeepWrongFalsely : Prop := parseDeepRow.holds Try.pinned (OpenSpec.ofChange parseDeepWrong)

/-- 'offshootlaw12.ParseSame': WHATEVER THE INPUT: true; the input reads as it did. -/
def parseSameSpec : ChangeSpec := { name := "parseSame", fn := fun _ => fun
  | [d] => { results := [.lit (.bool true)], args := [d] }
  | _ => none }
def parseSameRow : OpenClaim := { program := "ytbjbgodcenopnaa", sum := "cf469c7876b3723e1e0676dba4458d22b156dc999263e1bedf02778af699226a", func := "offshoot/offshootlaw12.ParseSame", spec := "parseSame", inPlace := ["internal/abi.NoEscape", "internal/bytealg.IndexByteString", "math.Float64frombits", "math.Float64bits"], unfollowed := true, recurses := true, apart := false }
def ParseSameSaid : Prop := parseSameRow.holds Try.pinned (OpenSpec.ofChange parseSameSpec)

/-- ITS FALSE NEIGHBOUR: 'it returns false'. Refute it at one input. -/
def parseSameWrong : ChangeSpec := { name := "parseSame", fn := fun _ => fun
  | [d] => { results := [.lit (.bool false)], args := [d] }
  | _ => none }
def ParseSameWrongFalsely : Prop := parseSameRow.holds Try.pinned (OpenSpec.ofChange parseSameWrong)

/-- 'offshootlaw15.CodePrints': WHATEVER THE INPUT: true; the input reads as it did. -/
def codePrintsSpec : ChangeSpec := { name := "codePrints", fn := fun _ => fun
  | [d] => { results := [.lit (.bool true)], args := [d] }
  | _ => none }
def codePrintsRow : OpenClaim := { program := "ytbjbgodcenopnaa", sum := "cf469c7876b3723e1e0676dba4458d22b156dc999263e1bedf02778af699226a", func := "offshoot/offshootlaw15.CodePrints", spec := "codePrints", inPlace := ["math.Float64frombits", "math.Float64bits"], unfollowed := true, recurses := true, apart := false }
def CodePrintsSaid : Prop := codePrintsRow.holds Try.pinned (OpenSpec.ofChange codePrintsSpec)

/-- ITS FALSE NEIGHBOUR: 'it returns false'. Refute it at one input. -/
def codePrintsWrong : ChangeSpec := { name := "codePrints", fn := fun _ => fun
  | [d] => { results := [.lit (.bool false)], args := [d] }
  | _ => none }
def CodePrintsWrongFalsely : Prop := codePrintsRow.holds Try.pinned (OpenSpec.ofChange codePrintsWrong)

/-- 'offshootlaw15.CodeBodies': WHATEVER THE INPUT: true; the input reads as it did. -/
def codeBodiesSpec : ChangeSpec := { name := "codeBodies", fn := fun _ => fun
  | [d] => { results := [.lit (.bool true)], args := [d] }
  | _ => none }
def codeBodiesRow : OpenClaim := { program := "ytbjbgodcenopnaa", sum := "cf469c7876b3723e1e0676dba4458d22b156dc999263e1bedf02778af699226a", func := "offshoot/offshootlaw15.CodeBodies", spec := "codeBodies", inPlace := ["math.Float64frombits", "math.Float64bits"], unfollowed := true, recurses := true, apart := false }
def CodeBodiesSaid : Prop := codeBodiesRow.holds Try.pinned (OpenSpec.ofChange codeBodiesSpec)

/-- ITS FALSE NEIGHBOUR: 'it returns false'. Refute it at one input. -/
def codeBodiesWrong : ChangeSpec := { name := "codeBodies", fn := fun _ => fun
  | [d] => { results := [.lit (.bool false)], args := [d] }
  | _ => none }
def CodeBodiesWrongFalsely : Prop := codeBodiesRow.holds Try.pinned (OpenSpec.ofChange codeBodiesWrong)

/- THE SECOND FORM. 'bulk': how many values and letters a reading holds, each counted each time it is reached (what is shared counts as often as it is met; a slice's spare places count too). A statement '..UptoSaid' is the law's where the arguments, and the package variables that the reading takes, are together of bulk at most 1048576: NARROWER than '..Said'. Prove '..Said' where nothing that the law and all that it calls make is longer than what came in: it says more and counts as full. Else prove '..UptoSaid'. A law counts once. -/
mutual
def uptoBulk {H : Type} : DataW H → Nat
  | .lit (.string bytes) => bytes.length + 1
  | .lit _ => 1
  | .nil => 1
  | .ptr d => uptoBulk d + 1
  | .slice elems spare => uptoBulkAll elems + uptoBulkAll spare + 1
  | .agg parts => uptoBulkAll parts + 1
  | .iface _ d => uptoBulk d + 1
  | .map entries => uptoBulkEntries entries + 1
  | .held _ => 1
def uptoBulkAll {H : Type} : List (DataW H) → Nat
  | [] => 0
  | d :: r => uptoBulk d + uptoBulkAll r
def uptoBulkEntries {H : Type} : List (Lit × DataW H) → Nat
  | [] => 0
  | x :: r => uptoBulkEntry x + uptoBulkEntries r
def uptoBulkEntry {H : Type} : Lit × DataW H → Nat
  | (.string bytes, d) => bytes.length + uptoBulk d + 1
  | (_, d) => uptoBulk d + 1
 end
def uptoSmall : (H : Type) → List (DataW H) → Bool := fun _ ds => decide (uptoBulkAll ds ≤ 1048576)
def OpenSpec.upto (s : _root_.Go.ChangeSpec) : _root_.Go.OpenSpec := { _root_.Go.OpenSpec.ofChange s with cond := some uptoSmall }

/-- 'offshootlaw13.ShowPreds', WHERE WHAT IT READS IS OF BULK AT MOST 1048576: true; the input reads as it did. -/
def showPredsUptoRow : OpenClaim := { program := "ytbjbgodcenopnaa", sum := "cf469c7876b3723e1e0676dba4458d22b156dc999263e1bedf02778af699226a", func := "offshoot/offshootlaw13.ShowPreds", spec := "showPreds", inPlace := ["math.Float64frombits", "math.Float64bits", "internal/abi.NoEscape", "internal/bytealg.MakeNoZero"], unfollowed := true, recurses := true, apart := false, narrowed := true }
def ShowPredsUptoSaid : Prop := showPredsUptoRow.holds Try.pinned (OpenSpec.upto showPredsSpec)

/-- 'offshootlaw13.ShowValues', WHERE WHAT IT READS IS OF BULK AT MOST 1048576: true; the input reads as it did. -/
def showValuesUptoRow : OpenClaim := { program := "ytbjbgodcenopnaa", sum := "cf469c7876b3723e1e0676dba4458d22b156dc999263e1bedf02778af699226a", func := "offshoot/offshootlaw13.ShowValues", spec := "showValues", inPlace := ["math.Float64bits", "math.Float64frombits", "internal/abi.NoEscape", "internal/bytealg.MakeNoZero"], unfollowed := true, recurses := true, loops := true, apart := false, narrowed := true }
def ShowValuesUptoSaid : Prop := showValuesUptoRow.holds Try.pinned (OpenSpec.upto showValuesSpec)

/-- 'offshootlaw12.ParseDeep', WHERE WHAT IT READS IS OF BULK AT MOST 1048576: true; the input reads as it did. -/
def parseDeepUptoRow : OpenClaim := { program := "ytbjbgodcenopnaa", sum := "cf469c7876b3723e1e0676dba4458d22b156dc999263e1bedf02778af699226a", func := "offshoot/offshootlaw12.ParseDeep", spec := "parseDeep", inPlace := ["internal/abi.NoEscape", "internal/bytealg.IndexByteString", "math.Float64frombits", "math.Float64bits"], unfollowed := true, recurses := true, apart := false, narrowed := true }
def ParseDeepUptoSaid : Prop := parseDeepUptoRow.holds Try.pinned (OpenSpec.upto parseDeepSpec)

/-- 'offshootlaw12.ParseSame', WHERE WHAT IT READS IS OF BULK AT MOST 1048576: true; the input reads as it did. -/
def parseSameUptoRow : OpenClaim := { program := "ytbjbgodcenopnaa", sum := "cf469c7876b3723e1e0676dba4458d22b156dc999263e1bedf02778af699226a", func := "offshoot/offshootlaw12.ParseSame", spec := "parseSame", inPlace := ["internal/abi.NoEscape", "internal/bytealg.IndexByteString", "math.Float64frombits", "math.Float64bits"], unfollowed := true, recurses := true, apart := false, narrowed := true }
def ParseSameUptoSaid : Prop := parseSameUptoRow.holds Try.pinned (OpenSpec.upto parseSameSpec)

/-- 'offshootlaw15.CodePrints', WHERE WHAT IT READS IS OF BULK AT MOST 1048576: true; the input reads as it did. -/
def codePrintsUptoRow : OpenClaim := { program := "ytbjbgodcenopnaa", sum := "cf469c7876b3723e1e0676dba4458d22b156dc999263e1bedf02778af699226a", func := "offshoot/offshootlaw15.CodePrints", spec := "codePrints", inPlace := ["math.Float64frombits", "math.Float64bits"], unfollowed := true, recurses := true, apart := false, narrowed := true }
def CodePrintsUptoSaid : Prop := codePrintsUptoRow.holds Try.pinned (OpenSpec.upto codePrintsSpec)

/-- 'offshootlaw15.CodeBodies', WHERE WHAT IT READS IS OF BULK AT MOST 1048576: true; the input reads as it did. -/
def codeBodiesUptoRow : OpenClaim := { program := "ytbjbgodcenopnaa", sum := "cf469c7876b3723e1e0676dba4458d22b156dc999263e1bedf02778af699226a", func := "offshoot/offshootlaw15.CodeBodies", spec := "codeBodies", inPlace := ["math.Float64frombits", "math.Float64bits"], unfollowed := true, recurses := true, apart := false, narrowed := true }
def CodeBodiesUptoSaid : Prop := codeBodiesUptoRow.holds Try.pinned (OpenSpec.upto codeBodiesSpec)

end Rows
end Go.Proofs.Ytbjbgodcenopnaa
