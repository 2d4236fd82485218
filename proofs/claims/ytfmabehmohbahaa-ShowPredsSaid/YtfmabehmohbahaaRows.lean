/-
  NARROWER THAN 'FOR EVERY INPUT', by the rows' own cells (each row's printed sentence says how): ShowValues: loops.
  DERIVED. THE GIVEN ROWS OF THIS SEAT. 6 by the template 'for every input the law returns true; each argument reads behind the call as it read before'; 0 by the template 'total and deterministic' (their statements: YtfmabehmohbahaaTotals.lean).
  GIVEN WITH THE SEED: the statements are not yours to turn. If you find one false, say at which input.
  Laid BY PROGRAM, IN A SANDBOX (cutbox-rows.mjs): the forced cells as the released guide's own fill.sh prints them over the translation 3d9ad95b9a7fbdfb… (all of the seat's roots in one cut). By AI agents, Wed Nov 11 2026. No macro, syntax, notation, axiom, sorry.
-/
import Derived.Test.YtfmabehmohbahaaChecked
import GoSem.Claim
import GoSem.ClaimJoined
import GoSem.ClaimMapViews
import Derived.JoinedTies
import Derived.KernelRfl
namespace Go.Proofs.Ytfmabehmohbahaa
/- THE CELL 'sum', in the pinned program and in every row, IS THE sha256 OF THE DUMP (.gsa) THAT YtfmabehmohbahaaProg.lean LOADS. Nothing in Lean hashes anything: it is a label: what it is worth is what the hold of that sum in a sandbox is worth. -/
noncomputable def Try.pinned : Pinned := { name := "ytfmabehmohbahaa", sum := "3d9ad95b9a7fbdfb9cb6e6989667f337d3151f5116b269cf12808257163b92e9", checked := Try.checked }
namespace Rows
def none {H : Type} : Left H := { results := [], args := [] }

/-- 'offshootlaw13.ShowPreds': WHATEVER THE INPUT: true; the input reads as it did. -/
def showPredsSpec : ChangeSpec := { name := "showPreds", fn := fun _ => fun
  | [d] => { results := [.lit (.bool true)], args := [d] }
  | _ => none }
def showPredsRow : OpenClaim := { program := "ytfmabehmohbahaa", sum := "3d9ad95b9a7fbdfb9cb6e6989667f337d3151f5116b269cf12808257163b92e9", func := "offshoot/offshootlaw13.ShowPreds", spec := "showPreds", inPlace := ["math.Float64frombits", "math.Float64bits", "internal/abi.NoEscape", "internal/bytealg.MakeNoZero"], unfollowed := true, recurses := true, apart := false }
def ShowPredsSaid : Prop := showPredsRow.holds Try.pinned (OpenSpec.ofChange showPredsSpec)

/-- ITS FALSE NEIGHBOUR: 'it returns false'. Refute it at one input. -/
def showPredsWrong : ChangeSpec := { name := "showPreds", fn := fun _ => fun
  | [d] => { results := [.lit (.bool false)], args := [d] }
  | _ => none }
def ShowPredsWrongFalsely : Prop := showPredsRow.holds Try.pinned (OpenSpec.ofChange showPredsWrong)

/-- 'offshootlaw13.ShowValues': WHATEVER THE INPUT: true; the input reads as it did. -/
def showValuesSpec : ChangeSpec := { name := "showValues", fn := fun _ => fun
  | [d] => { results := [.lit (.bool true)], args := [d] }
  | _ => none }
def showValuesRow : OpenClaim := { program := "ytfmabehmohbahaa", sum := "3d9ad95b9a7fbdfb9cb6e6989667f337d3151f5116b269cf12808257163b92e9", func := "offshoot/offshootlaw13.ShowValues", spec := "showValues", inPlace := ["math.Float64bits", "math.Float64frombits", "internal/abi.NoEscape", "internal/bytealg.MakeNoZero"], unfollowed := true, recurses := true, loops := true, apart := false }
def ShowValuesSaid : Prop := showValuesRow.holds Try.pinned (OpenSpec.ofChange showValuesSpec)

/-- ITS FALSE NEIGHBOUR: 'it returns false'. Refute it at one input. -/
def showValuesWrong : ChangeSpec := { name := "showValues", fn := fun _ => fun
  | [d] => { results := [.lit (.bool false)], args := [d] }
  | _ => none }
def ShowValuesWrongFalsely : Prop := showValuesRow.holds Try.pinned (OpenSpec.ofChange showValuesWrong)

/-- 'offshootlaw11.LexInts': WHATEVER THE INPUT: true; the input reads as it did. -/
def lexIntsSpec : ChangeSpec := { name := "lexInts", fn := fun _ => fun
  | [d] => { results := [.lit (.bool true)], args := [d] }
  | _ => none }
def lexIntsRow : OpenClaim := { program := "ytfmabehmohbahaa", sum := "3d9ad95b9a7fbdfb9cb6e6989667f337d3151f5116b269cf12808257163b92e9", func := "offshoot/offshootlaw11.LexInts", spec := "lexInts", inPlace := ["internal/abi.NoEscape", "internal/bytealg.IndexByteString", "math.Float64frombits", "math.Float64bits"], unfollowed := true, recurses := true, apart := false }
def LexIntsSaid : Prop := lexIntsRow.holds Try.pinned (OpenSpec.ofChange lexIntsSpec)

/-- ITS FALSE NEIGHBOUR: 'it returns false'. Refute it at one input. -/
def lexIntsWrong : ChangeSpec := { name := "lexInts", fn := fun _ => fun
  | [d] => { results := [.lit (.bool false)], args := [d] }
  | _ => none }
def LexIntsWrongFalsely : Prop := lexIntsRow.holds Try.pinned (OpenSpec.ofChange lexIntsWrong)

/-- 'offshootlaw11.LexPlaces': WHATEVER THE INPUT: true; the input reads as it did. -/
def lexPlacesSpec : ChangeSpec := { name := "lexPlaces", fn := fun _ => fun
  | [d] => { results := [.lit (.bool true)], args := [d] }
  | _ => none }
def lexPlacesRow : OpenClaim := { program := "ytfmabehmohbahaa", sum := "3d9ad95b9a7fbdfb9cb6e6989667f337d3151f5116b269cf12808257163b92e9", func := "offshoot/offshootlaw11.LexPlaces", spec := "lexPlaces", inPlace := ["internal/abi.NoEscape", "internal/bytealg.IndexByteString", "math.Float64frombits", "math.Float64bits"], unfollowed := true, recurses := true, apart := false }
def LexPlacesSaid : Prop := lexPlacesRow.holds Try.pinned (OpenSpec.ofChange lexPlacesSpec)

/-- ITS FALSE NEIGHBOUR: 'it returns false'. Refute it at one input. -/
def lexPlacesWrong : ChangeSpec := { name := "lexPlaces", fn := fun _ => fun
  | [d] => { results := [.lit (.bool false)], args := [d] }
  | _ => none }
def LexPlacesWrongFalsely : Prop := lexPlacesRow.holds Try.pinned (OpenSpec.ofChange lexPlacesWrong)

/-- 'offshootlaw11.LexTexts': WHATEVER THE INPUT: true; the input reads as it did. -/
def lexTextsSpec : ChangeSpec := { name := "lexTexts", fn := fun _ => fun
  | [d] => { results := [.lit (.bool true)], args := [d] }
  | _ => none }
def lexTextsRow : OpenClaim := { program := "ytfmabehmohbahaa", sum := "3d9ad95b9a7fbdfb9cb6e6989667f337d3151f5116b269cf12808257163b92e9", func := "offshoot/offshootlaw11.LexTexts", spec := "lexTexts", inPlace := ["internal/abi.NoEscape", "internal/bytealg.IndexByteString", "math.Float64frombits", "math.Float64bits"], unfollowed := true, recurses := true, apart := false }
def LexTextsSaid : Prop := lexTextsRow.holds Try.pinned (OpenSpec.ofChange lexTextsSpec)

/-- ITS FALSE NEIGHBOUR: 'it returns false'. Refute it at one input. -/
def lexTextsWrong : ChangeSpec := { name := "lexTexts", fn := fun _ => fun
  | [d] => { results := [.lit (.bool false)], args := [d] }
  | _ => none }
def LexTextsWrongFalsely : Prop := lexTextsRow.holds Try.pinned (OpenSpec.ofChange lexTextsWrong)

/-- 'offshootlaw11.LexNumbers': WHATEVER THE INPUT: true; the input reads as it did. -/
def lexNumbersSpec : ChangeSpec := { name := "lexNumbers", fn := fun _ => fun
  | [d1, d2] => { results := [.lit (.bool true)], args := [d1, d2] }
  | _ => none }
def lexNumbersRow : OpenClaim := { program := "ytfmabehmohbahaa", sum := "3d9ad95b9a7fbdfb9cb6e6989667f337d3151f5116b269cf12808257163b92e9", func := "offshoot/offshootlaw11.LexNumbers", spec := "lexNumbers", inPlace := ["math.Float64frombits", "math.Float64bits", "internal/abi.NoEscape", "internal/bytealg.IndexByteString"], unfollowed := true, recurses := true, apart := false }
def LexNumbersSaid : Prop := lexNumbersRow.holds Try.pinned (OpenSpec.ofChange lexNumbersSpec)

/-- ITS FALSE NEIGHBOUR: 'it returns false'. Refute it at one input. -/
def lexNumbersWrong : ChangeSpec := { name := "lexNumbers", fn := fun _ => fun
  | [d1, d2] => { results := [.lit (.bool false)], args := [d1, d2] }
  | _ => none }
def LexNumbersWrongFalsely : Prop := lexNumbersRow.holds Try.pinned (OpenSpec.ofChange lexNumbersWrong)

/- THE SECOND FORM. 'bulk': how many values and letters a reading holds, each counted each time it is reached (what is shared counts as often as it is met; a slice's spare places count too). A statement '..UptoSaid' is the law's where the arguments, and the package variables that the reading takes, are together of bulk at most 1048576: NARROWER than '..Said'. Prove '..Said' where nothing that the law and all that it calls make is longer than what came in: it says more and counts as full. Else prove '..UptoSaid'. A law counts once. -/
mutual
def uptoBulk {H : Type} : DataW H → Nat
  | .lit (.string bytes) => bytes.length + 1
  | .lit _ => 1
  | .nil => 1
  | .ptr d => uptoBulk d + 1
  | .slice elems spare => uptoBulkAll elems + uptoBulkAll spare + 1
  | .agg parts => uptoBulkAll parts + 1
  | .iface _ d => uptoBulk d + 1
  | .map entries => uptoBulkEntries entries + 1
  | .held _ => 1
def uptoBulkAll {H : Type} : List (DataW H) → Nat
  | [] => 0
  | d :: r => uptoBulk d + uptoBulkAll r
def uptoBulkEntries {H : Type} : List (Lit × DataW H) → Nat
  | [] => 0
  | x :: r => uptoBulkEntry x + uptoBulkEntries r
def uptoBulkEntry {H : Type} : Lit × DataW H → Nat
  | (.string bytes, d) => bytes.length + uptoBulk d + 1
  | (_, d) => uptoBulk d + 1
 end
def uptoSmall : (H : Type) → List (DataW H) → Bool := fun _ ds => decide (uptoBulkAll ds ≤ 1048576)
def OpenSpec.upto (s : _root_.Go.ChangeSpec) : _root_.Go.OpenSpec := { _root_.Go.OpenSpec.ofChange s with cond := some uptoSmall }

/-- 'offshootlaw13.ShowPreds', WHERE WHAT IT READS IS OF BULK AT MOST 1048576: true; the input reads as it did. -/
def showPredsUptoRow : OpenClaim := { program := "ytfmabehmohbahaa", sum := "3d9ad95b9a7fbdfb9cb6e6989667f337d3151f5116b269cf12808257163b92e9", func := "offshoot/offshootlaw13.ShowPreds", spec := "showPreds", inPlace := ["math.Float64frombits", "math.Float64bits", "internal/abi.NoEscape", "internal/bytealg.MakeNoZero"], unfollowed := true, recurses := true, apart := false, narrowed := true }
def ShowPredsUptoSaid : Prop := showPredsUptoRow.holds Try.pinned (OpenSpec.upto showPredsSpec)

/-- 'offshootlaw13.ShowValues', WHERE WHAT IT READS IS OF BULK AT MOST 1048576: true; the input reads as it did. -/
def showValuesUptoRow : OpenClaim := { program := "ytfmabehmohbahaa", sum := "3d9ad95b9a7fbdfb9cb6e6989667f337d3151f5116b269cf12808257163b92e9", func := "offshoot/offshootlaw13.ShowValues", spec := "showValues", inPlace := ["math.Float64bits", "math.Float64frombits", "internal/abi.NoEscape", "internal/bytealg.MakeNoZero"], unfollowed := true, recurses := true, loops := true, apart := false, narrowed := true }
def ShowValuesUptoSaid : Prop := showValuesUptoRow.holds Try.pinned (OpenSpec.upto showValuesSpec)

/-- 'offshootlaw11.LexInts', WHERE WHAT IT READS IS OF BULK AT MOST 1048576: true; the input reads as it did. -/
def lexIntsUptoRow : OpenClaim := { program := "ytfmabehmohbahaa", sum := "3d9ad95b9a7fbdfb9cb6e6989667f337d3151f5116b269cf12808257163b92e9", func := "offshoot/offshootlaw11.LexInts", spec := "lexInts", inPlace := ["internal/abi.NoEscape", "internal/bytealg.IndexByteString", "math.Float64frombits", "math.Float64bits"], unfollowed := true, recurses := true, apart := false, narrowed := true }
def LexIntsUptoSaid : Prop := lexIntsUptoRow.holds Try.pinned (OpenSpec.upto lexIntsSpec)

/-- 'offshootlaw11.LexPlaces', WHERE WHAT IT READS IS OF BULK AT MOST 1048576: true; the input reads as it did. -/
def lexPlacesUptoRow : OpenClaim := { program := "ytfmabehmohbahaa", sum := "3d9ad95b9a7fbdfb9cb6e6989667f337d3151f5116b269cf12808257163b92e9", func := "offshoot/offshootlaw11.LexPlaces", spec := "lexPlaces", inPlace := ["internal/abi.NoEscape", "internal/bytealg.IndexByteString", "math.Float64frombits", "math.Float64bits"], unfollowed := true, recurses := true, apart := false, narrowed := true }
def LexPlacesUptoSaid : Prop := lexPlacesUptoRow.holds Try.pinned (OpenSpec.upto lexPlacesSpec)

/-- 'offshootlaw11.LexTexts', WHERE WHAT IT READS IS OF BULK AT MOST 1048576: true; the input reads as it did. -/
def lexTextsUptoRow : OpenClaim := { program := "ytfmabehmohbahaa", sum := "3d9ad95b9a7fbdfb9cb6e6989667f337d3151f5116b269cf12808257163b92e9", func := "offshoot/offshootlaw11.LexTexts", spec := "lexTexts", inPlace := ["internal/abi.NoEscape", "internal/bytealg.IndexByteString", "math.Float64frombits", "math.Float64bits"], unfollowed := true, recurses := true, apart := false, narrowed := true }
def LexTextsUptoSaid : Prop := lexTextsUptoRow.holds Try.pinned (OpenSpec.upto lexTextsSpec)

/-- 'offshootlaw11.LexNumbers', WHERE WHAT IT READS IS OF BULK AT MOST 1048576: true; the input reads as it did. -/
def lexNumbersUptoRow : OpenClaim := { program := "ytfmabehmohbahaa", sum := "3d9ad95b9a7fbdfb9cb6e6989667f337d3151f5116b269cf12808257163b92e9", func := "offshoot/offshootlaw11.LexNumbers", spec := "lexNumbers", inPlace := ["math.Float64frombits", "math.Float64bits", "internal/abi.NoEscape", "internal/bytealg.IndexByteString"], unfollowed := true, recurses := true, apart := false, narrowed := true }
def LexNumbersUptoSaid : Prop := lexNumbersUptoRow.holds Try.pinned (OpenSpec.upto lexNumbersSpec)

end Rows
end Go.Proofs.Ytfmabehmohbahaa
