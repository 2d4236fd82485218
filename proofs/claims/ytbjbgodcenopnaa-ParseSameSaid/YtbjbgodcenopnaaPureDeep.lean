/- Plain law of ParseDeep: what stands so deep, and so many steps: a text for each number. -/
import Derived.Test.YtbjbgodcenopnaaPureWordsE
namespace Go.Proofs.Ytbjbgodcenopnaa
set_option linter.unusedVariables false
set_option maxHeartbeats 4000000
set_option maxRecDepth 100000
def reps (n : Nat) (x : List UInt8) : List UInt8 := (List.replicate n x).flatten
def deepS (k : Nat) : List UInt8 := [103, 46, 86, 40, 41] ++ reps k [46, 119, 104, 101, 114, 101, 40, 111, 117, 116, 40, 41] ++ reps k [41]
def deepT (k : Nat) : List UInt8 := [103, 46, 105, 110, 106, 101, 99, 116, 40] ++ reps k [91] ++ reps k [93] ++ [41]
def deepU (m : Nat) : List UInt8 := [103, 46, 86, 40, 41] ++ reps m [46, 105, 100, 40, 41]
/-- The error of a text that is not too long. -/
def errE (s : List UInt8) : Option Int := Option.bind (wordsR KK KK [] s 0) fun t1 => if t1.2.2 = 0 then (parse_parser_all.f KK ⟨t1.1, 0, 0, 0⟩).map fun t3 => (FW.caught t3).2.2 else some t1.2.2
theorem err_eq (s : List UInt8) (hs : (s.length : Int) ≤ 3000) {e : Int} (h : errE s = some e) : ∃ t, parse_Parse.f KK s = some t ∧ t.2.2 = e := by
  unfold errE at h
  obtain ⟨t1, h1, h⟩ := Option.bind_eq_some_iff.1 h
  unfold parse_Parse.f
  rw [Words_eq KK (by unfold KK; omega), if_neg (by omega), h1]
  simp only [Option.bind_some, slices_Clip_api_Word_api_Word.f]
  by_cases hz : t1.2.2 = 0
  · rw [if_pos hz] at h
    rw [if_neg (by simp [hz])]
    obtain ⟨t3, h3, h⟩ := Option.map_eq_some_iff.1 h
    rw [h3]
    exact ⟨_, rfl, h⟩
  · rw [if_neg hz] at h
    rw [if_pos (by simpa using hz)]
    injection h with h
    exact ⟨_, rfl, h⟩
theorem s_0 : errE (deepS 0) = some 0 := by decide +kernel
theorem s_1 : errE (deepS 1) = some 0 := by decide +kernel
theorem s_2 : errE (deepS 2) = some 0 := by decide +kernel
theorem s_3 : errE (deepS 3) = some 0 := by decide +kernel
theorem s_4 : errE (deepS 4) = some 0 := by decide +kernel
theorem s_5 : errE (deepS 5) = some 0 := by decide +kernel
theorem s_6 : errE (deepS 6) = some 0 := by decide +kernel
theorem s_7 : errE (deepS 7) = some 0 := by decide +kernel
theorem s_8 : errE (deepS 8) = some 0 := by decide +kernel
theorem s_9 : errE (deepS 9) = some 0 := by decide +kernel
theorem s_10 : errE (deepS 10) = some 0 := by decide +kernel
theorem s_11 : errE (deepS 11) = some 0 := by decide +kernel
theorem s_12 : errE (deepS 12) = some 0 := by decide +kernel
theorem s_13 : errE (deepS 13) = some 3 := by decide +kernel
theorem s_14 : errE (deepS 14) = some 3 := by decide +kernel
theorem s_15 : errE (deepS 15) = some 3 := by decide +kernel
theorem t_1 : errE (deepT 1) = some 0 := by decide +kernel
theorem t_2 : errE (deepT 2) = some 0 := by decide +kernel
theorem t_3 : errE (deepT 3) = some 0 := by decide +kernel
theorem t_4 : errE (deepT 4) = some 0 := by decide +kernel
theorem t_5 : errE (deepT 5) = some 0 := by decide +kernel
theorem t_6 : errE (deepT 6) = some 0 := by decide +kernel
theorem t_7 : errE (deepT 7) = some 0 := by decide +kernel
theorem t_8 : errE (deepT 8) = some 0 := by decide +kernel
theorem t_9 : errE (deepT 9) = some 0 := by decide +kernel
theorem t_10 : errE (deepT 10) = some 0 := by decide +kernel
theorem t_11 : errE (deepT 11) = some 0 := by decide +kernel
theorem t_12 : errE (deepT 12) = some 0 := by decide +kernel
theorem t_13 : errE (deepT 13) = some 3 := by decide +kernel
theorem t_14 : errE (deepT 14) = some 3 := by decide +kernel
theorem t_15 : errE (deepT 15) = some 3 := by decide +kernel
theorem t_0 : ∃ e, errE (deepT 0) = some e := ⟨(errE (deepT 0)).getD 0, by decide +kernel⟩
end Go.Proofs.Ytbjbgodcenopnaa
