/- Plain law of texts of values: show.Value and the document's come to the same. -/
import Derived.Test.YtbjbgodcenopnaaPureCore
import Derived.Lib.Join
namespace Go.Proofs.Ytbjbgodcenopnaa
set_option linter.unusedVariables false
set_option maxHeartbeats 1000000
/-- A number's digits. -/
def decS (n : Nat) : List UInt8 := if n = 0 then [] else decS (n / 10) ++ [hexdig (n % 10)]
termination_by n
decreasing_by omega
theorem decS_zero : decS 0 = [] := by rw [decS]; simp
theorem decS_step {n : Nat} (h : n ≠ 0) : decS n = decS (n / 10) ++ [hexdig (n % 10)] := by rw [decS]; simp [h]
theorem decS_len : ∀ (j n : Nat), n < 10 ^ j → (decS n).length ≤ j
  | 0, n, h => by
    have : n = 0 := by simp at h; omega
    subst this; rw [decS_zero]; simp
  | j + 1, n, h => by
    by_cases hz : n = 0
    · subst hz; rw [decS_zero]; simp
    · have := decS_len j (n / 10) (by rw [Nat.pow_succ] at h; omega)
      rw [decS_step hz]; simp; omega
/-- An int64's digits. -/
def numS (v : Int) : List UInt8 := if v = 0 then [48] else (if v < 0 then [45] else []) ++ decS v.natAbs
theorem number_dec (K : Nat) (b : Bool) : ∀ (j k n : Nat) (acc : List UInt8), j < k → In64 (sgnI b n) → n < 10 ^ j → j ≤ 19 → acc.length + j ≤ 1000 →
    lex_Number.l1 K k (sgnI b n) acc b = some ((if b then [45] else []) ++ (decS n ++ acc)) := by
  have hz0 : ∀ (k : Nat) (acc : List UInt8), acc.length ≤ 1000 → lex_Number.l1 K (k + 1) (sgnI b 0) acc b = some ((if b then [45] else []) ++ (decS 0 ++ acc)) := by
    intro k acc hl
    rw [lex_Number.l1, show sgnI b 0 = 0 from by cases b <;> rfl, decS_zero]
    cases b with
    | true => simp; omega
    | false => simp
  intro j
  induction j with
  | zero =>
    intro k n acc hk hi hn hj hl
    have hz : n = 0 := by simp at hn; omega
    subst hz
    obtain ⟨k, rfl⟩ : ∃ k', k = k' + 1 := ⟨k - 1, by omega⟩
    exact hz0 k acc (by omega)
  | succ j ih =>
    intro k n acc hk hi hn hj hl
    obtain ⟨k, rfl⟩ : ∃ k', k = k' + 1 := ⟨k - 1, by omega⟩
    by_cases hz : n = 0
    · subst hz; exact hz0 k acc (by omega)
    · have hne : ¬ sgnI b (n : Int) = 0 := by unfold sgnI; split <;> omega
      have hin : In64 (sgnI b ((n / 10 : Nat) : Int)) := by unfold In64 sgnI at *; cases b <;> simp at hi ⊢ <;> omega
      have hq : ((n : Int) / 10) = ((n / 10 : Nat) : Int) := by omega
      have hm : ((n : Int) % 10) = ((n % 10 : Nat) : Int) := by omega
      have hw : IntKind.wrap .i64 (sgnI b ((n / 10 : Nat) : Int)) = sgnI b ((n / 10 : Nat) : Int) := W_in hin.1 hin.2
      have hd : IntKind.wrap .i64 (0 - sgnI true ((n % 10 : Nat) : Int)) = ((n % 10 : Nat) : Int) := by unfold sgnI; rw [W_in] <;> simp <;> omega
      have hw1 : IntKind.wrap .i64 (((n % 10 : Nat) : Int) + 1) = ((n % 10 : Nat) : Int) + 1 := W_in (by omega) (by omega)
      have hsl : List.take ((((n % 10 : Nat) : Int) + 1).toNat - (((n % 10 : Nat) : Int)).toNat) (List.drop (((n % 10 : Nat) : Int)).toNat hexL) = [hexdig (n % 10)] := by
        rw [show (((n % 10 : Nat) : Int) + 1).toNat - (((n % 10 : Nat) : Int)).toNat = 1 from by omega, Int.toNat_natCast]; exact dig_slice _ (by omega)
      have hj1 : lex_Number.j1 (lex_Number.l1 K k) K (sgnI b n) acc b ((n % 10 : Nat) : Int) = lex_Number.l1 K k (sgnI b ((n / 10 : Nat) : Int)) (hexdig (n % 10) :: acc) b := by
        unfold lex_Number.j1
        rw [hw1, if_pos ⟨by omega, by omega, by simp; omega⟩, hsl, if_pos (by simp only [List.length_cons, List.length_nil]; omega), sgn_tdiv b (by omega), hq, hw]
        rfl
      have hstep : lex_Number.l1 K (k + 1) (sgnI b n) acc b = lex_Number.l1 K k (sgnI b ((n / 10 : Nat) : Int)) (hexdig (n % 10) :: acc) b := by
        rw [lex_Number.l1, if_pos (by simpa using hne), sgn_tmod b (by omega), hm]
        cases b with
        | true => rw [if_pos rfl, hd]; exact hj1
        | false => rw [if_neg (by simp)]; exact hj1
      rw [hstep, ih k (n / 10) _ (by omega) hin (by rw [Nat.pow_succ] at hn; omega) (by omega) (by simp; omega), decS_step hz]
      simp
theorem abs_pow {v : Int} (hv : In64 v) : v.natAbs < 10 ^ 19 := by
  unfold In64 at hv
  have : (10 : Nat) ^ 19 = 10000000000000000000 := by decide
  omega
theorem numS_eq (K : Nat) (hK : 19 < K) (v : Int) (hv : In64 v) : lex_Number.f K v = some (numS v) := by
  unfold lex_Number.f numS
  by_cases hz : v = 0
  · subst hz; rfl
  rw [if_neg (by simpa using hz), if_neg hz]
  by_cases h : v < 0
  · have e : v = sgnI true (v.natAbs : Int) := by rw [sgnI, if_pos rfl]; omega
    have := number_dec K true 19 K v.natAbs [] hK (by rw [← e]; exact hv) (abs_pow hv) (by omega) (by simp)
    rw [← e] at this
    rw [decide_eq_true h, if_pos h, this]
    simp
  · have e : v = sgnI false (v.natAbs : Int) := by rw [sgnI, if_neg (by simp)]; omega
    have := number_dec K false 19 K v.natAbs [] hK (by rw [← e]; exact hv) (abs_pow hv) (by omega) (by simp)
    rw [← e] at this
    rw [decide_eq_false h, if_neg h, this]
    simp
theorem numS_len (v : Int) (hv : In64 v) : 1 ≤ (numS v).length ∧ (numS v).length ≤ 20 := by
  unfold numS
  by_cases hz : v = 0
  · rw [if_pos hz]; simp
  · rw [if_neg hz]
    have h1 := decS_len 19 v.natAbs (abs_pow hv)
    have h2 : decS v.natAbs ≠ [] := by rw [decS_step (by omega)]; simp
    have h3 : 1 ≤ (decS v.natAbs).length := by
      cases h : decS v.natAbs with
      | nil => exact absurd h h2
      | cons => simp
    split <;> simp <;> omega
def canonN (x : Nat) : Nat := if FW.fneq x x = true then 9221120237041090561 else x
def floatT (x : Nat) : List UInt8 := [102, 39] ++ hexh 16 (canonN x) ++ [39]
def textT (s : List UInt8) : List UInt8 := 39 :: (escL s ++ [39])
/-- Texts with commas and spaces between them. -/
def commas : List (List UInt8) → List UInt8
  | [] => []
  | [x] => x
  | x :: r => x ++ ([44, 32] ++ commas r)
mutual
def valT : ApiValue → List UInt8
  | ⟨k, b, n, f, s, l⟩ =>
    if k = 0 then [110, 117, 108, 108]
    else if k = 1 then (if b = true then [116, 114, 117, 101] else [102, 97, 108, 115, 101])
    else if k = 2 then numS n
    else if k = 3 then floatT f
    else if k = 4 then textT s
    else if k = 5 then [91] ++ commas (valsT l) ++ [93]
    else if k = 6 then [123] ++ commas (valsT l) ++ [125]
    else if k = 7 then [118, 40] ++ numS n ++ [41]
    else if k = 8 then [101, 40] ++ numS n ++ [41]
    else [63]
def valsT : List ApiValue → List (List UInt8)
  | [] => []
  | x :: r => valT x :: valsT r
end
theorem valsT_map : ∀ l, valsT l = l.map valT
  | [] => by simp [valsT]
  | x :: r => by simp [valsT, valsT_map r]
mutual
/-- A value as there are values: numbers within their bounds. -/
def ValW : ApiValue → Prop
  | ⟨k, b, n, f, s, l⟩ => In64 n ∧ f < 18446744073709551616 ∧ s.length ≤ 1000000000 ∧ ValsW l
def ValsW : List ApiValue → Prop
  | [] => True
  | x :: r => ValW x ∧ ValsW r
end
theorem valsW_mem : ∀ l, ValsW l → ∀ x ∈ l, ValW x
  | [], _, x, h => by cases h
  | y :: r, h, x, hx => by
    simp only [ValsW] at h
    rcases List.mem_cons.mp hx with rfl | hx
    · exact h.1
    · exact valsW_mem r h.2 x hx
theorem commas_len : ∀ (l : List (List UInt8)) (x : List UInt8), x ∈ l → x.length ≤ (commas l).length
  | [], x, h => by cases h
  | [y], x, h => by simp only [List.mem_cons, List.not_mem_nil, or_false] at h; subst h; simp [commas]
  | y :: z :: r, x, h => by
    rw [commas]
    · rcases List.mem_cons.mp h with rfl | h
      · simp
      · have := commas_len (z :: r) x h
        simp; omega
    · simp
theorem commas_cons (x y : List UInt8) (r : List (List UInt8)) : commas (x :: y :: r) = x ++ ([44, 32] ++ commas (y :: r)) := by rw [commas]; simp
theorem commas_join : ∀ l : List (List UInt8), Lib.join l [44, 32] = commas l
  | [] => rfl
  | [x] => by simp [Lib.join, commas, List.intercalate]
  | x :: y :: r => by
    have := commas_join (y :: r)
    rw [commas_cons, ← this]
    simp [Lib.join, List.intercalate]
theorem commas_count : ∀ l : List (List UInt8), (∀ x ∈ l, 1 ≤ x.length) → l.length ≤ (commas l).length
  | [], _ => by simp [commas]
  | [x], h => by have := h x (by simp); simp [commas]; omega
  | x :: y :: r, h => by
    have := commas_count (y :: r) (fun z hz => h z (by simp [hz]))
    have := h x (by simp)
    rw [commas_cons]
    simp at *; omega
def commaTail (l : List (List UInt8)) : List UInt8 := (l.map fun x => [44, 32] ++ x).flatten
theorem commas_tail : ∀ (x : List UInt8) (r : List (List UInt8)), commas (x :: r) = x ++ commaTail r
  | x, [] => by simp [commas, commaTail]
  | x, y :: r => by rw [commas_cons, commas_tail y r]; simp [commaTail]
theorem lexText_eq (K : Nat) (s : List UInt8) (h : s.length ≤ 1000000000) (hK : s.length < K) : lex_Text.f K s = some (textT s) := by
  unfold lex_Text.f
  rw [if_pos (by simp), show ((FW.bytesI s).length : Int) = (s.length : Int) from by simp [FW.bytesI]]
  rw [text_l1 K K _ s 0 (by omega) (by omega) (by omega) (by simp) (by omega)]
  rfl
theorem canon_eq (x : Nat) : num_Canon.f x = some (canonN x) := by
  unfold num_Canon.f canonN; split <;> rfl
theorem canonN_lt (x : Nat) (h : x < 18446744073709551616) : canonN x < 18446744073709551616 := by unfold canonN; split <;> omega
theorem lexFloat_eq (K : Nat) (x : Nat) (h : x < 18446744073709551616) (hK : 16 < K) : lex_Float.f K x = some (floatT x) := by
  unfold lex_Float.f
  rw [canon_eq]
  simp only [Option.bind_some]
  have := lexFloat_l1 K 16 K (canonN x) [] 0 hK (by omega) (by omega) (canonN_lt x h) (by simp)
  rw [this, List.append_nil]; rfl
theorem join_eq (xs : List (List UInt8)) (h : xs.length ≤ 140737488355328) (h' : (commas xs).length ≤ 140737488355328) : strings_Join.f xs [44, 32] = some (commas xs) := by
  unfold strings_Join.f
  rw [commas_join, if_pos ⟨h, h'⟩]
theorem getD_drop {α : Type} [Inhabited α] {l : List α} {i : Nat} {c : α} {r : List α} (h : l.drop i = c :: r) : List.getD l i default = c := by
  have : l[i]? = some c := by
    have := List.getElem?_drop (xs := l) (i := i) (j := 0)
    rw [h] at this
    simpa using this.symm
  rw [List.getD_eq_getElem?_getD, this]; rfl
theorem adrop_lt {α : Type} {l : List α} {i : Int} {c : α} {r : List α} (h0 : 0 ≤ i) (h : l.drop i.toNat = c :: r) : i < (l.length : Int) ∧ l.drop (i + 1).toNat = r ∧ (l.length : Int) = i + 1 + r.length := by
  have hl : i.toNat < l.length := by
    rcases Nat.lt_or_ge i.toNat l.length with h' | h'
    · exact h'
    · rw [List.drop_of_length_le h'] at h; cases h
  have h2 : l.drop (i.toNat + 1) = r := by
    rw [← List.drop_drop, h]; rfl
  have h3 := congrArg List.length h
  simp only [List.length_drop, List.length_cons] at h3
  refine ⟨by omega, ?_, by omega⟩
  rw [show (i + 1).toNat = i.toNat + 1 from by omega]; exact h2
theorem adrop_nil {α : Type} {l : List α} {i : Int} (h0 : 0 ≤ i) (h : l.drop i.toNat = []) : (l.length : Int) ≤ i := by
  have := congrArg List.length h
  simp only [List.length_drop, List.length_nil] at this
  omega
theorem showJoin_l1 (G : List ApiValue → Option (List UInt8)) (F : ApiValue → Option (List UInt8)) (K : Nat) (L : List ApiValue) (hF : ∀ x ∈ L, F x = some (valT x)) (hL : (L.length : Int) ≤ 1099511627776) : ∀ (k : Nat) (acc : List (List UInt8)) (i : Int), 0 ≤ i → i ≤ (L.length : Int) → (acc.length : Int) ≤ i → (L.length : Int) - i < k →
    show_join_api_Value_of_show_Value.l1 G F K k acc L (L.length : Int) i = Option.bind (strings_Join.f (acc ++ (L.drop i.toNat).map valT) [44, 32]) fun t => some t := by
  intro k
  induction k with
  | zero => intro acc i h0 h1 h2 h3; omega
  | succ k ih =>
    intro acc i h0 h1 h2 h3
    rw [show_join_api_Value_of_show_Value.l1]
    cases hd : L.drop i.toNat with
    | nil =>
      have := adrop_nil h0 hd
      rw [if_neg (by simp; omega)]
      simp
    | cons x r =>
      obtain ⟨hlt, hdr, hle⟩ := adrop_lt h0 hd
      have hx : x ∈ L := List.mem_of_mem_drop (by rw [hd]; simp)
      rw [if_pos (by simpa using hlt), if_pos ⟨h0, hlt⟩, getD_drop hd, hF x hx]
      simp only [Option.bind_some]
      rw [if_pos (by simp only [List.length_cons, List.length_nil]; omega), W_in (by omega) (by omega), ih _ (i + 1) (by omega) (by omega) (by simp; omega) (by omega), hdr]
      simp
theorem valT_pos (v : ApiValue) (h : ValW v) : 1 ≤ (valT v).length := by
  obtain ⟨k, b, n, f, s, l⟩ := v
  simp only [ValW] at h
  have := numS_len n h.1
  rw [valT]
  repeat' split
  all_goals simp [floatT, textT]
  all_goals omega
theorem escL_ge : ∀ s : List UInt8, s.length ≤ (escL s).length
  | [] => by simp
  | c :: r => by
    have h1 := escL_ge r
    have h2 : 1 ≤ (escS c).length := by
      unfold escS
      split
      · simp
      · split <;> simp
    rw [escL, List.length_append, List.length_cons]; omega
/-- What show.Value comes to. -/
theorem showV : ∀ (n : Nat), n ≤ 1099511627776 → ∀ (v : ApiValue) (K : Nat), ValW v → (valT v).length ≤ n → n + 20 < K → show_Value.f K v = some (valT v) := by
  intro n
  induction n using Nat.strongRecOn with
  | _ n ih =>
    intro hn v K hv hl hK
    obtain ⟨K, rfl⟩ : ∃ K', K = K' + 1 + 1 := ⟨K - 2, by omega⟩
    have hv0 := hv
    obtain ⟨k, b, m, f, s, l⟩ := v
    simp only [ValW] at hv
    obtain ⟨h1, h2, h3, h4⟩ := hv
    have hnum := numS_eq (K + 1) (by omega) m h1
    have hnl := numS_len m h1
    have hjoin : (commas (valsT l)).length + 2 ≤ n → show_join_api_Value_of_show_Value.f (K + 1) l = some (commas (valsT l)) := by
      intro hc
      rw [show_join_api_Value_of_show_Value.f, show_join_api_Value_of_show_Value.b]
      have hmem : ∀ x ∈ l, (valT x).length ≤ (commas (valsT l)).length := by
        intro x hx
        refine commas_len _ _ ?_
        rw [valsT_map]; exact List.mem_map.2 ⟨x, hx, rfl⟩
      have hcount : l.length ≤ (commas (valsT l)).length := by
        have := commas_count (valsT l) (by
          intro x hx
          rw [valsT_map] at hx
          obtain ⟨y, hy, rfl⟩ := List.mem_map.1 hx
          exact valT_pos y (valsW_mem l h4 y hy))
        rw [valsT_map, List.length_map] at this
        rw [valsT_map]; exact this
      rw [showJoin_l1 _ _ K l (fun x hx => ih (n - 2) (by omega) (by omega) x K (valsW_mem l h4 x hx) (by have := hmem x hx; omega) (by omega)) (by omega) K [] 0 (by omega) (by omega) (by simp) (by omega)]
      rw [List.nil_append, show Int.toNat 0 = 0 from rfl, List.drop_zero, ← valsT_map, join_eq _ (by rw [valsT_map, List.length_map]; omega) (by omega)]
      rfl
    rw [show_Value.f, show_Value.b]
    rw [valT] at hl ⊢
    apply Sat.get
    have hite : ∀ {α : Type} (p : Prop) [Decidable p] (x y : α), (if decide p = true then x else y) = if p then x else y := by
      intro α p _ x y; by_cases h : p <;> simp [h]
    simp only [hite]
    by_cases k0 : k = 0
    · rw [if_pos k0, if_pos k0]; exact Sat.some rfl
    rw [if_neg k0] at hl ⊢; rw [if_neg k0]
    by_cases k1 : k = 1
    · rw [if_pos k1, if_pos k1]; cases b <;> exact Sat.some rfl
    rw [if_neg k1] at hl ⊢; rw [if_neg k1]
    by_cases k2 : k = 2
    · rw [if_pos k2, if_pos k2]; exact Sat.bindE hnum (Sat.some rfl)
    rw [if_neg k2] at hl ⊢; rw [if_neg k2]
    by_cases k3 : k = 3
    · rw [if_pos k3, if_pos k3]; exact Sat.bindE (lexFloat_eq (K + 1) f h2 (by omega)) (Sat.some rfl)
    rw [if_neg k3] at hl ⊢; rw [if_neg k3]
    by_cases k4 : k = 4
    · rw [if_pos k4] at hl
      rw [if_pos k4, if_pos k4]
      have := escL_ge s
      exact Sat.bindE (lexText_eq (K + 1) s h3 (by simp [textT] at hl; omega)) (Sat.some rfl)
    rw [if_neg k4] at hl ⊢; rw [if_neg k4]
    by_cases k5 : k = 5
    · rw [if_pos k5] at hl
      rw [if_pos k5, if_pos k5]
      simp only [List.length_append, List.length_cons, List.length_nil] at hl
      refine Sat.bindE (hjoin (by omega)) ?_
      refine Sat.chk (by simp only [List.length_cons, List.length_nil]; omega) ?_
      refine Sat.chk (by simp only [List.length_append, List.length_cons, List.length_nil]; omega) (Sat.some rfl)
    rw [if_neg k5] at hl ⊢; rw [if_neg k5]
    by_cases k6 : k = 6
    · rw [if_pos k6] at hl
      rw [if_pos k6, if_pos k6]
      simp only [List.length_append, List.length_cons, List.length_nil] at hl
      refine Sat.bindE (hjoin (by omega)) ?_
      refine Sat.chk (by simp only [List.length_cons, List.length_nil]; omega) ?_
      refine Sat.chk (by simp only [List.length_append, List.length_cons, List.length_nil]; omega) (Sat.some rfl)
    rw [if_neg k6] at hl ⊢; rw [if_neg k6]
    by_cases k7 : k = 7
    · rw [if_pos k7, if_pos k7]
      refine Sat.bindE hnum ?_
      refine Sat.chk (by simp only [List.length_cons, List.length_nil]; omega) ?_
      refine Sat.chk (by simp only [List.length_append, List.length_cons, List.length_nil]; omega) (Sat.some rfl)
    rw [if_neg k7] at hl ⊢; rw [if_neg k7]
    by_cases k8 : k = 8
    · rw [if_pos k8, if_pos k8]
      refine Sat.bindE hnum ?_
      refine Sat.chk (by simp only [List.length_cons, List.length_nil]; omega) ?_
      refine Sat.chk (by simp only [List.length_append, List.length_cons, List.length_nil]; omega) (Sat.some rfl)
    rw [if_neg k8, if_neg k8]
    exact Sat.some rfl
end Go.Proofs.Ytbjbgodcenopnaa
