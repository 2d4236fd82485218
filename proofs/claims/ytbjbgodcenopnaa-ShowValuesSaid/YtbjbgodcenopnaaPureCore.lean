/- Plain law: what other texts have in common. -/
import Derived.Test.YtbjbgodcenopnaaAvOps
import Derived.IntWalk
import Derived.Test.YtbjbgodcenopnaaSvD
namespace Go.Proofs.Ytbjbgodcenopnaa
set_option linter.unusedVariables false

/-- It comes to something, and that is such. -/
def Sat {α : Type} (x : Option α) (P : α → Prop) : Prop := ∃ r, x = some r ∧ P r
section
variable {α β : Type} {x : Option α} {P Q : α → Prop}
theorem Sat.some {r : α} (h : P r) : Sat (some r) P := ⟨r, rfl, h⟩
theorem Sat.mono (h : Sat x P) (h' : ∀ r, P r → Q r) : Sat x Q := let ⟨r, h1, h2⟩ := h; ⟨r, h1, h' r h2⟩
theorem Sat.chk {p : Prop} [Decidable p] (hp : p) (h : Sat x P) : Sat (if p then x else none) P := by rw [if_pos hp]; exact h
theorem Sat.ite {b : Bool} {y : Option α} (h1 : b = true → Sat x P) (h2 : b = false → Sat y P) : Sat (if b = true then x else y) P := by
  cases b with
  | true => rw [if_pos rfl]; exact h1 rfl
  | false => rw [if_neg (by simp)]; exact h2 rfl
theorem Sat.bind {F : β → Option α} {y : Option β} {R : β → Prop} (h : Sat y R) (h' : ∀ r, R r → Sat (F r) P) : Sat (Option.bind y F) P := by
  obtain ⟨r, rfl, hr⟩ := h
  exact h' r hr
theorem Sat.bindE {F : β → Option α} {y : Option β} {r : β} (h : y = Option.some r) (h' : Sat (F r) P) : Sat (Option.bind y F) P := by subst h; exact h'
theorem Sat.eq {r : α} (h : x = Option.some r) (hr : P r) : Sat x P := ⟨r, h, hr⟩
theorem Sat.get {r : α} (h : Sat x (fun y => y = r)) : x = Option.some r := by obtain ⟨y, h1, rfl⟩ := h; exact h1
end
theorem W_in {x : Int} (h0 : -9223372036854775808 ≤ x) (h1 : x ≤ 9223372036854775807) : IntKind.wrap .i64 x = x := IntWalk.i64_in x ⟨h0, h1⟩
theorem W_u8 {x : Int} (h0 : 0 ≤ x) (h1 : x < 256) : IntKind.wrap .u8 x = x := by rw [IntKind.wrap_u8]; omega
theorem W_u64 {x : Int} (h0 : 0 ≤ x) (h1 : x < 18446744073709551616) : IntKind.wrap .u64 x = x := by rw [IntKind.wrap_u64]; omega
/-- The byte at a place, and what stands behind it. -/
theorem bt_at {l : List UInt8} {i : Int} {c : UInt8} {r : List UInt8} (h : l.drop i.toNat = c :: r) : FW.bt l i = (c.toNat : Int) := by
  unfold FW.bt
  have : l[i.toNat]? = some c := by
    have := List.getElem?_drop (xs := l) (i := i.toNat) (j := 0)
    rw [h] at this
    simpa using this.symm
  rw [List.getD_eq_getElem?_getD, this]; rfl
theorem drop_lt {l : List UInt8} {i : Int} {c : UInt8} {r : List UInt8} (h0 : 0 ≤ i) (h : l.drop i.toNat = c :: r) : i < (l.length : Int) ∧ l.drop (i + 1).toNat = r ∧ (l.length : Int) = i + 1 + r.length := by
  have hl : i.toNat < l.length := by
    rcases Nat.lt_or_ge i.toNat l.length with h' | h'
    · exact h'
    · rw [List.drop_of_length_le h'] at h; cases h
  have h2 : l.drop (i.toNat + 1) = r := by
    rw [← List.drop_drop, h]; rfl
  have h3 := congrArg List.length h
  simp only [List.length_drop, List.length_cons] at h3
  refine ⟨by omega, ?_, by omega⟩
  rw [show (i + 1).toNat = i.toNat + 1 from by omega]; exact h2
theorem drop_nil {l : List UInt8} {i : Int} (h0 : 0 ≤ i) (h : l.drop i.toNat = []) : (l.length : Int) ≤ i := by
  have := congrArg List.length h
  simp only [List.length_drop, List.length_nil] at this
  omega
theorem u8_back (c : UInt8) : UInt8.ofNat ((c.toNat : Int).toNat) = c := by simp
theorem u8_range (c : UInt8) : 0 ≤ (c.toNat : Int) ∧ (c.toNat : Int) < 256 := by have := c.toNat_lt; omega
theorem u8_eq (c : UInt8) (n : Nat) (hn : n < 256) : ((c.toNat : Int) = (n : Int)) ↔ c = UInt8.ofNat n := by
  constructor
  · intro h
    have : c.toNat = n := by omega
    rw [← this]; simp
  · rintro rfl
    simp; omega
end Go.Proofs.Ytbjbgodcenopnaa

namespace Go.Proofs.Ytbjbgodcenopnaa
set_option linter.unusedVariables false
set_option maxHeartbeats 4000000
end Go.Proofs.Ytbjbgodcenopnaa

namespace Go.Proofs.Ytbjbgodcenopnaa
set_option linter.unusedVariables false
set_option maxHeartbeats 1000000
end Go.Proofs.Ytbjbgodcenopnaa

namespace Go.Proofs.Ytbjbgodcenopnaa
set_option linter.unusedVariables false
set_option maxHeartbeats 1000000
def In64 (x : Int) : Prop := -9223372036854775808 ≤ x ∧ x ≤ 9223372036854775807
theorem i64_mod (x : Int) : IntKind.wrap .i64 x = (x + 9223372036854775808) % 18446744073709551616 - 9223372036854775808 := by
  rw [IntKind.wrap_i64]
theorem i64_range (x : Int) : In64 (IntKind.wrap .i64 x) := by unfold In64; rw [i64_mod]; omega
/-- With its sign. -/
def sgnI (b : Bool) (m : Int) : Int := if b then -m else m
end Go.Proofs.Ytbjbgodcenopnaa

namespace Go.Proofs.Ytbjbgodcenopnaa
set_option linter.unusedVariables false
set_option maxHeartbeats 1000000
end Go.Proofs.Ytbjbgodcenopnaa

namespace Go.Proofs.Ytbjbgodcenopnaa
set_option linter.unusedVariables false
set_option maxHeartbeats 1000000
abbrev hexL : List UInt8 := [48, 49, 50, 51, 52, 53, 54, 55, 56, 57, 97, 98, 99, 100, 101, 102]
def hexdig (d : Nat) : UInt8 := List.getD hexL d 0
theorem dig_slice (d : Nat) (h : d < 16) : List.take 1 (List.drop d hexL) = [hexdig d] := by
  have : ∀ d ∈ List.range 16, List.take 1 (List.drop d hexL) = [hexdig d] := by decide
  exact this d (List.mem_range.mpr h)
theorem sgn_tdiv (b : Bool) {n : Int} (h : 0 ≤ n) : Int.tdiv (sgnI b n) 10 = sgnI b (n / 10) := by
  cases b with
  | true => simp only [sgnI, if_true]; rw [Int.neg_tdiv, Int.tdiv_eq_ediv_of_nonneg h]
  | false => simp only [sgnI]; exact Int.tdiv_eq_ediv_of_nonneg h
theorem sgn_tmod (b : Bool) {n : Int} (h : 0 ≤ n) : Int.tmod (sgnI b n) 10 = sgnI b (n % 10) := by
  cases b with
  | true => simp only [sgnI, if_true]; rw [Int.neg_tmod, Int.tmod_eq_emod_of_nonneg h]
  | false => simp only [sgnI]; exact Int.tmod_eq_emod_of_nonneg h
/-- Sixteen digits of a number, the first one ahead. -/
def hexh : Nat → Nat → List UInt8
  | 0, _ => []
  | j + 1, x => hexdig (x / 16 ^ j % 16) :: hexh j x
theorem hexh_len : ∀ j x, (hexh j x).length = j
  | 0, _ => rfl
  | j + 1, x => by rw [hexh, List.length_cons, hexh_len j x]
theorem hexh_snoc : ∀ j x, hexh (j + 1) x = hexh j (x / 16) ++ [hexdig (x % 16)]
  | 0, x => by simp [hexh]
  | j + 1, x => by
    rw [hexh, hexh_snoc j x, hexh, List.cons_append, Nat.div_div_eq_div_mul, Nat.pow_succ, Nat.mul_comm]
theorem lexFloat_l1 (K : Nat) : ∀ (j k x : Nat) (acc : List UInt8) (i : Int), j < k → i = 16 - (j : Int) → j ≤ 16 → x < 18446744073709551616 → acc.length ≤ 16 - j →
    lex_Float.l1 K k (x : Int) acc i = some (([102, 39] ++ (hexh j x ++ acc)) ++ [39]) := by
  intro j
  induction j with
  | zero =>
    intro k x acc i hk hi hj hx hl
    obtain ⟨k, rfl⟩ : ∃ k', k = k' + 1 := ⟨k - 1, by omega⟩
    rw [lex_Float.l1, if_neg (by simp; omega), if_pos (by simp; omega), if_pos (by simp; omega)]
    simp [hexh]
  | succ j ih =>
    intro k x acc i hk hi hj hx hl
    obtain ⟨k, rfl⟩ : ∃ k', k = k' + 1 := ⟨k - 1, by omega⟩
    have e1 : Int.tmod (x : Int) 16 = ((x % 16 : Nat) : Int) := by rw [Int.tmod_eq_emod_of_nonneg (by omega)]; omega
    have e2 : Int.tdiv (x : Int) 16 = ((x / 16 : Nat) : Int) := by rw [Int.tdiv_eq_ediv_of_nonneg (by omega)]; omega
    have e3 : IntKind.wrap .u64 (((x % 16 : Nat) : Int) + 1) = ((x % 16 : Nat) : Int) + 1 := W_u64 (by omega) (by omega)
    have e4 : IntKind.wrap .u64 ((x / 16 : Nat) : Int) = ((x / 16 : Nat) : Int) := W_u64 (by omega) (by omega)
    have e5 : IntKind.wrap .i64 (i + 1) = i + 1 := W_in (by omega) (by omega)
    have hsl : List.take ((((x % 16 : Nat) : Int) + 1).toNat - (((x % 16 : Nat) : Int)).toNat) (List.drop (((x % 16 : Nat) : Int)).toNat hexL) = [hexdig (x % 16)] := by
      rw [show (((x % 16 : Nat) : Int) + 1).toNat - (((x % 16 : Nat) : Int)).toNat = 1 from by omega, Int.toNat_natCast]; exact dig_slice _ (Nat.mod_lt _ (by omega))
    rw [lex_Float.l1, if_pos (by simp; omega), e1, e2, e3, e4, e5, if_pos ⟨by omega, by omega, by simp; omega⟩, hsl, if_pos (by simp only [List.length_cons, List.length_nil]; omega)]
    rw [ih k (x / 16) ([hexdig (x % 16)] ++ acc) (i + 1) (by omega) (by omega) (by omega) (by omega) (by simp; omega), hexh_snoc]
    simp
end Go.Proofs.Ytbjbgodcenopnaa

namespace Go.Proofs.Ytbjbgodcenopnaa
set_option linter.unusedVariables false
set_option maxHeartbeats 1000000
/-- A byte as it stands between quotes. -/
def escS (c : UInt8) : List UInt8 :=
  if c = 39 ∨ c = 92 then [92, c] else if (c.toNat : Int) < 32 ∨ 126 < (c.toNat : Int) then [92, 120, hexdig (c.toNat / 16), hexdig (c.toNat % 16)] else [c]
def escL : List UInt8 → List UInt8
  | [] => []
  | c :: r => escS c ++ escL r
theorem bt_hex (d : Nat) (h : d < 16) : FW.bt hexL (d : Int) = ((hexdig d).toNat : Int) := by
  unfold FW.bt hexdig; rw [Int.toNat_natCast]
theorem u8_eq' (c : UInt8) (n : Nat) (hn : n < 256) : c = UInt8.ofNat n ↔ ((c.toNat : Int) = (n : Int)) := (u8_eq c n hn).symm
theorem text_l1 (K : Nat) : ∀ (k : Nat) (acc v : List UInt8) (i : Int), 0 ≤ i → i ≤ (v.length : Int) → (v.length : Int) ≤ 1000000000 → (acc.length : Int) ≤ 1 + 4 * i → (v.length : Int) - i < k →
    lex_Text.l1 K k acc (FW.bytesI v) (v.length : Int) i = some (acc ++ (escL (v.drop i.toNat) ++ [39])) := by
  intro k
  induction k with
  | zero => intro acc v i h0 h1 h2 h3 h4; omega
  | succ k ih =>
    intro acc v i h0 h1 h2 h3 h4
    rw [lex_Text.l1]
    have w1 : IntKind.wrap .i64 (i + 1) = i + 1 := W_in (by omega) (by omega)
    have hlen : ((FW.bytesI v).length : Int) = (v.length : Int) := by simp [FW.bytesI]
    cases hd : v.drop i.toNat with
    | nil =>
      have := drop_nil h0 hd
      have n1 : ¬ (i < (v.length : Int)) := by omega
      simp only [n1, decide_false, Bool.false_eq_true, if_false]
      rw [if_pos (by omega)]; rfl
    | cons c r =>
      obtain ⟨hlt, hdr, hle⟩ := drop_lt h0 hd
      have hget : List.getD (FW.bytesI v) i.toNat default = (c.toNat : Int) := by
        rw [List.getD_eq_getElem?_getD, FW.bytesI, List.getElem?_map]
        have : v[i.toNat]? = some c := by
          have := List.getElem?_drop (xs := v) (i := i.toNat) (j := 0)
          rw [hd] at this
          simpa using this.symm
        rw [this]; rfl
      have hc := u8_range c
      simp only [hlen, hlt, h0, and_self, decide_true, if_true, hget, Bool.or_eq_true, decide_eq_true_eq]
      have h39 : c = 39 ↔ ((c.toNat : Int) = 39) := u8_eq' c 39 (by omega)
      have h92 : c = 92 ↔ ((c.toNat : Int) = 92) := u8_eq' c 92 (by omega)
      unfold lex_Text.j1
      rw [escL, escS, w1]
      by_cases e1 : (c.toNat : Int) = 39 ∨ (c.toNat : Int) = 92
      · have p39 : c = 39 ∨ c = 92 := by rw [h39, h92]; exact e1
        rw [if_pos e1, if_pos (by omega), if_pos (by simp only [List.length_append, List.length_cons, List.length_nil]; omega), if_pos p39]
        rw [ih _ v (i + 1) (by omega) (by omega) h2 (by simp only [List.length_append, List.length_cons, List.length_nil]; omega) (by omega), hdr, u8_back]
        simp
      · have n39 : ¬ (c = 39 ∨ c = 92) := by rw [h39, h92]; exact e1
        rw [if_neg e1, if_neg n39]
        by_cases e2 : (c.toNat : Int) < 32 ∨ 126 < (c.toNat : Int)
        · have d1 : IntKind.wrap .u8 (Int.tdiv (c.toNat : Int) 16) = ((c.toNat / 16 : Nat) : Int) := by
            rw [Int.tdiv_eq_ediv_of_nonneg (by omega), W_u8 (by omega) (by omega)]; omega
          have d2 : Int.tmod (c.toNat : Int) 16 = ((c.toNat % 16 : Nat) : Int) := by
            rw [Int.tmod_eq_emod_of_nonneg (by omega)]; omega
          have r1 := u8_range (hexdig (c.toNat / 16))
          have r2 := u8_range (hexdig (c.toNat % 16))
          rw [if_pos e2, if_pos e2, d1, d2, bt_hex _ (by omega), bt_hex _ (by omega), u8_back, u8_back]
          rw [if_pos (by simp; omega), if_pos (by simp; omega), if_pos (by simp only [List.length_append, List.length_cons, List.length_nil]; omega), if_pos (by simp; omega), if_pos (by simp only [List.length_append, List.length_cons, List.length_nil]; omega)]
          rw [ih _ v (i + 1) (by omega) (by omega) h2 (by simp only [List.length_append, List.length_cons, List.length_nil]; omega) (by omega), hdr]
          simp
        · rw [if_neg e2, if_neg e2, if_pos (by omega)]
          rw [ih _ v (i + 1) (by omega) (by omega) h2 (by simp only [List.length_append, List.length_cons, List.length_nil]; omega) (by omega), hdr, u8_back]
          simp
theorem escS_len (c : UInt8) : (escS c).length ≤ 4 := by
  unfold escS
  split
  · simp
  · split <;> simp
theorem escL_len : ∀ v, (escL v).length ≤ 4 * v.length
  | [] => by simp [escL]
  | c :: r => by have := escS_len c; have := escL_len r; rw [escL, List.length_append, List.length_cons]; omega
end Go.Proofs.Ytbjbgodcenopnaa
