/- Plain law: what an Option comes to. -/
import Derived.Test.YtaoffkhflmndhaaAvOps
import Derived.IntWalk
namespace Go.Proofs.Ytaoffkhflmndhaa
set_option linter.unusedVariables false

/-- It comes to something, and that is such. -/
def Sat {α : Type} (x : Option α) (P : α → Prop) : Prop := ∃ r, x = some r ∧ P r
section
variable {α β : Type} {x : Option α} {P Q : α → Prop}
theorem Sat.some {r : α} (h : P r) : Sat (some r) P := ⟨r, rfl, h⟩
theorem Sat.mono (h : Sat x P) (h' : ∀ r, P r → Q r) : Sat x Q := let ⟨r, h1, h2⟩ := h; ⟨r, h1, h' r h2⟩
theorem Sat.chk {p : Prop} [Decidable p] (hp : p) (h : Sat x P) : Sat (if p then x else none) P := by rw [if_pos hp]; exact h
theorem Sat.ite {b : Bool} {y : Option α} (h1 : b = true → Sat x P) (h2 : b = false → Sat y P) : Sat (if b = true then x else y) P := by
  cases b with
  | true => rw [if_pos rfl]; exact h1 rfl
  | false => rw [if_neg (by simp)]; exact h2 rfl
theorem Sat.bind {F : β → Option α} {y : Option β} {R : β → Prop} (h : Sat y R) (h' : ∀ r, R r → Sat (F r) P) : Sat (Option.bind y F) P := by
  obtain ⟨r, rfl, hr⟩ := h
  exact h' r hr
theorem Sat.bindE {F : β → Option α} {y : Option β} {r : β} (h : y = Option.some r) (h' : Sat (F r) P) : Sat (Option.bind y F) P := by subst h; exact h'
theorem Sat.eq {r : α} (h : x = Option.some r) (hr : P r) : Sat x P := ⟨r, h, hr⟩
theorem Sat.get {r : α} (h : Sat x (fun y => y = r)) : x = Option.some r := by obtain ⟨y, h1, rfl⟩ := h; exact h1
end
theorem W_in {x : Int} (h0 : -9223372036854775808 ≤ x) (h1 : x ≤ 9223372036854775807) : IntKind.wrap .i64 x = x := IntWalk.i64_in x ⟨h0, h1⟩
theorem W_u8 {x : Int} (h0 : 0 ≤ x) (h1 : x < 256) : IntKind.wrap .u8 x = x := by rw [IntKind.wrap_u8]; omega
theorem W_u64 {x : Int} (h0 : 0 ≤ x) (h1 : x < 18446744073709551616) : IntKind.wrap .u64 x = x := by rw [IntKind.wrap_u64]; omega
theorem bt_cons (l : List UInt8) (c : UInt8) (i : Int) (h : 0 < i) : FW.bt (c :: l) i = FW.bt l (i - 1) := by
  unfold FW.bt
  have : i.toNat = (i - 1).toNat + 1 := by omega
  rw [this]; simp
theorem bt_zero (l : List UInt8) (c : UInt8) : FW.bt (c :: l) 0 = (c.toNat : Int) := by simp [FW.bt]
/-- The byte at a place, and what stands behind it. -/
theorem bt_at {l : List UInt8} {i : Int} {c : UInt8} {r : List UInt8} (h : l.drop i.toNat = c :: r) : FW.bt l i = (c.toNat : Int) := by
  unfold FW.bt
  have : l[i.toNat]? = some c := by
    have := List.getElem?_drop (xs := l) (i := i.toNat) (j := 0)
    rw [h] at this
    simpa using this.symm
  rw [List.getD_eq_getElem?_getD, this]; rfl
theorem drop_lt {l : List UInt8} {i : Int} {c : UInt8} {r : List UInt8} (h0 : 0 ≤ i) (h : l.drop i.toNat = c :: r) : i < (l.length : Int) ∧ l.drop (i + 1).toNat = r ∧ (l.length : Int) = i + 1 + r.length := by
  have hl : i.toNat < l.length := by
    rcases Nat.lt_or_ge i.toNat l.length with h' | h'
    · exact h'
    · rw [List.drop_of_length_le h'] at h; cases h
  have h2 : l.drop (i.toNat + 1) = r := by
    rw [← List.drop_drop, h]; rfl
  have h3 := congrArg List.length h
  simp only [List.length_drop, List.length_cons] at h3
  refine ⟨by omega, ?_, by omega⟩
  rw [show (i + 1).toNat = i.toNat + 1 from by omega]; exact h2
theorem drop_nil {l : List UInt8} {i : Int} (h0 : 0 ≤ i) (h : l.drop i.toNat = []) : (l.length : Int) ≤ i := by
  have := congrArg List.length h
  simp only [List.length_drop, List.length_nil] at this
  omega
theorem u8_back (c : UInt8) : UInt8.ofNat ((c.toNat : Int).toNat) = c := by simp
theorem u8_range (c : UInt8) : 0 ≤ (c.toNat : Int) ∧ (c.toNat : Int) < 256 := by have := c.toNat_lt; omega
theorem u8_eq (c : UInt8) (n : Nat) (hn : n < 256) : ((c.toNat : Int) = (n : Int)) ↔ c = UInt8.ofNat n := by
  constructor
  · intro h
    have : c.toNat = n := by omega
    rw [← this]; simp
  · rintro rfl
    simp; omega
end Go.Proofs.Ytaoffkhflmndhaa
