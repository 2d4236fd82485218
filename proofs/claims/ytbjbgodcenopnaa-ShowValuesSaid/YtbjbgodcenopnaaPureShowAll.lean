/- Written by merge.py of: PureMul, PureSize, PureCmp, PureChk, PureGood, PurePut, PureZero, PureSameC, PureOne, PureTok, PureQuo, PureInt11, PureFlt11, PureToks, PureWd, PureRd, PureArg, PureAwk, PureShow. -/
import Derived.Test.YtbjbgodcenopnaaPureCore
import Derived.Test.YtbjbgodcenopnaaHor
import Derived.Test.YtbjbgodcenopnaaPureRef13
import Derived.KernelRfl
import Derived.Test.YtbjbgodcenopnaaSvD
/- Plain law of numbers: a whole number times a power of two is a float that is no NaN; Split is total. -/
namespace Go.Proofs.Ytbjbgodcenopnaa
set_option linter.unusedVariables false
set_option maxHeartbeats 1000000
theorem read_word (neg : Bool) (rung : Nat) (h : rung ≤ Ieee.double.infRung) (s : Bool) (t : Nat) : Ieee.double.read (Ieee.double.word neg rung) ≠ .nan s t := by
  have hi : Ieee.double.infRung = 9218868437227405312 := by decide
  have hs : Ieee.double.signWeight = 9223372036854775808 := by decide
  have hr : Ieee.double.word neg rung % Ieee.double.signWeight = rung := by
    unfold Ieee.Format.word
    rw [hs]
    split <;> omega
  unfold Ieee.Format.read
  dsimp only
  rw [hr]
  split
  · simp
  split
  · simp
  split
  · simp
  · omega
theorem read_nearest (neg : Bool) (mag : Nat) (place : Int) (s : Bool) (t : Nat) : Ieee.double.read (Ieee.double.nearest neg mag place) ≠ .nan s t := by
  unfold Ieee.Format.nearest
  split
  · exact read_word neg 0 (Nat.zero_le _) s t
  · exact read_word neg _ (Nat.min_le_right _ _) s t
def isPow (d : Ieee.Datum) : Bool := match d with | .number _ m _ => m != 0 | _ => false
set_option maxRecDepth 100000 in
theorem pow_read : ∀ k : Fin 40, isPow (Ieee.double.read (FW.i2f (FW.shlI .i64 1 ((k.val : Nat) : Int)))) = true := by decide +kernel
theorem mul_some (m : Int) (k : Nat) (hk : k < 40) : (FloatKind.f64.format.mul (FW.i2f m) (FW.i2f (FW.shlI .i64 1 (k : Int)))).isSome = true := by
  show (Ieee.double.mul _ _).isSome = true
  unfold Ieee.Format.mul
  rw [Option.isSome_map]
  have h1 : ∀ s t, Ieee.double.read (FW.i2f m) ≠ .nan s t := fun s t => read_nearest _ _ _ s t
  have h2 := pow_read ⟨k, hk⟩
  generalize Ieee.double.read (FW.i2f m) = x at *
  generalize Ieee.double.read (FW.i2f (FW.shlI .i64 1 (k : Int))) = y at *
  cases y with
  | number s n p =>
    have hn : n ≠ 0 := by simpa [isPow] using h2
    cases x with
    | number s' n' p' => rfl
    | infinity s' => simp [Ieee.Datum.product, hn]
    | nan s' t => exact absurd rfl (h1 s' t)
  | infinity s => simp [isPow] at h2
  | nan s t => simp [isPow] at h2
theorem shr_one (x : Int) (h : In64 x) : FW.shrI .i64 x 1 = x / 2 := by
  unfold In64 at h
  unfold FW.shrI
  have e : (2 : Int) ^ min 1 IntKind.i64.bits = 2 := by decide
  simp [e]
  rw [Int.fdiv_eq_ediv_of_nonneg _ (by omega)]
theorem split_l1 (K : Nat) (x0 : Int) : ∀ (j k i : Nat) (x : Int), j < k → i + j ≤ 30 → -9007199254740992 * 2 ^ j ≤ x → x ≤ 9007199254740992 * 2 ^ j → In64 x → ∃ r, offshootref01_Split.l1 K k x0 x (i : Int) = some r := by
  intro j
  induction j with
  | zero =>
    intro k i x hk hi h0 h1 h64
    obtain ⟨k, rfl⟩ : ∃ q, k = q + 1 := ⟨k - 1, by omega⟩
    rw [offshootref01_Split.l1, if_neg (by simp at h0 h1; simp; omega), W_u64 (by omega) (by omega), if_pos (by omega), if_pos (by omega), if_pos (mul_some x i (by omega))]
    exact ⟨_, rfl⟩
  | succ j ih =>
    intro k i x hk hi h0 h1 h64
    obtain ⟨k, rfl⟩ : ∃ q, k = q + 1 := ⟨k - 1, by omega⟩
    rw [offshootref01_Split.l1]
    by_cases hc : (9007199254740992 < x) ∨ x < -9007199254740992
    · rw [if_pos (by simpa using hc), shr_one x h64, W_in (by omega) (by omega), show ((i : Int) + 1) = ((i + 1 : Nat) : Int) by omega]
      rw [Int.pow_succ] at h0 h1
      unfold In64 at h64
      exact ih k (i + 1) (x / 2) (by omega) (by omega) (by omega) (by omega) (by unfold In64; omega)
    · rw [if_neg (by simpa using hc), W_u64 (by omega) (by omega), if_pos (by omega), if_pos (by omega), if_pos (mul_some x i (by omega))]
      exact ⟨_, rfl⟩
theorem split_tot (K : Nat) (hK : 20 < K) (x : Int) (h : In64 x) : ∃ r, offshootref01_Split.f K x = some r := by
  unfold offshootref01_Split.f
  unfold In64 at h
  exact split_l1 K x 10 K 0 x (by omega) (by omega) (by omega) (by omega) h
end Go.Proofs.Ytbjbgodcenopnaa
/- Plain law of values: sizes; how values are ordered is total. -/
namespace Go.Proofs.Ytbjbgodcenopnaa
set_option linter.unusedVariables false
set_option maxHeartbeats 1000000
/-! What is counted of a value: itself, and what stands in a list or a map. -/
mutual
def nzV : ApiValue → Nat
  | ⟨k, _, _, _, _, L⟩ => 1 + (if k = 5 ∨ k = 6 then nzL L else 0)
def nzL : List ApiValue → Nat
  | [] => 0
  | x :: r => nzV x + nzL r
end
theorem nzV_eq (v : ApiValue) : nzV v = 1 + (if v.Kind = 5 ∨ v.Kind = 6 then nzL v.L else 0) := by cases v; simp [nzV]
theorem nzV_pos (v : ApiValue) : 1 ≤ nzV v := by rw [nzV_eq]; omega
theorem nzL_len : ∀ l : List ApiValue, l.length ≤ nzL l
  | [] => by simp [nzL]
  | x :: r => by have := nzL_len r; have := nzV_pos x; simp only [nzL, List.length_cons]; omega
theorem nzL_get : ∀ (l : List ApiValue) (j : Nat), j < l.length → nzV (l.getD j default) ≤ nzL l
  | [], j, h => by simp at h
  | x :: r, 0, h => by simp only [nzL, List.getD_cons_zero]; omega
  | x :: r, j + 1, h => by have := nzL_get r j (by simpa using h); simp only [nzL, List.getD_cons_succ]; omega
theorem nzL_take : ∀ (l : List ApiValue) (j : Nat), j < l.length → nzL (l.take (j + 1)) = nzL (l.take j) + nzV (l.getD j default)
  | [], j, h => by simp at h
  | x :: r, 0, h => by simp [nzL]
  | x :: r, j + 1, h => by
    have := nzL_take r j (by simpa using h)
    simp only [List.take_succ_cons, nzL, List.getD_cons_succ] at this ⊢
    omega
/-! Values with short texts and short rows. -/
mutual
def SmV : ApiValue → Prop
  | ⟨_, _, _, _, s, l⟩ => s.length ≤ 500 ∧ l.length ≤ 1000 ∧ SmL l
def SmL : List ApiValue → Prop
  | [] => True
  | x :: r => SmV x ∧ SmL r
end
theorem smL_get : ∀ (l : List ApiValue) (j : Nat), SmL l → j < l.length → SmV (l.getD j default)
  | [], j, _, h => by simp at h
  | x :: r, 0, h, _ => by simp only [SmL] at h; exact h.1
  | x :: r, j + 1, h, hj => by simp only [SmL] at h; exact smL_get r j h.2 (by simpa using hj)
theorem SmV.one {v : ApiValue} (h : SmV v) : v.S.length ≤ 500 ∧ v.L.length ≤ 1000 ∧ SmL v.L := by
  cases v
  simpa only [SmV] using h
/-- A value's size, where at most m are counted. -/
def SizeP (v : ApiValue) (m r : Int) : Prop := 1 ≤ r ∧ r ≤ m + 1000 ∧ (r ≤ m → (nzV v : Int) ≤ r)
theorem size_l1 (F : ApiValue → Int → Option Int) (K : Nat) (y : ApiValue) (m : Int) (hm0 : 0 ≤ m) (hm : m ≤ 60000) (hk : y.Kind = 5 ∨ y.Kind = 6) (hl : y.L.length ≤ 1000)
    (h : ∀ (j : Nat) (q : Int), j < y.L.length → 0 ≤ q → q + 3 ≤ m → ∃ r, F (y.L.getD j default) q = some r ∧ SizeP (y.L.getD j default) q r) :
    ∀ (k j : Nat) (n : Int), j ≤ y.L.length → 3 ≤ n → n ≤ m + 1000 → (n ≤ m → (nzL (y.L.take j) : Int) + 1 ≤ n) → (m - n + 2).toNat < k → ∃ r, offshootref02_size.l1 F K y k m n (j : Int) = some r ∧ SizeP y m r := by
  intro k
  induction k with
  | zero => intro j n h0 h1 h2 h3 h4; omega
  | succ k ih =>
    intro j n h0 h1 h2 h3 h4
    rw [offshootref02_size.l1]
    by_cases hc : (j : Int) < (y.L.length : Int) ∧ n ≤ m
    · have hj : j < y.L.length := by omega
      rw [if_pos (by simpa using hc), if_pos ⟨by omega, hc.1⟩, W_in (by omega) (by omega), Int.toNat_natCast]
      obtain ⟨r, hr, r1, r2, r3⟩ := h j (m - n) hj (by omega) (by omega)
      rw [hr, Option.bind_some, W_in (by omega) (by omega), W_in (by omega) (by omega), show ((j : Int) + 1) = ((j + 1 : Nat) : Int) by omega]
      refine ih (j + 1) (n + r) (by omega) (by omega) (by omega) (fun hle => ?_) (by omega)
      rw [nzL_take y.L j hj]
      have a := h3 hc.2
      have b := r3 (by omega)
      omega
    · rw [if_neg (by simpa using hc)]
      refine ⟨n, rfl, by omega, h2, fun hle => ?_⟩
      have a := h3 hle
      have hj : j = y.L.length := by omega
      subst hj
      rw [List.take_length] at a
      rw [nzV_eq, if_pos hk]
      omega
theorem size_small : ∀ (K : Nat) (v : ApiValue) (m : Int), SmV v → 0 ≤ m → m ≤ 60000 → m + 10 ≤ (K : Int) → ∃ r, offshootref02_size.f K v m = some r ∧ SizeP v m r := by
  intro K
  induction K with
  | zero => intro v m h h0 h1 h2; omega
  | succ K ih =>
    intro v m h h0 h1 h2
    have h1' := h.one
    have small : ∀ r : Int, 1 ≤ r → r ≤ m + 1000 → ¬ (v.Kind = 5 ∨ v.Kind = 6) → SizeP v m r := fun r a b c => ⟨a, b, fun _ => by rw [nzV_eq, if_neg c]; omega⟩
    rw [offshootref02_size.f]
    unfold offshootref02_size.b
    by_cases k0 : v.Kind = 0
    · rw [if_pos (by simpa using k0)]
      exact ⟨1, rfl, small _ (by omega) (by omega) (by omega)⟩
    rw [if_neg (by simpa using k0)]
    by_cases k1 : v.Kind = 1
    · rw [if_pos (by simpa using k1)]
      exact ⟨2, rfl, small _ (by omega) (by omega) (by omega)⟩
    rw [if_neg (by simpa using k1)]
    by_cases k4 : v.Kind = 4
    · have := h1'.1
      rw [if_pos (by simpa using k4), W_in (by omega) (by omega)]
      exact ⟨_, rfl, small _ (by omega) (by omega) (by omega)⟩
    rw [if_neg (by simpa using k4)]
    have j1 : ∀ b : Bool, (b = true ↔ (v.Kind = 5 ∨ v.Kind = 6)) → ∃ r, offshootref02_size.j1 (offshootref02_size.f K) K v m b = some r ∧ SizeP v m r := by
      intro b hb
      unfold offshootref02_size.j1
      by_cases hk : v.Kind = 5 ∨ v.Kind = 6
      · rw [if_pos (hb.2 hk)]
        have := size_l1 (offshootref02_size.f K) K v m h0 h1 hk h1'.2.1 (fun j q hj hq hq2 => ih _ q (smL_get _ j h1'.2.2 hj) hq (by omega) (by omega)) K 0 3 (by omega) (by omega) (by omega) (fun _ => by simp [nzL]) (by omega)
        simpa using this
      · rw [if_neg (fun e => hk (hb.1 e))]
        exact ⟨9, rfl, small _ (by omega) (by omega) hk⟩
    by_cases k5 : v.Kind = 5
    · rw [if_pos (by simpa using k5)]
      exact j1 _ (by simp [k5])
    · rw [if_neg (by simpa using k5)]
      exact j1 _ (by simp [k5])
theorem okVL_get : ∀ (l : List ApiValue) (j : Nat), OkVL l → j < l.length → OkV (l.getD j default)
  | [], j, _, h => by simp at h
  | x :: r, 0, h, _ => by simp only [OkVL] at h; exact h.1
  | x :: r, j + 1, h, hj => by simp only [OkVL] at h; exact okVL_get r j h.2 (by simpa using hj)
theorem wf64 {x : Int} (h : (Lit.int .i64 x).wf = true) : In64 x := by
  simp only [Lit.wf, Bool.and_eq_true, decide_eq_true_eq] at h
  unfold In64
  exact h
structure Ok1 (v : ApiValue) : Prop where
  k : In64 v.Kind
  n : In64 v.N
  f : (Lit.float .f64 v.F).wf = true
  l : v.L.length ≤ 9223372036854775807
  all : OkVL v.L
theorem OkV.one {v : ApiValue} (h : OkV v) : Ok1 v := by
  cases v
  simp only [OkV] at h
  exact ⟨wf64 h.1, wf64 h.2.1, h.2.2.1, h.2.2.2.2.1, h.2.2.2.2.2⟩
/-! Whatever the value: a size is told. All that is in a value is counted for the fuel. -/
mutual
def szV : ApiValue → Nat
  | ⟨_, _, _, _, _, L⟩ => 1 + szVL L
def szVL : List ApiValue → Nat
  | [] => 0
  | x :: r => szV x + szVL r
end
theorem szV_eq (y : ApiValue) : szV y = 1 + szVL y.L := by cases y; simp [szV]
theorem szVL_len : ∀ l : List ApiValue, l.length ≤ szVL l
  | [] => by simp [szVL]
  | x :: r => by have := szVL_len r; have := szV_eq x; simp only [szVL, List.length_cons]; omega
theorem szVL_get : ∀ (l : List ApiValue) (j : Nat), j < l.length → szV (l.getD j default) ≤ szVL l
  | [], j, h => by simp at h
  | x :: r, 0, h => by simp only [szVL, List.getD_cons_zero]; omega
  | x :: r, j + 1, h => by have := szVL_get r j (by simpa using h); simp only [szVL, List.getD_cons_succ]; omega
theorem sizeT_l1 (F : ApiValue → Int → Option Int) (K : Nat) (y : ApiValue) (m : Int) (hl : y.L.length ≤ 9223372036854775807) (h : ∀ (j : Nat) (q : Int), j < y.L.length → ∃ r, F (y.L.getD j default) q = some r) :
    ∀ (k j : Nat) (n : Int), j ≤ y.L.length → y.L.length - j < k → ∃ r, offshootref02_size.l1 F K y k m n (j : Int) = some r := by
  intro k
  induction k with
  | zero => intro j n h0 h1; omega
  | succ k ih =>
    intro j n h0 h1
    rw [offshootref02_size.l1]
    by_cases hc : (j : Int) < (y.L.length : Int) ∧ n ≤ m
    · have hj : j < y.L.length := by omega
      rw [if_pos (by simpa using hc), if_pos ⟨by omega, hc.1⟩, Int.toNat_natCast]
      obtain ⟨r, hr⟩ := h j (IntKind.wrap .i64 (m - n)) hj
      rw [hr, Option.bind_some, W_in (x := (j : Int) + 1) (by omega) (by omega), show ((j : Int) + 1) = ((j + 1 : Nat) : Int) by omega]
      exact ih (j + 1) _ (by omega) (by omega)
    · rw [if_neg (by simpa using hc)]
      exact ⟨n, rfl⟩
theorem size_tot : ∀ (K : Nat) (v : ApiValue) (m : Int), OkV v → szV v + 1 ≤ K → ∃ r, offshootref02_size.f K v m = some r := by
  intro K
  induction K with
  | zero => intro v m h0 h1; omega
  | succ K ih =>
    intro v m h0 h1
    have hz := szV_eq v
    have hl := szVL_len v.L
    have h1' := h0.one
    rw [offshootref02_size.f]
    unfold offshootref02_size.b
    have j1 : ∀ b : Bool, ∃ r, offshootref02_size.j1 (offshootref02_size.f K) K v m b = some r := by
      intro b
      unfold offshootref02_size.j1
      cases b with
      | true =>
        rw [if_pos rfl]
        have := sizeT_l1 (offshootref02_size.f K) K v m h1'.l (fun j q hj => by have := szVL_get v.L j hj; exact ih _ q (okVL_get _ j h1'.all hj) (by omega)) K 0 3 (by omega) (by omega)
        simpa using this
      | false => rw [if_neg (by simp)]; exact ⟨9, rfl⟩
    split
    · exact ⟨_, rfl⟩
    split
    · exact ⟨_, rfl⟩
    split
    · exact ⟨_, rfl⟩
    split
    · exact j1 _
    · exact j1 _
end Go.Proofs.Ytbjbgodcenopnaa
/- Plain law of values: how they are ordered is told, whatever they are. -/
namespace Go.Proofs.Ytbjbgodcenopnaa
set_option linter.unusedVariables false
set_option maxHeartbeats 1000000
def Tot {α : Type} (x : Option α) : Prop := ∃ r, x = some r
section
variable {α β : Type}
theorem Tot.some (r : α) : Tot (some r) := ⟨r, rfl⟩
theorem Tot.ite {p : Prop} [Decidable p] {x y : Option α} (h1 : p → Tot x) (h2 : ¬ p → Tot y) : Tot (if p then x else y) := by
  by_cases h : p
  · rw [if_pos h]; exact h1 h
  · rw [if_neg h]; exact h2 h
theorem Tot.bind {x : Option β} {F : β → Option α} (h : Tot x) (h' : ∀ r, Tot (F r)) : Tot (Option.bind x F) := by
  obtain ⟨r, rfl⟩ := h
  exact h' r
theorem Tot.chk {p : Prop} [Decidable p] {x : Option α} (hp : p) (h : Tot x) : Tot (if p then x else none) := by rw [if_pos hp]; exact h
end
theorem less_tot (a b : Nat) : Tot (offshootref01_Less.f a b) := by
  unfold offshootref01_Less.f
  refine Tot.ite (fun _ => Tot.some _) (fun _ => Tot.ite (fun _ => ?_) (fun _ => Tot.some _))
  exact Tot.bind (Tot.some _) fun _ => Tot.bind (Tot.ite (fun _ => Tot.some _) (fun _ => Tot.some _)) fun _ => Tot.some _
theorem fcmp_tot (a b : Nat) : Tot (offshootref01_Cmp.f a b) := by
  unfold offshootref01_Cmp.f
  exact Tot.bind (less_tot a b) fun _ => Tot.ite (fun _ => Tot.some _) (fun _ => Tot.bind (less_tot b a) fun _ => Tot.ite (fun _ => Tot.some _) (fun _ => Tot.some _))
theorem mix_tot (K : Nat) (hK : 20 < K) (x : Int) (h : In64 x) (f : Nat) : Tot (offshootref01_Mix.f K x f) := by
  unfold offshootref01_Mix.f
  exact Tot.bind (split_tot K hK x h) fun _ => Tot.bind (fcmp_tot _ _) fun _ => Tot.ite (fun _ => Tot.some _) (fun _ => Tot.ite (fun _ => Tot.some _) (fun _ => Tot.some _))
theorem class_tot (k : Int) : Tot (offshootref02_class.f k) := by unfold offshootref02_class.f; exact Tot.ite (fun _ => Tot.some _) (fun _ => Tot.some _)
theorem sign_tot (a b : Bool) : Tot (offshootref02_sign.f a b) := by unfold offshootref02_sign.f; exact Tot.ite (fun _ => Tot.some _) (fun _ => Tot.ite (fun _ => Tot.some _) (fun _ => Tot.some _))
theorem cmp_l1 (F : ApiValue → ApiValue → Option Int) (K : Nat) (a b : ApiValue) (hl : a.L.length ≤ 9223372036854775807) (h : ∀ j, j < a.L.length → j < b.L.length → Tot (F (a.L.getD j default) (b.L.getD j default))) :
    ∀ (k j : Nat), j ≤ a.L.length → a.L.length - j < k → Tot (offshootref02_Cmp.l1 F K k b a (j : Int)) := by
  intro k
  induction k with
  | zero => intro j h0 h1; omega
  | succ k ih =>
    intro j h0 h1
    rw [offshootref02_Cmp.l1]
    refine Tot.ite (fun hc => ?_) (fun _ => Tot.bind (sign_tot _ _) fun _ => Tot.some _)
    simp only [Bool.and_eq_true, decide_eq_true_eq] at hc
    refine Tot.chk ⟨by omega, hc.1⟩ (Tot.chk ⟨by omega, hc.2⟩ ?_)
    rw [Int.toNat_natCast]
    refine Tot.bind (h j (by omega) (by omega)) fun r => Tot.ite (fun _ => Tot.some _) (fun _ => ?_)
    rw [W_in (x := (j : Int) + 1) (by omega) (by omega), show ((j : Int) + 1) = ((j + 1 : Nat) : Int) by omega]
    exact ih (j + 1) (by omega) (by omega)
theorem cmp_tot : ∀ (K : Nat) (a b : ApiValue), OkV a → OkV b → szV a + 30 ≤ K → Tot (offshootref02_Cmp.f K a b) := by
  intro K
  induction K with
  | zero => intro a b ha hb h; omega
  | succ K ih =>
    intro a b ha hb h
    have hz := szV_eq a
    have hl := szVL_len a.L
    have a1 := ha.one
    have b1 := hb.one
    rw [offshootref02_Cmp.f]
    unfold offshootref02_Cmp.b
    refine Tot.bind (class_tot _) fun t1 => Tot.bind (class_tot _) fun t2 => ?_
    refine Tot.ite (fun _ => Tot.bind (class_tot _) fun _ => Tot.bind (class_tot _) fun _ => Tot.bind (sign_tot _ _) fun _ => Tot.some _) (fun _ => ?_)
    refine Tot.ite (fun _ => Tot.bind (sign_tot _ _) fun _ => Tot.some _) (fun _ => ?_)
    refine Tot.ite (fun _ => Tot.bind (mix_tot K (by omega) _ a1.n _) fun _ => Tot.some _) (fun _ => ?_)
    refine Tot.ite (fun _ => Tot.bind (mix_tot K (by omega) _ b1.n _) fun _ => Tot.some _) (fun _ => ?_)
    refine Tot.ite (fun _ => Tot.bind (fcmp_tot _ _) fun _ => Tot.some _) (fun _ => ?_)
    refine Tot.ite (fun _ => Tot.bind (sign_tot _ _) fun _ => Tot.some _) (fun _ => ?_)
    refine Tot.ite (fun _ => ?_) (fun _ => Tot.bind (sign_tot _ _) fun _ => Tot.some _)
    exact cmp_l1 (offshootref02_Cmp.f K) K a b a1.l (fun j hj hj2 => by
      have := szVL_get a.L j hj
      exact ih _ _ (okVL_get _ j a1.all hj) (okVL_get _ j b1.all hj2) (by omega)) K 0 (by omega) (by omega)
theorem rises_l1 (K : Nat) (l : List ApiValue) (hl : l.length ≤ 1000) (h : OkVL l) (hK : szVL l + 30 ≤ K) : ∀ (k j : Nat), 2 ≤ j → j ≤ l.length + 2 → l.length + 2 - j < k → Tot (offshootref02_rises.l1 K k l (j : Int)) := by
  intro k
  induction k with
  | zero => intro j h0 h1 h2; omega
  | succ k ih =>
    intro j h0 h1 h2
    rw [offshootref02_rises.l1]
    refine Tot.ite (fun hc => ?_) (fun _ => Tot.some _)
    simp only [decide_eq_true_eq] at hc
    rw [W_in (x := (j : Int) - 2) (by omega) (by omega), show ((j : Int) - 2) = ((j - 2 : Nat) : Int) by omega]
    refine Tot.chk ⟨by omega, by omega⟩ (Tot.chk ⟨by omega, hc⟩ ?_)
    rw [Int.toNat_natCast, Int.toNat_natCast]
    have := szVL_get l (j - 2) (by omega)
    refine Tot.bind (cmp_tot K _ _ (okVL_get _ _ h (by omega)) (okVL_get _ _ h (by omega)) (by omega)) fun r => Tot.ite (fun _ => Tot.some _) (fun _ => ?_)
    rw [W_in (x := (j : Int) + 2) (by omega) (by omega), show ((j : Int) + 2) = ((j + 2 : Nat) : Int) by omega]
    exact ih (j + 2) (by omega) (by omega) (by omega)
theorem rises_tot (K : Nat) (l : List ApiValue) (hl : l.length ≤ 1000) (h : OkVL l) (hK : szVL l + 30 ≤ K) (hK2 : 1100 < K) : Tot (offshootref02_rises.f K l) := by
  unfold offshootref02_rises.f
  by_cases h2 : 2 ≤ l.length
  · exact rises_l1 K l hl h hK K 2 (by omega) (by omega) (by omega)
  · obtain ⟨k, rfl⟩ : ∃ k, K = k + 1 := ⟨K - 1, by omega⟩
    rw [offshootref02_rises.l1, if_neg (by simp; omega)]
    exact Tot.some _
end Go.Proofs.Ytbjbgodcenopnaa
/- Plain law of values: Check is told, and what it lets pass. -/
namespace Go.Proofs.Ytbjbgodcenopnaa
set_option linter.unusedVariables false
set_option maxHeartbeats 1000000
/-! Values that may be. -/
mutual
def GdV : ApiValue → Prop
  | ⟨k, b, n, f, s, l⟩ => 0 ≤ k ∧ k ≤ 8 ∧ (b = true → k = 1) ∧ (n ≠ 0 → k = 2 ∨ k = 7 ∨ k = 8) ∧ (k = 7 ∨ k = 8 → 1 ≤ n) ∧ (k ≠ 3 → FW.feql f 0 = true ∧ math_Signbit.f f = some false) ∧ (s ≠ [] → k = 4) ∧ (l ≠ [] → k = 5 ∨ k = 6) ∧ s.length ≤ 500 ∧ l.length ≤ 1000 ∧ GdL l
def GdL : List ApiValue → Prop
  | [] => True
  | x :: r => GdV x ∧ GdL r
end
theorem gdL_of : ∀ l : List ApiValue, (∀ j, j < l.length → GdV (l.getD j default)) → GdL l
  | [], _ => by simp [GdL]
  | x :: r, h => by
    simp only [GdL]
    exact ⟨h 0 (by simp), gdL_of r fun j hj => h (j + 1) (by simpa using hj)⟩
theorem check_l1 (F : ApiValue → Int → Option Int) (K : Nat) (y : ApiValue) (d : Int) (kd : Int) (hd : 0 ≤ d ∧ d ≤ 13) (hl : y.L.length ≤ 1000) (hr : Tot (offshootref02_rises.f K y.L)) (h : ∀ j, j < y.L.length → ∃ r, F (y.L.getD j default) (d + 1) = some r ∧ (r = 0 → GdV (y.L.getD j default))) :
    ∀ (k j : Nat), j ≤ y.L.length → y.L.length - j < k → (∀ q, q < j → GdV (y.L.getD q default)) → ∃ r, offshootref02_check.l1 F K k y d kd (j : Int) = some r ∧ (r = 0 → GdL y.L) := by
  intro k
  induction k with
  | zero => intro j h0 h1 h2; omega
  | succ k ih =>
    intro j h0 h1 h2
    rw [offshootref02_check.l1]
    by_cases hc : (j : Int) < (y.L.length : Int)
    · have hj : j < y.L.length := by omega
      rw [if_pos (by simpa using hc), if_pos ⟨by omega, hc⟩, Int.toNat_natCast, W_in (x := d + 1) (by omega) (by omega)]
      obtain ⟨r, hr, hg⟩ := h j hj
      rw [hr, Option.bind_some]
      by_cases hz : r = 0
      · rw [if_neg (by simp [hz]), W_in (x := (j : Int) + 1) (by omega) (by omega), show ((j : Int) + 1) = ((j + 1 : Nat) : Int) by omega]
        refine ih (j + 1) (by omega) (by omega) fun q hq => ?_
        by_cases e : q = j
        · subst e; exact hg hz
        · exact h2 q (by omega)
      · rw [if_pos (by simpa using hz)]
        exact ⟨r, rfl, fun e => absurd e hz⟩
    · rw [if_neg (by simpa using hc)]
      have hj : j = y.L.length := by omega
      subst hj
      obtain ⟨t, ht⟩ := hr
      have hG : GdL y.L := gdL_of y.L h2
      by_cases hk : kd = 6
      · rw [if_pos (by simpa using hk), ht, Option.bind_some]
        split
        · exact ⟨6, rfl, fun _ => hG⟩
        · exact ⟨0, rfl, fun _ => hG⟩
      · rw [if_neg (by simpa using hk), Option.bind_some]
        split
        · exact ⟨6, rfl, fun _ => hG⟩
        · exact ⟨0, rfl, fun _ => hG⟩
theorem check_tot : ∀ (K : Nat) (v : ApiValue) (d : Int), OkV v → szV v + 1200 ≤ K → 0 ≤ d → d ≤ 14 → ∃ r, offshootref02_check.f K v d = some r ∧ (r = 0 → GdV v) := by
  intro K
  induction K with
  | zero => intro v d h h0; omega
  | succ K ih =>
    intro v d h h0 hd0 hd1
    have hz := szV_eq v
    have hl := szVL_len v.L
    have v1 := h.one
    rw [offshootref02_check.f]
    unfold offshootref02_check.b
    by_cases hd : 13 < d
    · rw [if_pos (by simpa using hd)]
      exact ⟨3, rfl, fun e => by cases e⟩
    rw [if_neg (by simpa using hd)]
    have hsb : ∀ f, ∃ b, math_Signbit.f f = some b := fun f => ⟨_, rfl⟩
    obtain ⟨t, ht, ht2⟩ : ∃ t : Bool, (if (FW.feql v.F 0) = true then math_Signbit.f v.F else some default) = some t ∧ (FW.feql v.F 0 = true → math_Signbit.f v.F = some t) := by
      obtain ⟨b, hb⟩ := hsb v.F
      by_cases hf : FW.feql v.F 0 = true
      · exact ⟨b, by rw [if_pos hf, hb], fun _ => hb⟩
      · exact ⟨default, by rw [if_neg hf], fun e => absurd e hf⟩
    rw [ht, Option.bind_some]
    split
    · exact ⟨6, rfl, fun e => by cases e⟩
    rename_i hbad
    split
    · exact ⟨3, rfl, fun e => by cases e⟩
    rename_i hbig
    simp only [Bool.or_eq_true, decide_eq_true_eq, not_or] at hbig
    have hr : Tot (offshootref02_rises.f K v.L) := rises_tot K v.L (by omega) v1.all (by omega) (by omega)
    obtain ⟨r, hr1, hr2⟩ := check_l1 (offshootref02_check.f K) K v d v.Kind ⟨hd0, by omega⟩ (by omega) hr (fun j hj => by
      have := szVL_get v.L j hj
      exact ih _ (d + 1) (okVL_get _ j v1.all hj) (by omega) (by omega) (by omega)) K 0 (by omega) (by omega) (fun q hq => by omega)
    refine ⟨r, by simpa using hr1, fun e => ?_⟩
    have hG := hr2 e
    obtain ⟨k, b, n, f, s, l⟩ := v
    simp only [GdV]
    dsimp only at hbig
    simp only [Bool.or_eq_true, Bool.and_eq_true, decide_eq_true_eq, not_or, Bool.not_eq_true', decide_eq_false_iff_not, Bool.or_eq_false_iff, Bool.and_eq_false_iff, not_and] at hbad
    obtain ⟨⟨⟨⟨⟨⟨⟨b1, b2⟩, b3⟩, b4⟩, b5⟩, b6⟩, b7⟩, b8⟩ := hbad
    refine ⟨by omega, by omega, fun e => ?_, fun e => ?_, fun e => ?_, fun e => ?_, fun e => ?_, fun e => ?_, by omega, by omega, hG⟩
    · exact Classical.not_not.1 (b3 e)
    · by_cases hk2 : k = 2
      · exact .inl hk2
      · right
        have := b4 ⟨e, hk2⟩
        omega
    · have := b5 e
      omega
    · by_cases hf : FW.feql f 0 = true
      · refine ⟨hf, ?_⟩
        have h2 := ht2 hf
        cases t with
        | false => exact h2
        | true =>
          exfalso
          exact b6 (.inr rfl) e
      · exact absurd e (b6 (.inl (by simpa using hf)))
    · exact Classical.not_not.1 (b7 e)
    · by_cases h5 : k = 5
      · exact .inl h5
      · right
        have hlen : 0 < (l.length : Int) := by
          have := List.length_pos_iff.2 e
          omega
        exact Classical.not_not.1 (b8 ⟨hlen, h5⟩)
end Go.Proofs.Ytbjbgodcenopnaa
/- Plain law of values that may be: how long their texts and their bytes are. -/
namespace Go.Proofs.Ytbjbgodcenopnaa
set_option linter.unusedVariables false
set_option maxHeartbeats 1000000
structure Gd1 (v : ApiValue) : Prop where
  k0 : 0 ≤ v.Kind
  k8 : v.Kind ≤ 8
  b : v.B = true → v.Kind = 1
  n : v.N ≠ 0 → v.Kind = 2 ∨ v.Kind = 7 ∨ v.Kind = 8
  id : v.Kind = 7 ∨ v.Kind = 8 → 1 ≤ v.N
  f : v.Kind ≠ 3 → FW.feql v.F 0 = true ∧ math_Signbit.f v.F = some false
  s : v.S ≠ [] → v.Kind = 4
  l : v.L ≠ [] → v.Kind = 5 ∨ v.Kind = 6
  s500 : v.S.length ≤ 500
  l1000 : v.L.length ≤ 1000
  all : GdL v.L
theorem GdV.one {v : ApiValue} (h : GdV v) : Gd1 v := by
  cases v
  simp only [GdV] at h
  obtain ⟨a, b, c, d, e, f, g, i, j, k, l⟩ := h
  exact ⟨a, b, c, d, e, f, g, i, j, k, l⟩
mutual
theorem gd_sm : ∀ v : ApiValue, GdV v → SmV v
  | ⟨k, b, n, f, s, l⟩, h => by
    simp only [GdV] at h
    simp only [SmV]
    exact ⟨h.2.2.2.2.2.2.2.2.1, h.2.2.2.2.2.2.2.2.2.1, gdL_sm l h.2.2.2.2.2.2.2.2.2.2⟩
theorem gdL_sm : ∀ l : List ApiValue, GdL l → SmL l
  | [], _ => by simp [SmL]
  | x :: r, h => by
    simp only [GdL] at h
    simp only [SmL]
    exact ⟨gd_sm x h.1, gdL_sm r h.2⟩
end
mutual
theorem gd_nz : ∀ v : ApiValue, GdV v → nzV v = szV v
  | ⟨k, b, n, f, s, l⟩, h => by
    simp only [GdV] at h
    obtain ⟨_, _, _, _, _, _, _, hl, _, _, hg⟩ := h
    simp only [nzV, szV]
    by_cases hk : k = 5 ∨ k = 6
    · rw [if_pos hk, gdL_nz l hg]
    · have : l = [] := Classical.not_not.1 fun e => hk (hl e)
      subst this
      rw [if_neg hk]; simp [szVL]
theorem gdL_nz : ∀ l : List ApiValue, GdL l → nzL l = szVL l
  | [], _ => by simp [nzL, szVL]
  | x :: r, h => by
    simp only [GdL] at h
    simp only [nzL, szVL]
    rw [gd_nz x h.1, gdL_nz r h.2]
end
theorem wff {f : Nat} (h : (Lit.float .f64 f).wf = true) : f < 18446744073709551616 := by
  simpa [Lit.wf] using h
mutual
theorem gd_valw : ∀ v : ApiValue, GdV v → OkV v → ValW v
  | ⟨k, b, n, f, s, l⟩, h, ho => by
    simp only [GdV] at h
    simp only [OkV] at ho
    simp only [ValW]
    refine ⟨wf64 ho.2.1, wff ho.2.2.1, ?_, gdL_valw l h.2.2.2.2.2.2.2.2.2.2 ho.2.2.2.2.2⟩
    have := h.2.2.2.2.2.2.2.2.1
    omega
theorem gdL_valw : ∀ l : List ApiValue, GdL l → OkVL l → ValsW l
  | [], _, _ => by simp [ValsW]
  | x :: r, h, ho => by
    simp only [GdL] at h
    simp only [OkVL] at ho
    simp only [ValsW]
    exact ⟨gd_valw x h.1 ho.1, gdL_valw r h.2 ho.2⟩
end
theorem floatT_len (x : Nat) : (floatT x).length = 19 := by simp [floatT, hexh_len]
mutual
theorem valT_len : ∀ v : ApiValue, GdV v → OkV v → (valT v).length + 2 ≤ 2100 * szV v
  | ⟨k, b, n, f, s, l⟩, h, ho => by
    simp only [GdV] at h
    simp only [OkV] at ho
    have hn := numS_len n (wf64 ho.2.1)
    have hs := escL_len s
    have h5 := h.2.2.2.2.2.2.2.2.1
    have hL := valsT_len l h.2.2.2.2.2.2.2.2.2.2 ho.2.2.2.2.2
    have hf := floatT_len f
    rw [valT]
    simp only [szV]
    split
    · simp; omega
    split
    · split <;> (simp; omega)
    split
    · omega
    split
    · omega
    split
    · simp [textT]; omega
    split
    · simp; omega
    split
    · simp; omega
    split
    · simp; omega
    split
    · simp; omega
    · simp; omega
theorem valsT_len : ∀ l : List ApiValue, GdL l → OkVL l → (commas (valsT l)).length ≤ 2100 * szVL l
  | [], _, _ => by simp [valsT, commas]
  | x :: r, h, ho => by
    simp only [GdL] at h
    simp only [OkVL] at ho
    have h1 := valT_len x h.1 ho.1
    have h2 := valsT_len r h.2 ho.2
    simp only [szVL]
    cases r with
    | nil => simp only [valsT, commas]; omega
    | cons y q =>
      simp only [valsT] at h2 ⊢
      rw [commas_cons]
      simp only [List.length_append, List.length_cons, List.length_nil]
      have := szV_eq x
      omega
end
end Go.Proofs.Ytbjbgodcenopnaa
/- Plain law of values: Check, Put. -/
namespace Go.Proofs.Ytbjbgodcenopnaa
set_option linter.unusedVariables false
set_option maxHeartbeats 1000000
theorem Check_tot (K : Nat) (v : ApiValue) (h : OkV v) (hK : szV v + 61000 ≤ K) : ∃ r, offshootref02_Check.f K v = some r ∧ (r = 0 → GdV v ∧ szV v ≤ 60000) := by
  unfold offshootref02_Check.f
  obtain ⟨s, hs⟩ := size_tot K v 60000 h (by omega)
  rw [hs, Option.bind_some]
  by_cases hb : 60000 < s
  · rw [if_pos (by simpa using hb)]
    exact ⟨3, rfl, fun e => by cases e⟩
  · rw [if_neg (by simpa using hb)]
    obtain ⟨r, hr, hg⟩ := check_tot K v 1 h (by omega) (by omega) (by omega)
    rw [hr, Option.bind_some]
    refine ⟨r, rfl, fun e => ?_⟩
    have hG := hg e
    obtain ⟨s', hs', p1, p2, p3⟩ := size_small K v 60000 (gd_sm v hG) (by omega) (by omega) (by omega)
    rw [hs] at hs'
    injection hs' with e2
    subst e2
    refine ⟨hG, ?_⟩
    rw [← gd_nz v hG]
    have := p3 (by omega)
    omega
theorem two_eq (x : Int) : ∃ r, offshootref02_Two.f x = some r ∧ r.length = 2 := ⟨_, rfl, by simp [FW.toB]⟩
theorem eight_tot_l1 (K : Nat) : ∀ (k : Nat) (x : Int) (acc : List UInt8) (i : Int), 0 ≤ i → i ≤ 8 → 8 - i < k → (acc.length : Int) = i → ∃ r, offshootref02_Eight.l1 K k x acc i = some r ∧ r.length = 8 := by
  intro k
  induction k with
  | zero => intro x acc i h0 h1 h2 h3; omega
  | succ k ih =>
    intro x acc i h0 h1 h2 h3
    rw [offshootref02_Eight.l1]
    by_cases hi : i < 8
    · rw [if_pos (by simpa using hi), if_pos (by simp [FW.toB]; omega), W_in (by omega) (by omega)]
      exact ih _ _ (i + 1) (by omega) (by omega) (by omega) (by simp [FW.toB]; omega)
    · rw [if_neg (by simpa using hi)]
      exact ⟨acc, rfl, by omega⟩
theorem eight_tot (K : Nat) (hK : 20 < K) (x : Int) : ∃ r, offshootref02_Eight.f K x = some r ∧ r.length = 8 := eight_tot_l1 K K x [] 0 (by omega) (by omega) (by omega) (by simp)
theorem szVL_take : ∀ (l : List ApiValue) (j : Nat), j < l.length → szVL (l.take (j + 1)) = szVL (l.take j) + szV (l.getD j default)
  | [], j, h => by simp at h
  | x :: r, 0, h => by simp [szVL]
  | x :: r, j + 1, h => by
    have := szVL_take r j (by simpa using h)
    simp only [List.take_succ_cons, szVL, List.getD_cons_succ] at this ⊢
    omega
theorem szVL_take_le : ∀ (l : List ApiValue) (j : Nat), szVL (l.take j) ≤ szVL l
  | [], j => by simp
  | x :: r, 0 => by simp [szVL]
  | x :: r, j + 1 => by have := szVL_take_le r j; simp only [List.take_succ_cons, szVL]; omega
theorem put_l1 (F : ApiValue → Option (List UInt8)) (K : Nat) (y : ApiValue) (hl : y.L.length ≤ 1000) (hz : szVL y.L ≤ 60000) (h : ∀ j, j < y.L.length → ∃ r, F (y.L.getD j default) = some r ∧ r.length ≤ 600 * szV (y.L.getD j default)) :
    ∀ (k j : Nat) (acc : List UInt8), j ≤ y.L.length → y.L.length - j < k → acc.length ≤ 10 + 600 * szVL (y.L.take j) → ∃ r, offshootref02_Put.l1 F K y k acc (j : Int) = some r ∧ r.length ≤ 10 + 600 * szVL y.L := by
  intro k
  induction k with
  | zero => intro j acc h0 h1 h2; omega
  | succ k ih =>
    intro j acc h0 h1 h2
    have ht := szVL_take_le y.L j
    rw [offshootref02_Put.l1]
    by_cases hc : (j : Int) < (y.L.length : Int)
    · obtain ⟨r, hr, hl2⟩ := h j (by omega)
      have hg := szVL_get y.L j (by omega)
      have hs := szVL_take y.L j (by omega)
      rw [if_pos (by simpa using hc), if_pos ⟨by omega, hc⟩, Int.toNat_natCast, hr, Option.bind_some, if_pos (by omega), W_in (x := (j : Int) + 1) (by omega) (by omega), show ((j : Int) + 1) = ((j + 1 : Nat) : Int) by omega]
      exact ih (j + 1) _ (by omega) (by omega) (by rw [List.length_append, hs]; omega)
    · rw [if_neg (by simpa using hc)]
      exact ⟨_, rfl, by omega⟩
theorem put_tot : ∀ (K : Nat) (v : ApiValue), GdV v → szV v ≤ 60000 → szV v + 40 ≤ K → ∃ r, offshootref02_Put.f K v = some r ∧ r.length ≤ 600 * szV v := by
  intro K
  induction K with
  | zero => intro v h h0 h1; omega
  | succ K ih =>
    intro v h h0 h1
    have hz := szV_eq v
    have hl := szVL_len v.L
    have g := h.one
    have g5 := g.s500
    have l1 : (FW.toB ([(IntKind.wrap .u8 v.Kind)] : List Int)).length = 1 := by simp [FW.toB]
    generalize hw : FW.toB ([(IntKind.wrap .u8 v.Kind)] : List Int) = w at *
    rw [offshootref02_Put.f]
    unfold offshootref02_Put.b
    rw [hw]
    have j3 : ∀ b : Bool, ∃ r, offshootref02_Put.j3 (offshootref02_Put.f K) K v w b = some r ∧ r.length ≤ 600 * szV v := by
      intro b
      unfold offshootref02_Put.j3
      cases b with
      | true =>
        obtain ⟨t, ht, ht2⟩ := two_eq (v.L.length : Int)
        rw [if_pos rfl, ht, Option.bind_some, if_pos (by omega)]
        obtain ⟨r, hr, hr2⟩ := put_l1 (offshootref02_Put.f K) K v g.l1000 (by omega) (fun j hj => by
          have := szVL_get v.L j hj
          have hG : GdV (v.L.getD j default) := by
            have : ∀ (l : List ApiValue) (j : Nat), GdL l → j < l.length → GdV (l.getD j default) := by
              intro l
              induction l with
              | nil => intro j _ h; simp at h
              | cons x r ih =>
                intro j h hj
                simp only [GdL] at h
                cases j with
                | zero => exact h.1
                | succ j => exact ih j h.2 (by simpa using hj)
            exact this _ j g.all hj
          exact ih _ hG (by omega) (by omega)) K 0 (w ++ t) (by omega) (by omega) (by rw [List.length_append]; omega)
        exact ⟨r, by simpa using hr, by omega⟩
      | false => rw [if_neg (by simp)]; exact ⟨w, rfl, by omega⟩
    have j2 : ∀ b : Bool, ∃ r, offshootref02_Put.j2 (offshootref02_Put.f K) K v w v.Kind b = some r ∧ r.length ≤ 600 * szV v := by
      intro b
      unfold offshootref02_Put.j2
      cases b with
      | true =>
        obtain ⟨t, ht, ht2⟩ := eight_tot K (by omega) (IntKind.wrap .u64 v.N)
        rw [if_pos rfl, ht, Option.bind_some, if_pos (by omega)]
        exact ⟨_, rfl, by rw [List.length_append]; omega⟩
      | false =>
        rw [if_neg (by simp)]
        by_cases k3 : v.Kind = 3
        · obtain ⟨c, hc⟩ : ∃ c, offshootref01_Canon.f v.F = some c := by unfold offshootref01_Canon.f; split <;> exact ⟨_, rfl⟩
          obtain ⟨t, ht, ht2⟩ := eight_tot K (by omega) c
          rw [if_pos (by simpa using k3), hc, Option.bind_some, ht, Option.bind_some, if_pos (by omega)]
          exact ⟨_, rfl, by rw [List.length_append]; omega⟩
        rw [if_neg (by simpa using k3)]
        by_cases k4 : v.Kind = 4
        · obtain ⟨t, ht, ht2⟩ := two_eq (v.S.length : Int)
          rw [if_pos (by simpa using k4), ht, Option.bind_some, if_pos (by omega), if_pos (by rw [List.length_append]; omega)]
          exact ⟨_, rfl, by rw [List.length_append, List.length_append]; omega⟩
        rw [if_neg (by simpa using k4)]
        by_cases k5 : v.Kind = 5
        · rw [if_pos (by simpa using k5)]; exact j3 _
        · rw [if_neg (by simpa using k5)]; exact j3 _
    by_cases k1 : v.Kind = 1
    · rw [if_pos (by simpa using k1)]
      split
      · rw [if_pos (by simp; omega)]; exact ⟨_, rfl, by simp; omega⟩
      · rw [if_pos (by simp; omega)]; exact ⟨_, rfl, by simp; omega⟩
    rw [if_neg (by simpa using k1)]
    split
    · exact j2 _
    split
    · exact j2 _
    · exact j2 _
end Go.Proofs.Ytbjbgodcenopnaa
/- Plain law of floats: what is equal to nought and has no sign is nought. -/
namespace Go.Proofs.Ytbjbgodcenopnaa
set_option linter.unusedVariables false
set_option maxHeartbeats 1000000
theorem shl_zero {m k : Nat} (h : m <<< k = 0) : m = 0 := by
  rw [Nat.shiftLeft_eq] at h
  rcases Nat.mul_eq_zero.1 h with h | h
  · exact h
  · exact absurd h (Nat.ne_of_gt (Nat.two_pow_pos k))
theorem signed_zero {s : Bool} {m k : Nat} (h : Ieee.signed s m k = 0) : m = 0 := by
  unfold Ieee.signed at h
  refine shl_zero (k := k) ?_
  split at h <;> omega
theorem cmpI {a b : Int} (h : compare a b = .eq) : a = b := by
  have e : compare a b = compareOfLessAndEq a b := rfl
  rw [e] at h
  unfold compareOfLessAndEq at h
  split at h
  · cases h
  · split at h
    · assumption
    · cases h
theorem zero_of (f : Nat) (hf : f < 18446744073709551616) (h1 : FW.feql f 0 = true) (h2 : math_Signbit.f f = some false) : f = 0 := by
  have hb : Ieee.double.binade = 4503599627370496 := by decide
  have hs : Ieee.double.signWeight = 9223372036854775808 := by decide
  have h0 : Ieee.double.read 0 = .number false 0 Ieee.double.leastPlace := by decide
  have hlt : f < 9223372036854775808 := by
    unfold math_Signbit.f at h2
    injection h2 with h2
    rw [i64_mod] at h2
    simp only [decide_eq_false_iff_not] at h2
    omega
  unfold FW.feql Ieee.Format.order at h1
  rw [h0] at h1
  have hm : f % Ieee.double.signWeight = f := by rw [hs]; omega
  unfold Ieee.Format.read at h1
  dsimp only at h1
  rw [hm] at h1
  split at h1
  · simp only [Ieee.Datum.order, beq_iff_eq, Option.some.injEq, Int.min_self, Int.sub_self] at h1
    replace h1 := cmpI h1
    have e : Ieee.signed false 0 (Int.toNat 0) = 0 := by decide
    rw [e] at h1
    exact signed_zero h1
  split at h1
  · exfalso
    simp only [Ieee.Datum.order, beq_iff_eq, Option.some.injEq] at h1
    replace h1 := cmpI h1
    have e : ∀ k, Ieee.signed false 0 k = 0 := fun k => by simp [Ieee.signed]
    rw [e] at h1
    have := signed_zero h1
    omega
  split at h1
  · exfalso
    simp only [Ieee.Datum.order, beq_iff_eq, Option.some.injEq] at h1
    split at h1 <;> cases h1
  · exfalso
    simp [Ieee.Datum.order] at h1
end Go.Proofs.Ytbjbgodcenopnaa
/- Plain law of values: a value and the one that is read of its text are the same. -/
namespace Go.Proofs.Ytbjbgodcenopnaa
set_option linter.unusedVariables false
set_option maxHeartbeats 1000000
/-! What is read of a value's text. -/
mutual
def cvV : ApiValue → ApiValue
  | ⟨k, b, n, f, s, l⟩ => ⟨k, b, n, canonN f, s, cvL l⟩
def cvL : List ApiValue → List ApiValue
  | [] => []
  | x :: r => cvV x :: cvL r
end
theorem cvL_len : ∀ l, (cvL l).length = l.length
  | [] => by simp [cvL]
  | x :: r => by simp [cvL, cvL_len r]
theorem cvL_get : ∀ (l : List ApiValue) (j : Nat), j < l.length → (cvL l).getD j default = cvV (l.getD j default)
  | [], j, h => by simp at h
  | x :: r, 0, h => by simp [cvL]
  | x :: r, j + 1, h => by
    have := cvL_get r j (by simpa using h)
    simp only [cvL, List.getD_cons_succ]
    exact this
theorem cvV_L (v : ApiValue) : (cvV v).L = cvL v.L := by cases v; simp [cvV]
theorem cvV_F (v : ApiValue) : (cvV v).F = canonN v.F := by cases v; simp [cvV]
theorem canon_twice (f : Nat) : canonN (canonN f) = canonN f := by
  unfold canonN
  by_cases h : FW.fneq f f = true
  · rw [if_pos h]; decide +kernel
  · rw [if_neg h, if_neg h]
theorem sameC_l1 (F : ApiValue → ApiValue → Option Bool) (K : Nat) (v : ApiValue) (hl : v.L.length ≤ 9223372036854775807) (h : ∀ j, j < v.L.length → F (cvV (v.L.getD j default)) (v.L.getD j default) = some true) :
    ∀ (k j : Nat), j ≤ v.L.length → v.L.length - j < k → offshootref02_Same.l1 F K k v (cvV v) (j : Int) = some true := by
  intro k
  induction k with
  | zero => intro j h0 h1; omega
  | succ k ih =>
    intro j h0 h1
    rw [offshootref02_Same.l1, cvV_L, cvL_len]
    by_cases hj : (j : Int) < (v.L.length : Int)
    · rw [if_pos (by simpa using hj), if_pos ⟨by omega, hj⟩, if_pos ⟨by omega, hj⟩, Int.toNat_natCast, cvL_get v.L j (by omega), h j (by omega), Option.bind_some, if_neg (by simp), W_in (x := (j : Int) + 1) (by omega) (by omega), show ((j : Int) + 1) = ((j + 1 : Nat) : Int) by omega]
      exact ih (j + 1) (by omega) (by omega)
    · rw [if_neg (by simpa using hj)]
theorem sameC : ∀ (K : Nat) (v : ApiValue), OkV v → szV v < K → offshootref02_Same.f K (cvV v) v = some true := by
  intro K
  induction K with
  | zero => intro v h h0; omega
  | succ K ih =>
    intro v h h0
    have hz := szV_eq v
    have hl := szVL_len v.L
    have v1 := h.one
    have hloop := sameC_l1 (offshootref02_Same.f K) K v v1.l (fun j hj => by
      have := szVL_get v.L j hj
      exact ih _ (okVL_get _ j v1.all hj) (by omega)) K 0 (by omega) (by omega)
    rw [offshootref02_Same.f]
    unfold offshootref02_Same.b
    have e : (((!decide ((cvV v).Kind = v.Kind)) || (!((cvV v).B == v.B))) || (!decide ((cvV v).N = v.N))) = false := by cases v; simp [cvV]
    have eS : (cvV v).S = v.S := by cases v; simp [cvV]
    have eL : ((cvV v).L.length : Int) = (v.L.length : Int) := by rw [cvV_L, cvL_len]
    rw [if_pos e, if_pos e, cvV_F, refcanon_eq, refcanon_eq, Option.bind_some, Option.bind_some, canon_twice]
    rw [if_neg (by rw [e, eS, eL]; simp)]
    simpa using hloop
end Go.Proofs.Ytbjbgodcenopnaa
/- Plain law of the document's lexer: it is total, and its words are well-formed. -/
namespace Go.Proofs.Ytbjbgodcenopnaa
set_option linter.unusedVariables false
set_option maxHeartbeats 1000000
theorem digit_sat (x : Int) (h0 : 0 ≤ x) (h1 : x < 256) : Sat (offshootref11_digit.f x) fun d => 0 ≤ d ∧ d ≤ 16 := by
  unfold offshootref11_digit.f
  refine Sat.ite (fun h => ?_) (fun _ => Sat.ite (fun h => ?_) (fun _ => Sat.some (by omega)))
  · simp only [Bool.and_eq_true, decide_eq_true_eq] at h
    rw [W_in (x := x) (by omega) (by omega), W_in (by omega) (by omega)]
    exact Sat.some (by omega)
  · simp only [Bool.and_eq_true, decide_eq_true_eq] at h
    rw [W_in (x := x) (by omega) (by omega), W_in (x := x - 97) (by omega) (by omega), W_in (by omega) (by omega)]
    exact Sat.some (by omega)
theorem digit_bt (l : List UInt8) (i : Int) : Sat (offshootref11_digit.f (FW.bt l i)) fun d => 0 ≤ d ∧ d ≤ 16 := digit_sat _ (FW.bt_lo l i) (FW.bt_hi l i)
theorem Sat.bindG {α β : Type} {P : α → Prop} {R : β → Prop} {F : β → Option α} {p : Prop} [Decidable p] {x : Option β} {d : β} (h : p → Sat x R) (h1 : p → ∀ r, R r → Sat (F r) P) (h2 : ¬ p → Sat (F d) P) : Sat (Option.bind (if p then x else Option.some d) F) P := by
  by_cases hp : p
  · rw [if_pos hp]; exact Sat.bind (h hp) (h1 hp)
  · rw [if_neg hp]; exact h2 hp
theorem quoted11_l1 (K : Nat) : ∀ (k : Nat) (l : List Int) (s : List UInt8) (i : Int), 0 ≤ i → i ≤ (s.length : Int) → (s.length : Int) ≤ 3000 → (l.length : Int) ≤ i → (s.length : Int) - i < k →
    Sat (offshootref11_Quoted.l1 K k l s i) fun r => 0 ≤ r.2 ∧ r.2 ≤ (s.length : Int) ∧ (r.1.length : Int) ≤ s.length := by
  intro k
  induction k with
  | zero => intro l s i h0 h1 h2 h3 h4; omega
  | succ k ih =>
    intro l s i h0 h1 h2 h3 h4
    have bad : Sat (some (([] : List UInt8), (0 : Int))) fun r => 0 ≤ r.2 ∧ r.2 ≤ (s.length : Int) ∧ (r.1.length : Int) ≤ s.length := Sat.some (by simp)
    rw [offshootref11_Quoted.l1]
    refine Sat.ite (fun h => ?_) (fun _ => bad)
    have hi : i < (s.length : Int) := by simpa using h
    refine Sat.chk ⟨h0, hi⟩ ?_
    have w1 : IntKind.wrap .i64 (i + 1) = i + 1 := W_in (by omega) (by omega)
    have w2 : IntKind.wrap .i64 (i + 2) = i + 2 := W_in (by omega) (by omega)
    have w3 : IntKind.wrap .i64 (i + 3) = i + 3 := W_in (by omega) (by omega)
    have w4 : IntKind.wrap .i64 (i + 4) = i + 4 := W_in (by omega) (by omega)
    rw [w1, w2, w3, w4]
    refine Sat.ite (fun _ => ?_) (fun _ => ?_)
    · refine Sat.some ⟨?_, ?_, ?_⟩
      · show 0 ≤ i + 1; omega
      · show i + 1 ≤ _; omega
      · show ((FW.toB l).length : Int) ≤ _; simp [FW.toB]; omega
    refine Sat.ite (fun _ => bad) (fun _ => ?_)
    refine Sat.ite (fun _ => ?_) (fun _ => ?_)
    · refine Sat.chk (by simp only [List.length_cons, List.length_nil]; omega) ?_
      exact ih _ s (i + 1) (by omega) (by omega) h2 (by simp; omega) (by omega)
    refine Sat.chk (fun h => ⟨by omega, by simpa using h⟩) ?_
    refine Sat.chk (fun _ h => ⟨by omega, by simpa using h⟩) ?_
    refine Sat.ite (fun h => ?_) (fun _ => ?_)
    · simp only [Bool.and_eq_true, decide_eq_true_eq] at h
      refine Sat.chk ⟨by omega, h.1⟩ ?_
      refine Sat.chk (by simp only [List.length_cons, List.length_nil]; omega) ?_
      exact ih _ s (i + 2) (by omega) (by omega) h2 (by simp; omega) (by omega)
    refine Sat.chk (fun h => by simp only [decide_eq_false_iff_not] at h; omega) ?_
    refine Sat.chk (fun h => by simp only [Bool.or_eq_false_iff, decide_eq_false_iff_not] at h; omega) ?_
    refine Sat.bindG (fun _ => digit_bt s (i + 2)) (fun hp1 t1 ht1 => ?_) (fun hp1 => ?_)
    · refine Sat.chk (fun h => by simp only [Bool.or_eq_false_iff, decide_eq_false_iff_not] at h; omega) ?_
      refine Sat.bindG (fun _ => digit_bt s (i + 3)) (fun hp2 t2 ht2 => ?_) (fun hp2 => ?_)
      · refine Sat.ite (fun _ => bad) (fun h => ?_)
        simp only [Bool.or_eq_false_iff, decide_eq_false_iff_not] at h
        refine Sat.chk (by omega) ?_
        refine Sat.bind (digit_bt s (i + 2)) fun t3 ht3 => ?_
        refine Sat.chk (by omega) ?_
        refine Sat.bind (digit_bt s (i + 3)) fun t4 ht4 => ?_
        refine Sat.chk (by simp only [List.length_cons, List.length_nil]; omega) ?_
        exact ih _ s (i + 4) (by omega) (by omega) h2 (by simp; omega) (by omega)
      · refine Sat.ite (fun _ => bad) (fun h => ?_)
        simp only [Bool.or_eq_false_iff] at h
        exact absurd (by simp only [Bool.or_eq_false_iff]; exact h.1) hp2
    · refine Sat.chk (fun h => by
        simp only [Bool.or_eq_false_iff] at h
        exact absurd (by simp only [Bool.or_eq_false_iff]; exact h.1) hp1) ?_
      refine Sat.bindG (R := fun _ => False) (fun h => by
        simp only [Bool.or_eq_false_iff] at h
        exact absurd (by simp only [Bool.or_eq_false_iff]; exact h.1) hp1) (fun _ t2 ht2 => ?_) (fun hp2 => ?_)
      · exact ht2.elim
      · refine Sat.ite (fun _ => bad) (fun h => ?_)
        simp only [Bool.or_eq_false_iff] at h
        exact absurd (by simp only [Bool.or_eq_false_iff]; exact h.1.1) hp1
theorem quoted11_sat (K : Nat) (hK : 4000 < K) (s : List UInt8) (h : (s.length : Int) ≤ 3000) : Sat (offshootref11_Quoted.f K s) fun r => 0 ≤ r.2 ∧ r.2 ≤ (s.length : Int) ∧ (r.1.length : Int) ≤ s.length := by
  unfold offshootref11_Quoted.f
  by_cases hs : s = []
  · subst hs
    exact Sat.some (by simp)
  · have hl : 0 < s.length := List.length_pos_iff.2 hs
    refine Sat.chk (fun _ => by omega) ?_
    refine Sat.ite (fun _ => Sat.some (by simp)) (fun _ => ?_)
    exact quoted11_l1 K K [] s 1 (by omega) (by omega) h (by simp) (by omega)
theorem int11_l1 (K : Nat) (b : Bool) : ∀ (k : Nat) (s : List UInt8) (n i : Int), 0 ≤ i → i ≤ (s.length : Int) → (s.length : Int) ≤ 3000 → (s.length : Int) - i < k → Sat (offshootref11_Int.l1 K k b s n i) fun r => In64 r.1 := by
  intro k
  induction k with
  | zero => intro s n i h0 h1 h2 h3; omega
  | succ k ih =>
    intro s n i h0 h1 h2 h3
    have z : In64 0 := by unfold In64; omega
    rw [offshootref11_Int.l1]
    refine Sat.ite (fun h => ?_) (fun _ => ?_)
    · have hi : i < (s.length : Int) := by simpa using h
      refine Sat.chk ⟨h0, hi⟩ ?_
      refine Sat.chk (fun _ => ⟨h0, hi⟩) ?_
      refine Sat.ite (fun _ => Sat.some z) (fun _ => ?_)
      refine Sat.chk ⟨h0, hi⟩ ?_
      rw [W_in (x := i + 1) (by omega) (by omega)]
      exact ih s _ (i + 1) (by omega) (by omega) h2 (by omega)
    · refine Sat.ite (fun _ => Sat.some (i64_range _)) (fun _ => Sat.ite (fun _ => Sat.some (i64_range _)) (fun _ => Sat.some z))
theorem int11_j1 (K : Nat) (hK : 4000 < K) (b : Bool) (s : List UInt8) (h : (s.length : Int) ≤ 3000) : Sat (offshootref11_Int.j1 K b s) fun r => In64 r.1 := by
  have z : In64 0 := by unfold In64; omega
  unfold offshootref11_Int.j1
  by_cases hs : s = []
  · subst hs
    refine Sat.chk (fun h => by simp at h) (Sat.ite (fun _ => Sat.some z) (fun h => by simp at h))
  · have hl : 0 < s.length := List.length_pos_iff.2 hs
    refine Sat.chk (fun _ => by omega) ?_
    refine Sat.ite (fun _ => Sat.some z) (fun _ => ?_)
    exact int11_l1 K b K s 0 0 (by omega) (by omega) h (by omega)
theorem int11_sat (K : Nat) (hK : 4000 < K) (s : List UInt8) (h : (s.length : Int) ≤ 3000) : Sat (offshootref11_Int.f K s) fun r => In64 r.1 := by
  unfold offshootref11_Int.f
  by_cases hs : s = []
  · subst hs
    refine Sat.chk (fun h => by simp at h) (Sat.ite (fun h => by simp at h) (fun _ => int11_j1 K hK _ _ (by simp)))
  · have hl : 0 < s.length := List.length_pos_iff.2 hs
    refine Sat.chk (fun _ => by omega) ?_
    refine Sat.ite (fun _ => ?_) (fun _ => int11_j1 K hK _ _ h)
    refine Sat.chk (by omega) ?_
    exact int11_j1 K hK _ _ (by simp; omega)
/-- A word that stands at the beginning of bytes. -/
def OneOk (s : List UInt8) (r : ApiWord × Int) : Prop := 0 ≤ r.2 ∧ r.2 ≤ (s.length : Int) ∧ (r.2 ≠ 0 → r.1.Kind ≠ 0) ∧ In64 r.1.N ∧ r.1.F < 18446744073709551616 ∧ r.1.S.length ≤ 500
theorem one_none (s : List UInt8) : OneOk s (⟨0, [], 0, 0, 0⟩, 0) := ⟨by decide, by show (0 : Int) ≤ _; omega, fun h => absurd rfl h, by unfold In64; dsimp only; omega, by decide, by decide⟩
theorem one_l1 (K : Nat) (v0 : List UInt8) : ∀ (k : Nat) (t : List UInt8) (n m : Int) (b : Bool) (i : Int), 0 ≤ i → i ≤ (t.length : Int) → (t.length : Int) ≤ 3000 → 0 ≤ n → n + 1 ≤ (v0.length : Int) → (v0.length : Int) ≤ 3000 → 0 ≤ m → m < 18446744073709551616 → (t.length : Int) - i < k →
    Sat (offshootref11_one.l1 K k t n m b i) (OneOk v0) := by
  intro k
  induction k with
  | zero => intro t n m b i h0 h1 h2 h3 h4 h5 h6 h7 h8; omega
  | succ k ih =>
    intro t n m b i h0 h1 h2 h3 h4 h5 h6 h7 h8
    rw [offshootref11_one.l1]
    refine Sat.ite (fun h => ?_) (fun _ => ?_)
    · simp only [Bool.and_eq_true, decide_eq_true_eq] at h
      refine Sat.chk ⟨h0, h.1⟩ ?_
      refine Sat.bind (digit_bt t i) fun t2 ht2 => ?_
      refine Sat.chk ⟨h0, h.1⟩ ?_
      refine Sat.bind (digit_bt t i) fun t3 ht3 => ?_
      rw [W_in (x := i + 1) (by omega) (by omega)]
      have hu : ∀ x : Int, 0 ≤ IntKind.wrap .u64 x ∧ IntKind.wrap .u64 x < 18446744073709551616 := fun x => by rw [IntKind.wrap_u64]; omega
      exact ih t n _ _ (i + 1) (by omega) (by omega) h2 h3 h4 h5 (hu _).1 (hu _).2 (by omega)
    · have last : ∀ t4 : Int, Sat (if ((!b) || (!decide (t4 = m))) = true then some ((⟨0, [], 0, 0, 0⟩ : ApiWord), (0 : Int)) else some ((⟨3, [], 0, (Int.toNat m), 0⟩ : ApiWord), (IntKind.wrap .i64 (n + 1)))) (OneOk v0) := by
        intro t4
        refine Sat.ite (fun _ => Sat.some (one_none v0)) (fun _ => Sat.some ?_)
        rw [W_in (x := n + 1) (by omega) (by omega)]
        refine ⟨?_, ?_, fun _ => ?_, ?_, ?_, ?_⟩
        · show 0 ≤ n + 1; omega
        · show n + 1 ≤ _; omega
        · show ¬ (3 : Int) = 0; omega
        · unfold In64; dsimp only; omega
        · show m.toNat < _; omega
        · simp
      refine Sat.bindG (R := fun _ => True) (fun _ => ?_) (fun _ t4 _ => last t4) (fun _ => last _)
      unfold offshootref01_Canon.f
      exact Sat.ite (fun _ => Sat.some trivial) (fun _ => Sat.some trivial)
theorem one_l2 (K : Nat) (hK : 4000 < K) : ∀ (k : Nat) (s : List UInt8) (i : Int), 1 ≤ i → i ≤ (s.length : Int) → (s.length : Int) ≤ 3000 → (s.length : Int) - i < k → Sat (offshootref11_one.l2 K k s i) (OneOk s) := by
  intro k
  induction k with
  | zero => intro s i h0 h1 h2 h3; omega
  | succ k ih =>
    intro s i h0 h1 h2 h3
    rw [offshootref11_one.l2]
    refine Sat.chk (fun h => ⟨by omega, by simpa using h⟩) ?_
    refine Sat.chk (fun h => by simp only [Bool.and_eq_true, decide_eq_true_eq] at h; omega) ?_
    refine Sat.ite (fun h => ?_) (fun _ => ?_)
    · simp only [Bool.and_eq_true, decide_eq_true_eq] at h
      rw [W_in (x := i + 1) (by omega) (by omega)]
      exact ih s (i + 1) (by omega) (by omega) h2 (by omega)
    · refine Sat.chk (by omega) ?_
      refine Sat.bind (int11_sat K hK _ (by simp only [List.length_take]; omega)) fun t6 ht6 => ?_
      refine Sat.ite (fun _ => Sat.some (one_none s)) (fun _ => Sat.some ?_)
      refine ⟨?_, ?_, fun _ => ?_, ht6, ?_, ?_⟩
      · show 0 ≤ i; omega
      · show i ≤ _; omega
      · show ¬ (2 : Int) = 0; omega
      · show 0 < _; omega
      · simp
theorem letter_eq (x : Int) : offshootref11_letter.f x = some (((((decide (x = 95)) || ((decide (97 ≤ x)) && (decide (x ≤ 122)))) || ((decide (65 ≤ x)) && (decide (x ≤ 90)))) || ((decide (48 ≤ x)) && (decide (x ≤ 57))))) := rfl
theorem one_l3 (K : Nat) (hK : 4000 < K) : ∀ (k : Nat) (s : List UInt8) (i : Int), 1 ≤ i → i ≤ (s.length : Int) → (s.length : Int) ≤ 3000 → (s.length : Int) - i < k → Sat (offshootref11_one.l3 K k s i) (OneOk s) := by
  intro k
  induction k with
  | zero => intro s i h0 h1 h2 h3; omega
  | succ k ih =>
    intro s i h0 h1 h2 h3
    rw [offshootref11_one.l3]
    refine Sat.chk (fun h => ⟨by omega, by simpa using h⟩) ?_
    have last : ∀ t8 : Bool, Sat (if ((decide (i < (List.length s : Int))) && t8) = true then offshootref11_one.l3 K k s (IntKind.wrap .i64 (i + 1)) else (if (decide (16 < i)) = true then some ((⟨0, [], 0, 0, 0⟩ : ApiWord), (0 : Int)) else (if ((0 : Int) ≤ i ∧ i ≤ (List.length s : Int)) then some ((⟨1, (List.take (Int.toNat i) s), 0, 0, 0⟩ : ApiWord), i) else none))) (OneOk s) := by
      intro t8
      refine Sat.ite (fun h => ?_) (fun _ => ?_)
      · simp only [Bool.and_eq_true, decide_eq_true_eq] at h
        rw [W_in (x := i + 1) (by omega) (by omega)]
        exact ih s (i + 1) (by omega) (by omega) h2 (by omega)
      · refine Sat.ite (fun _ => Sat.some (one_none s)) (fun h16 => ?_)
        simp only [decide_eq_false_iff_not] at h16
        refine Sat.chk (by omega) (Sat.some ⟨?_, ?_, fun _ => ?_, ?_, ?_, ?_⟩)
        · show 0 ≤ i; omega
        · show i ≤ _; omega
        · show ¬ (1 : Int) = 0; omega
        · unfold In64; dsimp only; omega
        · show 0 < _; omega
        · show (List.take i.toNat s).length ≤ 500
          simp only [List.length_take]; omega
    exact Sat.bindG (R := fun _ => True) (fun _ => Sat.eq (letter_eq _) trivial) (fun _ t8 _ => last t8) (fun _ => last _)
theorem one_sat (K : Nat) (hK : 4000 < K) (s : List UInt8) (h1 : 1 ≤ (s.length : Int)) (h : (s.length : Int) ≤ 3000) : Sat (offshootref11_one.f K s) (OneOk s) := by
  unfold offshootref11_one.f
  refine Sat.chk (by omega) ?_
  refine Sat.chk (fun hh => by simp only [Bool.and_eq_true, decide_eq_true_eq] at hh; omega) ?_
  refine Sat.ite (fun hf => ?_) (fun _ => ?_)
  · refine Sat.chk (by omega) ?_
    refine Sat.bind (quoted11_sat K hK (List.drop (Int.toNat 1) s) (by simp; omega)) fun t1 ht1 => ?_
    have hd : ((List.drop (Int.toNat 1) s).length : Int) = s.length - 1 := by simp; omega
    rw [hd] at ht1
    exact one_l1 K s K t1.1 t1.2 0 _ 0 (by omega) (by omega) (by omega) ht1.1 (by omega) h (by omega) (by omega) (by omega)
  refine Sat.ite (fun _ => ?_) (fun _ => ?_)
  · refine Sat.bind (quoted11_sat K hK s h) fun t5 ht5 => ?_
    refine Sat.ite (fun _ => Sat.some (one_none s)) (fun hl => Sat.some ?_)
    simp only [decide_eq_false_iff_not] at hl
    refine ⟨ht5.1, ht5.2.1, fun _ => ?_, ?_, ?_, ?_⟩
    · show ¬ (4 : Int) = 0; omega
    · unfold In64; dsimp only; omega
    · show 0 < _; omega
    · show t5.1.length ≤ 500; omega
  refine Sat.ite (fun _ => one_l2 K hK K s 1 (by omega) h1 h (by omega)) (fun _ => ?_)
  refine Sat.bindE (letter_eq _) ?_
  refine Sat.ite (fun _ => one_l3 K hK K s 1 (by omega) h1 h (by omega)) (fun _ => ?_)
  refine Sat.ite (fun _ => ?_) (fun _ => Sat.some (one_none s))
  refine Sat.chk (by omega) (Sat.some ⟨?_, ?_, fun _ => ?_, ?_, ?_, ?_⟩)
  · show (0 : Int) ≤ 1; omega
  · show (1 : Int) ≤ _; omega
  · show ¬ (5 : Int) = 0; omega
  · unfold In64; dsimp only; omega
  · show 0 < _; omega
  · show (List.take (Int.toNat 1) s).length ≤ 500
    simp only [List.length_take]; omega
/-- The words of a text, by what stands behind each place. -/
def w11 (K : Nat) : Nat → List ApiWord → List UInt8 → Int → Option (List ApiWord × Int × Int)
  | 0, _, _, _ => none
  | k + 1, acc, [], i => some (acc ++ [⟨0, [], 0, 0, i⟩], 0, 0)
  | k + 1, acc, c :: r, i => if (c.toNat : Int) = 32 then w11 K k acc r (i + 1) else
      Option.bind (offshootref11_one.f K (c :: r)) fun t => if t.2 = 0 then some ([], i, 110) else if (acc.length : Int) = 1500 then some ([], i, 3) else w11 K k (acc ++ [⟨t.1.Kind, t.1.S, t.1.N, t.1.F, i⟩]) ((c :: r).drop t.2.toNat) (i + t.2)
theorem w11_eq (K : Nat) (hK : 5000 < K) (s : List UInt8) (hs : (s.length : Int) ≤ 3000) : ∀ (k : Nat) (acc : List ApiWord) (rest : List UInt8) (i : Int), 0 ≤ i → i ≤ (s.length : Int) → s.drop i.toNat = rest → acc.length ≤ 1500 →
    offshootref11_Words.l1 K k acc s i = w11 K k acc rest i := by
  intro k
  induction k with
  | zero => intro acc rest i h0 h1 h2 h3; rfl
  | succ k ih =>
    intro acc rest i h0 h1 h2 h3
    rw [offshootref11_Words.l1]
    cases rest with
    | nil =>
      have h4 := drop_nil h0 h2
      have : i = (s.length : Int) := by omega
      rw [if_neg (by simp; omega), if_pos (by simp; omega), w11, this]
    | cons c r =>
      obtain ⟨hlt, hdr, hlen⟩ := drop_lt h0 h2
      rw [if_pos (by simpa using hlt), if_pos ⟨h0, hlt⟩, w11, bt_at h2]
      by_cases h32 : (c.toNat : Int) = 32
      · rw [if_pos (by simpa using h32), if_pos h32, W_in (by omega) (by omega)]
        exact ih acc r (i + 1) (by omega) (by omega) hdr h3
      · rw [if_neg (by simpa using h32), if_neg h32, if_pos ⟨h0, by omega⟩, h2]
        obtain ⟨t, ht, o⟩ := one_sat K (by omega) (c :: r) (by simp; omega) (by simp only [List.length_cons]; omega)
        rw [ht, Option.bind_some, Option.bind_some]
        by_cases hz : t.2 = 0
        · rw [if_pos (by simpa using hz), if_pos hz]
        rw [if_neg (by simpa using hz), if_neg hz]
        by_cases h15 : (acc.length : Int) = 1500
        · rw [if_pos (by simpa using h15), if_pos h15]
        rw [if_neg (by simpa using h15), if_neg h15]
        have o1 := o.1
        have o2 := o.2.1
        simp only [List.length_cons] at o2
        rw [if_pos (by simp only [List.length_cons, List.length_nil]; omega), W_in (by omega) (by omega)]
        refine ih _ _ _ (by omega) (by omega) ?_ (by simp only [List.length_append, List.length_cons, List.length_nil]; omega)
        rw [show (i + t.2).toNat = i.toNat + t.2.toNat from by omega, ← List.drop_drop, h2]
end Go.Proofs.Ytbjbgodcenopnaa
/- Plain law of words: signs and names with something behind them. -/
namespace Go.Proofs.Ytbjbgodcenopnaa
set_option linter.unusedVariables false
set_option maxHeartbeats 1000000
theorem bt_head (c : UInt8) (r : List UInt8) : FW.bt (c :: r) 0 = (c.toNat : Int) := bt_at (r := r) rfl
theorem one_sign (K : Nat) (r : List UInt8) (c : UInt8) (hc : c = 46 ∨ c = 40 ∨ c = 41 ∨ c = 44 ∨ c = 91 ∨ c = 93) : offshootref11_one.f K (c :: r) = some (⟨5, [c], 0, 0, 0⟩, 1) := by
  have hb := bt_head c r
  unfold offshootref11_one.f
  rw [if_pos ⟨by omega, by simp⟩, hb]
  rcases hc with rfl | rfl | rfl | rfl | rfl | rfl <;> (simp [offshootref11_letter.f]; try omega)
def isLet (c : UInt8) : Bool := ((((decide ((c.toNat : Int) = 95)) || ((decide (97 ≤ (c.toNat : Int))) && (decide ((c.toNat : Int) ≤ 122)))) || ((decide (65 ≤ (c.toNat : Int))) && (decide ((c.toNat : Int) ≤ 90)))) || ((decide (48 ≤ (c.toNat : Int))) && (decide ((c.toNat : Int) ≤ 57))))
theorem one_l3_eq (K : Nat) (s : List UInt8) (hs : (s.length : Int) ≤ 3000) : ∀ (tok : List UInt8) (k : Nat) (i : Int) (d : UInt8) (r : List UInt8), 0 ≤ i → s.drop i.toNat = tok ++ d :: r → (∀ c ∈ tok, isLet c = true) → isLet d = false → i + tok.length ≤ 16 → tok.length < k →
    offshootref11_one.l3 K k s i = some (⟨1, s.take (i + tok.length).toNat, 0, 0, 0⟩, i + tok.length) := by
  intro tok
  induction tok with
  | nil =>
    intro k i d r h0 h1 h2 h3 h4 h5
    obtain ⟨k, rfl⟩ : ∃ q, k = q + 1 := ⟨k - 1, by simp at h5; omega⟩
    rw [List.nil_append] at h1
    obtain ⟨hlt, hdr, hlen⟩ := drop_lt h0 h1
    simp only [List.length_nil, Int.add_zero, Int.cast_ofNat_Int] at h4 ⊢
    rw [offshootref11_one.l3, if_pos (fun _ => ⟨h0, hlt⟩), if_pos (by simpa using hlt), letter_eq, bt_at h1, Option.bind_some]
    have h3' : (((((decide ((d.toNat : Int) = 95)) || ((decide (97 ≤ (d.toNat : Int))) && (decide ((d.toNat : Int) ≤ 122)))) || ((decide (65 ≤ (d.toNat : Int))) && (decide ((d.toNat : Int) ≤ 90)))) || ((decide (48 ≤ (d.toNat : Int))) && (decide ((d.toNat : Int) ≤ 57))))) = false := h3
    rw [h3', if_neg (by simp), if_neg (by simp; omega), if_pos ⟨h0, by omega⟩]
  | cons c tok ih =>
    intro k i d r h0 h1 h2 h3 h4 h5
    simp only [List.length_cons] at h4 h5
    obtain ⟨k, rfl⟩ : ∃ q, k = q + 1 := ⟨k - 1, by omega⟩
    rw [List.cons_append] at h1
    obtain ⟨hlt, hdr, hlen⟩ := drop_lt h0 h1
    rw [offshootref11_one.l3, if_pos (fun _ => ⟨h0, hlt⟩), if_pos (by simpa using hlt), letter_eq, bt_at h1, Option.bind_some]
    have h3' : (((((decide ((c.toNat : Int) = 95)) || ((decide (97 ≤ (c.toNat : Int))) && (decide ((c.toNat : Int) ≤ 122)))) || ((decide (65 ≤ (c.toNat : Int))) && (decide ((c.toNat : Int) ≤ 90)))) || ((decide (48 ≤ (c.toNat : Int))) && (decide ((c.toNat : Int) ≤ 57))))) = true := h2 c List.mem_cons_self
    rw [h3', if_pos (by simp; omega), W_in (by omega) (by omega), ih k (i + 1) d r (by omega) hdr (fun x hx => h2 x (List.mem_cons_of_mem _ hx)) h3 (by omega) (by omega)]
    rw [show i + 1 + (tok.length : Int) = i + ((c :: tok).length : Int) by simp only [List.length_cons]; omega]
/-- A name with something behind it. -/
theorem one_name (K : Nat) (hK : 20 < K) (c e : UInt8) (tok : List UInt8) (d : UInt8) (r : List UInt8) (hs : ((c :: (e :: tok ++ d :: r)).length : Int) ≤ 3000) (hc : isLet c = true) (he : isLet e = true) (ht : ∀ x ∈ tok, isLet x = true) (hd : isLet d = false) (hl : tok.length ≤ 14) (h0 : ¬ (c.toNat : Int) = 39 ∧ ¬ (c.toNat : Int) = 45 ∧ ¬ (48 ≤ (c.toNat : Int) ∧ (c.toNat : Int) ≤ 57)) (h39 : ¬ (e.toNat : Int) = 39) :
    offshootref11_one.f K (c :: (e :: tok ++ d :: r)) = some (⟨1, c :: e :: tok, 0, 0, 0⟩, (tok.length : Int) + 2) := by
  have hb := bt_head c (e :: tok ++ d :: r)
  have hb1 : FW.bt (c :: (e :: tok ++ d :: r)) 1 = (e.toNat : Int) := bt_at (r := tok ++ d :: r) rfl
  obtain ⟨a1, a2, a3⟩ := h0
  unfold offshootref11_one.f
  rw [if_pos ⟨by omega, by simp; omega⟩, if_pos (fun _ => ⟨by omega, by simp; omega⟩), hb, hb1]
  rw [if_neg (by simp [h39]), if_neg (by simpa using a1), if_neg (by simp [a2]; omega), letter_eq, Option.bind_some]
  have hc' : (((((decide ((c.toNat : Int) = 95)) || ((decide (97 ≤ (c.toNat : Int))) && (decide ((c.toNat : Int) ≤ 122)))) || ((decide (65 ≤ (c.toNat : Int))) && (decide ((c.toNat : Int) ≤ 90)))) || ((decide (48 ≤ (c.toNat : Int))) && (decide ((c.toNat : Int) ≤ 57))))) = true := hc
  rw [hc', if_pos rfl]
  have := one_l3_eq K (c :: (e :: tok ++ d :: r)) hs (e :: tok) K 1 d r (by omega) rfl (fun x hx => by
    rcases List.mem_cons.1 hx with rfl | hx
    · exact he
    · exact ht x hx) hd (by simp only [List.length_cons]; omega) (by simp only [List.length_cons]; omega)
  rw [this]
  have e1 : (1 + ((e :: tok).length : Int)).toNat = (c :: e :: tok).length := by simp only [List.length_cons]; omega
  have e2 : List.take (c :: e :: tok).length (c :: (e :: tok ++ d :: r)) = c :: e :: tok := List.take_left' (l₁ := c :: e :: tok) rfl
  rw [e1, e2]
  congr 2
  simp only [List.length_cons]; omega
end Go.Proofs.Ytbjbgodcenopnaa
/- Plain law of words: texts between quotes, with something behind them. -/
namespace Go.Proofs.Ytbjbgodcenopnaa
set_option linter.unusedVariables false
set_option linter.unusedSimpArgs false
set_option maxHeartbeats 2000000
theorem digit_hex (d : Nat) (h : d < 16) : offshootref11_digit.f ((hexdig d).toNat : Int) = some (d : Int) := by
  have : ∀ d ∈ List.range 16, offshootref11_digit.f ((hexdig d).toNat : Int) = some (d : Int) := by decide +kernel
  exact this d (List.mem_range.mpr h)
theorem toB_snoc (l : List Int) (c : UInt8) : FW.toB (l ++ [(c.toNat : Int)]) = FW.toB l ++ [c] := by simp [FW.toB]
theorem refQ_l1 (K : Nat) : ∀ (v : List UInt8) (R : List UInt8) (k : Nat) (l : List Int) (s : List UInt8) (i : Int), 0 ≤ i → (s.length : Int) ≤ 3000 → s.drop i.toNat = escL v ++ 39 :: R → (l.length : Int) ≤ i → (s.length : Int) - i < k →
    offshootref11_Quoted.l1 K k l s i = some (FW.toB l ++ v, i + (escL v).length + 1) := by
  intro v
  induction v with
  | nil =>
    intro R k l s i h0 hs hd hl hk
    rw [escL, List.nil_append] at hd
    obtain ⟨hlt, hdr, hle⟩ := drop_lt h0 hd
    obtain ⟨k, rfl⟩ : ∃ k', k = k' + 1 := ⟨k - 1, by omega⟩
    have w1 : IntKind.wrap .i64 (i + 1) = i + 1 := W_in (by omega) (by omega)
    have hb := bt_at hd
    rw [show (((39 : UInt8).toNat : Nat) : Int) = 39 from rfl] at hb
    rw [offshootref11_Quoted.l1, if_pos (by simpa using hlt), if_pos ⟨h0, hlt⟩, hb, if_pos (by simp), w1]
    simp [escL]
  | cons c v ih =>
    intro R k l s i h0 hs hd hl hk
    have hc := u8_range c
    have h39 : c = 39 ↔ ((c.toNat : Int) = 39) := u8_eq' c 39 (by omega)
    have h92 : c = 92 ↔ ((c.toNat : Int) = 92) := u8_eq' c 92 (by omega)
    rw [escL, escS] at hd
    have hne : s.drop i.toNat ≠ [] := by
      rw [hd]; simp
    obtain ⟨c0, r0, hd0⟩ : ∃ c0 r0, s.drop i.toNat = c0 :: r0 := by
      cases h : s.drop i.toNat with
      | nil => exact absurd h hne
      | cons a b => exact ⟨a, b, rfl⟩
    obtain ⟨hlt, hdr, hle⟩ := drop_lt h0 hd0
    obtain ⟨k, rfl⟩ : ∃ k', k = k' + 1 := ⟨k - 1, by omega⟩
    have w1 : IntKind.wrap .i64 (i + 1) = i + 1 := W_in (by omega) (by omega)
    have w2 : IntKind.wrap .i64 (i + 2) = i + 2 := W_in (by omega) (by omega)
    have w3 : IntKind.wrap .i64 (i + 3) = i + 3 := W_in (by omega) (by omega)
    have w4 : IntKind.wrap .i64 (i + 4) = i + 4 := W_in (by omega) (by omega)
    rw [offshootref11_Quoted.l1, if_pos (by simpa using hlt), if_pos ⟨h0, hlt⟩, bt_at hd0, w1, w2, w3, w4]
    rw [hd0] at hd
    have b92 : ((92 : UInt8).toNat : Int) = 92 := rfl
    have b120 : ((120 : UInt8).toNat : Int) = 120 := rfl
    by_cases e1 : c = 39 ∨ c = 92
    · rw [if_pos e1] at hd
      simp only [List.cons_append, List.nil_append, List.cons.injEq] at hd
      obtain ⟨rfl, rfl⟩ := hd
      obtain ⟨hlt1, hdr1, hle1⟩ := drop_lt (by omega : 0 ≤ i + 1) hdr
      rw [b92, if_neg (by simp), if_neg (by simp), if_neg (by simp), bt_at hdr, if_pos (by simp; omega), if_pos (by simp; omega), if_pos (by rw [h39, h92] at e1; simp; exact ⟨by omega, e1⟩), if_pos (by omega), if_pos (by simp; omega)]
      rw [ih R k _ s (i + 2) (by omega) hs (by rw [show (i + 2).toNat = (i + 1 + 1).toNat from by omega, hdr1]) (by simp; omega) (by omega), toB_snoc]
      rw [escL, escS, if_pos e1]
      simp; omega
    · rw [if_neg e1] at hd
      by_cases e2 : (c.toNat : Int) < 32 ∨ 126 < (c.toNat : Int)
      · rw [if_pos e2] at hd
        simp only [List.cons_append, List.nil_append, List.cons.injEq] at hd
        obtain ⟨rfl, rfl⟩ := hd
        obtain ⟨hlt1, hdr1, hle1⟩ := drop_lt (by omega : 0 ≤ i + 1) hdr
        obtain ⟨hlt2, hdr2, hle2⟩ := drop_lt (by omega : 0 ≤ i + 1 + 1) hdr1
        obtain ⟨hlt3, hdr3, hle3⟩ := drop_lt (by omega : 0 ≤ i + 1 + 1 + 1) hdr2
        have g1 : FW.bt s (i + 1) = 120 := bt_at hdr
        have g2 : FW.bt s (i + 2) = ((hexdig (c.toNat / 16)).toNat : Int) := by rw [show i + 2 = i + 1 + 1 from by omega]; exact bt_at hdr1
        have g3 : FW.bt s (i + 3) = ((hexdig (c.toNat % 16)).toNat : Int) := by rw [show i + 3 = i + 1 + 1 + 1 from by omega]; exact bt_at hdr2
        have p3 : i + 3 < (s.length : Int) := by omega
        have q3 : decide ((s.length : Int) ≤ i + 3) = false := by simp; omega
        have hcomb : IntKind.wrap .u8 (IntKind.wrap .i64 ((IntKind.wrap .i64 (16 * ((c.toNat / 16 : Nat) : Int))) + ((c.toNat % 16 : Nat) : Int))) = (c.toNat : Int) := by
          rw [W_in (x := 16 * ((c.toNat / 16 : Nat) : Int)) (by omega) (by omega), W_in (by omega) (by omega), W_u8 (by omega) (by omega)]; omega
        have z1 : decide (15 < ((c.toNat / 16 : Nat) : Int)) = false := by simp; omega
        have z2 : decide (15 < ((c.toNat % 16 : Nat) : Int)) = false := by simp; omega
        rw [b92, if_neg (by simp), if_neg (by simp), if_neg (by simp), g1, g2, g3, q3, digit_hex _ (by omega), digit_hex _ (by omega)]
        have x1 : ((0 : Int) ≤ i + 1 ∧ i + 1 < (s.length : Int)) := by omega
        have x2 : ((0 : Int) ≤ i + 2 ∧ i + 2 < (s.length : Int)) := by omega
        have x3 : ((0 : Int) ≤ i + 3 ∧ i + 3 < (s.length : Int)) := by omega
        have x4 : ((l.length + ([((c.toNat : Nat) : Int)] : List Int).length) * 1 ≤ 140737488355328 ∧ l.length + ([((c.toNat : Nat) : Int)] : List Int).length ≤ 140737488355328) := by simp; omega
        apply Sat.get
        refine Sat.chk (fun _ => x1) ?_
        refine Sat.chk (fun _ _ => x1) ?_
        refine Sat.ite (fun h => by simp at h) (fun _ => ?_)
        refine Sat.chk (fun _ => x1) ?_
        refine Sat.chk (fun _ => x2) ?_
        rw [if_pos (by decide)]
        refine Sat.bindE rfl ?_
        refine Sat.chk (fun _ => x3) ?_
        rw [z1, if_pos (by decide)]
        refine Sat.bindE rfl ?_
        rw [z2]
        refine Sat.ite (fun h => by simp at h) (fun _ => ?_)
        refine Sat.chk x2 ?_
        refine Sat.bindE rfl ?_
        refine Sat.chk x3 ?_
        refine Sat.bindE rfl ?_
        rw [hcomb]
        refine Sat.chk x4 ?_
        refine Sat.eq (ih R k _ s (i + 4) (by omega) hs (by rw [show (i + 4).toNat = (i + 1 + 1 + 1 + 1).toNat from by omega, hdr3]) (by simp; omega) (by omega)) ?_
        rw [toB_snoc, escL, escS, if_neg e1, if_pos e2]
        simp; omega
      · rw [if_neg e2] at hd
        simp only [List.cons_append, List.nil_append, List.cons.injEq] at hd
        obtain ⟨rfl, rfl⟩ := hd
        have e3 : ¬ (c0.toNat : Int) = 39 := fun h => e1 (.inl (h39.mpr h))
        have e4 : ¬ (c0.toNat : Int) = 92 := fun h => e1 (.inr (h92.mpr h))
        rw [if_neg (by simpa using e3), if_neg (by simpa using e2), if_pos (by simpa using e4), if_pos (by simp; omega)]
        rw [ih R k _ s (i + 1) (by omega) hs hdr (by simp; omega) (by omega), toB_snoc]
        rw [escL, escS, if_neg e1, if_neg e2]
        simp; omega
theorem quoted_eq (K : Nat) (hK : 5000 < K) (s R : List UInt8) (hs : ((39 :: (escL s ++ 39 :: R)).length : Int) ≤ 3000) : offshootref11_Quoted.f K (39 :: (escL s ++ 39 :: R)) = some (s, ((escL s).length : Int) + 2) := by
  have hb := bt_head 39 (escL s ++ 39 :: R)
  rw [show ((39 : UInt8).toNat : Int) = 39 from rfl] at hb
  unfold offshootref11_Quoted.f
  rw [if_pos (fun _ => ⟨by omega, by simp; omega⟩), hb, if_neg (by simp)]
  rw [refQ_l1 K s R K [] (39 :: (escL s ++ 39 :: R)) 1 (by omega) hs rfl (by simp) (by omega)]
  simp [FW.toB]; omega
/-- A text with something behind it. -/
theorem one_text (K : Nat) (hK : 5000 < K) (s R : List UInt8) (hs : ((39 :: (escL s ++ 39 :: R)).length : Int) ≤ 3000) (h5 : s.length ≤ 500) : offshootref11_one.f K (39 :: (escL s ++ 39 :: R)) = some (⟨4, s, 0, 0, 0⟩, ((escL s).length : Int) + 2) := by
  have hb := bt_head 39 (escL s ++ 39 :: R)
  rw [show ((39 : UInt8).toNat : Int) = 39 from rfl] at hb
  unfold offshootref11_one.f
  rw [if_pos ⟨by omega, by simp; omega⟩, hb, if_pos (fun e => by simp at e), if_neg (by simp), if_pos (by simp), quoted_eq K hK s R hs, Option.bind_some, if_neg (by simp; omega)]
end Go.Proofs.Ytbjbgodcenopnaa
/- Plain law of words: numbers with something behind them. -/
namespace Go.Proofs.Ytbjbgodcenopnaa
set_option linter.unusedVariables false
set_option linter.unusedSimpArgs false
set_option maxHeartbeats 2000000
theorem bt_zero (l : List UInt8) (c : UInt8) : FW.bt (c :: l) 0 = (c.toNat : Int) := by simp [FW.bt]
def isDigit (c : UInt8) : Bool := decide (48 ≤ (c.toNat : Int)) && decide ((c.toNat : Int) ≤ 57)
def asI (x : Int) : Int × Bool := if -9223372036854775808 ≤ x ∧ x ≤ 9223372036854775807 then (x, true) else (0, false)
theorem asI_in {x : Int} (h : -9223372036854775808 ≤ x ∧ x ≤ 9223372036854775807) : asI x = (x, true) := if_pos h
theorem asI_out {x : Int} (h : ¬ (-9223372036854775808 ≤ x ∧ x ≤ 9223372036854775807)) : asI x = (0, false) := if_neg h
def valS : Int → List UInt8 → Int
  | m, [] => m
  | m, c :: r => valS (m * 10 + ((c.toNat : Int) - 48)) r
def Digits (l : List UInt8) : Prop := ∀ c ∈ l, isDigit c = true
theorem digit_range {c : UInt8} (h : isDigit c = true) : 48 ≤ (c.toNat : Int) ∧ (c.toNat : Int) ≤ 57 := by
  simpa [isDigit] using h
theorem valS_ge : ∀ (l : List UInt8) (m : Int), Digits l → 0 ≤ m → m ≤ valS m l
  | [], m, _, _ => Int.le_refl m
  | c :: r, m, h, h0 => by
    have hc := digit_range (h c (by simp))
    have := valS_ge r (m * 10 + ((c.toNat : Int) - 48)) (fun x hx => h x (by simp [hx])) (by omega)
    rw [valS]; omega
def wholeS (b : Bool) (rest : List UInt8) : Int × Bool :=
  match rest with
  | [] => (0, false)
  | c :: r => if c = 48 ∧ (r ≠ [] ∨ b = true) then (0, false) else asI (sgnI b (valS 0 (c :: r)))
def intS (d : List UInt8) : Int × Bool :=
  match d with
  | [] => (0, false)
  | c :: r => if c = 45 then wholeS true r else wholeS false (c :: r)
def Good (d : List UInt8) : Prop := ∀ c r, d = c :: r → (isDigit c = true ∨ c = 45) ∧ Digits r
theorem pow10_le : ∀ (n : Nat), n ≤ 18 → (10 : Int) ^ n ≤ 1000000000000000000 := by
  intro n h
  have : ∀ n ∈ List.range 19, (10 : Int) ^ n ≤ 1000000000000000000 := by decide
  exact this n (List.mem_range.mpr (by omega))
theorem ref_l1_eq (K : Nat) (b : Bool) : ∀ (k : Nat) (l : List UInt8) (m i : Int), 0 ≤ i → i ≤ (l.length : Int) → (l.length : Int) ≤ 19 → Digits (l.drop i.toNat) → 0 ≤ m → m + 1 ≤ 10 ^ i.toNat → (l.length : Int) - i < k →
    offshootref11_Int.l1 K k b l m i = some (asI (sgnI b (valS m (l.drop i.toNat)))) := by
  intro k
  induction k with
  | zero => intro l m i h0 h1 h2 hd hm hi h3; omega
  | succ k ih =>
    intro l m i h0 h1 h2 hd hm hi h3
    rw [offshootref11_Int.l1]
    have w1 : IntKind.wrap .i64 (i + 1) = i + 1 := W_in (by omega) (by omega)
    cases hdr : l.drop i.toNat with
    | nil =>
      have := drop_nil h0 hdr
      have n1 : ¬ (i < (l.length : Int)) := by omega
      simp only [n1, decide_false, Bool.false_eq_true, if_false, valS]
      have hm2 : m < 18446744073709551616 := by
        have hp : (10 : Int) ^ i.toNat ≤ 10 ^ 19 := by
          have : i.toNat ≤ 19 := by omega
          have h' : ∀ n ∈ List.range 20, (10 : Int) ^ n ≤ 10 ^ 19 := by decide
          exact h' _ (List.mem_range.mpr (by omega))
        have : (10 : Int) ^ 19 = 10000000000000000000 := by decide
        omega
      unfold sgnI
      cases b with
      | true =>
        simp only [Bool.true_and, if_true, decide_eq_true_eq, Bool.not_true, Bool.false_and]
        by_cases hh : m ≤ 9223372036854775808
        · rw [if_pos hh, asI_in (by omega)]
          congr 2
          rw [i64_mod, IntKind.wrap_u64]; omega
        · rw [if_neg hh, asI_out (by omega)]; rfl
      | false =>
        simp only [Bool.false_and, Bool.false_eq_true, if_false, decide_eq_true_eq, Bool.not_false, Bool.true_and]
        by_cases hh : m < 9223372036854775808
        · rw [if_pos hh, asI_in (by omega), W_in (by omega) (by omega)]
        · rw [if_neg hh, asI_out (by omega)]
    | cons c r =>
      obtain ⟨hlt, hdr', hle⟩ := drop_lt h0 hdr
      rw [hdr] at hd
      have hc := digit_range (hd c (by simp))
      have hr : Digits r := fun x hx => hd x (by simp [hx])
      have hp := pow10_le i.toNat (by omega)
      have n1 : ¬ ((c.toNat : Int) < 48) := by omega
      have n2 : ¬ (57 < (c.toNat : Int)) := by omega
      simp only [bt_at hdr, hlt, decide_true, if_true, h0, and_self, implies_true, n1, n2, decide_false, Bool.or_false, Bool.false_eq_true, if_false, w1]
      have e : IntKind.wrap .u64 (IntKind.wrap .u64 (IntKind.wrap .u64 (m * 10) + IntKind.wrap .u64 (c.toNat : Int)) - 48) = m * 10 + ((c.toNat : Int) - 48) := by
        rw [W_u64 (x := m * 10) (by omega) (by omega), W_u64 (x := (c.toNat : Int)) (by omega) (by omega), W_u64 (x := m * 10 + (c.toNat : Int)) (by omega) (by omega), W_u64 (by omega) (by omega)]
        omega
      rw [e, ih l _ (i + 1) (by omega) (by omega) h2 (by rw [hdr']; exact hr) (by omega) (by
        rw [show (i + 1).toNat = i.toNat + 1 from by omega, Int.pow_succ]; omega) (by omega), hdr', valS]
theorem valS_big : ∀ (l : List UInt8) (m : Int), Digits l → 0 ≤ m → m * 10 ^ l.length ≤ valS m l
  | [], m, _, _ => by simp [valS]
  | c :: r, m, h, h0 => by
    have hc := digit_range (h c (by simp))
    have := valS_big r (m * 10 + ((c.toNat : Int) - 48)) (fun x hx => h x (by simp [hx])) (by omega)
    rw [valS]
    refine Int.le_trans ?_ this
    rw [List.length_cons, Int.pow_succ, Int.mul_comm (10 ^ r.length) 10, ← Int.mul_assoc]
    exact Int.mul_le_mul_of_nonneg_right (by omega) (Int.pow_nonneg (by omega))
theorem ref_whole (K : Nat) (hK : 100000 < K) (b : Bool) (rest : List UInt8) (hd : Digits rest) : offshootref11_Int.j1 K b rest = some (wholeS b rest) := by
  unfold offshootref11_Int.j1
  cases rest with
  | nil => simp [wholeS]
  | cons c r =>
    have hbt : FW.bt (c :: r) 0 = (c.toNat : Int) := bt_zero r c
    have h48 : ((c.toNat : Int) = 48) ↔ c = 48 := u8_eq c 48 (by omega)
    rw [if_pos (fun _ => by simp), hbt]
    unfold wholeS
    dsimp only
    have hc := digit_range (hd c (by simp))
    by_cases hh : c = 48 ∧ (r ≠ [] ∨ b = true)
    · rw [if_pos hh, if_pos]
      have : (c.toNat : Int) = 48 := h48.mpr hh.1
      simp only [this, decide_true, Bool.true_and, Bool.or_eq_true, decide_eq_true_eq, List.length_cons]
      rcases hh.2 with h | h
      · right; left
        cases r with
        | nil => exact absurd rfl h
        | cons => simp; omega
      · right; right; exact h
    · rw [if_neg hh]
      by_cases hl : 19 < ((c :: r).length : Int)
      · rw [if_pos (by simp only [hl, decide_true, Bool.or_true, Bool.true_or])]
        have hbig := valS_big r ((c.toNat : Int) - 48) (fun x hx => hd x (by simp [hx])) (by omega)
        have hne : c ≠ 48 := by
          intro h
          apply hh
          refine ⟨h, Or.inl ?_⟩
          rintro rfl
          simp at hl
        have h1 : 1 ≤ (c.toNat : Int) - 48 := by
          have : ¬ (c.toNat : Int) = 48 := fun h => hne (h48.mp h)
          omega
        have hp : (10 : Int) ^ 19 ≤ 10 ^ r.length := by
          simp only [List.length_cons] at hl
          have := Nat.pow_le_pow_right (n := 10) (by omega) (show 19 ≤ r.length by omega)
          exact_mod_cast this
        have h2 : (1 : Int) * 10 ^ r.length ≤ ((c.toNat : Int) - 48) * 10 ^ r.length := Int.mul_le_mul_of_nonneg_right h1 (Int.pow_nonneg (by omega))
        have e19 : (10 : Int) ^ 19 = 10000000000000000000 := by decide
        have e0 : valS 0 (c :: r) = valS ((c.toNat : Int) - 48) r := by rw [valS]; congr 1; omega
        rw [e0]
        unfold sgnI
        rw [asI_out (by split <;> omega)]
      · have n1 : ¬ ((((decide ((c :: r) = ([] : List UInt8))) || (decide (19 < ((c :: r).length : Int)))) || ((decide ((c.toNat : Int) = 48)) && ((decide (1 < ((c :: r).length : Int))) || b))) = true) := by
          intro h
          simp only [Bool.or_eq_true, Bool.and_eq_true, decide_eq_true_eq, h48] at h
          rcases h with (h | h) | ⟨h, h'⟩
          · cases h
          · exact hl h
          · apply hh
            refine ⟨h, ?_⟩
            rcases h' with h' | h'
            · left; rintro rfl; simp at h'
            · exact Or.inr h'
        rw [if_neg n1]
        exact ref_l1_eq K b K (c :: r) 0 0 (by omega) (by omega) (by omega) (by simpa using hd) (by omega) (by simp) (by omega)
theorem ref_eq (K : Nat) (hK : 100000 < K) (d : List UInt8) (h : Good d) : offshootref11_Int.f K d = some (intS d) := by
  unfold offshootref11_Int.f
  cases d with
  | nil =>
    rw [if_pos (by simp)]
    simp only [decide_true, Bool.not_true, Bool.false_and, Bool.false_eq_true, if_false]
    exact (ref_whole K hK _ [] (by intro c hc; cases hc)).trans rfl
  | cons c r =>
    obtain ⟨h1, h2⟩ := h c r rfl
    have hbt : FW.bt (c :: r) 0 = (c.toNat : Int) := bt_zero r c
    have h45 : ((c.toNat : Int) = 45) ↔ c = 45 := u8_eq c 45 (by omega)
    rw [if_pos (fun _ => by simp), hbt]
    unfold intS
    dsimp only
    by_cases c45 : c = 45
    · subst c45
      simp
      exact ⟨by omega, ref_whole K hK _ r h2⟩
    · have : ¬ (c.toNat : Int) = 45 := fun h => c45 (h45.mp h)
      simp only [this, decide_false, Bool.and_false, Bool.false_eq_true, if_false, c45]
      refine ref_whole K hK _ (c :: r) ?_
      intro x hx
      rcases List.mem_cons.mp hx with rfl | hx
      · exact h1.resolve_right c45
      · exact h2 x hx
theorem valS_append : ∀ (a b : List UInt8) (m : Int), valS m (a ++ b) = valS (valS m a) b
  | [], _, _ => rfl
  | c :: r, b, m => by rw [List.cons_append, valS, valS]; exact valS_append r b _
theorem hexdig_ten (d : Nat) (h : d < 10) : ((hexdig d).toNat : Int) = 48 + (d : Int) := by
  have : ∀ d ∈ List.range 10, ((hexdig d).toNat : Int) = 48 + (d : Int) := by decide
  exact this d (List.mem_range.mpr h)
theorem number_l1 (K : Nat) (b : Bool) : ∀ (j k : Nat) (n : Int) (acc : List UInt8), j < k → 0 ≤ n → In64 (sgnI b n) → n < 10 ^ j → j ≤ 19 → acc.length + j ≤ 1000 →
    ∃ ds, lex_Number.l1 K k (sgnI b n) acc b = some ((if b then [45] else []) ++ (ds ++ acc)) ∧ Digits ds ∧ valS 0 ds = n ∧ (n ≠ 0 → ∃ c r, ds = c :: r ∧ c ≠ 48) ∧ ds.length ≤ j ∧ (n = 0 → ds = []) := by
  intro j
  induction j with
  | zero =>
    intro k n acc hk h0 hi hn hj hl
    have hz : n = 0 := by simp at hn; omega
    subst hz
    obtain ⟨k, rfl⟩ : ∃ k', k = k' + 1 := ⟨k - 1, by omega⟩
    refine ⟨[], ?_, (fun c hc => by cases hc), rfl, fun h => absurd rfl h, by simp, fun _ => rfl⟩
    rw [lex_Number.l1, show sgnI b 0 = 0 from by cases b <;> rfl]
    cases b with
    | true => simp; omega
    | false => simp
  | succ j ih =>
    intro k n acc hk h0 hi hn hj hl
    obtain ⟨k, rfl⟩ : ∃ k', k = k' + 1 := ⟨k - 1, by omega⟩
    by_cases hz : n = 0
    · subst hz
      refine ⟨[], ?_, (fun c hc => by cases hc), rfl, fun h => absurd rfl h, by simp, fun _ => rfl⟩
      rw [lex_Number.l1, show sgnI b 0 = 0 from by cases b <;> rfl]
      cases b with
      | true => simp; omega
      | false => simp
    · have hne : ¬ sgnI b n = 0 := by unfold sgnI; split <;> omega
      have hin : In64 (sgnI b (n / 10)) := by unfold In64 sgnI at *; cases b <;> simp at hi ⊢ <;> omega
      have hw : IntKind.wrap .i64 (sgnI b (n / 10)) = sgnI b (n / 10) := W_in hin.1 hin.2
      have hd : IntKind.wrap .i64 (0 - sgnI true (n % 10)) = n % 10 := by unfold sgnI; rw [W_in] <;> simp <;> omega
      have hw1 : IntKind.wrap .i64 (n % 10 + 1) = n % 10 + 1 := W_in (by omega) (by omega)
      have hsl : List.take ((n % 10 + 1).toNat - (n % 10).toNat) (List.drop (n % 10).toNat hexL) = [hexdig (n % 10).toNat] := by
        rw [show (n % 10 + 1).toNat - (n % 10).toNat = 1 from by omega]; exact dig_slice _ (by omega)
      have hj1 : lex_Number.j1 (lex_Number.l1 K k) K (sgnI b n) acc b (n % 10) = lex_Number.l1 K k (sgnI b (n / 10)) (hexdig (n % 10).toNat :: acc) b := by
        unfold lex_Number.j1
        rw [hw1, if_pos ⟨by omega, by omega, by simp; omega⟩, hsl, if_pos (by simp only [List.length_cons, List.length_nil]; omega), sgn_tdiv b h0, hw]
        rfl
      have hstep : lex_Number.l1 K (k + 1) (sgnI b n) acc b = lex_Number.l1 K k (sgnI b (n / 10)) (hexdig (n % 10).toNat :: acc) b := by
        rw [lex_Number.l1, if_pos (by simpa using hne), sgn_tmod b h0]
        cases b with
        | true => rw [if_pos rfl, hd]; exact hj1
        | false => rw [if_neg (by simp)]; exact hj1
      obtain ⟨ds, e1, e2, e3, e4, e5, e6⟩ := ih k (n / 10) (hexdig (n % 10).toNat :: acc) (by omega) (by omega) hin (by rw [Int.pow_succ] at hn; omega) (by omega) (by simp; omega)
      have hdig := hexdig_ten (n % 10).toNat (by omega)
      refine ⟨ds ++ [hexdig (n % 10).toNat], ?_, ?_, ?_, fun _ => ?_, by simp; omega, fun h => absurd h hz⟩
      · rw [hstep, e1]; simp
      · intro c hc
        rcases List.mem_append.mp hc with hc | hc
        · exact e2 c hc
        · simp only [List.mem_cons, List.not_mem_nil, or_false] at hc
          subst hc
          unfold isDigit
          rw [hdig, ← Bool.decide_and, decide_eq_true_eq]; omega
      · rw [valS_append, e3]
        simp only [valS]
        rw [hdig]; omega
      · by_cases hz' : n / 10 = 0
        · rw [e6 hz']
          refine ⟨_, _, rfl, fun h => ?_⟩
          rw [h] at hdig
          have : ((48 : UInt8).toNat : Int) = 48 := rfl
          omega
        · obtain ⟨c, r, e, hc⟩ := e4 hz'
          exact ⟨c, r ++ [hexdig (n % 10).toNat], by rw [e]; rfl, hc⟩
theorem pow10_19 : (10 : Int) ^ 19 = 10000000000000000000 := by decide
theorem number_eq (KK : Nat) (hKK : 25 < KK) (v : Int) (hv : In64 v) : ∃ d, lex_Number.f KK v = some d ∧ Good d ∧ intS d = (v, true) ∧ d.length ≤ 20 ∧ d ≠ [] := by
  unfold lex_Number.f
  by_cases hz : v = 0
  · subst hz
    refine ⟨[48], rfl, ?_, by decide +kernel, by decide, by simp⟩
    intro c r e
    simp only [List.cons.injEq] at e
    obtain ⟨rfl, rfl⟩ := e
    exact ⟨Or.inl (by decide), fun c hc => by cases hc⟩
  rw [if_neg (by simpa using hz)]
  obtain ⟨b, n, e, hb, h0⟩ : ∃ (b : Bool) (n : Int), v = sgnI b n ∧ decide (v < 0) = b ∧ 0 ≤ n := by
    by_cases h : v < 0
    · exact ⟨true, -v, by simp [sgnI], by simp [h], by omega⟩
    · exact ⟨false, v, by simp [sgnI], by simp [h], by omega⟩
  rw [hb, e]
  rw [e] at hv hz
  have hn : n ≠ 0 := by rintro rfl; apply hz; cases b <;> rfl
  obtain ⟨ds, e1, e2, e3, e4, e5, _⟩ := number_l1 KK b 19 KK n [] (by omega) h0 hv (by rw [pow10_19]; unfold In64 sgnI at hv; split at hv <;> omega) (by omega) (by simp)
  obtain ⟨c, r, rfl, hc⟩ := e4 hn
  rw [List.append_nil] at e1
  have hw : ∀ b, In64 (sgnI b n) → wholeS b (c :: r) = (sgnI b n, true) := by
    intro b hv
    unfold wholeS
    dsimp only
    rw [if_neg (fun h => hc h.1), e3]
    exact asI_in hv
  have hcd := e2 c (by simp)
  refine ⟨_, e1, ?_, ?_, ?_, ?_⟩
  · intro c' r' e
    cases b with
    | true =>
      simp only [if_true, List.singleton_append, List.cons.injEq] at e
      obtain ⟨rfl, rfl⟩ := e
      exact ⟨Or.inr rfl, e2⟩
    | false =>
      simp only [Bool.false_eq_true, if_false, List.nil_append, List.cons.injEq] at e
      obtain ⟨rfl, rfl⟩ := e
      exact ⟨Or.inl hcd, fun x hx => e2 x (by simp [hx])⟩
  · cases b with
    | true =>
      simp only [if_true, List.singleton_append, intS]
      exact hw true hv
    | false =>
      simp only [Bool.false_eq_true, if_false, List.nil_append, intS]
      rw [if_neg (by rintro rfl; exact absurd hcd (by decide))]
      exact hw false hv
  · cases b <;> simp at e5 ⊢ <;> omega
  · cases b <;> simp
theorem one_l2_eq (K : Nat) (s : List UInt8) (hs : (s.length : Int) ≤ 3000) : ∀ (tok : List UInt8) (k : Nat) (i : Int) (d : UInt8) (r : List UInt8), 0 ≤ i → s.drop i.toNat = tok ++ d :: r → Digits tok → isDigit d = false → tok.length < k → ∀ (v : Int), offshootref11_Int.f K (s.take (i + tok.length).toNat) = some (v, true) →
    offshootref11_one.l2 K k s i = some (⟨2, [], v, 0, 0⟩, i + tok.length) := by
  intro tok
  induction tok with
  | nil =>
    intro k i d r h0 h1 h2 h3 h5 v hv
    obtain ⟨k, rfl⟩ : ∃ q, k = q + 1 := ⟨k - 1, by simp at h5; omega⟩
    rw [List.nil_append] at h1
    obtain ⟨hlt, hdr, hlen⟩ := drop_lt h0 h1
    simp only [List.length_nil, Int.add_zero, Int.cast_ofNat_Int] at hv ⊢
    have hd : ¬ (48 ≤ (d.toNat : Int) ∧ (d.toNat : Int) ≤ 57) := by
      intro e
      have : isDigit d = true := by unfold isDigit; simp; omega
      rw [this] at h3; cases h3
    rw [offshootref11_one.l2, if_pos (fun _ => ⟨h0, hlt⟩), if_pos (fun _ => ⟨h0, hlt⟩), bt_at h1, if_neg (by simp; omega), if_pos ⟨h0, by omega⟩, hv, Option.bind_some, if_neg (by simp)]
  | cons c tok ih =>
    intro k i d r h0 h1 h2 h3 h5 v hv
    simp only [List.length_cons] at h5
    obtain ⟨k, rfl⟩ : ∃ q, k = q + 1 := ⟨k - 1, by omega⟩
    rw [List.cons_append] at h1
    obtain ⟨hlt, hdr, hlen⟩ := drop_lt h0 h1
    have hc := digit_range (h2 c List.mem_cons_self)
    have e : i + 1 + (tok.length : Int) = i + ((c :: tok).length : Int) := by simp only [List.length_cons]; omega
    rw [offshootref11_one.l2, if_pos (fun _ => ⟨h0, hlt⟩), if_pos (fun _ => ⟨h0, hlt⟩), bt_at h1, if_pos (by simp; omega), W_in (by omega) (by omega)]
    rw [ih k (i + 1) d r (by omega) hdr (fun x hx => h2 x (List.mem_cons_of_mem _ hx)) h3 (by omega) v (by rw [e]; exact hv), e]
/-- A number with something behind it. -/
theorem one_int (K : Nat) (hK : 100000 < K) (v : Int) (hv : In64 v) (d : UInt8) (r : List UInt8) (hd : isDigit d = false) (hs : ((numS v ++ d :: r).length : Int) ≤ 3000) : offshootref11_one.f K (numS v ++ d :: r) = some (⟨2, [], v, 0, 0⟩, ((numS v).length : Int)) := by
  obtain ⟨w, w1, w2, w3, w4, w5⟩ := number_eq K (by omega) v hv
  rw [numS_eq K (by omega) v hv] at w1
  injection w1 with w1
  subst w1
  have hI := ref_eq K hK (numS v) w2
  rw [w3] at hI
  obtain ⟨c, q, hc⟩ : ∃ c q, numS v = c :: q := by
    cases h : numS v with
    | nil => exact absurd h w5
    | cons c q => exact ⟨c, q, rfl⟩
  obtain ⟨g1, g2⟩ := w2 c q hc
  have hl2 := one_l2_eq K (numS v ++ d :: r) hs q K 1 d r (by omega) (by rw [hc]; rfl) g2 hd (by rw [hc] at w4; simp only [List.length_cons] at w4; omega) v (by
    have e : (1 + (q.length : Int)).toNat = (numS v).length := by rw [hc]; simp only [List.length_cons]; omega
    rw [e, List.take_left' rfl]; exact hI)
  rw [hc] at hl2 hs ⊢
  rw [List.cons_append] at hl2 hs ⊢
  have hb := bt_head c (q ++ d :: r)
  have hcr : ((c.toNat : Int) = 45) ∨ (48 ≤ (c.toNat : Int) ∧ (c.toNat : Int) ≤ 57) := by
    rcases g1 with g1 | g1
    · exact .inr (digit_range g1)
    · subst g1; exact .inl rfl
  unfold offshootref11_one.f
  have n102 : decide ((c.toNat : Int) = 102) = false := by simp; omega
  have n39 : decide ((c.toNat : Int) = 39) = false := by simp; omega
  rw [if_pos ⟨by omega, by simp; omega⟩, hb, n102, if_pos (fun e => by simp at e), if_neg (by simp), n39, if_neg (by simp)]
  rw [if_pos (by simp; omega), hl2]
  congr 2
  simp only [List.length_cons]; omega
end Go.Proofs.Ytbjbgodcenopnaa
/- Plain law of words: floats with something behind them. -/
namespace Go.Proofs.Ytbjbgodcenopnaa
set_option linter.unusedVariables false
set_option maxHeartbeats 2000000
theorem hexdig_plain (d : Nat) (h : d < 16) : 32 ≤ ((hexdig d).toNat : Int) ∧ ((hexdig d).toNat : Int) ≤ 126 ∧ ¬ hexdig d = 39 ∧ ¬ hexdig d = 92 := by
  have : ∀ d ∈ List.range 16, 32 ≤ ((hexdig d).toNat : Int) ∧ ((hexdig d).toNat : Int) ≤ 126 ∧ ¬ hexdig d = 39 ∧ ¬ hexdig d = 92 := by decide
  exact this d (List.mem_range.mpr h)
theorem esc_hexh : ∀ j x, escL (hexh j x) = hexh j x
  | 0, x => by simp [hexh, escL]
  | j + 1, x => by
    obtain ⟨a, b, c, d⟩ := hexdig_plain (x / 16 ^ j % 16) (by omega)
    rw [hexh, escL, esc_hexh j x, escS, if_neg (by simp [c, d]), if_neg (by omega)]
    rfl
theorem oneF_l1 (K : Nat) (t : List UInt8) (ht : t.length = 16) (n : Int) (x : Nat) (hx : x < 18446744073709551616) (hc : canonN x = x) :
    ∀ (j k : Nat) (i : Int) (m : Nat), j < k → i = 16 - (j : Int) → j ≤ 16 → t.drop i.toNat = hexh j x → m * 16 ^ j + x % 16 ^ j = x →
      offshootref11_one.l1 K k t n (m : Int) true i = some (⟨3, [], 0, x, 0⟩, IntKind.wrap .i64 (n + 1)) := by
  intro j
  induction j with
  | zero =>
    intro k i m hk hi hj hd hm
    obtain ⟨k, rfl⟩ : ∃ q, k = q + 1 := ⟨k - 1, by omega⟩
    have hmx : m = x := by simpa [Nat.mod_one] using hm
    subst hmx
    rw [offshootref11_one.l1, if_neg (by simp; omega), if_pos (by simp), Int.toNat_natCast, refcanon_eq, hc, Option.bind_some, if_neg (by simp)]
  | succ j ih =>
    intro k i m hk hi hj hd hm
    obtain ⟨k, rfl⟩ : ∃ q, k = q + 1 := ⟨k - 1, by omega⟩
    rw [hexh] at hd
    obtain ⟨hlt, hdr, hle⟩ := drop_lt (by omega : 0 ≤ i) hd
    have hdg : x / 16 ^ j % 16 < 16 := Nat.mod_lt _ (by omega)
    have hp : 0 < 16 ^ j := Nat.pow_pos (by omega)
    have hmod : x % 16 ^ (j + 1) = x % 16 ^ j + 16 ^ j * (x / 16 ^ j % 16) := Nat.mod_pow_succ
    have hm2 : (m * 16 + x / 16 ^ j % 16) * 16 ^ j + x % 16 ^ j = x := by
      rw [hmod, Nat.pow_succ] at hm
      rw [Nat.add_mul, Nat.mul_assoc, Nat.mul_comm 16 (16 ^ j), Nat.mul_comm (x / 16 ^ j % 16) (16 ^ j)]
      omega
    have hle2 : m * 16 + x / 16 ^ j % 16 ≤ x := by
      refine Nat.le_trans (Nat.le_mul_of_pos_right _ hp) ?_
      omega
    rw [offshootref11_one.l1, if_pos (by simp; omega), if_pos ⟨by omega, hlt⟩, bt_at hd, digit_hex _ hdg, Option.bind_some, if_pos ⟨by omega, hlt⟩, Option.bind_some]
    rw [W_u64 (x := (m : Int) * 16) (by omega) (by omega), W_u64 (x := ((x / 16 ^ j % 16 : Nat) : Int)) (by omega) (by omega), W_u64 (by omega) (by omega), W_in (x := i + 1) (by omega) (by omega)]
    have hdec : decide (((x / 16 ^ j % 16 : Nat) : Int) < 16) = true := by simp; omega
    rw [hdec, show (m : Int) * 16 + ((x / 16 ^ j % 16 : Nat) : Int) = ((m * 16 + x / 16 ^ j % 16 : Nat) : Int) by omega]
    exact ih k (i + 1) _ (by omega) (by omega) (by omega) hdr hm2
/-- A float with something behind it. -/
theorem one_float (K : Nat) (hK : 5000 < K) (f : Nat) (hf : f < 18446744073709551616) (R : List UInt8) (hs : ((102 :: 39 :: (hexh 16 (canonN f) ++ 39 :: R)).length : Int) ≤ 3000) :
    offshootref11_one.f K (102 :: 39 :: (hexh 16 (canonN f) ++ 39 :: R)) = some (⟨3, [], 0, canonN f, 0⟩, 19) := by
  have hb := bt_head 102 (39 :: (hexh 16 (canonN f) ++ 39 :: R))
  have hb1 : FW.bt (102 :: 39 :: (hexh 16 (canonN f) ++ 39 :: R)) 1 = ((39 : UInt8).toNat : Int) := bt_at (r := hexh 16 (canonN f) ++ 39 :: R) rfl
  rw [show ((102 : UInt8).toNat : Int) = 102 from rfl] at hb
  rw [show ((39 : UInt8).toNat : Int) = 39 from rfl] at hb1
  have hl := hexh_len 16 (canonN f)
  have hq := quoted_eq K hK (hexh 16 (canonN f)) R (by rw [esc_hexh]; simp only [List.length_cons] at hs ⊢; omega)
  rw [esc_hexh] at hq
  unfold offshootref11_one.f
  rw [if_pos ⟨by omega, by simp only [List.length_cons]; omega⟩, if_pos (fun _ => ⟨by omega, by simp only [List.length_cons]; omega⟩), hb, hb1, if_pos (by simp only [List.length_cons, decide_true, Bool.true_and, Bool.and_true, decide_eq_true_eq]; omega), if_pos ⟨by omega, by simp only [List.length_cons]; omega⟩]
  have e1 : List.drop (Int.toNat 1) (102 :: 39 :: (hexh 16 (canonN f) ++ 39 :: R)) = 39 :: (hexh 16 (canonN f) ++ 39 :: R) := rfl
  rw [e1, hq, Option.bind_some]
  dsimp only
  have e2 : ((decide ((0 : Int) < ((hexh 16 (canonN f)).length : Int) + 2)) && (decide (((hexh 16 (canonN f)).length : Int) = 16))) = true := by simp [hl]
  rw [e2]
  have := oneF_l1 K (hexh 16 (canonN f)) hl (((hexh 16 (canonN f)).length : Int) + 2) (canonN f) (canonN_lt f hf) (canon_twice f) 16 K 0 0 (by omega) (by omega) (by omega) rfl (by
    rw [Nat.zero_mul, Nat.zero_add]; exact Nat.mod_eq_of_lt (by have := canonN_lt f hf; omega))
  rw [show ((0 : Nat) : Int) = 0 from rfl] at this
  rw [this, hl, W_in (by omega) (by omega)]
  rfl
/-- A name of one letter with something behind it. -/
theorem one_letter (K : Nat) (hK : 20 < K) (c d : UInt8) (r : List UInt8) (hs : ((c :: d :: r).length : Int) ≤ 3000) (hc : isLet c = true) (hd : isLet d = false) (h0 : ¬ (c.toNat : Int) = 39 ∧ ¬ (c.toNat : Int) = 45 ∧ ¬ (48 ≤ (c.toNat : Int) ∧ (c.toNat : Int) ≤ 57)) (h39 : ¬ (d.toNat : Int) = 39) :
    offshootref11_one.f K (c :: d :: r) = some (⟨1, [c], 0, 0, 0⟩, 1) := by
  have hb := bt_head c (d :: r)
  have hb1 : FW.bt (c :: d :: r) 1 = (d.toNat : Int) := bt_at (r := r) rfl
  obtain ⟨a1, a2, a3⟩ := h0
  unfold offshootref11_one.f
  rw [if_pos ⟨by omega, by simp only [List.length_cons]; omega⟩, if_pos (fun _ => ⟨by omega, by simp only [List.length_cons]; omega⟩), hb, hb1]
  rw [if_neg (by simp [h39]), if_neg (by simpa using a1), if_neg (by simp [a2]; omega), letter_eq, Option.bind_some]
  have hc' : (((((decide ((c.toNat : Int) = 95)) || ((decide (97 ≤ (c.toNat : Int))) && (decide ((c.toNat : Int) ≤ 122)))) || ((decide (65 ≤ (c.toNat : Int))) && (decide ((c.toNat : Int) ≤ 90)))) || ((decide (48 ≤ (c.toNat : Int))) && (decide ((c.toNat : Int) ≤ 57))))) = true := hc
  rw [hc', if_pos rfl, one_l3_eq K (c :: d :: r) hs [] K 1 d r (by omega) rfl (fun x hx => by cases hx) hd (by simp) (by simp; omega)]
  rfl
end Go.Proofs.Ytbjbgodcenopnaa
/- Plain law of words: one word after the other. -/
namespace Go.Proofs.Ytbjbgodcenopnaa
set_option linter.unusedVariables false
set_option maxHeartbeats 2000000
/-- Words that are such, whatever their places. -/
def Like (l : List ApiWord) (t : List ApiWord) : Prop := l.map (fun w => (w.Kind, w.S, w.N, w.F)) = t.map (fun w => (w.Kind, w.S, w.N, w.F))
theorem Like.append {a b c d : List ApiWord} (h : Like a b) (h' : Like c d) : Like (a ++ c) (b ++ d) := by
  unfold Like at *
  rw [List.map_append, List.map_append, h, h']
theorem Like.one (w : ApiWord) (i : Int) : Like [⟨w.Kind, w.S, w.N, w.F, i⟩] [w] := rfl
theorem w11_space (K k : Nat) (acc : List ApiWord) (r : List UInt8) (i : Int) : w11 K (k + 1) acc (32 :: r) i = w11 K k acc r (i + 1) := by
  rw [w11, if_pos (by decide)]
/-- A word is taken, or there are too many. -/
theorem w11_word (K k : Nat) (acc : List ApiWord) (c : UInt8) (r rest : List UInt8) (i : Int) (w : ApiWord) (n : Nat) (h : offshootref11_one.f K (c :: r) = some (w, (n : Int))) (hn : 0 < n) (hr : (c :: r).drop n = rest) (hc : ¬ (c.toNat : Int) = 32) :
    (∃ at_ e, e ≠ 0 ∧ w11 K (k + 1) acc (c :: r) i = some ([], at_, e)) ∨ w11 K (k + 1) acc (c :: r) i = w11 K k (acc ++ [⟨w.Kind, w.S, w.N, w.F, i⟩]) rest (i + n) := by
  rw [w11, if_neg hc, h, Option.bind_some, if_neg (by dsimp only; omega)]
  by_cases h15 : (acc.length : Int) = 1500
  · rw [if_pos h15]; exact .inl ⟨i, 3, by decide, rfl⟩
  · rw [if_neg h15]
    right
    dsimp only
    rw [Int.toNat_natCast, hr]
theorem w11_none (K k : Nat) (acc : List ApiWord) (c : UInt8) (r : List UInt8) (i : Int) (w : ApiWord) (h : offshootref11_one.f K (c :: r) = some (w, 0)) (hc : ¬ (c.toNat : Int) = 32) : ∃ at_ e, e ≠ 0 ∧ w11 K (k + 1) acc (c :: r) i = some ([], at_, e) := by
  rw [w11, if_neg hc, h, Option.bind_some, if_pos rfl]
  exact ⟨i, 110, by decide, rfl⟩
/-- What is no word. -/
theorem one_brace (K : Nat) (r : List UInt8) : offshootref11_one.f K (123 :: r) = some (⟨0, [], 0, 0, 0⟩, 0) := by
  have hb := bt_head 123 r
  unfold offshootref11_one.f
  rw [if_pos ⟨by omega, by simp⟩, hb]
  simp [offshootref11_letter.f]
end Go.Proofs.Ytbjbgodcenopnaa
/- Plain law of words: the words of a value's text, with something behind it. -/
namespace Go.Proofs.Ytbjbgodcenopnaa
set_option linter.unusedVariables false
set_option maxHeartbeats 2000000
/-! The words of a value. -/
mutual
def toksV : ApiValue → List ApiWord
  | ⟨k, b, n, f, s, l⟩ =>
    if k = 0 then [⟨1, [110, 117, 108, 108], 0, 0, 0⟩]
    else if k = 1 then (if b = true then [⟨1, [116, 114, 117, 101], 0, 0, 0⟩] else [⟨1, [102, 97, 108, 115, 101], 0, 0, 0⟩])
    else if k = 2 then [⟨2, [], n, 0, 0⟩]
    else if k = 3 then [⟨3, [], 0, canonN f, 0⟩]
    else if k = 4 then [⟨4, s, 0, 0, 0⟩]
    else if k = 5 then [⟨5, [91], 0, 0, 0⟩] ++ (toksL l ++ [⟨5, [93], 0, 0, 0⟩])
    else if k = 7 then [⟨1, [118], 0, 0, 0⟩, ⟨5, [40], 0, 0, 0⟩, ⟨2, [], n, 0, 0⟩, ⟨5, [41], 0, 0, 0⟩]
    else [⟨1, [101], 0, 0, 0⟩, ⟨5, [40], 0, 0, 0⟩, ⟨2, [], n, 0, 0⟩, ⟨5, [41], 0, 0, 0⟩]
def toksL : List ApiValue → List ApiWord
  | [] => []
  | x :: r => toksV x ++ toksTl r
def toksTl : List ApiValue → List ApiWord
  | [] => []
  | x :: r => [⟨5, [44], 0, 0, 0⟩] ++ (toksV x ++ toksTl r)
end
/-- From one place to another the words are such, or there is an error. -/
def Lx (K k : Nat) (acc : List ApiWord) (s : List UInt8) (i : Int) (T : List ApiWord) (r : List UInt8) : Prop :=
  (∃ at_ e, e ≠ 0 ∧ w11 K k acc s i = some ([], at_, e)) ∨ ∃ (W : List ApiWord) (k' : Nat) (i' : Int), Like W T ∧ r.length < k' ∧ w11 K k acc s i = w11 K k' (acc ++ W) r i'
theorem Lx.refl {K k : Nat} {acc : List ApiWord} {s : List UInt8} {i : Int} (h : s.length < k) : Lx K k acc s i [] s := .inr ⟨[], k, i, rfl, h, by rw [List.append_nil]⟩
theorem Lx.trans {K k : Nat} {acc : List ApiWord} {s : List UInt8} {i : Int} {T T' : List ApiWord} {r r' : List UInt8} (h : Lx K k acc s i T r) (h' : ∀ (acc' : List ApiWord) (k' : Nat) (i' : Int), r.length < k' → Lx K k' acc' r i' T' r') : Lx K k acc s i (T ++ T') r' := by
  rcases h with h | ⟨W, k', i', h1, h2, h3⟩
  · exact .inl h
  · rcases h' (acc ++ W) k' i' h2 with ⟨at_, e, h4, h5⟩ | ⟨W', k'', i'', h4, h5, h6⟩
    · exact .inl ⟨at_, e, h4, by rw [h3, h5]⟩
    · exact .inr ⟨W ++ W', k'', i'', h1.append h4, h5, by rw [h3, h6, List.append_assoc]⟩
theorem Lx.word {K k : Nat} {acc : List ApiWord} {c : UInt8} {r rest : List UInt8} {i : Int} (w : ApiWord) (n : Nat) (hf : (c :: r).length < k) (h : offshootref11_one.f K (c :: r) = some (w, (n : Int))) (hn : 0 < n) (hr : (c :: r).drop n = rest) (hc : ¬ (c.toNat : Int) = 32) : Lx K k acc (c :: r) i [w] rest := by
  obtain ⟨k, rfl⟩ : ∃ q, k = q + 1 := ⟨k - 1, by omega⟩
  have hl : rest.length < k := by
    rw [← hr, List.length_drop]
    simp only [List.length_cons] at hf ⊢
    omega
  rcases w11_word K k acc c r rest i w n h hn hr hc with h1 | h1
  · exact .inl h1
  · exact .inr ⟨[⟨w.Kind, w.S, w.N, w.F, i⟩], k, i + n, Like.one w i, hl, h1⟩
theorem Lx.space {K k : Nat} {acc : List ApiWord} {r : List UInt8} {i : Int} (hf : (32 :: r : List UInt8).length < k) : Lx K k acc (32 :: r) i [] r := by
  obtain ⟨k, rfl⟩ : ∃ q, k = q + 1 := ⟨k - 1, by omega⟩
  exact .inr ⟨[], k, i + 1, rfl, by simpa using hf, by rw [w11_space, List.append_nil]⟩
theorem Lx.sign {K k : Nat} {acc : List ApiWord} {r : List UInt8} {i : Int} (c : UInt8) (hc : c = 46 ∨ c = 40 ∨ c = 41 ∨ c = 44 ∨ c = 91 ∨ c = 93) (hf : (c :: r).length < k) : Lx K k acc (c :: r) i [⟨5, [c], 0, 0, 0⟩] r :=
  Lx.word ⟨5, [c], 0, 0, 0⟩ 1 hf (one_sign K r c hc) (by decide) rfl (by rcases hc with rfl | rfl | rfl | rfl | rfl | rfl <;> decide)
def Ends (d : UInt8) : Prop := d = 44 ∨ d = 93 ∨ d = 41
theorem Ends.let {d : UInt8} (h : Ends d) : isLet d = false := by rcases h with rfl | rfl | rfl <;> decide
theorem Ends.digit {d : UInt8} (h : Ends d) : isDigit d = false := by rcases h with rfl | rfl | rfl <;> decide
def LexP (K : Nat) (v : ApiValue) : Prop := GdV v → OkV v → ∀ (k : Nat) (acc : List ApiWord) (d : UInt8) (rest : List UInt8) (i : Int), Ends d → ((valT v ++ d :: rest).length : Int) ≤ 3000 → (valT v ++ d :: rest).length < k → Lx K k acc (valT v ++ d :: rest) i (toksV v) (d :: rest)
theorem lexTl (K : Nat) : ∀ (l : List ApiValue), (∀ x ∈ l, LexP K x) → GdL l → OkVL l → ∀ (k : Nat) (acc : List ApiWord) (rest : List UInt8) (i : Int), ((commaTail (valsT l) ++ 93 :: rest).length : Int) ≤ 3000 → (commaTail (valsT l) ++ 93 :: rest).length < k → Lx K k acc (commaTail (valsT l) ++ 93 :: rest) i (toksTl l) (93 :: rest) := by
  intro l
  induction l with
  | nil =>
    intro hm hg ho k acc rest i hs hk
    exact Lx.refl hk
  | cons x r ih =>
    intro hm hg ho k acc rest i hs hk
    simp only [GdL] at hg
    simp only [OkVL] at ho
    have hct : commaTail (valsT (x :: r)) ++ 93 :: rest = 44 :: 32 :: (valT x ++ (commaTail (valsT r) ++ 93 :: rest)) := by simp [valsT, commaTail]
    rw [hct] at hs hk ⊢
    simp only [toksTl]
    obtain ⟨d, q, hd, hq⟩ : ∃ d q, commaTail (valsT r) ++ 93 :: rest = d :: q ∧ Ends d := by
      cases r with
      | nil => exact ⟨93, rest, rfl, .inr (.inl rfl)⟩
      | cons y z => exact ⟨44, 32 :: (valT y ++ (commaTail (valsT z) ++ 93 :: rest)), by simp [valsT, commaTail], .inl rfl⟩
    have hs1 : ((valT x ++ (commaTail (valsT r) ++ 93 :: rest)).length : Int) ≤ 3000 := by simp only [List.length_cons] at hs; omega
    have hs2 : ((commaTail (valsT r) ++ 93 :: rest).length : Int) ≤ 3000 := by rw [List.length_append] at hs1; omega
    refine (Lx.sign 44 (by simp) hk).trans fun acc1 k1 i1 h1 => ?_
    refine (Lx.space h1 : Lx K k1 acc1 _ i1 [] _).trans (T' := toksV x ++ toksTl r) fun acc2 k2 i2 h2 => ?_
    have hx := hm x List.mem_cons_self hg.1 ho.1 k2 acc2 d q i2 hq (by rw [← hd]; exact hs1) (by rw [← hd]; exact h2)
    rw [← hd] at hx
    exact hx.trans fun acc3 k3 i3 h3 => ih (fun y hy => hm y (List.mem_cons_of_mem _ hy)) hg.2 ho.2 k3 acc3 rest i3 hs2 h3
theorem lexV (K : Nat) (hK : 100000 < K) : ∀ (n : Nat) (v : ApiValue), szV v ≤ n → LexP K v := by
  intro n
  induction n with
  | zero => intro v h; have := szV_eq v; omega
  | succ n ih =>
    intro v hz hg ho k acc d rest i hd hs hk
    have hg1 := hg.one
    have ho1 := ho.one
    have hW := gd_valw v hg ho
    obtain ⟨kk, b, m, f, s, l⟩ := v
    simp only [ValW] at hW
    obtain ⟨w1, w2, w3, w4⟩ := hW
    have hdl := hd.let
    have hdd := hd.digit
    have h39 : ¬ (d.toNat : Int) = 39 := by rcases hd with rfl | rfl | rfl <;> decide
    rw [valT] at hs hk ⊢
    rw [toksV]
    by_cases k0 : kk = 0
    · rw [if_pos k0] at hs hk ⊢; rw [if_pos k0]
      exact Lx.word ⟨1, [110, 117, 108, 108], 0, 0, 0⟩ 4 hk (one_name K (by omega) 110 117 [108, 108] d rest hs (by decide) (by decide) (by decide) hdl (by decide) (by decide) (by decide)) (by decide) rfl (by decide)
    rw [if_neg k0] at hs hk ⊢; rw [if_neg k0]
    by_cases k1 : kk = 1
    · rw [if_pos k1] at hs hk ⊢; rw [if_pos k1]
      cases b
      · rw [if_neg (by simp)] at hs hk ⊢; rw [if_neg (by simp)]
        exact Lx.word ⟨1, [102, 97, 108, 115, 101], 0, 0, 0⟩ 5 hk (one_name K (by omega) 102 97 [108, 115, 101] d rest hs (by decide) (by decide) (by decide) hdl (by decide) (by decide) (by decide)) (by decide) rfl (by decide)
      · rw [if_pos rfl] at hs hk ⊢; rw [if_pos rfl]
        exact Lx.word ⟨1, [116, 114, 117, 101], 0, 0, 0⟩ 4 hk (one_name K (by omega) 116 114 [117, 101] d rest hs (by decide) (by decide) (by decide) hdl (by decide) (by decide) (by decide)) (by decide) rfl (by decide)
    rw [if_neg k1] at hs hk ⊢; rw [if_neg k1]
    have num : ∀ (k : Nat) (acc : List ApiWord) (i : Int) (d : UInt8) (rest : List UInt8), isDigit d = false → ((numS m ++ d :: rest).length : Int) ≤ 3000 → (numS m ++ d :: rest).length < k → Lx K k acc (numS m ++ d :: rest) i [⟨2, [], m, 0, 0⟩] (d :: rest) := by
      intro k acc i d rest hdd hs hk
      obtain ⟨q, q1, q2, q3, q4, q5⟩ := number_eq K (by omega) m w1
      rw [numS_eq K (by omega) m w1] at q1
      injection q1 with q1
      subst q1
      have h1 := one_int K hK m w1 d rest hdd hs
      obtain ⟨c, r, hc⟩ : ∃ c r, numS m = c :: r := by
        cases h : numS m with
        | nil => exact absurd h q5
        | cons c r => exact ⟨c, r, rfl⟩
      have h2 := (q2 c r hc).1
      have h32 : ¬ (c.toNat : Int) = 32 := by
        rcases h2 with h2 | h2
        · have := digit_range h2; omega
        · subst h2; decide
      have hdrop : (numS m ++ d :: rest).drop (numS m).length = d :: rest := List.drop_left
      rw [hc, List.cons_append] at h1 hk hdrop ⊢
      exact Lx.word ⟨2, [], m, 0, 0⟩ (c :: r).length hk h1 (by simp) hdrop h32
    by_cases k2 : kk = 2
    · rw [if_pos k2] at hs hk ⊢; rw [if_pos k2]
      exact num k acc i d rest hdd hs hk
    rw [if_neg k2] at hs hk ⊢; rw [if_neg k2]
    by_cases k3 : kk = 3
    · rw [if_pos k3] at hs hk ⊢; rw [if_pos k3]
      have e : floatT f ++ d :: rest = 102 :: 39 :: (hexh 16 (canonN f) ++ 39 :: (d :: rest)) := by simp [floatT]
      rw [e] at hs hk ⊢
      refine Lx.word ⟨3, [], 0, canonN f, 0⟩ 19 hk (one_float K (by omega) f w2 (d :: rest) hs) (by decide) ?_ (by decide)
      have hl := hexh_len 16 (canonN f)
      have : 102 :: 39 :: (hexh 16 (canonN f) ++ 39 :: (d :: rest)) = (102 :: 39 :: (hexh 16 (canonN f) ++ [39])) ++ (d :: rest) := by simp
      rw [this]
      exact List.drop_left' (by simp [hl])
    rw [if_neg k3] at hs hk ⊢; rw [if_neg k3]
    by_cases k4 : kk = 4
    · rw [if_pos k4] at hs hk ⊢; rw [if_pos k4]
      have e : textT s ++ d :: rest = 39 :: (escL s ++ 39 :: (d :: rest)) := by simp [textT]
      rw [e] at hs hk ⊢
      refine Lx.word ⟨4, s, 0, 0, 0⟩ ((escL s).length + 2) hk (by rw [one_text K (by omega) s (d :: rest) hs hg1.s500]; rfl) (by omega) ?_ (by decide)
      have : 39 :: (escL s ++ 39 :: (d :: rest)) = (39 :: (escL s ++ [39])) ++ (d :: rest) := by simp
      rw [this]
      exact List.drop_left' (by simp)
    rw [if_neg k4] at hs hk ⊢; rw [if_neg k4]
    by_cases k5 : kk = 5
    · rw [if_pos k5] at hs hk ⊢; rw [if_pos k5]
      have hz' := szV_eq ⟨kk, b, m, f, s, l⟩
      have hmem : ∀ x ∈ l, LexP K x := by
        intro x hx
        refine ih x ?_
        obtain ⟨j, hj, hjx⟩ := List.getElem_of_mem hx
        have := szVL_get l j hj
        rw [List.getD_eq_getElem?_getD, List.getElem?_eq_getElem hj, Option.getD_some, hjx] at this
        simp only at hz'
        omega
      have e : [91] ++ commas (valsT l) ++ [93] ++ d :: rest = 91 :: (commas (valsT l) ++ 93 :: (d :: rest)) := by simp
      rw [e] at hs hk ⊢
      refine (Lx.sign 91 (by simp) hk).trans fun acc1 k1 i1 h1 => ?_
      have hs1 : ((commas (valsT l) ++ 93 :: (d :: rest)).length : Int) ≤ 3000 := by simp only [List.length_cons] at hs; omega
      refine Lx.trans (T := toksL l) (r := 93 :: (d :: rest)) ?_ (fun acc2 k2 i2 h2 => Lx.sign 93 (by simp) h2)
      have hgl : GdL l := hg1.all
      have hol : OkVL l := ho1.all
      cases l with
      | nil => exact Lx.refl h1
      | cons x r =>
        simp only [GdL] at hgl
        simp only [OkVL] at hol
        simp only [toksL]
        simp only [valsT] at h1 hs1 ⊢
        rw [commas_tail, List.append_assoc] at h1 hs1 ⊢
        obtain ⟨d', q, hd', hq⟩ : ∃ d' q, commaTail (valsT r) ++ 93 :: (d :: rest) = d' :: q ∧ Ends d' := by
          cases r with
          | nil => exact ⟨93, d :: rest, rfl, .inr (.inl rfl)⟩
          | cons y z => exact ⟨44, 32 :: (valT y ++ (commaTail (valsT z) ++ 93 :: (d :: rest))), by simp [valsT, commaTail], .inl rfl⟩
        have hx := hmem x List.mem_cons_self hgl.1 hol.1 k1 acc1 d' q i1 hq (by rw [← hd']; exact hs1) (by rw [← hd']; exact h1)
        rw [← hd'] at hx
        have hs2 : ((commaTail (valsT r) ++ 93 :: (d :: rest)).length : Int) ≤ 3000 := by rw [List.length_append] at hs1; omega
        exact hx.trans fun acc3 k3 i3 h3 => lexTl K r (fun y hy => hmem y (List.mem_cons_of_mem _ hy)) hgl.2 hol.2 k3 acc3 (d :: rest) i3 hs2 h3
    rw [if_neg k5] at hs hk ⊢; rw [if_neg k5]
    by_cases k6 : kk = 6
    · rw [if_pos k6] at hs hk ⊢
      have e : [123] ++ commas (valsT l) ++ [125] ++ d :: rest = 123 :: (commas (valsT l) ++ 125 :: (d :: rest)) := by simp
      rw [e] at hk ⊢
      obtain ⟨k, rfl⟩ : ∃ q, k = q + 1 := ⟨k - 1, by omega⟩
      exact .inl (w11_none K k acc 123 _ i _ (one_brace K _) (by decide))
    rw [if_neg k6] at hs hk ⊢
    have idt : ∀ c : UInt8, c = 118 ∨ c = 101 → ((c :: 40 :: (numS m ++ 41 :: (d :: rest))).length : Int) ≤ 3000 → (c :: 40 :: (numS m ++ 41 :: (d :: rest))).length < k → Lx K k acc (c :: 40 :: (numS m ++ 41 :: (d :: rest))) i [⟨1, [c], 0, 0, 0⟩, ⟨5, [40], 0, 0, 0⟩, ⟨2, [], m, 0, 0⟩, ⟨5, [41], 0, 0, 0⟩] (d :: rest) := by
      intro c hc hs hk
      have hs1 : ((numS m ++ 41 :: (d :: rest)).length : Int) ≤ 3000 := by simp only [List.length_cons] at hs; omega
      refine Lx.trans (T := [⟨1, [c], 0, 0, 0⟩]) (r := 40 :: (numS m ++ 41 :: (d :: rest))) (Lx.word ⟨1, [c], 0, 0, 0⟩ 1 hk ?_ (by decide) rfl (by rcases hc with rfl | rfl <;> decide)) fun acc1 k1 i1 h1 => ?_
      · exact one_letter K (by omega) c 40 _ hs (by rcases hc with rfl | rfl <;> decide) (by decide) (by rcases hc with rfl | rfl <;> decide) (by decide)
      refine Lx.trans (T := [⟨5, [40], 0, 0, 0⟩]) (Lx.sign 40 (by simp) h1) fun acc2 k2 i2 h2 => ?_
      refine Lx.trans (T := [⟨2, [], m, 0, 0⟩]) (num k2 acc2 i2 41 (d :: rest) (by decide) hs1 h2) fun acc3 k3 i3 h3 => ?_
      exact Lx.sign 41 (by simp) h3
    by_cases k7 : kk = 7
    · rw [if_pos k7] at hs hk ⊢; rw [if_pos k7]
      have e : [118, 40] ++ numS m ++ [41] ++ d :: rest = 118 :: 40 :: (numS m ++ 41 :: (d :: rest)) := by simp
      rw [e] at hs hk ⊢
      exact idt 118 (.inl rfl) hs hk
    rw [if_neg k7] at hs hk ⊢; rw [if_neg k7]
    have k8 : kk = 8 := by
      have h1 := hg1.k0
      have h2 := hg1.k8
      simp only at h1 h2
      omega
    rw [if_pos k8] at hs hk ⊢
    have e : [101, 40] ++ numS m ++ [41] ++ d :: rest = 101 :: 40 :: (numS m ++ 41 :: (d :: rest)) := by simp
    rw [e] at hs hk ⊢
    exact idt 101 (.inr rfl) hs hk
end Go.Proofs.Ytbjbgodcenopnaa
/- Plain law of steps: what is taken of a value's words. -/
namespace Go.Proofs.Ytbjbgodcenopnaa
set_option linter.unusedVariables false
set_option linter.unusedSimpArgs false
set_option maxHeartbeats 2000000
theorem Like.cons {W : List ApiWord} {t : ApiWord} {T : List ApiWord} (h : Like W (t :: T)) : ∃ w W', W = w :: W' ∧ w.Kind = t.Kind ∧ w.S = t.S ∧ w.N = t.N ∧ w.F = t.F ∧ Like W' T := by
  unfold Like at h
  cases W with
  | nil => simp at h
  | cons w W' =>
    simp only [List.map_cons, List.cons.injEq, Prod.mk.injEq] at h
    exact ⟨w, W', rfl, h.1.1, h.1.2.1, h.1.2.2.1, h.1.2.2.2, h.2⟩
theorem Like.nil {W : List ApiWord} (h : Like W []) : W = [] := by
  unfold Like at h
  simpa using h
theorem Like.split {W T1 T2 : List ApiWord} (h : Like W (T1 ++ T2)) : ∃ W1 W2, W = W1 ++ W2 ∧ Like W1 T1 ∧ Like W2 T2 := by
  unfold Like at h
  rw [List.map_append, List.map_eq_append_iff] at h
  obtain ⟨W1, W2, h1, h2, h3⟩ := h
  exact ⟨W1, W2, h1, h2, h3⟩
section
variable {L : List ApiWord} {i D S A : Int} {w : ApiWord} {r : List ApiWord} {s : Offshootref12State}
theorem is_at (h0 : 0 ≤ i) (hd : L.drop i.toNat = w :: r) (sg : List UInt8) : offshootref12_State_is.f ⟨L, i, D, S, A, 0⟩ sg = some (decide (w.Kind = 5) && decide (w.S = sg)) := by
  have h1 := (adrop_lt h0 hd).1
  unfold offshootref12_State_is.f
  dsimp only
  rw [getD_drop hd, if_pos (fun _ => ⟨h0, h1⟩), if_pos (fun _ => ⟨h0, h1⟩)]
  simp
theorem is_err (he : s.E ≠ 0) (sg : List UInt8) : offshootref12_State_is.f s sg = some false := by
  unfold offshootref12_State_is.f
  have e : decide (s.E = 0) = false := by simpa using he
  rw [e, if_pos (fun h => by simp at h), if_pos (fun h => by simp at h)]
  rfl
theorem fail_at (h0 : 0 ≤ i) (hd : L.drop i.toNat = w :: r) (e : Int) : offshootref12_State_fail.f ⟨L, i, D, S, A, 0⟩ e = some ⟨L, i, D, S, w.At, e⟩ := by
  have h1 := (adrop_lt h0 hd).1
  unfold offshootref12_State_fail.f offshootref12_State_fail.j1
  dsimp only
  rw [getD_drop hd, if_pos (by simp), if_pos ⟨h0, h1⟩]
theorem fail_err (he : s.E ≠ 0) (e : Int) : offshootref12_State_fail.f s e = some s := by
  unfold offshootref12_State_fail.f offshootref12_State_fail.j1
  rw [if_neg (by simpa using he)]
theorem sign_err (he : s.E ≠ 0) (sg : List UInt8) : offshootref12_State_sign.f s sg = some s := by
  unfold offshootref12_State_sign.f
  rw [if_pos (by simpa using he)]
theorem sign_ok (h0 : 0 ≤ i) (hl : L.length ≤ 5000) (hd : L.drop i.toNat = w :: r) (sg : List UInt8) (hk : w.Kind = 5) (hs : w.S = sg) : offshootref12_State_sign.f ⟨L, i, D, S, A, 0⟩ sg = some ⟨L, i + 1, D, S, A, 0⟩ := by
  have h1 := (adrop_lt h0 hd).1
  unfold offshootref12_State_sign.f
  rw [if_neg (by simp), is_at h0 hd, Option.bind_some, hk, hs]
  dsimp only
  rw [if_neg (by simp), W_in (by omega) (by omega)]
theorem into_ok (hD : 0 ≤ D) (h : D < 12) : offshootref12_State_into.f ⟨L, i, D, S, A, 0⟩ = some ⟨L, i, D + 1, S, A, 0⟩ := by
  unfold offshootref12_State_into.f
  dsimp only
  rw [if_neg (by simp), if_neg (by simp; omega), W_in (by omega) (by omega)]
theorem into_most (h0 : 0 ≤ i) (hd : L.drop i.toNat = w :: r) (h : 12 ≤ D) : offshootref12_State_into.f ⟨L, i, D, S, A, 0⟩ = some ⟨L, i, D, S, w.At, 3⟩ := by
  unfold offshootref12_State_into.f
  dsimp only
  rw [if_neg (by simp), if_pos (by simp; omega), fail_at h0 hd]
  rfl
end
theorem head_of {α : Type} {l : List α} (h : l ≠ []) : ∃ w r, l = w :: r := by
  cases l with
  | nil => exact absurd rfl h
  | cons w r => exact ⟨w, r, rfl⟩
abbrev VF := Offshootref12State → Option (Offshootref12State × ApiValue × Bool)
/-- What is taken of a value's words: all of it, an error, or nothing. -/
def Took (L : List ApiWord) (i D S A : Int) (n : Nat) (v : ApiValue) (r : Offshootref12State × ApiValue × Bool) : Prop :=
  r = (⟨L, i + n, D, S, A, 0⟩, cvV v, true) ∨ r.1.E ≠ 0 ∨ (r.2.2 = false ∧ r.1 = ⟨L, i, D, S, A, 0⟩ ∧ 6 ≤ v.Kind)
def Takes (F : VF) (v : ApiValue) : Prop :=
  ∀ (L : List ApiWord) (i D S A : Int) (W R : List ApiWord), 0 ≤ i → L.length ≤ 5000 → 0 ≤ D → D ≤ 12 → L.drop i.toNat = W ++ R → R ≠ [] → Like W (toksV v) → ∃ r, F ⟨L, i, D, S, A, 0⟩ = some r ∧ Took L i D S A W.length v r
def ErrF (F : VF) : Prop := ∀ s : Offshootref12State, s.E ≠ 0 → ∃ v, F s = some (s, v, false)
abbrev GF := Offshootref12State → List UInt8 → Option (Offshootref12State × List ApiValue)
theorem vals_err (F : VF) (G : GF) (K k : Nat) (acc : List ApiValue) (s : Offshootref12State) (sg : List UInt8) (he : s.E ≠ 0) : offshootref12_State_values.l1 F G K (k + 1) acc s sg = some (s, acc) := by
  have e : decide (s.E = 0) = false := by simpa using he
  rw [offshootref12_State_values.l1, e, if_neg (by simp), Option.bind_some, if_neg (by simp), sign_err he, Option.bind_some]
theorem vals_j3 (F : VF) (G : GF) (K : Nat) (sl : List ApiValue → Offshootref12State → List UInt8 → Option (Offshootref12State × List ApiValue)) (acc : List ApiValue) (v : ApiValue) (s : Offshootref12State) (sg : List UInt8) (h : acc.length ≤ 3000) :
    offshootref12_State_values.j3 F G sl K acc v s sg = sl (acc ++ [v]) s sg := by
  unfold offshootref12_State_values.j3
  rw [if_pos (by simp only [List.length_cons, List.length_nil]; omega)]
theorem vals_step {F : VF} (G : GF) (K : Nat) {x : ApiValue} (hF : Takes F x) (hE : ErrF F) (sl : List ApiValue → Offshootref12State → List UInt8 → Option (Offshootref12State × List ApiValue)) (hsl : ∀ acc s, s.E ≠ 0 → sl acc s [93] = some (s, acc))
    (acc : List ApiValue) (L : List ApiWord) (i D S A : Int) (W R : List ApiWord) (ha : acc.length ≤ 3000) (h0 : 0 ≤ i) (hl : L.length ≤ 5000) (hD : 0 ≤ D) (hD' : D ≤ 12) (hd : L.drop i.toNat = W ++ R) (hR : R ≠ []) (hW : Like W (toksV x)) :
    (∃ r, offshootref12_State_values.j1 F G sl K acc ⟨L, i, D, S, A, 0⟩ [93] = some r ∧ r.1.E ≠ 0) ∨ offshootref12_State_values.j1 F G sl K acc ⟨L, i, D, S, A, 0⟩ [93] = sl (acc ++ [cvV x]) ⟨L, i + W.length, D, S, A, 0⟩ [93] := by
  obtain ⟨w, q, hw⟩ : ∃ w q, W ++ R = w :: q := head_of (by simp [hR])
  rw [hw] at hd
  unfold offshootref12_State_values.j1
  by_cases h12 : 12 ≤ (acc.length : Int)
  · rw [if_pos (by simpa using h12), fail_at h0 hd, Option.bind_some]
    unfold offshootref12_State_values.j2
    have h3 : (3 : Int) ≠ 0 := by decide
    obtain ⟨v, hv⟩ := hE ⟨L, i, D, S, w.At, 3⟩ h3
    rw [hv, Option.bind_some, if_pos (by rfl), fail_err (s := ⟨L, i, D, S, w.At, 3⟩) h3, Option.bind_some, vals_j3 F G K sl _ _ _ _ ha, hsl _ _ h3]
    exact .inl ⟨_, rfl, h3⟩
  rw [if_neg (by simpa using h12)]
  unfold offshootref12_State_values.j2
  obtain ⟨⟨s', v', ok⟩, h1, h2⟩ := hF L i D S A W R h0 hl hD hD' (by rw [hd, hw]) hR hW
  rw [h1, Option.bind_some]
  rcases h2 with h2 | h2 | ⟨h2, h3, h4⟩
  · simp only [Prod.mk.injEq] at h2
    obtain ⟨rfl, rfl, rfl⟩ := h2
    rw [if_neg (by simp), vals_j3 F G K sl _ _ _ _ ha]
    exact .inr rfl
  · dsimp only at h2 ⊢
    cases ok
    · rw [if_pos (by rfl), fail_err h2, Option.bind_some, vals_j3 F G K sl _ _ _ _ ha, hsl _ _ h2]
      exact .inl ⟨_, rfl, h2⟩
    · rw [if_neg (by simp), vals_j3 F G K sl _ _ _ _ ha, hsl _ _ h2]
      exact .inl ⟨_, rfl, h2⟩
  · dsimp only at h2 h3 ⊢
    subst h2
    subst h3
    rw [if_pos (by rfl), fail_at h0 hd, Option.bind_some, vals_j3 F G K sl _ _ _ _ ha, hsl _ _ (by show (120 : Int) ≠ 0; decide)]
    exact .inl ⟨_, rfl, by show (120 : Int) ≠ 0; decide⟩
theorem vals_end (F : VF) (G : GF) (K k : Nat) (acc : List ApiValue) (L : List ApiWord) (i D S A : Int) (c : ApiWord) (R : List ApiWord) (h0 : 0 ≤ i) (hl : L.length ≤ 5000) (hd : L.drop i.toNat = c :: R) (hc : c.Kind = 5) (hc' : c.S = [93]) :
    offshootref12_State_values.l1 F G K (k + 1) acc ⟨L, i, D, S, A, 0⟩ [93] = some (⟨L, i + 1, D, S, A, 0⟩, acc) := by
  rw [offshootref12_State_values.l1]
  dsimp only
  rw [if_pos (by simp), is_at h0 hd, Option.bind_some, hc, hc', if_neg (by simp), sign_ok h0 hl hd _ hc hc', Option.bind_some]
theorem vals_tl {F : VF} (G : GF) (K : Nat) (hE : ErrF F) : ∀ (l : List ApiValue), (∀ x ∈ l, Takes F x) → ∀ (k : Nat) (acc : List ApiValue) (L : List ApiWord) (i D S A : Int) (W : List ApiWord) (c : ApiWord) (R : List ApiWord), l.length + 1 < k → acc ≠ [] → acc.length + l.length ≤ 3000 → 0 ≤ i → L.length ≤ 5000 → 0 ≤ D → D ≤ 12 → L.drop i.toNat = W ++ c :: R → c.Kind = 5 → c.S = [93] → Like W (toksTl l) →
    ∃ r, offshootref12_State_values.l1 F G K k acc ⟨L, i, D, S, A, 0⟩ [93] = some r ∧ (r = (⟨L, i + W.length + 1, D, S, A, 0⟩, acc ++ cvL l) ∨ r.1.E ≠ 0) := by
  intro l
  induction l with
  | nil =>
    intro hm k acc L i D S A W c R hk ha hal h0 hl hD hD' hd hc hc' hW
    obtain ⟨k, rfl⟩ : ∃ q, k = q + 1 := ⟨k - 1, by omega⟩
    simp only [toksTl] at hW
    obtain rfl := hW.nil
    rw [vals_end F G K k acc L i D S A c R h0 hl hd hc hc']
    exact ⟨_, rfl, .inl (by simp [cvL])⟩
  | cons x r ih =>
    intro hm k acc L i D S A W c R hk ha hal h0 hl hD hD' hd hc hc' hW
    obtain ⟨k, rfl⟩ : ∃ q, k = q + 1 + 1 := ⟨k - 2, by omega⟩
    simp only [List.length_cons] at hk hal
    simp only [toksTl, List.cons_append, List.nil_append] at hW
    obtain ⟨w, W', rfl, w1, w2, _, _, hW'⟩ := hW.cons
    obtain ⟨W1, W2, rfl, l1, l2⟩ := hW'.split
    rw [List.cons_append, List.append_assoc] at hd
    obtain ⟨hlt, hdr, hle⟩ := adrop_lt h0 hd
    have h44 : ¬ (([44] : List UInt8) = [93]) := by decide
    rw [offshootref12_State_values.l1]
    dsimp only
    have hpos : 0 < acc.length := List.length_pos_iff.2 ha
    rw [if_pos (by simp), is_at h0 hd, Option.bind_some, w1, w2, if_pos (by simp [h44]), if_pos (by simp; omega), sign_ok h0 hl hd _ w1 w2, Option.bind_some]
    have hx := vals_step G K (hm x List.mem_cons_self) hE (offshootref12_State_values.l1 F G K (k + 1)) (fun acc s he => vals_err F G K k acc s _ he) acc L (i + 1) D S A W1 (W2 ++ c :: R) (by omega) (by omega) hl hD hD' hdr (by simp) l1
    rcases hx with ⟨q, h1, h2⟩ | h1
    · exact ⟨q, h1, .inr h2⟩
    rw [h1]
    have hd2 : L.drop (i + 1 + (W1.length : Int)).toNat = W2 ++ c :: R := by
      rw [show (i + 1 + (W1.length : Int)).toNat = (i + 1).toNat + W1.length from by omega, ← List.drop_drop, hdr, List.drop_left]
    obtain ⟨q, h2, h3⟩ := ih (fun y hy => hm y (List.mem_cons_of_mem _ hy)) (k + 1) (acc ++ [cvV x]) L (i + 1 + W1.length) D S A W2 c R (by omega) (by simp) (by simp; omega) (by omega) hl hD hD' hd2 hc hc' l2
    refine ⟨q, h2, ?_⟩
    rcases h3 with h3 | h3
    · left
      rw [h3]
      simp only [List.length_append, List.length_cons, cvL, List.append_assoc, List.cons_append, List.nil_append, Prod.mk.injEq, Offshootref12State.mk.injEq, and_true, true_and]
      omega
    · exact .inr h3
theorem toksV_head (v : ApiValue) : ∃ w T, toksV v = w :: T ∧ ¬ (w.Kind = 5 ∧ (w.S = [93] ∨ w.S = [41])) := by
  obtain ⟨k, b, n, f, s, l⟩ := v
  rw [toksV]
  repeat' split
  all_goals exact ⟨_, _, rfl, by simp⟩
theorem vals_first {F : VF} (G : GF) (K : Nat) (hE : ErrF F) (l : List ApiValue) (hm : ∀ x ∈ l, Takes F x) (k : Nat) (L : List ApiWord) (i D S A : Int) (W : List ApiWord) (c : ApiWord) (R : List ApiWord) (hk : l.length + 3 < k) (hll : l.length ≤ 2000) (h0 : 0 ≤ i) (hl : L.length ≤ 5000) (hD : 0 ≤ D) (hD' : D ≤ 12) (hd : L.drop i.toNat = W ++ c :: R) (hc : c.Kind = 5) (hc' : c.S = [93]) (hW : Like W (toksL l)) :
    ∃ r, offshootref12_State_values.l1 F G K k [] ⟨L, i, D, S, A, 0⟩ [93] = some r ∧ (r = (⟨L, i + W.length + 1, D, S, A, 0⟩, cvL l) ∨ r.1.E ≠ 0) := by
  obtain ⟨k, rfl⟩ : ∃ q, k = q + 1 + 1 := ⟨k - 2, by omega⟩
  cases l with
  | nil =>
    simp only [toksL] at hW
    obtain rfl := hW.nil
    rw [vals_end F G K _ [] L i D S A c R h0 hl hd hc hc']
    exact ⟨_, rfl, .inl (by simp [cvL])⟩
  | cons x r =>
    simp only [toksL] at hW
    simp only [List.length_cons] at hk hll
    obtain ⟨W1, W2, rfl, l1, l2⟩ := hW.split
    rw [List.append_assoc] at hd
    obtain ⟨t, T, ht, hn⟩ := toksV_head x
    rw [ht] at l1
    obtain ⟨w, W', rfl, w1, w2, _, _, hW'⟩ := l1.cons
    have hd0 := hd
    rw [List.cons_append] at hd0
    rw [offshootref12_State_values.l1]
    dsimp only
    have hb : (decide (w.Kind = 5) && decide (w.S = [93])) = false := by
      rw [w1, w2]
      have := fun e : t.Kind = 5 ∧ t.S = [93] => hn ⟨e.1, .inl e.2⟩
      simpa using this
    rw [if_pos (by simp), is_at h0 hd0, Option.bind_some, hb, if_pos (by simp), if_neg (by simp)]
    rw [← ht] at l1
    have hx := vals_step G K (hm x List.mem_cons_self) hE (offshootref12_State_values.l1 F G K (k + 1)) (fun acc s he => vals_err F G K k acc s _ he) [] L i D S A (w :: W') (W2 ++ c :: R) (by simp) h0 hl hD hD' hd (by simp) l1
    rcases hx with ⟨q, h1, h2⟩ | h1
    · exact ⟨q, h1, .inr h2⟩
    rw [h1]
    have hd2 : L.drop (i + ((w :: W').length : Int)).toNat = W2 ++ c :: R := by
      rw [show (i + ((w :: W').length : Int)).toNat = i.toNat + (w :: W').length from by omega, ← List.drop_drop, hd, List.drop_left]
    obtain ⟨q, h2, h3⟩ := vals_tl G K hE r (fun y hy => hm y (List.mem_cons_of_mem _ hy)) (k + 1) ([] ++ [cvV x]) L (i + (w :: W').length) D S A W2 c R (by omega) (by simp) (by simp; omega) (by omega) hl hD hD' hd2 hc hc' l2
    refine ⟨q, h2, ?_⟩
    rcases h3 with h3 | h3
    · left
      rw [h3]
      simp only [List.length_append, List.length_cons, cvL, List.append_assoc, List.cons_append, List.nil_append, Prod.mk.injEq, Offshootref12State.mk.injEq, and_true, true_and]
      omega
    · exact .inr h3
theorem value_err (K : Nat) : ErrF (offshootref12_State_value.f (K + 1)) := by
  intro s he
  rw [offshootref12_State_value.f]
  unfold offshootref12_State_value.b
  rw [if_pos (by simpa using he)]
  exact ⟨_, rfl⟩
theorem gdL_get : ∀ (l : List ApiValue) (j : Nat), GdL l → j < l.length → GdV (l.getD j default)
  | [], j, _, h => by simp at h
  | x :: r, 0, h, _ => by simp only [GdL] at h; exact h.1
  | x :: r, j + 1, h, hj => by simp only [GdL] at h; exact gdL_get r j h.2 (by simpa using hj)
theorem canon_zero : canonN 0 = 0 := by decide +kernel
theorem value_takes : ∀ (n : Nat) (v : ApiValue) (K : Nat), GdV v → OkV v → szV v ≤ n → 2 * n + 2000 ≤ K → Takes (offshootref12_State_value.f K) v := by
  intro n
  induction n with
  | zero => intro v K _ _ h; have := szV_eq v; omega
  | succ n ih =>
    intro v K hg ho hz hK L i D S A W R h0 hl hD hD' hd hR hW
    obtain ⟨K, rfl⟩ : ∃ q, K = q + 1 + 1 + 1 := ⟨K - 3, by omega⟩
    have hg1 := hg.one
    have ho1 := ho.one
    obtain ⟨kk, b, m, f, s, l⟩ := v
    have hf0 : kk ≠ 3 → canonN f = 0 := by
      intro h3
      obtain ⟨z1, z2⟩ := hg1.f h3
      have := zero_of f (wff ho1.f) z1 z2
      rw [this]; exact canon_zero
    have hb0 : kk ≠ 1 → b = false := by
      intro h1
      cases b
      · rfl
      · exact absurd (hg1.b rfl) h1
    have hn0 : kk ≠ 2 → kk ≠ 7 → kk ≠ 8 → m = 0 := by
      intro h2 h7 h8
      exact Classical.not_not.1 fun e => by
        rcases hg1.n e with h | h | h
        · exact h2 h
        · exact h7 h
        · exact h8 h
    have hs0 : kk ≠ 4 → s = [] := fun h => Classical.not_not.1 fun e => h (hg1.s e)
    have hl0 : kk ≠ 5 → kk ≠ 6 → l = [] := fun h h' => Classical.not_not.1 fun e => (hg1.l e).elim h h'
    obtain ⟨t, T, ht, hn⟩ := toksV_head ⟨kk, b, m, f, s, l⟩
    have hW0 := hW
    rw [ht] at hW
    obtain ⟨w, W', rfl, w1, w2, w3, w4, hW'⟩ := hW.cons
    rw [List.cons_append] at hd
    obtain ⟨hlt, hdr, hle⟩ := adrop_lt h0 hd
    rw [offshootref12_State_value.f]
    unfold offshootref12_State_value.b
    dsimp only
    rw [if_neg (by simp), if_pos ⟨h0, hlt⟩, getD_drop hd]
    have one : ∀ (v' : ApiValue), W' = [] → v' = cvV ⟨kk, b, m, f, s, l⟩ → ∃ r, offshootref12_State_value.j1 (offshootref12_State_value.f (K + 1 + 1)) (offshootref12_State_values.f (K + 1 + 1)) (K + 1 + 1) v' ⟨L, i, D, S, A, 0⟩ true = some r ∧ Took L i D S A (w :: W').length ⟨kk, b, m, f, s, l⟩ r := by
      intro v' hW1 hv
      unfold offshootref12_State_value.j1 offshootref12_State_value.j2
      dsimp only
      rw [if_pos rfl, W_in (by omega) (by omega)]
      refine ⟨_, rfl, .inl ?_⟩
      rw [hv, hW1]
      simp
    rw [toksV] at ht hW0
    rw [w1, w2]
    by_cases k0 : kk = 0
    · rw [if_pos k0] at ht
      simp only [List.cons.injEq] at ht
      obtain ⟨rfl, rfl⟩ := ht
      dsimp only
      rw [if_neg (by simp), if_neg (by simp), if_neg (by simp), if_neg (by simp), if_neg (by simp), if_pos (by simp)]
      refine one _ hW'.nil ?_
      rw [cvV, hb0 (by omega), hn0 (by omega) (by omega) (by omega), hf0 (by omega), hs0 (by omega), hl0 (by omega) (by omega), k0]
      simp [cvL]
    rw [if_neg k0] at ht hW0
    by_cases k1 : kk = 1
    · rw [if_pos k1] at ht
      have hb : ∀ b', b = b' → (⟨1, b', 0, 0, [], []⟩ : ApiValue) = cvV ⟨kk, b, m, f, s, l⟩ := by
        intro b' hb
        rw [cvV, hn0 (by omega) (by omega) (by omega), hf0 (by omega), hs0 (by omega), hl0 (by omega) (by omega), k1, hb]
        simp [cvL]
      cases b
      · rw [if_neg (by simp)] at ht
        simp only [List.cons.injEq] at ht
        obtain ⟨rfl, rfl⟩ := ht
        dsimp only
        rw [if_neg (by simp), if_neg (by simp), if_neg (by simp), if_neg (by simp), if_pos (by simp)]
        exact one _ hW'.nil (hb _ rfl)
      · rw [if_pos rfl] at ht
        simp only [List.cons.injEq] at ht
        obtain ⟨rfl, rfl⟩ := ht
        dsimp only
        rw [if_neg (by simp), if_neg (by simp), if_neg (by simp), if_pos (by simp)]
        exact one _ hW'.nil (hb _ rfl)
    rw [if_neg k1] at ht hW0
    by_cases k2 : kk = 2
    · rw [if_pos k2] at ht
      simp only [List.cons.injEq] at ht
      obtain ⟨rfl, rfl⟩ := ht
      dsimp only
      rw [if_pos (by simp)]
      refine one _ hW'.nil ?_
      rw [cvV, hb0 (by omega), hf0 (by omega), hs0 (by omega), hl0 (by omega) (by omega), k2, w3]
      simp [cvL]
    rw [if_neg k2] at ht hW0
    by_cases k3 : kk = 3
    · rw [if_pos k3] at ht
      simp only [List.cons.injEq] at ht
      obtain ⟨rfl, rfl⟩ := ht
      dsimp only
      rw [if_neg (by simp), if_pos (by simp)]
      refine one _ hW'.nil ?_
      rw [cvV, hb0 (by omega), hn0 (by omega) (by omega) (by omega), hs0 (by omega), hl0 (by omega) (by omega), k3, w4]
      simp [cvL]
    rw [if_neg k3] at ht hW0
    by_cases k4 : kk = 4
    · rw [if_pos k4] at ht
      simp only [List.cons.injEq] at ht
      obtain ⟨rfl, rfl⟩ := ht
      dsimp only
      rw [if_neg (by simp), if_neg (by simp), if_pos (by simp)]
      refine one _ hW'.nil ?_
      rw [cvV, hb0 (by omega), hn0 (by omega) (by omega) (by omega), hf0 (by omega), hl0 (by omega) (by omega), k4]
      simp [cvL]
    rw [if_neg k4] at ht hW0
    by_cases k5 : kk = 5
    · rw [if_pos k5] at ht hW0
      simp only [List.cons_append, List.nil_append, List.cons.injEq] at ht
      obtain ⟨rfl, rfl⟩ := ht
      dsimp only at w1 w2 ⊢
      obtain ⟨W1, W2, rfl, l1, l2⟩ := hW'.split
      obtain ⟨c, W3, rfl, c1, c2, _, _, l3⟩ := l2.cons
      obtain rfl := l3.nil
      rw [List.append_assoc] at hdr
      obtain ⟨w', q', hw'⟩ := head_of (l := W1 ++ ([c] ++ R)) (by simp)
      rw [if_neg (by simp), if_neg (by simp), if_neg (by simp), if_neg (by simp), if_neg (by simp), if_neg (by simp), is_at h0 hd, Option.bind_some, w1, w2, if_pos (by simp), W_in (by omega) (by omega)]
      by_cases h12 : D < 12
      · rw [into_ok hD h12, Option.bind_some, offshootref12_State_values.f]
        unfold offshootref12_State_values.b
        have hz' := szV_eq ⟨kk, b, m, f, s, l⟩
        have hmem : ∀ x ∈ l, Takes (offshootref12_State_value.f (K + 1)) x := by
          intro x hx
          obtain ⟨j, hj, hjx⟩ := List.getElem_of_mem hx
          have h1 := szVL_get l j hj
          have h2 := okVL_get l j ho1.all hj
          have h3 : GdV (l.getD j default) := gdL_get l j hg1.all hj
          rw [List.getD_eq_getElem?_getD, List.getElem?_eq_getElem hj, Option.getD_some, hjx] at h1 h2 h3
          simp only at hz'
          exact ih x (K + 1) h3 h2 (by omega) (by omega)
        have hll : l.length ≤ 1000 := hg1.l1000
        obtain ⟨⟨s', l'⟩, r1, r2⟩ := vals_first (offshootref12_State_values.f (K + 1)) (K + 1) (value_err K) l hmem (K + 1) L (i + 1) (D + 1) S A W1 c R (by omega) (by omega) (by omega) hl (by omega) (by omega) hdr c1 c2 l1
        rw [r1, Option.bind_some]
        refine ⟨_, rfl, ?_⟩
        rcases r2 with r2 | r2
        · simp only [Prod.mk.injEq] at r2
          obtain ⟨rfl, rfl⟩ := r2
          left
          rw [cvV, hb0 (by omega), hn0 (by omega) (by omega) (by omega), hf0 (by omega), hs0 (by omega), k5]
          simp only [List.length_append, List.length_cons, List.length_nil, Prod.mk.injEq, Offshootref12State.mk.injEq, and_true, true_and, decide_true]
          omega
        · exact .inr (.inl r2)
      · rw [into_most (by omega) (by rw [hdr, hw']) (by omega), Option.bind_some, offshootref12_State_values.f]
        unfold offshootref12_State_values.b
        rw [vals_err _ _ _ _ _ _ _ (by show (3 : Int) ≠ 0; decide), Option.bind_some]
        exact ⟨_, rfl, .inr (.inl (by show (3 : Int) ≠ 0; decide))⟩
    rw [if_neg k5] at ht
    have k6 : 6 ≤ kk := by
      have h1 : 0 ≤ kk := hg1.k0
      omega
    have hn91 : (decide (w.Kind = 5) && decide (w.S = [91])) = false := by
      by_cases k7 : kk = 7
      · rw [if_pos k7] at ht
        simp only [List.cons.injEq] at ht
        obtain ⟨rfl, rfl⟩ := ht
        rw [w1]; rfl
      · rw [if_neg k7] at ht
        simp only [List.cons.injEq] at ht
        obtain ⟨rfl, rfl⟩ := ht
        rw [w1]; rfl
    have last : ∃ r, offshootref12_State_value.j1 (offshootref12_State_value.f (K + 1 + 1)) (offshootref12_State_values.f (K + 1 + 1)) (K + 1 + 1) ⟨0, false, 0, 0, [], []⟩ ⟨L, i, D, S, A, 0⟩ false = some r ∧ Took L i D S A (w :: W').length ⟨kk, b, m, f, s, l⟩ r := by
      unfold offshootref12_State_value.j1 offshootref12_State_value.j2
      rw [if_neg (by simp)]
      exact ⟨_, rfl, .inr (.inr ⟨rfl, rfl, k6⟩)⟩
    by_cases k7 : kk = 7
    · rw [if_pos k7] at ht
      simp only [List.cons.injEq] at ht
      obtain ⟨rfl, rfl⟩ := ht
      dsimp only
      rw [if_neg (by simp), if_neg (by simp), if_neg (by simp), if_neg (by simp), if_neg (by simp), if_neg (by simp), is_at h0 hd, Option.bind_some, hn91, if_neg (by simp)]
      exact last
    · rw [if_neg k7] at ht
      simp only [List.cons.injEq] at ht
      obtain ⟨rfl, rfl⟩ := ht
      dsimp only
      rw [if_neg (by simp), if_neg (by simp), if_neg (by simp), if_neg (by simp), if_neg (by simp), if_neg (by simp), is_at h0 hd, Option.bind_some, hn91, if_neg (by simp)]
      exact last
end Go.Proofs.Ytbjbgodcenopnaa
/- Plain law of steps: one step with a value as its argument. -/
namespace Go.Proofs.Ytbjbgodcenopnaa
set_option linter.unusedVariables false
set_option linter.unusedSimpArgs false
set_option maxHeartbeats 2000000
abbrev SF := Offshootref12State → Option (Offshootref12State × List ApiStep)
abbrev AF := Offshootref12State → Option (Offshootref12State × ApiArg)
/-- One step with one argument. -/
theorem step_one (K : Nat) (sF : SF) (aF : AF) (L : List ApiWord) (i D S A : Int) (n o c z : ApiWord) (W R : List ApiWord) (w : ApiWord) (W' : List ApiWord) (hK : 3 < K) (h0 : 0 ≤ i) (hl : L.length ≤ 5000) (hS : 0 ≤ S) (hS' : S < 150)
    (hd : L.drop i.toNat = n :: o :: (W ++ c :: z :: R)) (hn : n.Kind = 1) (ho : o.Kind = 5 ∧ o.S = [40]) (hc : c.Kind = 5 ∧ c.S = [41]) (hz : ¬ (z.Kind = 5 ∧ z.S = [46])) (hw : W = w :: W') (hw' : ¬ (w.Kind = 5 ∧ w.S = [41]))
    (r : Offshootref12State × ApiArg) (ha : aF ⟨L, i + 2, D, S + 1, A, 0⟩ = some r) (hr : r.1.E ≠ 0 ∨ ∃ S', r.1 = ⟨L, i + 2 + W.length, D, S', A, 0⟩) :
    ∃ q, offshootref12_State_steps.l1 sF aF K K [] ⟨L, i, D, S, A, 0⟩ = some q ∧ (q.1.E ≠ 0 ∨ ∃ S', r.1 = ⟨L, i + 2 + W.length, D, S', A, 0⟩ ∧ q = (⟨L, i + 3 + W.length, D, S', A, 0⟩, [⟨n.S, [r.2]⟩])) := by
  obtain ⟨k, rfl⟩ : ∃ q, K = q + 1 + 1 := ⟨K - 2, by omega⟩
  obtain ⟨hlt, hdr, hle⟩ := adrop_lt h0 hd
  obtain ⟨hlt2, hdr2, hle2⟩ := adrop_lt (by omega : 0 ≤ i + 1) hdr
  have e2 : i + 1 + 1 = i + 2 := by omega
  rw [e2] at hdr2
  have hd3 : L.drop (i + 2).toNat = w :: (W' ++ c :: z :: R) := by rw [hdr2, hw]; rfl
  generalize hk2 : k + 1 + 1 = k2
  rw [← hk2, offshootref12_State_steps.l1, hk2]
  dsimp only
  rw [if_pos (by simp), if_neg (by simp; omega), if_pos ⟨h0, hlt⟩, getD_drop hd, hn, if_neg (by simp), if_pos ⟨h0, hlt⟩, W_in (x := i + 1) (by omega) (by omega), W_in (x := S + 1) (by omega) (by omega), sign_ok (by omega) hl hdr _ ho.1 ho.2, Option.bind_some, e2]
  have hb : (decide (w.Kind = 5) && decide (w.S = [41])) = false := by simpa using hw'
  generalize offshootref12_State_steps.l1 sF aF k2 (k + 1) = sl
  rw [← hk2, offshootref12_State_steps.l2, hk2]
  dsimp only
  rw [if_pos (by simp), is_at (by omega) hd3, Option.bind_some, hb, if_pos (by simp), if_neg (by simp)]
  unfold offshootref12_State_steps.j2 offshootref12_State_steps.j3
  dsimp only
  rw [if_neg (by simp), if_pos (by simp), ha, Option.bind_some, if_pos (by simp), List.nil_append, offshootref12_State_steps.l2]
  rcases hr with hr | ⟨S', hr⟩
  · have e : decide (r.1.E = 0) = false := by simpa using hr
    rw [e, if_neg (by simp), Option.bind_some, if_neg (by simp), sign_err hr, Option.bind_some, if_pos (by simp), is_err hr, Option.bind_some, if_pos (by simp)]
    exact ⟨_, rfl, .inl hr⟩
  · have hd4 : L.drop (i + 2 + (W.length : Int)).toNat = c :: z :: R := by
      rw [show (i + 2 + (W.length : Int)).toNat = (i + 2).toNat + W.length from by omega, ← List.drop_drop, hdr2, List.drop_left]
    obtain ⟨hlt4, hdr4, hle4⟩ := adrop_lt (by omega : 0 ≤ i + 2 + (W.length : Int)) hd4
    have hb2 : (decide (z.Kind = 5) && decide (z.S = [46])) = false := by simpa using hz
    rw [hr]
    dsimp only
    rw [if_pos (by simp), is_at (by omega) hd4, Option.bind_some, hc.1, hc.2, if_neg (by simp), sign_ok (by omega) hl hd4 _ hc.1 hc.2, Option.bind_some, if_pos (by simp), is_at (by omega) hdr4, Option.bind_some, hb2, if_pos (by simp)]
    unfold offshootref12_State_steps.j1
    refine ⟨_, rfl, .inr ⟨S', rfl, ?_⟩⟩
    simp only [List.nil_append, Prod.mk.injEq, Offshootref12State.mk.injEq, and_true, true_and]
    omega
theorem preds_v (n : Nat) : offshootref12_Preds.f (n + 20) [118] = some (-1, false) := by kernel_rfl
theorem preds_e (n : Nat) : offshootref12_Preds.f (n + 20) [101] = some (-1, false) := by kernel_rfl
/-- An argument that is a value. -/
theorem arg_val (K : Nat) (sF : SF) (aF : AF) (v : ApiValue) (hT : Takes (offshootref12_State_value.f K) v) (L : List ApiWord) (i D S A : Int) (W R : List ApiWord) (h0 : 0 ≤ i) (hl : L.length ≤ 5000) (hD : 0 ≤ D) (hD' : D ≤ 12) (hd : L.drop i.toNat = W ++ R) (hR : R ≠ []) (hW : Like W (toksV v)) (h6 : v.Kind < 6) :
    ∃ r, offshootref12_State_arg.b sF aF K ⟨L, i, D, S, A, 0⟩ = some r ∧ (r.1.E ≠ 0 ∨ (r.1 = ⟨L, i + W.length, D, S, A, 0⟩ ∧ r.2.Kind = 1 ∧ r.2.V = cvV v)) := by
  obtain ⟨r, h1, h2⟩ := hT L i D S A W R h0 hl hD hD' hd hR hW
  unfold offshootref12_State_arg.b
  rw [h1, Option.bind_some]
  rcases h2 with rfl | h2 | ⟨h2, h3, h4⟩
  · rw [if_pos (by simp)]
    exact ⟨_, rfl, .inr ⟨rfl, rfl, rfl⟩⟩
  · rw [if_pos (by simp [h2])]
    exact ⟨_, rfl, .inl h2⟩
  · omega
/-- An argument, whatever the value. -/
theorem arg_any (K : Nat) (hK : 3000 < K) (v : ApiValue) (hg : GdV v) (ho : OkV v) (hz : 2 * szV v + 3000 ≤ K) (L : List ApiWord) (i D S A : Int) (W : List ApiWord) (z : ApiWord) (R : List ApiWord) (h0 : 0 ≤ i) (hl : L.length ≤ 5000) (hD : 0 ≤ D) (hD' : D < 12) (hS : 0 ≤ S) (hS' : S < 150) (hd : L.drop i.toNat = W ++ z :: R) (hz' : ¬ (z.Kind = 5 ∧ z.S = [46])) (hW : Like W (toksV v)) :
    ∃ r, offshootref12_State_arg.f K ⟨L, i, D, S, A, 0⟩ = some r ∧ (r.1.E ≠ 0 ∨ ∃ S', r.1 = ⟨L, i + W.length, D, S', A, 0⟩ ∧ (r.2.Kind = 1 → r.2.V = cvV v)) := by
  obtain ⟨K, rfl⟩ : ∃ q, K = q + 20 + 1 + 1 + 1 := ⟨K - 23, by omega⟩
  have hT : Takes (offshootref12_State_value.f (K + 20 + 1 + 1)) v := value_takes (szV v) v _ hg ho (Nat.le_refl _) (by omega)
  rw [offshootref12_State_arg.f]
  by_cases h6 : v.Kind < 6
  · obtain ⟨r, h1, h2⟩ := arg_val (K + 20 + 1 + 1) (offshootref12_State_steps.f (K + 20 + 1 + 1)) (offshootref12_State_arg.f (K + 20 + 1 + 1)) v hT L i D S A W (z :: R) h0 hl hD (by omega) hd (by simp) hW h6
    refine ⟨r, h1, ?_⟩
    rcases h2 with h2 | ⟨h2, h3, h4⟩
    · exact .inl h2
    · exact .inr ⟨S, h2, fun _ => h4⟩
  obtain ⟨r, h1, h2⟩ := hT L i D S A W (z :: R) h0 hl hD (by omega) hd (by simp) hW
  unfold offshootref12_State_arg.b
  rw [h1, Option.bind_some]
  rcases h2 with rfl | h2 | ⟨h2, h3, h4⟩
  · rw [if_pos (by simp)]
    exact ⟨_, rfl, .inr ⟨S, rfl, fun _ => rfl⟩⟩
  · rw [if_pos (by simp [h2])]
    exact ⟨_, rfl, .inl h2⟩
  have hg1 := hg.one
  have ho1 := ho.one
  obtain ⟨kk, b, m, f, s, l⟩ := v
  rw [toksV] at hW
  dsimp only at h6
  rw [if_neg (by omega), if_neg (by omega), if_neg (by omega), if_neg (by omega), if_neg (by omega), if_neg (by omega)] at hW
  obtain ⟨ch, hch, hW⟩ : ∃ ch : UInt8, (ch = 118 ∨ ch = 101) ∧ Like W [⟨1, [ch], 0, 0, 0⟩, ⟨5, [40], 0, 0, 0⟩, ⟨2, [], m, 0, 0⟩, ⟨5, [41], 0, 0, 0⟩] := by
    by_cases k7 : kk = 7
    · rw [if_pos k7] at hW; exact ⟨118, .inl rfl, hW⟩
    · rw [if_neg k7] at hW; exact ⟨101, .inr rfl, hW⟩
  obtain ⟨w1, W1, rfl, a1, a2, _, _, hW1⟩ := hW.cons
  obtain ⟨w2, W2, rfl, b1, b2, _, _, hW2⟩ := hW1.cons
  obtain ⟨w3, W3, rfl, c1, c2, c3, c4, hW3⟩ := hW2.cons
  obtain ⟨w4, W4, rfl, d1, d2, _, _, hW4⟩ := hW3.cons
  obtain rfl := hW4.nil
  dsimp only at a1 a2 b1 b2 c1 c2 c3 c4 d1 d2
  simp only [List.cons_append, List.nil_append] at hd
  obtain ⟨hlt, hdr, hle⟩ := adrop_lt h0 hd
  obtain ⟨hlt2, hdr2, hle2⟩ := adrop_lt (by omega : 0 ≤ i + 1) hdr
  obtain ⟨hlt3, hdr3, hle3⟩ := adrop_lt (by omega : 0 ≤ i + 1 + 1) hdr2
  have hpr : offshootref12_Preds.f (K + 20 + 1 + 1) [ch] = some (-1, false) := by
    rcases hch with rfl | rfl
    · exact preds_v (K + 2)
    · exact preds_e (K + 2)
  rw [h2, h3]
  dsimp only
  rw [if_neg (by simp), if_pos ⟨h0, hlt⟩, getD_drop hd, a1, if_pos (by simp), W_in (x := i + 1) (by omega) (by omega), if_pos ⟨by omega, hlt2⟩, a2, hpr, Option.bind_some, getD_drop hdr, b1, b2, if_neg (by simp), if_neg (by simp)]
  unfold offshootref12_State_arg.j1
  dsimp only
  have hch2 : decide (w1.S = [95, 95]) = false := by rw [a2]; simp
  rw [into_ok hD hD', Option.bind_some, hch2, if_neg (by simp)]
  unfold offshootref12_State_arg.j2
  rw [offshootref12_State_steps.f]
  unfold offshootref12_State_steps.b
  have hgi : GdV ⟨2, false, m, 0, [], []⟩ := by
    simp only [GdV, GdL]
    refine ⟨by omega, by omega, by simp, by simp, by simp, fun _ => ?_, by simp, by simp, by simp, by simp, trivial⟩
    exact ⟨by decide +kernel, by decide +kernel⟩
  have hoi : OkV ⟨2, false, m, 0, [], []⟩ := by
    cases ho2 : ho
    simp only [OkV, OkVL] at ho ⊢
    refine ⟨by decide, ho.2.1, by decide, ?_, by simp, trivial⟩
    simp
  have hTi : Takes (offshootref12_State_value.f (K + 20)) ⟨2, false, m, 0, [], []⟩ := value_takes 1 _ _ hgi hoi (by simp [szV, szVL]) (by omega)
  obtain ⟨q, q1, q2⟩ := arg_val (K + 20) (offshootref12_State_steps.f (K + 20)) (offshootref12_State_arg.f (K + 20)) _ hTi L (i + 2) (D + 1) (S + 1) A [w3] (w4 :: z :: R) (by omega) hl (by omega) (by omega) (by rw [show i + 2 = i + 1 + 1 by omega, hdr2]; rfl) (by simp) (by
    simp [toksV, Like, c1, c2, c3, c4]) (by show (2 : Int) < 6; omega)
  have qf : offshootref12_State_arg.f (K + 20 + 1) ⟨L, i + 2, D + 1, S + 1, A, 0⟩ = some q := by
    rw [offshootref12_State_arg.f]; exact q1
  obtain ⟨p, p1, p2⟩ := step_one (K + 20 + 1) (offshootref12_State_steps.f (K + 20 + 1)) (offshootref12_State_arg.f (K + 20 + 1)) L i (D + 1) S A w1 w2 w4 z [w3] R w3 [] (by omega) h0 hl hS hS' hd a1 ⟨b1, b2⟩ ⟨d1, d2⟩ hz' rfl (by rw [c1]; simp) q qf (by
    rcases q2 with q2 | q2
    · exact .inl q2
    · exact .inr ⟨S + 1, q2.1⟩)
  rw [p1, Option.bind_some]
  refine ⟨_, rfl, ?_⟩
  rcases p2 with p2 | ⟨S', _, p2⟩
  · exact .inl p2
  · subst p2
    refine .inr ⟨S', ?_, fun h => ?_⟩
    · simp only [List.length_cons, List.length_nil, Offshootref12State.mk.injEq, and_true, true_and]
      omega
    · exact absurd (show (3 : Int) = 1 from h) (by decide)
end Go.Proofs.Ytbjbgodcenopnaa
/- Plain law: the text of steps is told, whatever the fuel beyond some. -/
namespace Go.Proofs.Ytbjbgodcenopnaa
set_option linter.unusedVariables false
set_option maxRecDepth 100000
set_option maxHeartbeats 4000000
theorem awake13_any (n : Nat) : offshootlaw13_awake.f (n + 200) = some true := by kernel_rfl
end Go.Proofs.Ytbjbgodcenopnaa
/- Plain law of values' texts: told as the document says, and parsed again. -/
namespace Go.Proofs.Ytbjbgodcenopnaa
set_option linter.unusedVariables false
set_option linter.unusedSimpArgs false
set_option maxHeartbeats 2000000
theorem w11_len (K : Nat) : ∀ (k : Nat) (acc : List ApiWord) (s : List UInt8) (i : Int) (l : List ApiWord) (at_ e : Int), w11 K k acc s i = some (l, at_, e) → acc.length ≤ 1500 → l.length ≤ 1501 := by
  intro k
  induction k with
  | zero => intro acc s i l at_ e h; simp [w11] at h
  | succ k ih =>
    intro acc s i l at_ e h ha
    cases s with
    | nil =>
      simp only [w11, Option.some.injEq, Prod.mk.injEq] at h
      rw [← h.1]
      simp; omega
    | cons c r =>
      rw [w11] at h
      split at h
      · exact ih _ _ _ _ _ _ h ha
      · obtain ⟨t, _, h⟩ := Option.bind_eq_some_iff.1 h
        split at h
        · simp only [Option.some.injEq, Prod.mk.injEq] at h
          rw [← h.1]; simp
        · split at h
          · simp only [Option.some.injEq, Prod.mk.injEq] at h
            rw [← h.1]; simp
          · exact ih _ _ _ _ _ _ h (by simp; omega)
def injL : List UInt8 := [103, 46, 105, 110, 106, 101, 99, 116, 40]
theorem words_val (K : Nat) (hK : 200000 < K) (v : ApiValue) (hg : GdV v) (ho : OkV v) : ∃ t, offshootref11_Words.f K (injL ++ valT v ++ [41]) = some t ∧ (t.2.2 = 0 → t.1.length ≤ 1501 ∧ ∃ (W Wv : List ApiWord) (z : ApiWord), t.1 = W ++ (Wv ++ z :: []) ∧ Like W [⟨1, [103], 0, 0, 0⟩, ⟨5, [46], 0, 0, 0⟩, ⟨1, [105, 110, 106, 101, 99, 116], 0, 0, 0⟩, ⟨5, [40], 0, 0, 0⟩] ∧ Like Wv (toksV v ++ [⟨5, [41], 0, 0, 0⟩]) ∧ z.Kind = 0) := by
  unfold offshootref11_Words.f
  by_cases h3 : 3000 < ((injL ++ valT v ++ [41]).length : Int)
  · rw [if_pos (by simpa using h3)]
    exact ⟨_, rfl, fun h => by simp at h⟩
  rw [if_neg (by simpa using h3), w11_eq K (by omega) _ (by omega) K [] _ 0 (by omega) (by omega) rfl (by simp)]
  have e : List.drop (Int.toNat 0) (injL ++ valT v ++ [41]) = 103 :: 46 :: 105 :: (110 :: [106, 101, 99, 116] ++ 40 :: (valT v ++ 41 :: [])) := by simp [injL]
  rw [show injL ++ valT v ++ [41] = 103 :: 46 :: 105 :: (110 :: [106, 101, 99, 116] ++ 40 :: (valT v ++ 41 :: [])) by simp [injL]] at h3 ⊢
  rw [show List.drop (Int.toNat 0) (103 :: 46 :: 105 :: (110 :: [106, 101, 99, 116] ++ 40 :: (valT v ++ 41 :: []))) = 103 :: 46 :: 105 :: (110 :: [106, 101, 99, 116] ++ 40 :: (valT v ++ 41 :: [])) from rfl]
  have s1 : ((103 :: 46 :: 105 :: (110 :: [106, 101, 99, 116] ++ 40 :: (valT v ++ 41 :: [])) : List UInt8).length : Int) ≤ 3000 := by omega
  have s2 : ((105 :: (110 :: [106, 101, 99, 116] ++ 40 :: (valT v ++ 41 :: [])) : List UInt8).length : Int) ≤ 3000 := by simp only [List.length_cons, List.length_append, List.length_nil] at s1 ⊢; omega
  have s3 : ((valT v ++ 41 :: [] : List UInt8).length : Int) ≤ 3000 := by simp only [List.length_cons, List.length_append, List.length_nil] at s1 ⊢; omega
  have s0 : (103 :: 46 :: 105 :: (110 :: [106, 101, 99, 116] ++ 40 :: (valT v ++ 41 :: [])) : List UInt8).length < K := by omega
  have X : Lx K K [] (103 :: 46 :: 105 :: (110 :: [106, 101, 99, 116] ++ 40 :: (valT v ++ 41 :: []))) 0 ([⟨1, [103], 0, 0, 0⟩, ⟨5, [46], 0, 0, 0⟩, ⟨1, [105, 110, 106, 101, 99, 116], 0, 0, 0⟩, ⟨5, [40], 0, 0, 0⟩] ++ (toksV v ++ [⟨5, [41], 0, 0, 0⟩])) [] := by
    refine Lx.trans (T := [⟨1, [103], 0, 0, 0⟩]) (T' := ⟨5, [46], 0, 0, 0⟩ :: ⟨1, [105, 110, 106, 101, 99, 116], 0, 0, 0⟩ :: ⟨5, [40], 0, 0, 0⟩ :: (toksV v ++ [⟨5, [41], 0, 0, 0⟩])) (Lx.word ⟨1, [103], 0, 0, 0⟩ 1 s0 (one_letter K (by omega) 103 46 _ s1 (by decide) (by decide) (by decide) (by decide)) (by decide) rfl (by decide)) fun acc1 k1 i1 h1 => ?_
    refine Lx.trans (T := [⟨5, [46], 0, 0, 0⟩]) (T' := ⟨1, [105, 110, 106, 101, 99, 116], 0, 0, 0⟩ :: ⟨5, [40], 0, 0, 0⟩ :: (toksV v ++ [⟨5, [41], 0, 0, 0⟩])) (Lx.sign 46 (by simp) h1) fun acc2 k2 i2 h2 => ?_
    refine Lx.trans (T := [⟨1, [105, 110, 106, 101, 99, 116], 0, 0, 0⟩]) (T' := ⟨5, [40], 0, 0, 0⟩ :: (toksV v ++ [⟨5, [41], 0, 0, 0⟩])) (Lx.word ⟨1, [105, 110, 106, 101, 99, 116], 0, 0, 0⟩ 6 h2 (one_name K (by omega) 105 110 [106, 101, 99, 116] 40 _ s2 (by decide) (by decide) (by decide) (by decide) (by decide) (by decide) (by decide)) (by decide) rfl (by decide)) fun acc3 k3 i3 h3 => ?_
    refine Lx.trans (T := [⟨5, [40], 0, 0, 0⟩]) (T' := toksV v ++ [⟨5, [41], 0, 0, 0⟩]) (Lx.sign 40 (by simp) h3) fun acc4 k4 i4 h4 => ?_
    exact (lexV K (by omega) (szV v) v (Nat.le_refl _) hg ho k4 acc4 41 [] i4 (.inr (.inr rfl)) s3 h4).trans fun acc5 k5 i5 h5 => Lx.sign 41 (by simp) h5
  rcases X with ⟨at_, e, he, h⟩ | ⟨W, k', i', h1, h2, h4⟩
  · rw [h]; exact ⟨_, rfl, fun h => absurd h he⟩
  · obtain ⟨k', rfl⟩ : ∃ q, k' = q + 1 := ⟨k' - 1, by omega⟩
    have hw : w11 K (k' + 1) ([] ++ W) [] i' = some ([] ++ W ++ [⟨0, [], 0, 0, i'⟩], 0, 0) := by rw [w11]
    rw [hw] at h4
    rw [h4]
    refine ⟨_, rfl, fun _ => ⟨w11_len K _ _ _ _ _ _ _ h4 (by simp), ?_⟩⟩
    obtain ⟨W1, W2, rfl, l1, l2⟩ := h1.split
    exact ⟨W1, W2, ⟨0, [], 0, 0, i'⟩, by simp, l1, l2, rfl⟩
theorem parse_val (K : Nat) (v : ApiValue) (hK : 2 * szV v + 200100 ≤ K) (hg : GdV v) (ho : OkV v) : ∃ t, offshootref12_Parse.f K (injL ++ valT v ++ [41]) = some t ∧ (t.2.2 = 0 → ∃ nm a, t.1 = [⟨nm, [a]⟩] ∧ (a.Kind = 1 → a.V = cvV v)) := by
  obtain ⟨⟨L, at_, e⟩, h1, h2⟩ := words_val K (by omega) v hg ho
  unfold offshootref12_Parse.f
  rw [h1, Option.bind_some]
  dsimp only at h2 ⊢
  by_cases he : e = 0
  · subst he
    obtain ⟨hl, W, Wv, z, rfl, l1, l2, hz⟩ := h2 rfl
    obtain ⟨g, W, rfl, g1, g2, _, _, l1⟩ := l1.cons
    obtain ⟨p, W, rfl, p1, p2, _, _, l1⟩ := l1.cons
    obtain ⟨n, W, rfl, n1, n2, _, _, l1⟩ := l1.cons
    obtain ⟨o, W, rfl, o1, o2, _, _, l1⟩ := l1.cons
    obtain rfl := l1.nil
    obtain ⟨Wv, W, rfl, m2, m3⟩ := l2.split
    clear l2
    obtain ⟨c, W, rfl, c1, c2, _, _, m4⟩ := m3.cons
    obtain rfl := m4.nil
    obtain ⟨t0, T0, ht0, hn0⟩ := toksV_head v
    have l2' := m2
    rw [ht0] at l2'
    obtain ⟨w, W', hw, w1, w2, _, _, _⟩ := l2'.cons
    dsimp only at g1 g2 p1 p2 n1 n2 o1 o2 c1 c2
    have hL : [g, p, n, o] ++ (Wv ++ [c] ++ [z]) = g :: p :: n :: o :: (Wv ++ c :: [z]) := by simp
    rw [hL] at hl ⊢
    generalize hLL : g :: p :: n :: o :: (Wv ++ c :: [z]) = L at hl ⊢
    have d1 : L.drop (1 : Int).toNat = p :: n :: o :: (Wv ++ c :: [z]) := by rw [← hLL]; rfl
    have d2 : L.drop (2 : Int).toNat = n :: o :: (Wv ++ c :: [z]) := by rw [← hLL]; rfl
    have d4 : L.drop (2 + 2 : Int).toNat = Wv ++ c :: [z] := by rw [← hLL]; rfl
    have hlen : (L.length : Int) = Wv.length + 6 := by rw [← hLL]; simp; omega
    have hg0 : List.getD L (Int.toNat 0) default = g := by rw [← hLL]; rfl
    obtain ⟨q, rfl⟩ : ∃ q, K = q + 1 := ⟨K - 1, by omega⟩
    rw [if_neg (by simp), if_pos (by omega), hg0, g1, g2, if_pos (fun _ => by omega), if_neg (by simp), sign_ok (by omega) (by omega) d1 _ p1 p2, Option.bind_some, offshootref12_State_steps.f]
    unfold offshootref12_State_steps.b
    have hc46 : ¬ (c.Kind = 5 ∧ c.S = [46]) := by rw [c2]; simp
    obtain ⟨r, r1, r2⟩ := arg_any q (by omega) v hg ho (by omega) L (2 + 2) 0 1 0 Wv c [z] (by omega) (by omega) (by omega) (by omega) (by omega) (by omega) d4 hc46 m2
    have hw41 : ¬ (w.Kind = 5 ∧ w.S = [41]) := by
      rw [w1, w2]
      exact fun e => hn0 ⟨e.1, .inr e.2⟩
    obtain ⟨t, t1, t2⟩ := step_one q (offshootref12_State_steps.f q) (offshootref12_State_arg.f q) L 2 0 0 0 n o c z Wv [] w W' (by omega) (by omega) (by omega) (by omega) (by omega) d2 n1 ⟨o1, o2⟩ ⟨c1, c2⟩ (by rw [hz]; simp) hw hw41 r r1 (by
      rcases r2 with r2 | ⟨S', r2, _⟩
      · exact .inl r2
      · exact .inr ⟨S', r2⟩)
    rw [show (1 : Int) + 1 = 2 from rfl, t1, Option.bind_some]
    rcases t2 with t2 | ⟨S', t2, rfl⟩
    · have e : decide (t.1.E = 0) = false := by simpa using t2
      rw [e, if_pos (fun h => by simp at h), if_neg (by simp)]
      unfold offshootref12_Parse.j1
      rw [e, if_pos (by simp)]
      exact ⟨_, rfl, fun h => absurd h t2⟩
    · have d5 : L.drop (2 + 3 + (Wv.length : Int)).toNat = [z] := by
        rw [show (2 + 3 + (Wv.length : Int)).toNat = (2 + 2 : Int).toNat + (Wv ++ [c]).length from by simp; omega, ← List.drop_drop, d4, show Wv ++ c :: [z] = (Wv ++ [c]) ++ [z] by simp, List.drop_left]
      dsimp only
      rw [getD_drop d5, hz, if_pos (fun _ => by omega), if_neg (by simp)]
      unfold offshootref12_Parse.j1
      dsimp only
      rw [if_neg (by simp)]
      refine ⟨_, rfl, fun _ => ⟨n.S, r.2, rfl, ?_⟩⟩
      rcases r2 with r2 | ⟨S'', _, r2⟩
      · exact absurd (by rw [t2]) r2
      · exact r2
  · rw [if_pos (by simpa using he)]
    exact ⟨_, rfl, fun h => absurd h he⟩
/-- Any value is told as the document says; one that a text may have is parsed again. -/
theorem show_values_true (v : ApiValue) (h : OkV v) : ∃ K, offshootlaw13_ShowValues.f K v = some true := by
  refine ⟨szV v + 999999800 + 200, ?_⟩
  have hawk := awake13_any (szV v + 999999800)
  generalize hKK : szV v + 999999800 + 200 = K at hawk ⊢
  unfold offshootlaw13_ShowValues.f
  obtain ⟨r, r1, r2⟩ := Check_tot K v h (by omega)
  rw [r1, Option.bind_some, hawk]
  by_cases hr : r = 0
  · obtain ⟨hg, hz⟩ := r2 hr
    subst hr
    obtain ⟨p, p1, p2⟩ := put_tot K v hg hz (by omega)
    rw [if_pos (by simp), p1, Option.bind_some]
    by_cases hp : 2000 < (p.length : Int)
    · rw [if_pos (by simp; omega)]; rfl
    have hw := gd_valw v hg h
    have hlen := valT_len v hg h
    rw [if_neg (by simp; omega), showV (2100 * szV v) (by omega) v K hw (by omega) (by omega), Option.bind_some, Option.bind_some, if_pos (by simp), refV (2100 * szV v) (by omega) v K hw (by omega) (by omega), Option.bind_some, if_neg (by simp)]
    rw [if_pos (by simp; omega), if_pos (by simp; omega)]
    obtain ⟨t, t1, t2⟩ := parse_val K v (by omega) hg h
    have e : ([103, 46, 105, 110, 106, 101, 99, 116, 40] : List UInt8) ++ valT v ++ [41] = injL ++ valT v ++ [41] := rfl
    rw [e, t1, Option.bind_some]
    by_cases ht : t.2.2 = 0
    · obtain ⟨nm, a, h1, h2⟩ := t2 ht
      have g0 : List.getD t.1 (Int.toNat 0) default = ⟨nm, [a]⟩ := by rw [h1]; rfl
      have g1 : List.getD [a] (Int.toNat 0) default = a := rfl
      rw [g0]
      dsimp only
      rw [g1, ht, h1, if_pos (fun _ => by simp), if_pos (fun _ => by simp), if_pos (fun _ => by simp)]
      by_cases hk : a.Kind = 1
      · rw [hk, if_neg (by simp), if_pos (by simp), if_pos (by simp), h2 hk, sameC K v h (by omega), Option.bind_some]
      · rw [if_pos (by simp [hk])]
    · have e : decide (t.2.2 = 0) = false := by simpa using ht
      rw [e, if_pos (fun h => by simp at h), if_pos (fun h => by simp at h), if_pos (fun h => by simp at h), if_pos (by simp)]
  · rw [if_neg (by simp [hr]), Option.bind_some, if_pos (by simp [hr])]; rfl
end Go.Proofs.Ytbjbgodcenopnaa
