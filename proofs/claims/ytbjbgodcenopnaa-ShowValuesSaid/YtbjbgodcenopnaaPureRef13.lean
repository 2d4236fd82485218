/- Plain law of the document's texts of values: they come to the same as show.Value's. -/
import Derived.Test.YtbjbgodcenopnaaPureVal
namespace Go.Proofs.Ytbjbgodcenopnaa
set_option linter.unusedVariables false
set_option maxHeartbeats 1000000
theorem hex_byte (c : Nat) (h : c < 256) : offshootref13_hex.f (c : Int) = some [hexdig (c / 16), hexdig (c % 16)] := by
  have : ∀ c ∈ List.range 256, offshootref13_hex.f (c : Int) = some [hexdig (c / 16), hexdig (c % 16)] := by decide +kernel
  exact this c (List.mem_range.mpr h)
theorem hex_u8 (c : UInt8) : offshootref13_hex.f (c.toNat : Int) = some [hexdig (c.toNat / 16), hexdig (c.toNat % 16)] := hex_byte c.toNat c.toNat_lt
theorem ten_byte (n : Nat) : FW.toB ([(IntKind.wrap .u8 (48 + (IntKind.wrap .u8 (Int.tmod (n : Int) 10))))] : List Int) = [hexdig (n % 10)] := by
  have e : Int.tmod (n : Int) 10 = ((n % 10 : Nat) : Int) := by rw [Int.tmod_eq_emod_of_nonneg (by omega)]; omega
  rw [e]
  have : ∀ d ∈ List.range 10, FW.toB ([(IntKind.wrap .u8 (48 + (IntKind.wrap .u8 (d : Int))))] : List Int) = [hexdig d] := by decide +kernel
  exact this (n % 10) (List.mem_range.mpr (by omega))
theorem refnum_l1 (K : Nat) (b : Bool) : ∀ (j k n : Nat) (acc : List UInt8), j < k → n < 10 ^ j → j ≤ 20 → n < 18446744073709551616 → (acc ≠ [] ∨ n ≠ 0) → acc.length + j ≤ 1000 →
    offshootref13_Number.l1 K k (n : Int) b acc = some ((if b then [45] else []) ++ (decS n ++ acc)) := by
  have hz0 : ∀ (k : Nat) (acc : List UInt8), acc ≠ [] → acc.length ≤ 1000 → offshootref13_Number.l1 K (k + 1) ((0 : Nat) : Int) b acc = some ((if b then [45] else []) ++ (decS 0 ++ acc)) := by
    intro k acc hne hl
    rw [offshootref13_Number.l1, if_neg (by simp [hne]), decS_zero]
    cases b with
    | true => simp; omega
    | false => simp
  intro j
  induction j with
  | zero =>
    intro k n acc hk hn hj hx ha hl
    have hz : n = 0 := by simp at hn; omega
    subst hz
    obtain ⟨k, rfl⟩ : ∃ k', k = k' + 1 := ⟨k - 1, by omega⟩
    exact hz0 k acc (ha.resolve_right (by simp)) (by omega)
  | succ j ih =>
    intro k n acc hk hn hj hx ha hl
    obtain ⟨k, rfl⟩ : ∃ k', k = k' + 1 := ⟨k - 1, by omega⟩
    by_cases hz : n = 0
    · subst hz; exact hz0 k acc (ha.resolve_right (by simp)) (by omega)
    · have e2 : IntKind.wrap .u64 (Int.tdiv (n : Int) 10) = ((n / 10 : Nat) : Int) := by
        rw [Int.tdiv_eq_ediv_of_nonneg (by omega), W_u64 (by omega) (by omega)]; omega
      rw [offshootref13_Number.l1, if_pos (by simp; omega), ten_byte, if_pos (by simp; omega), e2, ih k (n / 10) _ (by omega) (by rw [Nat.pow_succ] at hn; omega) (by omega) (by omega) (by simp) (by simp; omega), decS_step hz]
      simp
theorem refnum_eq (K : Nat) (hK : 30 < K) (v : Int) (hv : In64 v) : offshootref13_Number.f K v = some (numS v) := by
  unfold offshootref13_Number.f offshootref13_Number.j1 numS
  have h20 : v.natAbs < 10 ^ 20 := Nat.lt_of_lt_of_le (abs_pow hv) (Nat.pow_le_pow_right (by omega) (by omega))
  unfold In64 at hv
  by_cases h : v < 0
  · have e : IntKind.wrap .u64 (0 - IntKind.wrap .u64 v) = (v.natAbs : Int) := by rw [IntKind.wrap_u64, IntKind.wrap_u64]; omega
    rw [if_pos (by simpa using h), e, decide_eq_true h, if_neg (by omega), if_pos h]
    rw [refnum_l1 K true 20 K v.natAbs [] (by omega) h20 (by omega) (by omega) (.inr (by omega)) (by simp)]
    simp
  · have e : IntKind.wrap .u64 v = (v.natAbs : Int) := by rw [W_u64 (by omega) (by omega)]; omega
    rw [if_neg (by simpa using h), e, decide_eq_false h]
    by_cases hz : v = 0
    · subst hz
      obtain ⟨k, rfl⟩ : ∃ k, K = k + 1 + 1 := ⟨K - 2, by omega⟩
      rfl
    · rw [if_neg hz, if_neg h]
      rw [refnum_l1 K false 20 K v.natAbs [] (by omega) h20 (by omega) (by omega) (.inr (by omega)) (by simp)]
      simp
/-- The bytes of a number. -/
def bytesh : Nat → Nat → List UInt8
  | 0, _ => []
  | j + 1, x => bytesh j (x / 256) ++ [UInt8.ofNat (x % 256)]
def hexes : List UInt8 → List UInt8
  | [] => []
  | c :: r => [hexdig (c.toNat / 16), hexdig (c.toNat % 16)] ++ hexes r
theorem hexes_append : ∀ a b, hexes (a ++ b) = hexes a ++ hexes b
  | [], b => by simp [hexes]
  | c :: r, b => by simp [hexes, hexes_append r b]
theorem bytesh_len : ∀ j x, (bytesh j x).length = j
  | 0, _ => rfl
  | j + 1, x => by rw [bytesh, List.length_append, bytesh_len j]; simp
theorem hexes_bytesh : ∀ j x, hexes (bytesh j x) = hexh (2 * j) x
  | 0, x => by simp [bytesh, hexes, hexh]
  | j + 1, x => by
    rw [bytesh, hexes_append, hexes_bytesh j, show 2 * (j + 1) = 2 * j + 1 + 1 from by omega, hexh_snoc, hexh_snoc, Nat.div_div_eq_div_mul]
    have : (UInt8.ofNat (x % 256)).toNat = x % 256 := by rw [UInt8.toNat_ofNat']; omega
    simp only [hexes, this]
    rw [show x % 256 / 16 = x / 16 % 16 from by omega, show x % 256 % 16 = x % 16 from by omega]
    simp
theorem eight_l1 (K : Nat) : ∀ (j k x : Nat) (acc : List UInt8) (i : Int), j < k → i = 8 - (j : Int) → j ≤ 8 → x < 18446744073709551616 → acc.length ≤ 8 - j →
    offshootref02_Eight.l1 K k (x : Int) acc i = some (bytesh j x ++ acc) := by
  intro j
  induction j with
  | zero =>
    intro k x acc i hk hi hj hx hl
    obtain ⟨k, rfl⟩ : ∃ k', k = k' + 1 := ⟨k - 1, by omega⟩
    rw [offshootref02_Eight.l1, if_neg (by simp; omega)]
    simp [bytesh]
  | succ j ih =>
    intro k x acc i hk hi hj hx hl
    obtain ⟨k, rfl⟩ : ∃ k', k = k' + 1 := ⟨k - 1, by omega⟩
    have e1 : Int.tmod (x : Int) 256 = ((x % 256 : Nat) : Int) := by rw [Int.tmod_eq_emod_of_nonneg (by omega)]; omega
    have e2 : IntKind.wrap .u64 (Int.tdiv (x : Int) 256) = ((x / 256 : Nat) : Int) := by rw [Int.tdiv_eq_ediv_of_nonneg (by omega), W_u64 (by omega) (by omega)]; omega
    have e3 : FW.toB ([(IntKind.wrap .u8 ((x % 256 : Nat) : Int))] : List Int) = [UInt8.ofNat (x % 256)] := by
      rw [W_u8 (by omega) (by omega)]; simp only [FW.toB, List.map_cons, List.map_nil, Int.toNat_natCast]
    rw [offshootref02_Eight.l1, if_pos (by simp; omega), e1, e2, e3, if_pos (by simp; omega), W_in (by omega) (by omega), ih k (x / 256) _ (i + 1) (by omega) (by omega) (by omega) (by omega) (by simp; omega), bytesh]
    simp
theorem refflt_l1 (G : List ApiValue → Option (List UInt8)) (F : ApiValue → Option (List UInt8)) (K : Nat) (l : List UInt8) (hl : l.length = 8) : ∀ (j k : Nat) (acc : List UInt8) (i : Int), j < k → i = 8 - (j : Int) → j ≤ 8 → acc.length ≤ 16 - 2 * j →
    offshootref13_Value.l1 F G K k l acc i = some (([102, 39] ++ (acc ++ hexes (l.drop i.toNat))) ++ [39]) := by
  intro j
  induction j with
  | zero =>
    intro k acc i hk hi hj ha
    obtain ⟨k, rfl⟩ : ∃ k', k = k' + 1 := ⟨k - 1, by omega⟩
    rw [offshootref13_Value.l1, if_neg (by simp; omega), if_pos (by simp; omega), if_pos (by simp; omega), List.drop_of_length_le (by omega)]
    simp [hexes]
  | succ j ih =>
    intro k acc i hk hi hj ha
    obtain ⟨k, rfl⟩ : ∃ k', k = k' + 1 := ⟨k - 1, by omega⟩
    cases hd : l.drop i.toNat with
    | nil => have := adrop_nil (by omega : 0 ≤ i) hd; omega
    | cons c r =>
      obtain ⟨hlt, hdr, hle⟩ := adrop_lt (by omega : 0 ≤ i) hd
      have := u8_range c
      rw [offshootref13_Value.l1, if_pos (by simp; omega), if_pos ⟨by omega, hlt⟩, bt_at hd, hex_u8, Option.bind_some]
      rw [if_pos (by simp; omega), W_in (by omega) (by omega), ih k _ (i + 1) (by omega) (by omega) (by omega) (by simp; omega), hdr, hexes]
      simp
theorem refcanon_eq (x : Nat) : offshootref01_Canon.f x = some (canonN x : Int) := by
  unfold offshootref01_Canon.f canonN; split <;> rfl
theorem reftext_l1 (K : Nat) : ∀ (k : Nat) (acc v : List UInt8) (i : Int), 0 ≤ i → i ≤ (v.length : Int) → (v.length : Int) ≤ 1000000000 → (acc.length : Int) ≤ 1 + 4 * i → (v.length : Int) - i < k →
    offshootref13_Text.l1 K k v acc i = some (acc ++ (escL (v.drop i.toNat) ++ [39])) := by
  intro k
  induction k with
  | zero => intro acc v i h0 h1 h2 h3 h4; omega
  | succ k ih =>
    intro acc v i h0 h1 h2 h3 h4
    rw [offshootref13_Text.l1]
    have w1 : IntKind.wrap .i64 (i + 1) = i + 1 := W_in (by omega) (by omega)
    cases hd : v.drop i.toNat with
    | nil =>
      have := adrop_nil h0 hd
      rw [if_neg (by simp; omega), if_pos (by simp; omega)]; rfl
    | cons c r =>
      obtain ⟨hlt, hdr, hle⟩ := adrop_lt h0 hd
      have hc := u8_range c
      have h39 : c = 39 ↔ ((c.toNat : Int) = 39) := u8_eq' c 39 (by omega)
      have h92 : c = 92 ↔ ((c.toNat : Int) = 92) := u8_eq' c 92 (by omega)
      rw [if_pos (by simpa using hlt), if_pos ⟨h0, hlt⟩, bt_at hd, escL, escS]
      have hsl : List.take ((i + 1).toNat - i.toNat) (List.drop i.toNat v) = [c] := by
        rw [hd, show (i + 1).toNat - i.toNat = 1 from by omega]; rfl
      have hj2 : ∀ acc' : List UInt8, (acc'.length : Int) ≤ 2 + 4 * i → ((c.toNat : Int) < 32 ∨ 126 < (c.toNat : Int) → (acc'.length : Int) ≤ 1 + 4 * i) → offshootref13_Text.j2 (offshootref13_Text.l1 K k) K v acc' i (c.toNat : Int) = some ((acc' ++ (if (c.toNat : Int) < 32 ∨ 126 < (c.toNat : Int) then [92, 120, hexdig (c.toNat / 16), hexdig (c.toNat % 16)] else [c])) ++ (escL r ++ [39])) := by
        intro acc' ha ha2
        unfold offshootref13_Text.j2 offshootref13_Text.j1
        by_cases e2 : (c.toNat : Int) < 32 ∨ 126 < (c.toNat : Int)
        · have := ha2 e2
          rw [if_pos (by simpa using e2), hex_u8, Option.bind_some]
          rw [if_pos (by simp), if_pos (by simp; omega), w1, ih _ v (i + 1) (by omega) (by omega) h2 (by simp; omega) (by omega), hdr, if_pos e2]
          simp
        · rw [if_neg (by simpa using e2), w1, if_pos (by omega), hsl, if_pos (by simp; omega), ih _ v (i + 1) (by omega) (by omega) h2 (by simp; omega) (by omega), hdr, if_neg e2]
      by_cases e1 : (c.toNat : Int) = 39 ∨ (c.toNat : Int) = 92
      · have p39 : c = 39 ∨ c = 92 := by rw [h39, h92]; exact e1
        have e2 : ¬ ((c.toNat : Int) < 32 ∨ 126 < (c.toNat : Int)) := by omega
        rw [if_pos (by simpa using e1), if_pos (by simp; omega), hj2 _ (by simp; omega) (fun h => absurd h e2), if_pos p39, if_neg e2]
        simp
      · have n39 : ¬ (c = 39 ∨ c = 92) := by rw [h39, h92]; exact e1
        rw [if_neg (by simpa using e1), hj2 _ (by omega) (fun _ => h3), if_neg n39]
        simp
theorem reftext_eq (K : Nat) (s : List UInt8) (h : s.length ≤ 1000000000) (hK : s.length < K) : offshootref13_Text.f K s = some (textT s) := by
  unfold offshootref13_Text.f
  rw [reftext_l1 K K _ s 0 (by omega) (by omega) (by omega) (by simp) (by omega)]
  rfl
theorem refflt_eq (G : List ApiValue → Option (List UInt8)) (F : ApiValue → Option (List UInt8)) (K : Nat) (hK : 20 < K) (x : Nat) (h : x < 18446744073709551616) :
    (Option.bind (offshootref01_Canon.f x) fun t2 => (Option.bind (offshootref02_Eight.f K t2) fun t3 => offshootref13_Value.l1 F G K K t3 ([] : List UInt8) 0)) = some (floatT x) := by
  rw [refcanon_eq]
  simp only [Option.bind_some]
  unfold offshootref02_Eight.f
  rw [eight_l1 K 8 K (canonN x) [] 0 (by omega) (by omega) (by omega) (canonN_lt x h) (by simp)]
  simp only [Option.bind_some, List.append_nil]
  rw [refflt_l1 G F K _ (bytesh_len 8 _) 8 K [] 0 (by omega) (by omega) (by omega) (by simp), show Int.toNat 0 = 0 from rfl, List.drop_zero, hexes_bytesh, List.nil_append]
  rfl
theorem refvals_l1 (G : List ApiValue → Option (List UInt8)) (F : ApiValue → Option (List UInt8)) (K : Nat) (L : List ApiValue) (hF : ∀ x ∈ L, F x = some (valT x)) (hL : (L.length : Int) ≤ 1099511627776) : ∀ (k : Nat) (acc : List UInt8) (i : Int), 0 < i → i ≤ (L.length : Int) → (acc.length + (commaTail (valsT (L.drop i.toNat))).length ≤ 1099511627776) → (L.length : Int) - i < k →
    offshootref13_Values.l1 F G K k L acc i = some (acc ++ commaTail (valsT (L.drop i.toNat))) := by
  intro k
  induction k with
  | zero => intro acc i h0 h1 h2 h3; omega
  | succ k ih =>
    intro acc i h0 h1 h2 h3
    rw [offshootref13_Values.l1]
    cases hd : L.drop i.toNat with
    | nil =>
      have := adrop_nil (by omega : 0 ≤ i) hd
      rw [if_neg (by simp; omega)]
      simp [valsT, commaTail]
    | cons x r =>
      obtain ⟨hlt, hdr, hle⟩ := adrop_lt (by omega : 0 ≤ i) hd
      have hx : x ∈ L := List.mem_of_mem_drop (by rw [hd]; simp)
      have hct : commaTail (valsT (x :: r)) = [44, 32] ++ (valT x ++ commaTail (valsT r)) := by simp [valsT, commaTail]
      rw [hd, hct] at h2
      simp only [List.length_append, List.length_cons, List.length_nil] at h2
      rw [if_pos (by simpa using hlt), if_pos (by simpa using h0), if_pos (by simp; omega)]
      unfold offshootref13_Values.j1
      rw [if_pos ⟨by omega, hlt⟩, getD_drop hd, hF x hx]
      simp only [Option.bind_some]
      rw [if_pos (by simp; omega), W_in (by omega) (by omega), ih _ (i + 1) (by omega) (by omega) (by rw [hdr]; simp; omega) (by omega), hdr, hct]
      simp
theorem refvals_eq (G : List ApiValue → Option (List UInt8)) (F : ApiValue → Option (List UInt8)) (K : Nat) (L : List ApiValue) (hF : ∀ x ∈ L, F x = some (valT x)) (hL : (L.length : Int) ≤ 1099511627776) (hc : (commas (valsT L)).length ≤ 1099511627776) (hK : L.length + 1 < K) :
    offshootref13_Values.l1 F G K K L [] 0 = some (commas (valsT L)) := by
  obtain ⟨k, hk⟩ : ∃ k, K = k + 1 := ⟨K - 1, by omega⟩
  refine (fun (h : ∀ X, X = k + 1 → offshootref13_Values.l1 F G K X L [] 0 = _) => h K hk) ?_
  rintro _ rfl
  rw [offshootref13_Values.l1]
  cases L with
  | nil => simp [valsT, commas]
  | cons x r =>
    rw [valsT, commas_tail] at hc
    simp only [List.length_append] at hc
    simp only [List.length_cons] at hL hK
    rw [if_pos (by simp), if_neg (by simp)]
    unfold offshootref13_Values.j1
    rw [if_pos (by simp), show List.getD (x :: r) (Int.toNat 0) default = x from rfl, hF x (by simp)]
    simp only [Option.bind_some]
    rw [if_pos (by simp; omega), W_in (by omega) (by omega), refvals_l1 G F K (x :: r) hF (by simpa using hL) k _ (0 + 1) (by omega) (by simp; omega) (by simp; omega) (by simp; omega), valsT, commas_tail]
    simp
/-- What the document's comes to. -/
theorem refV : ∀ (n : Nat), n ≤ 1099511627776 → ∀ (v : ApiValue) (K : Nat), ValW v → (valT v).length ≤ n → n + 40 < K → offshootref13_Value.f K v = some (valT v) := by
  intro n
  induction n using Nat.strongRecOn with
  | _ n ih =>
    intro hn v K hv hl hK
    obtain ⟨K, rfl⟩ : ∃ K', K = K' + 1 + 1 := ⟨K - 2, by omega⟩
    have hv0 := hv
    obtain ⟨k, b, m, f, s, l⟩ := v
    simp only [ValW] at hv
    obtain ⟨h1, h2, h3, h4⟩ := hv
    have hnum := refnum_eq (K + 1) (by omega) m h1
    have hnl := numS_len m h1
    have hjoin : (commas (valsT l)).length + 2 ≤ n → offshootref13_Values.f (K + 1) l = some (commas (valsT l)) := by
      intro hc
      rw [offshootref13_Values.f, offshootref13_Values.b]
      have hmem : ∀ x ∈ l, (valT x).length ≤ (commas (valsT l)).length := by
        intro x hx
        refine commas_len _ _ ?_
        rw [valsT_map]; exact List.mem_map.2 ⟨x, hx, rfl⟩
      have hcount : l.length ≤ (commas (valsT l)).length := by
        have := commas_count (valsT l) (by
          intro x hx
          rw [valsT_map] at hx
          obtain ⟨y, hy, rfl⟩ := List.mem_map.1 hx
          exact valT_pos y (valsW_mem l h4 y hy))
        rw [valsT_map, List.length_map] at this
        rw [valsT_map]; exact this
      exact refvals_eq _ _ K l (fun x hx => ih (n - 2) (by omega) (by omega) x K (valsW_mem l h4 x hx) (by have := hmem x hx; omega) (by omega)) (by omega) (by omega) (by omega)
    rw [offshootref13_Value.f, offshootref13_Value.b]
    rw [valT] at hl ⊢
    apply Sat.get
    have hite : ∀ {α : Type} (p : Prop) [Decidable p] (x y : α), (if decide p = true then x else y) = if p then x else y := by
      intro α p _ x y; by_cases h : p <;> simp [h]
    simp only [hite]
    by_cases k0 : k = 0
    · rw [if_pos k0, if_pos k0]; exact Sat.some rfl
    rw [if_neg k0] at hl ⊢; rw [if_neg k0]
    by_cases k1 : k = 1
    · rw [if_pos k1, if_pos k1]; cases b <;> exact Sat.some rfl
    rw [if_neg k1] at hl ⊢; rw [if_neg k1]
    by_cases k2 : k = 2
    · rw [if_pos k2, if_pos k2]; exact Sat.bindE hnum (Sat.some rfl)
    rw [if_neg k2] at hl ⊢; rw [if_neg k2]
    by_cases k3 : k = 3
    · rw [if_pos k3, if_pos k3]; exact Sat.eq (refflt_eq _ _ (K + 1) (by omega) f h2) rfl
    rw [if_neg k3] at hl ⊢; rw [if_neg k3]
    by_cases k4 : k = 4
    · rw [if_pos k4] at hl
      rw [if_pos k4, if_pos k4]
      have := escL_ge s
      exact Sat.bindE (reftext_eq (K + 1) s h3 (by simp [textT] at hl; omega)) (Sat.some rfl)
    rw [if_neg k4] at hl ⊢; rw [if_neg k4]
    by_cases k5 : k = 5
    · rw [if_pos k5] at hl
      rw [if_pos k5, if_pos k5]
      simp only [List.length_append, List.length_cons, List.length_nil] at hl
      refine Sat.bindE (hjoin (by omega)) ?_
      refine Sat.chk (by simp only [List.length_cons, List.length_nil]; omega) ?_
      refine Sat.chk (by simp only [List.length_append, List.length_cons, List.length_nil]; omega) (Sat.some rfl)
    rw [if_neg k5] at hl ⊢; rw [if_neg k5]
    by_cases k6 : k = 6
    · rw [if_pos k6] at hl
      rw [if_pos k6, if_pos k6]
      simp only [List.length_append, List.length_cons, List.length_nil] at hl
      refine Sat.bindE (hjoin (by omega)) ?_
      refine Sat.chk (by simp only [List.length_cons, List.length_nil]; omega) ?_
      refine Sat.chk (by simp only [List.length_append, List.length_cons, List.length_nil]; omega) (Sat.some rfl)
    rw [if_neg k6] at hl ⊢; rw [if_neg k6]
    by_cases k7 : k = 7
    · rw [if_pos k7, if_pos k7]
      refine Sat.bindE hnum ?_
      refine Sat.chk (by simp only [List.length_cons, List.length_nil]; omega) ?_
      refine Sat.chk (by simp only [List.length_append, List.length_cons, List.length_nil]; omega) (Sat.some rfl)
    rw [if_neg k7] at hl ⊢; rw [if_neg k7]
    by_cases k8 : k = 8
    · rw [if_pos k8, if_pos k8]
      refine Sat.bindE hnum ?_
      refine Sat.chk (by simp only [List.length_cons, List.length_nil]; omega) ?_
      refine Sat.chk (by simp only [List.length_append, List.length_cons, List.length_nil]; omega) (Sat.some rfl)
    rw [if_neg k8, if_neg k8]
    exact Sat.some rfl
end Go.Proofs.Ytbjbgodcenopnaa
