/- offshootlaw11.LexTexts in plain Lean: it answers true at every text. -/
import Derived.Test.YtfmabehmohbahaaPureNumbers
namespace Go.Proofs.Ytfmabehmohbahaa
set_option linter.unusedVariables false
set_option maxHeartbeats 1000000
/-- A byte as it stands between quotes. -/
def escS (c : UInt8) : List UInt8 :=
  if c = 39 ∨ c = 92 then [92, c] else if (c.toNat : Int) < 32 ∨ 126 < (c.toNat : Int) then [92, 120, hexdig (c.toNat / 16), hexdig (c.toNat % 16)] else [c]
def escL : List UInt8 → List UInt8
  | [] => []
  | c :: r => escS c ++ escL r
theorem bt_hex (d : Nat) (h : d < 16) : FW.bt hexL (d : Int) = ((hexdig d).toNat : Int) := by
  unfold FW.bt hexdig; rw [Int.toNat_natCast]
theorem u8_eq' (c : UInt8) (n : Nat) (hn : n < 256) : c = UInt8.ofNat n ↔ ((c.toNat : Int) = (n : Int)) := (u8_eq c n hn).symm
theorem text_l1 (K : Nat) : ∀ (k : Nat) (acc v : List UInt8) (i : Int), 0 ≤ i → i ≤ (v.length : Int) → (v.length : Int) ≤ 500 → (acc.length : Int) ≤ 1 + 4 * i → (v.length : Int) - i < k →
    lex_Text.l1 K k acc (FW.bytesI v) (v.length : Int) i = some (acc ++ (escL (v.drop i.toNat) ++ [39])) := by
  intro k
  induction k with
  | zero => intro acc v i h0 h1 h2 h3 h4; omega
  | succ k ih =>
    intro acc v i h0 h1 h2 h3 h4
    rw [lex_Text.l1]
    have w1 : IntKind.wrap .i64 (i + 1) = i + 1 := W_in (by omega) (by omega)
    have hlen : ((FW.bytesI v).length : Int) = (v.length : Int) := by simp [FW.bytesI]
    cases hd : v.drop i.toNat with
    | nil =>
      have := drop_nil h0 hd
      have n1 : ¬ (i < (v.length : Int)) := by omega
      simp only [n1, decide_false, Bool.false_eq_true, if_false]
      rw [if_pos (by omega)]; rfl
    | cons c r =>
      obtain ⟨hlt, hdr, hle⟩ := drop_lt h0 hd
      have hget : List.getD (FW.bytesI v) i.toNat default = (c.toNat : Int) := by
        rw [List.getD_eq_getElem?_getD, FW.bytesI, List.getElem?_map]
        have : v[i.toNat]? = some c := by
          have := List.getElem?_drop (xs := v) (i := i.toNat) (j := 0)
          rw [hd] at this
          simpa using this.symm
        rw [this]; rfl
      have hc := u8_range c
      simp only [hlen, hlt, h0, and_self, decide_true, if_true, hget, Bool.or_eq_true, decide_eq_true_eq]
      have h39 : c = 39 ↔ ((c.toNat : Int) = 39) := u8_eq' c 39 (by omega)
      have h92 : c = 92 ↔ ((c.toNat : Int) = 92) := u8_eq' c 92 (by omega)
      unfold lex_Text.j1
      rw [escL, escS, w1]
      by_cases e1 : (c.toNat : Int) = 39 ∨ (c.toNat : Int) = 92
      · have p39 : c = 39 ∨ c = 92 := by rw [h39, h92]; exact e1
        rw [if_pos e1, if_pos (by omega), if_pos (by simp only [List.length_append, List.length_cons, List.length_nil]; omega), if_pos p39]
        rw [ih _ v (i + 1) (by omega) (by omega) h2 (by simp only [List.length_append, List.length_cons, List.length_nil]; omega) (by omega), hdr, u8_back]
        simp
      · have n39 : ¬ (c = 39 ∨ c = 92) := by rw [h39, h92]; exact e1
        rw [if_neg e1, if_neg n39]
        by_cases e2 : (c.toNat : Int) < 32 ∨ 126 < (c.toNat : Int)
        · have d1 : IntKind.wrap .u8 (Int.tdiv (c.toNat : Int) 16) = ((c.toNat / 16 : Nat) : Int) := by
            rw [Int.tdiv_eq_ediv_of_nonneg (by omega), W_u8 (by omega) (by omega)]; omega
          have d2 : Int.tmod (c.toNat : Int) 16 = ((c.toNat % 16 : Nat) : Int) := by
            rw [Int.tmod_eq_emod_of_nonneg (by omega)]; omega
          have r1 := u8_range (hexdig (c.toNat / 16))
          have r2 := u8_range (hexdig (c.toNat % 16))
          rw [if_pos e2, if_pos e2, d1, d2, bt_hex _ (by omega), bt_hex _ (by omega), u8_back, u8_back]
          rw [if_pos (by simp; omega), if_pos (by simp; omega), if_pos (by simp only [List.length_append, List.length_cons, List.length_nil]; omega), if_pos (by simp; omega), if_pos (by simp only [List.length_append, List.length_cons, List.length_nil]; omega)]
          rw [ih _ v (i + 1) (by omega) (by omega) h2 (by simp only [List.length_append, List.length_cons, List.length_nil]; omega) (by omega), hdr]
          simp
        · rw [if_neg e2, if_neg e2, if_pos (by omega)]
          rw [ih _ v (i + 1) (by omega) (by omega) h2 (by simp only [List.length_append, List.length_cons, List.length_nil]; omega) (by omega), hdr, u8_back]
          simp
theorem escS_len (c : UInt8) : (escS c).length ≤ 4 := by
  unfold escS
  split
  · simp
  · split <;> simp
theorem escL_len : ∀ v, (escL v).length ≤ 4 * v.length
  | [] => by simp [escL]
  | c :: r => by have := escS_len c; have := escL_len r; rw [escL, List.length_append, List.length_cons]; omega
theorem hex_val (c : UInt8) : hexS (hexdig (c.toNat / 16)) (hexdig (c.toNat % 16)) = (c.toNat : Int) := by
  have := c.toNat_lt
  rw [hexS_dig _ _ (by omega) (by omega)]; omega
/-- What is told is read again. -/
theorem qS_esc : ∀ (v acc r : List UInt8) (i : Int), qS acc (escL v ++ 39 :: r) i = (acc ++ v, i + (escL v).length + 1)
  | [], acc, r, i => by rw [escL, List.nil_append, qS.eq_def]; simp
  | c :: v, acc, r, i => by
    have hc := u8_range c
    have h39 : c = 39 ↔ ((c.toNat : Int) = 39) := u8_eq' c 39 (by omega)
    have h92 : c = 92 ↔ ((c.toNat : Int) = 92) := u8_eq' c 92 (by omega)
    have b92 : ((92 : UInt8).toNat : Int) = 92 := rfl
    have b120 : ((120 : UInt8).toNat : Int) = 120 := rfl
    rw [escL, escS]
    by_cases e1 : c = 39 ∨ c = 92
    · rw [if_pos e1, List.append_assoc, List.cons_append, List.cons_append, List.nil_append, qS.eq_def]
      dsimp only
      rw [b92, if_neg (by omega), if_neg (by omega), if_neg (by omega), if_pos (by rw [← h39, ← h92]; exact e1), qS_esc v (acc ++ [c]) r (i + 2)]
      simp; omega
    · rw [if_neg e1]
      by_cases e2 : (c.toNat : Int) < 32 ∨ 126 < (c.toNat : Int)
      · rw [if_pos e2, List.append_assoc, List.cons_append, List.cons_append, List.cons_append, List.cons_append, List.nil_append, qS.eq_def]
        dsimp only
        rw [b92, b120, if_neg (by omega), if_neg (by omega), if_neg (by omega), if_neg (by omega), hex_val, if_pos ⟨rfl, hc.1⟩, W_u8 hc.1 hc.2, u8_back, qS_esc v (acc ++ [c]) r (i + 4)]
        simp; omega
      · rw [if_neg e2, List.append_assoc, List.cons_append, List.nil_append, qS.eq_def]
        dsimp only
        rw [h39, h92] at e1
        rw [if_neg (by omega), if_neg e2, if_pos (by omega), qS_esc v (acc ++ [c]) r (i + 1)]
        simp; omega
theorem digit_hex (d : Nat) (h : d < 16) : offshootref11_digit.f ((hexdig d).toNat : Int) = some (d : Int) := by
  have : ∀ d ∈ List.range 16, offshootref11_digit.f ((hexdig d).toNat : Int) = some (d : Int) := by decide +kernel
  exact this d (List.mem_range.mpr h)
theorem toB_snoc (l : List Int) (c : UInt8) : FW.toB (l ++ [(c.toNat : Int)]) = FW.toB l ++ [c] := by simp [FW.toB]
theorem refQ_l1 (K : Nat) : ∀ (v : List UInt8) (k : Nat) (l : List Int) (s : List UInt8) (i : Int), 0 ≤ i → (s.length : Int) ≤ 3000 → s.drop i.toNat = escL v ++ [39] → (l.length : Int) ≤ i → (s.length : Int) - i < k →
    offshootref11_Quoted.l1 K k l s i = some (FW.toB l ++ v, i + (escL v).length + 1) := by
  intro v
  induction v with
  | nil =>
    intro k l s i h0 hs hd hl hk
    rw [escL, List.nil_append] at hd
    obtain ⟨hlt, hdr, hle⟩ := drop_lt h0 hd
    obtain ⟨k, rfl⟩ : ∃ k', k = k' + 1 := ⟨k - 1, by omega⟩
    have w1 : IntKind.wrap .i64 (i + 1) = i + 1 := W_in (by omega) (by omega)
    have hb := bt_at hd
    rw [show (((39 : UInt8).toNat : Nat) : Int) = 39 from rfl] at hb
    rw [offshootref11_Quoted.l1, if_pos (by simpa using hlt), if_pos ⟨h0, hlt⟩, hb, if_pos (by simp), w1]
    simp [escL]
  | cons c v ih =>
    intro k l s i h0 hs hd hl hk
    have hc := u8_range c
    have h39 : c = 39 ↔ ((c.toNat : Int) = 39) := u8_eq' c 39 (by omega)
    have h92 : c = 92 ↔ ((c.toNat : Int) = 92) := u8_eq' c 92 (by omega)
    rw [escL, escS] at hd
    have hne : s.drop i.toNat ≠ [] := by
      rw [hd]; simp
    obtain ⟨c0, r0, hd0⟩ : ∃ c0 r0, s.drop i.toNat = c0 :: r0 := by
      cases h : s.drop i.toNat with
      | nil => exact absurd h hne
      | cons a b => exact ⟨a, b, rfl⟩
    obtain ⟨hlt, hdr, hle⟩ := drop_lt h0 hd0
    obtain ⟨k, rfl⟩ : ∃ k', k = k' + 1 := ⟨k - 1, by omega⟩
    have w1 : IntKind.wrap .i64 (i + 1) = i + 1 := W_in (by omega) (by omega)
    have w2 : IntKind.wrap .i64 (i + 2) = i + 2 := W_in (by omega) (by omega)
    have w3 : IntKind.wrap .i64 (i + 3) = i + 3 := W_in (by omega) (by omega)
    have w4 : IntKind.wrap .i64 (i + 4) = i + 4 := W_in (by omega) (by omega)
    rw [offshootref11_Quoted.l1, if_pos (by simpa using hlt), if_pos ⟨h0, hlt⟩, bt_at hd0, w1, w2, w3, w4]
    rw [hd0] at hd
    have b92 : ((92 : UInt8).toNat : Int) = 92 := rfl
    have b120 : ((120 : UInt8).toNat : Int) = 120 := rfl
    by_cases e1 : c = 39 ∨ c = 92
    · rw [if_pos e1] at hd
      simp only [List.cons_append, List.nil_append, List.cons.injEq] at hd
      obtain ⟨rfl, rfl⟩ := hd
      obtain ⟨hlt1, hdr1, hle1⟩ := drop_lt (by omega : 0 ≤ i + 1) hdr
      rw [b92, if_neg (by simp), if_neg (by simp), if_neg (by simp), bt_at hdr, if_pos (by simp; omega), if_pos (by simp; omega), if_pos (by rw [h39, h92] at e1; simp; exact ⟨by omega, e1⟩), if_pos (by omega), if_pos (by simp; omega)]
      rw [ih k _ s (i + 2) (by omega) hs (by rw [show (i + 2).toNat = (i + 1 + 1).toNat from by omega, hdr1]) (by simp; omega) (by omega), toB_snoc]
      rw [escL, escS, if_pos e1]
      simp; omega
    · rw [if_neg e1] at hd
      by_cases e2 : (c.toNat : Int) < 32 ∨ 126 < (c.toNat : Int)
      · rw [if_pos e2] at hd
        simp only [List.cons_append, List.nil_append, List.cons.injEq] at hd
        obtain ⟨rfl, rfl⟩ := hd
        obtain ⟨hlt1, hdr1, hle1⟩ := drop_lt (by omega : 0 ≤ i + 1) hdr
        obtain ⟨hlt2, hdr2, hle2⟩ := drop_lt (by omega : 0 ≤ i + 1 + 1) hdr1
        obtain ⟨hlt3, hdr3, hle3⟩ := drop_lt (by omega : 0 ≤ i + 1 + 1 + 1) hdr2
        have g1 : FW.bt s (i + 1) = 120 := bt_at hdr
        have g2 : FW.bt s (i + 2) = ((hexdig (c.toNat / 16)).toNat : Int) := by rw [show i + 2 = i + 1 + 1 from by omega]; exact bt_at hdr1
        have g3 : FW.bt s (i + 3) = ((hexdig (c.toNat % 16)).toNat : Int) := by rw [show i + 3 = i + 1 + 1 + 1 from by omega]; exact bt_at hdr2
        have p3 : i + 3 < (s.length : Int) := by omega
        have q3 : decide ((s.length : Int) ≤ i + 3) = false := by simp; omega
        have hcomb : IntKind.wrap .u8 (IntKind.wrap .i64 ((IntKind.wrap .i64 (16 * ((c.toNat / 16 : Nat) : Int))) + ((c.toNat % 16 : Nat) : Int))) = (c.toNat : Int) := by
          rw [W_in (x := 16 * ((c.toNat / 16 : Nat) : Int)) (by omega) (by omega), W_in (by omega) (by omega), W_u8 (by omega) (by omega)]; omega
        have z1 : decide (15 < ((c.toNat / 16 : Nat) : Int)) = false := by simp; omega
        have z2 : decide (15 < ((c.toNat % 16 : Nat) : Int)) = false := by simp; omega
        rw [b92, if_neg (by simp), if_neg (by simp), if_neg (by simp), g1, g2, g3, q3, digit_hex _ (by omega), digit_hex _ (by omega)]
        have x1 : ((0 : Int) ≤ i + 1 ∧ i + 1 < (s.length : Int)) := by omega
        have x2 : ((0 : Int) ≤ i + 2 ∧ i + 2 < (s.length : Int)) := by omega
        have x3 : ((0 : Int) ≤ i + 3 ∧ i + 3 < (s.length : Int)) := by omega
        have x4 : ((l.length + ([((c.toNat : Nat) : Int)] : List Int).length) * 1 ≤ 140737488355328 ∧ l.length + ([((c.toNat : Nat) : Int)] : List Int).length ≤ 140737488355328) := by simp; omega
        apply Sat.get
        refine Sat.chk (fun _ => x1) ?_
        refine Sat.chk (fun _ _ => x1) ?_
        refine Sat.ite (fun h => by simp at h) (fun _ => ?_)
        refine Sat.chk (fun _ => x1) ?_
        refine Sat.chk (fun _ => x2) ?_
        rw [if_pos (by decide)]
        refine Sat.bindE rfl ?_
        refine Sat.chk (fun _ => x3) ?_
        rw [z1, if_pos (by decide)]
        refine Sat.bindE rfl ?_
        rw [z2]
        refine Sat.ite (fun h => by simp at h) (fun _ => ?_)
        refine Sat.chk x2 ?_
        refine Sat.bindE rfl ?_
        refine Sat.chk x3 ?_
        refine Sat.bindE rfl ?_
        rw [hcomb]
        refine Sat.chk x4 ?_
        refine Sat.eq (ih k _ s (i + 4) (by omega) hs (by rw [show (i + 4).toNat = (i + 1 + 1 + 1 + 1).toNat from by omega, hdr3]) (by simp; omega) (by omega)) ?_
        rw [toB_snoc, escL, escS, if_neg e1, if_pos e2]
        simp; omega
      · rw [if_neg e2] at hd
        simp only [List.cons_append, List.nil_append, List.cons.injEq] at hd
        obtain ⟨rfl, rfl⟩ := hd
        have e3 : ¬ (c0.toNat : Int) = 39 := fun h => e1 (.inl (h39.mpr h))
        have e4 : ¬ (c0.toNat : Int) = 92 := fun h => e1 (.inr (h92.mpr h))
        rw [if_neg (by simpa using e3), if_neg (by simpa using e2), if_pos (by simpa using e4), if_pos (by simp; omega)]
        rw [ih k _ s (i + 1) (by omega) hs hdr (by simp; omega) (by omega), toB_snoc]
        rw [escL, escS, if_neg e1, if_neg e2]
        simp; omega
theorem texts_j1 (t : List UInt8) (ht : (t.length : Int) ≤ 500) : offshootlaw11_LexTexts.j1 KK t = some true := by
  have hK : 100000 < KK := by decide
  have hl := escL_len t
  have e1 : lex_Text.f KK t = some (39 :: (escL t ++ [39])) := by
    unfold lex_Text.f
    rw [if_pos (by simp), show ((FW.bytesI t).length : Int) = (t.length : Int) from by simp [FW.bytesI]]
    rw [text_l1 KK KK _ t 0 (by omega) (by omega) ht (by simp) (by simp only [KK]; omega)]
    rfl
  have hs : ((39 :: (escL t ++ [39])).length : Int) = (escL t).length + 2 := by simp; omega
  have e2 : offshootref11_Quoted.f KK (39 :: (escL t ++ [39])) = some (t, ((escL t).length : Int) + 2) := by
    unfold offshootref11_Quoted.f
    rw [if_pos (fun _ => by simp only [hs]; omega), if_neg (by rw [bt_zero]; simp)]
    rw [refQ_l1 KK t KK [] _ 1 (by omega) (by omega) rfl (by simp) (by simp only [KK]; omega)]
    simp [FW.toB]; omega
  have e3 : lex_Words.f KK (39 :: (escL t ++ [39])) = some ([⟨4, t, 0, 0, 0⟩, ⟨0, [], 0, 0, (escL t).length + 2⟩], 0, 0) := by
    have hw : lex_word.f KK (39 :: (escL t ++ [39])) 0 = some ((⟨4, t, 0, 0, 0⟩ : ApiWord), ((escL t).length : Int) + 2) := by
      unfold lex_word.f
      have hb : FW.bt (39 :: (escL t ++ [39])) 0 = 39 := bt_zero _ _
      rw [if_pos (by omega), hb, if_pos (fun h => by simp at h), if_neg (by simp), if_pos (by simp), if_pos (by omega)]
      rw [show Int.toNat 0 = 0 from rfl, List.drop_zero, quoted_eq KK _ (by omega) (by simp) hK, List.drop_succ_cons, List.drop_zero, qS_esc t [] [] 1]
      simp only [Option.bind_some, List.nil_append]
      rw [if_neg (by simp; omega)]
      unfold lex_word.j1
      congr 2; omega
    unfold lex_Words.f
    rw [if_neg (by rw [hs]; simp; omega)]
    obtain ⟨k, hk⟩ : ∃ k, KK = k + 1 + 1 := ⟨KK - 2, by decide⟩
    generalize hK2 : KK = K2 at *
    refine (fun (h : ∀ F, F = k + 1 + 1 → lex_Words.l1 K2 F [] (39 :: (escL t ++ [39])) 0 = _) => h K2 hk) ?_
    rintro _ rfl
    rw [words_step K2 (k + 1) [] _ 0 (by omega) (c := 39) (r := escL t ++ [39]) rfl (by decide) hw, if_neg (by omega), if_neg (by simp), W_in (by omega) (by omega)]
    rw [words_end K2 hK k _ _ _ (by simp) (by rw [hs]; omega), hs]
    rfl
  unfold offshootlaw11_LexTexts.j1
  apply Sat.get
  refine Sat.bindE e1 ?_
  refine Sat.bindE e2 ?_
  refine Sat.bindE e3 ?_
  refine Sat.bindE awake_true ?_
  refine Sat.chk (fun _ => ⟨Int.le_refl 0, by simp⟩) ?_
  refine Sat.chk (fun _ => ⟨Int.le_refl 0, by simp⟩) ?_
  refine Sat.some ?_
  have g1 : ∀ y z : ApiWord, ([y, z] : List ApiWord).getD (Int.toNat 0) default = y := fun _ _ => rfl
  rw [g1, hs]
  simp
theorem texts_true (s : List UInt8) : ∃ K, offshootlaw11_LexTexts.f K s = some true := by
  refine ⟨KK, ?_⟩
  unfold offshootlaw11_LexTexts.f
  by_cases h : 500 < (s.length : Int)
  · rw [if_pos (by simpa using h), if_pos (by omega)]
    exact texts_j1 _ (by simp; omega)
  · rw [if_neg (by simpa using h)]
    exact texts_j1 _ (by omega)
end Go.Proofs.Ytfmabehmohbahaa
