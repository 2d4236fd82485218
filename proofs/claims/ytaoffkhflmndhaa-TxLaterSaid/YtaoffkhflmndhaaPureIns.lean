/- slices.Sort of at most twelve numbers. -/
import Derived.Test.YtaoffkhflmndhaaInD
import Derived.Test.YtaoffkhflmndhaaPureBase
namespace Go.Proofs.Ytaoffkhflmndhaa
set_option linter.unusedVariables false
theorem less_u (x y : Int) : cmp_Less_uint64.f x y = some (decide (x < y)) := by
  simp [cmp_Less_uint64.f, cmp_isNaN_uint64.f]
theorem getD_mid (xs : List Int) (a : Int) (r : List Int) (n : Nat) (h : n = xs.length) : (xs ++ a :: r).getD n default = a := by
  subst h; simp [List.getD_eq_getElem?_getD]
theorem set_mid (xs : List Int) (a b : Int) (r : List Int) (n : Nat) (h : n = xs.length) : (xs ++ a :: r).set n b = xs ++ b :: r := by
  subst h; simp
abbrev Srt (l : List Int) : Prop := l.Pairwise (· ≤ ·)
theorem srt_mid {xs zs : List Int} {a : Int} (h : Srt (xs ++ zs)) (h1 : ∀ x ∈ xs, x ≤ a) (h2 : ∀ z ∈ zs, a ≤ z) : Srt (xs ++ a :: zs) := by
  obtain ⟨p, q, r⟩ := List.pairwise_append.1 h
  refine List.pairwise_append.2 ⟨p, List.pairwise_cons.2 ⟨h2, q⟩, fun x hx z hz => ?_⟩
  rcases List.mem_cons.1 hz with rfl | hz
  · exact h1 x hx
  · exact r x hx z hz
section
variable {s_l1 : List Int → Int → Int → Int → Option ORow49} {K : Nat} {Q : ORow49 → Prop} {len i : Int}
theorem ins_l2 : ∀ (k : Nat) (xs zs ys : List Int) (a : Int), xs.length < k → (xs ++ a :: (zs ++ ys)).length ≤ 100 → Srt (xs ++ zs) → (∀ z ∈ zs, a ≤ z) →
    (∀ ss, Srt ss → ss.Perm (xs ++ a :: zs) → Sat (s_l1 (ss ++ ys) 0 len (IntKind.wrap .i64 (i + 1))) Q) →
    Sat (slices_insertionSortOrdered_uint64.l2 s_l1 K k (xs ++ a :: (zs ++ ys)) 0 len i (xs.length : Int)) Q
  | 0, _, _, _, _, h, _, _, _, _ => absurd h (Nat.not_lt_zero _)
  | k + 1, xs, zs, ys, a, hk, hL, hs, hz, h => by
    unfold slices_insertionSortOrdered_uint64.l2
    rcases List.eq_nil_or_concat xs with rfl | ⟨xs', b, hx⟩
    · refine Sat.chk (by simp) (Sat.chk (by simp) ?_)
      simp only [List.length_nil, Int.ofNat_zero, Int.lt_irrefl, Int.natCast_zero, decide_false, Bool.false_eq_true, if_false, Option.bind_some, Bool.false_and]
      exact h (a :: zs) (List.pairwise_cons.2 ⟨hz, by simpa using hs⟩) (List.Perm.refl _)
    · rw [List.concat_eq_append] at hx
      subst hx
      have hl : ((xs' ++ [b]).length : Int) = (xs'.length : Int) + 1 := by simp
      have hlen : (xs' ++ [b] ++ a :: (zs ++ ys)).length = xs'.length + 2 + (zs ++ ys).length := by simp; omega
      rw [hlen] at hL
      have hw : IntKind.wrap .i64 ((xs'.length : Int) + 1 - 1) = (xs'.length : Int) := by rw [W_in] <;> omega
      rw [hl]
      rw [hw]
      have e1 : (Int.toNat ((xs'.length : Int) + 1)) = (xs' ++ [b]).length := by simp only [List.length_append, List.length_singleton]; omega
      have e2 : Int.toNat (xs'.length : Int) = xs'.length := by simp
      have e3 : xs' ++ [b] ++ a :: (zs ++ ys) = xs' ++ b :: (a :: (zs ++ ys)) := by simp
      have hd : decide ((0 : Int) < (xs'.length : Int) + 1) = true := by simp only [decide_eq_true_eq]; omega
      refine Sat.chk (fun _ => by rw [hlen]; omega) (Sat.chk (fun _ => by rw [hlen]; omega) ?_)
      rw [hd, if_pos rfl, e1, e2, getD_mid _ _ _ _ rfl, set_mid _ _ _ _ _ rfl, less_u]
      rw [show (xs' ++ [b] ++ a :: (zs ++ ys)).getD xs'.length default = b from by rw [e3]; exact getD_mid _ _ _ _ rfl]
      simp only [Option.bind_some, Bool.true_and]
      refine Sat.ite (fun hab => ?_) fun hab => ?_
      · have hab : a < b := by simpa using hab
        refine Sat.chk (by rw [hlen]; omega) (Sat.chk (by rw [hlen]; omega) (Sat.chk (by rw [hlen]; omega) (Sat.chk (by simp; omega) ?_)))
        rw [show (xs' ++ [b] ++ b :: (zs ++ ys)).set xs'.length a = xs' ++ a :: ((b :: zs) ++ ys) from by simp]
        refine ins_l2 k xs' (b :: zs) ys a (by simp at hk; omega) (by simp at hL ⊢; omega) (by simpa using hs) (fun z hz' => ?_) fun ss h1 h2 => h ss h1 (h2.trans ?_)
        · rcases List.mem_cons.1 hz' with rfl | hz'
          · omega
          · exact hz z hz'
        · rw [List.append_assoc]
          exact List.Perm.append_left xs' (List.Perm.swap b a zs)
      · have hab : b ≤ a := by simpa using hab
        refine h (xs' ++ [b] ++ a :: zs) (srt_mid hs (fun x hx => ?_) hz) (List.Perm.refl _) |> fun hh => by simpa using hh
        have h3 := (List.pairwise_append.1 (List.pairwise_append.1 hs).1).2.2
        rcases List.mem_append.1 hx with hx | hx
        · exact Int.le_trans (h3 x hx b (by simp)) hab
        · simp only [List.mem_singleton] at hx; omega
end
theorem ins_l1 (K : Nat) (hK : 100 < K) : ∀ (k : Nat) (ss ys : List Int), ys.length < k → (ss ++ ys).length ≤ 100 → 0 < ss.length → Srt ss →
    Sat (slices_insertionSortOrdered_uint64.l1 K k (ss ++ ys) 0 ((ss ++ ys).length : Int) (ss.length : Int)) fun r => r.Perm (ss ++ ys) ∧ Srt r
  | 0, _, _, h, _, _, _ => absurd h (Nat.not_lt_zero _)
  | k + 1, ss, ys, h, hL, h0, hs => by
    unfold slices_insertionSortOrdered_uint64.l1
    refine Sat.ite (fun hlt => ?_) fun hlt => ?_
    · cases ys with
      | nil => simp at hlt
      | cons a ys =>
        have hw : IntKind.wrap .i64 ((ss.length : Int) + 1) = ((ss.length + 1 : Nat) : Int) := by rw [W_in] <;> simp at hL ⊢ <;> omega
        refine ins_l2 K ss [] ys a (by simp at hL; omega) (by simpa using hL) (by simpa using hs) (fun z hz => by cases hz) fun s1 h1 h2 => ?_
        have hl1 : s1.length = ss.length + 1 := by rw [h2.length_eq]; simp
        rw [hw, ← hl1]
        have hp : (s1 ++ ys).Perm (ss ++ a :: ys) := by
          have := List.Perm.append_right ys h2
          simpa using this
        rw [← hp.length_eq]
        refine (ins_l1 K hK k s1 ys (by simp at h; omega) (by rw [hp.length_eq]; exact hL) (by omega) h1).mono fun r ⟨h3, h4⟩ => ⟨h3.trans hp, h4⟩
    · have : ys = [] := by
        cases ys with
        | nil => rfl
        | cons a ys => simp at hlt; omega
      subst this
      exact Sat.some ⟨List.Perm.refl _, by simpa using hs⟩
theorem ins_sat (l : List Int) (h : l.length ≤ 100) : Sat (slices_insertionSortOrdered_uint64.f 201 l 0 (l.length : Int)) fun r => r.Perm l ∧ Srt r := by
  unfold slices_insertionSortOrdered_uint64.f
  cases l with
  | nil => exact Sat.some ⟨List.Perm.refl _, List.Pairwise.nil⟩
  | cons a r => exact ins_l1 201 (by omega) 201 [a] r (by simp at h; omega) h (by simp) (List.pairwise_singleton _ _)
theorem sorted_unique {l r : List Int} (h : r.Perm l) (hs : Srt r) : r = l.mergeSort fun x y => decide (x ≤ y) := by
  have tr : ∀ a b c : Int, decide (a ≤ b) = true → decide (b ≤ c) = true → decide (a ≤ c) = true := fun a b c h1 h2 => by simp only [decide_eq_true_eq] at *; omega
  have to : ∀ a b : Int, (decide (a ≤ b) || decide (b ≤ a)) = true := fun a b => by simp only [Bool.or_eq_true, decide_eq_true_eq]; omega
  refine List.Perm.eq_of_pairwise (le := fun a b => decide (a ≤ b) = true) (fun a b _ _ h1 h2 => ?_) (hs.imp fun h => by simpa using h) (List.pairwise_mergeSort tr to l) (h.trans (List.mergeSort_perm l _).symm)
  simp only [decide_eq_true_eq] at h1 h2
  omega
theorem bits_few : ∀ k : Nat, k ≤ 12 → (bits_Len.f (IntKind.wrap .u64 (k : Int))).isSome = true := by
  intro k hk
  have : ∀ k : Fin 13, (bits_Len.f (IntKind.wrap .u64 ((k : Nat) : Int))).isSome = true := by decide +kernel
  exact this ⟨k, by omega⟩
theorem sort_few (l : List Int) (h : l.length ≤ 12) : slices_Sort_uint64_uint64.f 202 l = some (l.mergeSort fun x y => decide (x ≤ y)) := by
  refine Sat.get ?_
  unfold slices_Sort_uint64_uint64.f
  obtain ⟨t, ht⟩ := Option.isSome_iff_exists.1 (bits_few l.length h)
  refine Sat.bindE ht ?_
  have hw : decide (IntKind.wrap .i64 ((l.length : Int) - 0) ≤ 12) = true := by rw [W_in (by omega) (by omega)]; simp; omega
  have h1 : Sat (slices_pdqsortOrdered_uint64.f 202 l 0 (l.length : Int) t) fun r => r.Perm l ∧ Srt r := by
    unfold slices_pdqsortOrdered_uint64.f slices_pdqsortOrdered_uint64.b slices_pdqsortOrdered_uint64.l1
    show Sat (if decide (IntKind.wrap .i64 ((l.length : Int) - 0) ≤ 12) = true then _ else _) _
    rw [hw, if_pos rfl]
    exact (ins_sat l (by omega)).bind fun r hr => Sat.some hr
  exact Sat.bind h1 fun r ⟨h2, h3⟩ => Sat.some (sorted_unique h2 h3)
end Go.Proofs.Ytaoffkhflmndhaa
