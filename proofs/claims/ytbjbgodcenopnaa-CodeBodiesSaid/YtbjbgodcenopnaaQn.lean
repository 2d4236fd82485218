/- Plain law of code.Compile: orders, repeats, edges that are added. -/
import Derived.Test.YtbjbgodcenopnaaQm
namespace Go.Proofs.Ytbjbgodcenopnaa
set_option linter.unusedVariables false
set_option linter.unusedSimpArgs false
set_option maxHeartbeats 2000000
/-- Steps that belong to the one ahead of them. -/
structure MP (h : List UInt8) (mods : List ApiStep) : Prop where
  prev : ∀ j, j < mods.length → (if j = 0 then h else nm mods (j - 1)) ∈ aft (nm mods j)
  once : ∀ q j, q < j → j < mods.length → nm mods j ≠ nBy → nm mods q ≠ nm mods j
theorem aft_addE {p n : List UInt8} (h : p ∈ aft n) (hp : p = nAddE ∨ p = nTo ∨ p = nFrom) : n = nTo ∨ n = nFrom := by
  rcases aft_cases (fun e => by rw [e] at h; cases h) with e | e | e | e | e | e
  · rw [e] at h
    rcases hp with rfl | rfl | rfl <;> exact absurd h (by decide)
  · rw [e] at h
    rcases hp with rfl | rfl | rfl <;> exact absurd h (by decide)
  · rw [e] at h
    rcases hp with rfl | rfl | rfl <;> exact absurd h (by decide)
  · rw [e] at h
    rcases hp with rfl | rfl | rfl <;> exact absurd h (by decide)
  · exact .inl e
  · exact .inr e
theorem MP.addE {mods : List ApiStep} (h : MP nAddE mods) : ∀ j, j < mods.length → nm mods j = nTo ∨ nm mods j = nFrom := by
  intro j
  induction j with
  | zero => intro hj; exact aft_addE (h.prev 0 hj) (.inl rfl)
  | succ j ih =>
    intro hj
    have := h.prev (j + 1) hj
    rw [if_neg (by omega)] at this
    exact aft_addE this (.inr (ih (by omega)))
theorem cnt_two (j : Nat) (a b : Int) : List.count (j : Int) [a, b] = List.count (j : Int) ([a, -1] ++ [b]) := by
  have : ((-1 : Int) == (j : Int)) = false := by
    rw [beq_eq_false_iff_ne]; omega
  simp [List.count_cons, this]
theorem cnt_two' (j : Nat) (a b : Int) : List.count (j : Int) [b, a] = List.count (j : Int) ([-1, a] ++ [b]) := by
  have : ((-1 : Int) == (j : Int)) = false := by
    rw [beq_eq_false_iff_ne]; omega
  simp [List.count_cons, this]
  omega
section
variable {N : Nat} (f1 : BF) (f2 : OCM → ApiStep → List ApiStep → Option (ApiIns × OCM)) (f3 : OCM → List ApiArg → Option (List Int × OCM)) (f4 : OCM → ApiStep → List ApiStep → Option (ApiIns × OCM)) (f5 : OCM → List ApiStep → Int → Option (List Int × OCM)) (f6 : OCM → ApiStep → Option (Int × OCM)) (f7 : OCM → List ApiStep → Option (ApiIns × OCM)) (f8 : OCM → ApiStep → List ApiStep → Option (ApiIns × OCM)) (f9 : OCM → ApiStep → List ApiStep → Option (ApiIns × OCM))
theorem order_sat (K : Nat) (hK : 300 < K) (mods : List ApiStep) (hA : ∀ y ∈ mods, y.Args.length ≤ 12) (hl : mods.length ≤ 150) (m : OCM)
    (h5 : ∀ n : Nat, n ≤ 200 → Sat (f5 m mods (n : Int)) fun r => Res m (nS mods) r.1 r.2 ∧ r.1.length = n) :
    Sat (cm_order.b f1 f2 f3 f4 f5 f6 f7 f8 f9 K m mods) fun r => Res m (nS mods) r.1.Kids r.2 ∧ r.1.Kids.length ≤ 200 := by
  unfold cm_order.b
  obtain ⟨n, hn, hn2⟩ : ∃ n : Nat, (if (mods.length : Int) < 1 then (1 : Int) else (mods.length : Int)) = (n : Int) ∧ n ≤ 200 := by
    by_cases h : (mods.length : Int) < 1
    · rw [if_pos h]; exact ⟨1, rfl, by omega⟩
    · rw [if_neg h]; exact ⟨mods.length, rfl, by omega⟩
  rw [hn]
  refine Sat.bind (h5 n hn2) fun t ht => ?_
  obtain ⟨hr, hlen⟩ := ht
  have key : ∀ (k i : Nat) (l5 : List Int), i ≤ n → n - i < k → l5.length = i → Sat (cm_order.l1 f1 f2 f3 f4 f5 f6 f7 f8 f9 K k l5 36 [] [] ⟨[], [], []⟩ t.1 false t.2.out mods (t.1.length : Int) (i : Int)) fun r => Res m (nS mods) r.1.Kids r.2 ∧ r.1.Kids.length ≤ 200 := by
    intro k
    induction k with
    | zero => intro i l5 h0 h1; omega
    | succ k ih =>
      intro i l5 h0 h1 hl5
      rw [cm_order.l1]
      refine Sat.ite (fun h => ?_) (fun _ => Sat.some ⟨hr, by show t.1.length ≤ 200; omega⟩)
      have hlt : (i : Int) < (t.1.length : Int) := by simpa using h
      have nxt : ∀ v : Int, Sat (cm_order.j1 f1 f2 f3 f4 f5 f6 f7 f8 f9 (cm_order.l1 f1 f2 f3 f4 f5 f6 f7 f8 f9 K k) K t.2.out l5 36 [] [] ⟨[], [], []⟩ t.1 false mods v (t.1.length : Int) (i : Int)) fun r => Res m (nS mods) r.1.Kids r.2 ∧ r.1.Kids.length ≤ 200 := by
        intro v
        unfold cm_order.j1
        refine Sat.chk (by simp only [List.length_cons, List.length_nil]; omega) ?_
        rw [W_in (by omega) (by omega), show (i : Int) + 1 = ((i + 1 : Nat) : Int) by omega]
        exact ih (i + 1) _ (by omega) (by omega) (by simp [hl5])
      refine Sat.ite (fun hj => ?_) (fun _ => nxt 0)
      have hj' : (i : Int) < (mods.length : Int) := by simpa using hj
      refine Sat.chk ⟨by omega, hj'⟩ ?_
      rw [Int.toNat_natCast]
      have hmem := hA _ (getD_mem mods i (by omega))
      have hb : 0 < ((List.getD mods i default).Args.length : Int) → (0 : Int) ≤ IntKind.wrap .i64 (((List.getD mods i default).Args.length : Int) - 1) ∧ IntKind.wrap .i64 (((List.getD mods i default).Args.length : Int) - 1) < ((List.getD mods i default).Args.length : Int) := by
        intro h
        rw [W_in (by omega) (by omega)]; omega
      refine Sat.chk (fun h => hb (by simpa using h)) (Sat.chk (fun h => ?_) (Sat.ite (fun _ => nxt 1) (fun _ => nxt 0)))
      simp only [Bool.and_eq_true, decide_eq_true_eq] at h
      exact hb h.1
  exact key K 0 [] (by omega) (by omega) rfl
theorem repeat_sat (hB : HB f1 N) (K : Nat) (hK : 300 < K) (s : ApiStep) (hs : StOk s) (hsn : s.Name = nRepeat) (mods : List ApiStep) (hm : ∀ y ∈ mods, StOk y) (hp : MP nRepeat mods) (hl : mods.length ≤ 150) (hN : nA s.Args + nS mods ≤ N) (m : OCM) (hmo : m.out.length + nA s.Args + nS mods ≤ 5000) :
    Sat (cm_repeat.b f1 f2 f3 f4 f5 f6 f7 f8 f9 K m s mods) fun r => Res m (nA s.Args + nS mods) r.1.Kids r.2 ∧ r.1.Kids.length ≤ 200 := by
  unfold cm_repeat.b
  have hf := hs.fit
  rw [Fit, hsn] at hf
  have hlen : 1 ≤ s.Args.length := hf.1
  have hk3 := hf.2 rfl
  refine Sat.chk ⟨by omega, by omega⟩ ?_
  have hn0 := nA_get s.Args 0 (by omega)
  refine Sat.bind (hB _ (hs.arg 0 (by omega) (hk3 _ (getD_mem _ 0 (by omega)))) (by omega) m (by omega)) fun t ht => ?_
  have key : ∀ (k j : Nat) (b : Bool) (l6 l5 : List Int) (m1 : OCM) (k0 u : Int), l6 = [k0, u] → l5.length = 1 → (u = -1 ∨ ∃ q, q < j ∧ nm mods q = nUntil) → j ≤ mods.length → mods.length - j < k → Res m (nA s.Args + nS (mods.take j)) l6 m1 →
      Sat (cm_repeat.l1 f1 f2 f3 f4 f5 f6 f7 f8 f9 K k 42 [] [] ⟨[], [], []⟩ b l6 m1.out l5 mods (mods.length : Int) (j : Int)) fun r => Res m (nA s.Args + nS mods) r.1.Kids r.2 ∧ r.1.Kids.length ≤ 200 := by
    intro k
    induction k with
    | zero => intro j b l6 l5 m1 k0 u h6 h5 hu h0 h1; omega
    | succ k ih =>
      intro j b l6 l5 m1 k0 u h6 h5 hu h0 h1 hr
      have hrl := hr.len
      have htl := nS_take_le mods j
      rw [cm_repeat.l1]
      refine Sat.ite (fun h => ?_) (fun _ => Sat.some ⟨hr.mono (by omega), by show l6.length ≤ 200; rw [h6]; simp⟩)
      have hlt : (j : Int) < (mods.length : Int) := by simpa using h
      refine Sat.chk ⟨by omega, hlt⟩ ?_
      rw [Int.toNat_natCast]
      have hmem := getD_mem mods j (by omega)
      have hy := hm _ hmem
      have hn1 := nS_get mods j (by omega)
      have ht1 := nS_take mods j (by omega)
      have htl1 := nS_take_le mods (j + 1)
      have he := nS1_eq (List.getD mods j default)
      have nxt : ∀ (b' : Bool) (l6' l5' : List Int) (m2 : OCM) (k0 u' : Int), l6' = [k0, u'] → l5'.length = 1 → (u' = -1 ∨ ∃ q, q < j + 1 ∧ nm mods q = nUntil) → Res m (nA s.Args + nS (mods.take (j + 1))) l6' m2 → Sat (cm_repeat.j1 f1 f2 f3 f4 f5 f6 f7 f8 f9 (cm_repeat.l1 f1 f2 f3 f4 f5 f6 f7 f8 f9 K k) K 42 [] [] ⟨[], [], []⟩ b' l6' m2.out l5' mods (mods.length : Int) (j : Int)) fun r => Res m (nA s.Args + nS mods) r.1.Kids r.2 ∧ r.1.Kids.length ≤ 200 := by
        intro b' l6' l5' m2 k0 u' a1 a2 a3 a4
        unfold cm_repeat.j1
        rw [W_in (by omega) (by omega), show (j : Int) + 1 = ((j + 1 : Nat) : Int) by omega]
        exact ih (j + 1) b' l6' l5' m2 k0 u' a1 a2 a3 (by omega) (by omega) a4
      have hu' : u = -1 ∨ ∃ q, q < j + 1 ∧ nm mods q = nUntil := hu.imp id fun ⟨q, hq, hq2⟩ => ⟨q, by omega, hq2⟩
      have hstay : Res m (nA s.Args + nS (mods.take (j + 1))) l6 m1 := hr.mono (by omega)
      refine Sat.ite (fun hti => ?_) (fun _ => Sat.ite (fun hun => ?_) (fun _ => ?_))
      · have hti' : (List.getD mods j default).Name = nTimes := by simpa using hti
        have hf1 := hy.fit.1
        rw [hti'] at hf1
        have hl1 : 1 ≤ (List.getD mods j default).Args.length := hf1
        refine Sat.chk ⟨by omega, by omega⟩ (Sat.chk ⟨by omega, by omega⟩ ?_)
        exact nxt b l6 _ m1 k0 u h6 (by simpa using h5) hu' hstay
      · have hun' : (List.getD mods j default).Name = nUntil := by simpa using hun
        have hfy := hy.fit
        rw [Fit, hun'] at hfy
        have hl1 : 1 ≤ (List.getD mods j default).Args.length := hfy.1
        refine Sat.chk ⟨by omega, by omega⟩ ?_
        have hk3y := hfy.2 rfl _ (getD_mem _ 0 (by omega))
        have hn2 := nA_get (List.getD mods j default).Args 0 (by omega)
        have hu1 : u = -1 := by
          rcases hu with hu | ⟨q, hq, hq2⟩
          · exact hu
          · exact absurd (hq2.trans hun'.symm) (hp.once q j hq (by omega) (by show (List.getD mods j default).Name ≠ nBy; rw [hun']; decide))
        subst hu1
        refine Sat.bind (hB _ (hy.arg 0 (by omega) hk3y) (by show nS (List.getD (List.getD mods j default).Args 0 default).T ≤ N; omega) m1 (by show m1.out.length + nS (List.getD (List.getD mods j default).Args 0 default).T ≤ 5000; omega)) fun t2 ht2 => ?_
        refine Sat.chk ⟨by omega, by rw [h6]; simp⟩ ?_
        have h7 : List.set l6 (Int.toNat 1) t2.1 = [k0, t2.1] := by rw [h6]; rfl
        rw [h7]
        refine nxt b [k0, t2.1] l5 t2.2 k0 t2.1 rfl h5 (.inr ⟨j, by omega, hun'⟩) ?_
        have h8 := hr.seq ht2
        rw [h6] at h8
        refine (h8.congr (fun q => cnt_two q k0 t2.1) fun x hx => ?_).mono (by rw [ht1, he]; omega)
        right
        simp only [List.mem_cons, List.not_mem_nil, or_false, List.cons_append, List.nil_append] at hx ⊢
        rcases hx with hx | hx
        · exact .inl hx
        · exact .inr (.inr hx)
      · exact nxt true l6 l5 m1 k0 u h6 h5 hu' hstay
  refine key K 0 false [t.1, -1] [-1] t.2 t.1 (-1) rfl rfl (.inl rfl) (by omega) (by omega) ?_
  have h8 := ht.seq (Res.none t.2 0 (ks := [-1]) fun k hk => by simpa using hk)
  have e0 : nS (mods.take 0) = 0 := by simp [nS]
  exact h8.mono (by rw [e0]; show nS (List.getD s.Args 0 default).T + 0 ≤ _; omega)
theorem addE_sat (hB : HB f1 N) (K : Nat) (hK : 300 < K) (s : ApiStep) (hs : StOk s) (mods : List ApiStep) (hm : ∀ y ∈ mods, StOk y) (hp : MP nAddE mods) (hl : mods.length ≤ 150) (hN : nS mods ≤ N) (m : OCM) (hmo : m.out.length + nS mods ≤ 5000) :
    Sat (cm_addE.b f1 f2 f3 f4 f5 f6 f7 f8 f9 K m s mods) fun r => Res m (nA s.Args + nS mods) r.1.Kids r.2 ∧ r.1.Kids.length ≤ 200 := by
  unfold cm_addE.b
  have hlen := hs.args
  refine Sat.bind (names_sat K hK s.Args (by omega)) fun t1 _ => ?_
  have key : ∀ (k j : Nat) (m1 : OCM) (x0 x1 : Int), (x0 = -1 ∨ ∃ q, q < j ∧ nm mods q = nTo) → (x1 = -1 ∨ ∃ q, q < j ∧ nm mods q = nFrom) → j ≤ mods.length → mods.length - j < k → Res m (nS (mods.take j)) [x0, x1] m1 →
      Sat (cm_addE.l1 f1 f2 f3 f4 f5 f6 f7 f8 f9 K k 5 t1 [] [] ⟨[], [], []⟩ false [x0, x1] m1.out mods (mods.length : Int) (j : Int)) fun r => Res m (nA s.Args + nS mods) r.1.Kids r.2 ∧ r.1.Kids.length ≤ 200 := by
    intro k
    induction k with
    | zero => intro j m1 x0 x1 hx0 hx1 h0 h1; omega
    | succ k ih =>
      intro j m1 x0 x1 hx0 hx1 h0 h1 hr
      have hrl := hr.len
      have htl := nS_take_le mods j
      rw [cm_addE.l1]
      refine Sat.ite (fun h => ?_) (fun _ => Sat.some ⟨hr.mono (by omega), by simp⟩)
      have hlt : (j : Int) < (mods.length : Int) := by simpa using h
      refine Sat.chk ⟨by omega, hlt⟩ ?_
      rw [Int.toNat_natCast]
      have hmem := getD_mem mods j (by omega)
      have hy := hm _ hmem
      have hn1 := nS_get mods j (by omega)
      have ht1 := nS_take mods j (by omega)
      have htl1 := nS_take_le mods (j + 1)
      have he := nS1_eq (List.getD mods j default)
      have hname : (List.getD mods j default).Name = nTo ∨ (List.getD mods j default).Name = nFrom := hp.addE j (by omega)
      have hfy := hy.fit
      have hl1 : 1 ≤ (List.getD mods j default).Args.length := by
        have := hfy.1
        rcases hname with e | e
        · rw [e] at this; exact this
        · rw [e] at this; exact this
      have hk3 : (List.getD (List.getD mods j default).Args 0 default).Kind = 3 := by
        have := hfy.2
        rcases hname with e | e
        · rw [e] at this; exact this rfl _ (getD_mem _ 0 (by omega))
        · rw [e] at this; exact this rfl _ (getD_mem _ 0 (by omega))
      have hn2 := nA_get (List.getD mods j default).Args 0 (by omega)
      refine Sat.chk ⟨by omega, by omega⟩ ?_
      refine Sat.bind (hB _ (hy.arg 0 (by omega) hk3) (by show nS (List.getD (List.getD mods j default).Args 0 default).T ≤ N; omega) m1 (by show m1.out.length + nS (List.getD (List.getD mods j default).Args 0 default).T ≤ 5000; omega)) fun t2 ht2 => ?_
      have h8 := hr.seq ht2
      have up : ∀ {x : Int} {c : List UInt8}, (x = -1 ∨ ∃ q, q < j ∧ nm mods q = c) → (x = -1 ∨ ∃ q, q < j + 1 ∧ nm mods q = c) := fun h => h.imp id fun ⟨q, hq, hq2⟩ => ⟨q, by omega, hq2⟩
      have no : ∀ {x : Int} {c : List UInt8}, c ≠ nBy → (List.getD mods j default).Name = c → (x = -1 ∨ ∃ q, q < j ∧ nm mods q = c) → x = -1 := by
        intro x c hc hn hx
        rcases hx with hx | ⟨q, hq, hq2⟩
        · exact hx
        · exact absurd (hq2.trans hn.symm) (hp.once q j hq (by omega) (by show (List.getD mods j default).Name ≠ nBy; rw [hn]; exact hc))
      refine Sat.ite (fun hto => ?_) (fun hto => ?_)
      · have hto' : (List.getD mods j default).Name = nTo := by simpa using hto
        refine Sat.chk ⟨by omega, by simp⟩ ?_
        have hx := no (by decide) hto' hx0
        subst hx
        have h7 : List.set [(-1 : Int), x1] (Int.toNat 0) t2.1 = [t2.1, x1] := rfl
        rw [h7]
        unfold cm_addE.j1
        rw [W_in (by omega) (by omega), show (j : Int) + 1 = ((j + 1 : Nat) : Int) by omega]
        refine ih (j + 1) t2.2 t2.1 x1 (.inr ⟨j, by omega, hto'⟩) (up hx1) (by omega) (by omega) ?_
        refine (h8.congr (fun q => cnt_two' q x1 t2.1) fun x hx => ?_).mono (by rw [ht1, he]; omega)
        right
        simp only [List.mem_cons, List.not_mem_nil, or_false, List.cons_append, List.nil_append] at hx ⊢
        rcases hx with hx | hx
        · exact .inr (.inr hx)
        · exact .inr (.inl hx)
      · have hto' : ¬ (List.getD mods j default).Name = nTo := by simpa using hto
        have hfr : (List.getD mods j default).Name = nFrom := hname.resolve_left hto'
        refine Sat.chk ⟨by omega, by simp⟩ ?_
        have hx := no (by decide) hfr hx1
        subst hx
        have h7 : List.set [x0, (-1 : Int)] (Int.toNat 1) t2.1 = [x0, t2.1] := rfl
        rw [h7]
        unfold cm_addE.j1
        rw [W_in (by omega) (by omega), show (j : Int) + 1 = ((j + 1 : Nat) : Int) by omega]
        refine ih (j + 1) t2.2 x0 t2.1 (up hx0) (.inr ⟨j, by omega, hfr⟩) (by omega) (by omega) ?_
        refine (h8.congr (fun q => cnt_two q x0 t2.1) fun x hx => ?_).mono (by rw [ht1, he]; omega)
        right
        simp only [List.mem_cons, List.not_mem_nil, or_false, List.cons_append, List.nil_append] at hx ⊢
        rcases hx with hx | hx
        · exact .inl hx
        · exact .inr (.inr hx)
  exact key K 0 m (-1) (-1) (.inl rfl) (.inl rfl) (by omega) (by omega) (Res.none m _ fun k hk => by simpa using hk)
end
end Go.Proofs.Ytbjbgodcenopnaa
