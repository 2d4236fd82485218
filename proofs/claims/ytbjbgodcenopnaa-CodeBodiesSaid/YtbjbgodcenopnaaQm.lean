/- Plain law of code.Compile: the maker is told, and each body that it makes belongs to one instruction. -/
import Derived.Test.YtbjbgodcenopnaaQo
namespace Go.Proofs.Ytbjbgodcenopnaa
set_option linter.unusedVariables false
set_option linter.unusedSimpArgs false
set_option maxHeartbeats 2000000
theorem names_sat (K : Nat) (hK : 300 < K) (l : List ApiArg) (hl : l.length ≤ 200) : Sat (code_names.f K l) fun _ => True := by
  have key : ∀ (k : Nat) (acc : List (List UInt8)) (i : Int), 0 ≤ i → i ≤ (l.length : Int) → (acc.length : Int) ≤ i → (l.length : Int) - i < k → Sat (code_names.l1 K k acc l (l.length : Int) i) fun _ => True := by
    intro k
    induction k with
    | zero => intro acc i h0 h1 h2 h3; omega
    | succ k ih =>
      intro acc i h0 h1 h2 h3
      rw [code_names.l1]
      refine Sat.ite (fun h => ?_) (fun _ => Sat.some trivial)
      have hi : i < (l.length : Int) := by simpa using h
      refine Sat.chk ⟨h0, hi⟩ (Sat.chk (by simp only [List.length_cons, List.length_nil]; omega) ?_)
      rw [W_in (by omega) (by omega)]
      exact ih _ (i + 1) (by omega) (by omega) (by simp only [List.length_append, List.length_cons, List.length_nil]; omega) (by omega)
  unfold code_names.f
  exact key K [] 0 (by omega) (by omega) (by simp) (by omega)
theorem numbers_sat (K : Nat) (hK : 300 < K) (l : List ApiArg) (hl : l.length ≤ 200) : Sat (code_numbers.f K l) fun _ => True := by
  have key : ∀ (k : Nat) (acc : List Int) (i : Int), 0 ≤ i → i ≤ (l.length : Int) → (acc.length : Int) ≤ i → (l.length : Int) - i < k → Sat (code_numbers.l1 K k acc l (l.length : Int) i) fun _ => True := by
    intro k
    induction k with
    | zero => intro acc i h0 h1 h2 h3; omega
    | succ k ih =>
      intro acc i h0 h1 h2 h3
      rw [code_numbers.l1]
      refine Sat.ite (fun h => ?_) (fun _ => Sat.some trivial)
      have hi : i < (l.length : Int) := by simpa using h
      refine Sat.chk ⟨h0, hi⟩ (Sat.chk (by simp only [List.length_cons, List.length_nil]; omega) ?_)
      rw [W_in (by omega) (by omega)]
      exact ih _ (i + 1) (by omega) (by omega) (by simp only [List.length_append, List.length_cons, List.length_nil]; omega) (by omega)
  unfold code_numbers.f
  exact key K [] 0 (by omega) (by omega) (by simp) (by omega)
theorem wL_len : ∀ l : List ApiValue, l.length ≤ wL l
  | [] => by simp [wL]
  | x :: r => by
    have := wL_len r
    have := wV_eq x
    simp only [wL, List.length_cons]; omega
theorem wL_get : ∀ (l : List ApiValue) (i : Nat), i < l.length → wV (List.getD l i default) ≤ wL l
  | [], i, h => by simp at h
  | x :: r, 0, _ => by simp only [wL, List.getD_cons_zero]; omega
  | x :: r, i + 1, h => by have := wL_get r i (by simpa using h); simp only [wL, List.getD_cons_succ]; omega
theorem copy_sat : ∀ (n : Nat) (v : ApiValue) (K : Nat), wV v ≤ n → n ≤ 2000 → n + 3000 ≤ K → Sat (val_Copy.f K v) fun _ => True := by
  intro n
  induction n with
  | zero => intro v K h; have := wV_eq v; omega
  | succ n ih =>
    intro v K h hn hK
    obtain ⟨K, rfl⟩ : ∃ q, K = q + 1 := ⟨K - 1, by omega⟩
    have hv := wV_eq v
    have hl := wL_len v.L
    rw [val_Copy.f, val_Copy.b]
    refine Sat.chk ⟨by omega, by omega⟩ ?_
    have key : ∀ (k : Nat) (l3 : List ApiValue) (i : Int), l3.length = v.L.length → 0 ≤ i → i ≤ (v.L.length : Int) → (v.L.length : Int) - i < k → Sat (val_Copy.l1 (val_Copy.f K) K k l3 v v.L (v.L.length : Int) i) fun _ => True := by
      intro k
      induction k with
      | zero => intro l3 i h3 h0 h1 h2; omega
      | succ k ihk =>
        intro l3 i h3 h0 h1 h2
        rw [val_Copy.l1]
        refine Sat.ite (fun hh => ?_) (fun _ => by unfold val_Copy.j1; exact Sat.some trivial)
        have hi : i < (v.L.length : Int) := by simpa using hh
        refine Sat.chk ⟨h0, hi⟩ ?_
        have hw := wL_get v.L i.toNat (by omega)
        refine Sat.bind (ih _ K (by omega) (by omega) (by omega)) fun t _ => Sat.chk ⟨h0, by omega⟩ ?_
        rw [W_in (by omega) (by omega)]
        exact ihk _ (i + 1) (by simpa using h3) (by omega) (by omega) (by omega)
    exact key K _ 0 (by simp) (by omega) (by omega) (by omega)
theorem values_sat (K : Nat) (hK : 6000 < K) (l : List ApiArg) (hl : l.length ≤ 200) (hw : ∀ a ∈ l, wV a.V ≤ 1600) : Sat (code_values.f K l) fun _ => True := by
  have key : ∀ (k : Nat) (acc : List ApiValue) (i : Int), 0 ≤ i → i ≤ (l.length : Int) → (acc.length : Int) ≤ i → (l.length : Int) - i < k → Sat (code_values.l1 K k acc l (l.length : Int) i) fun _ => True := by
    intro k
    induction k with
    | zero => intro acc i h0 h1 h2 h3; omega
    | succ k ih =>
      intro acc i h0 h1 h2 h3
      rw [code_values.l1]
      refine Sat.ite (fun h => ?_) (fun _ => Sat.some trivial)
      have hi : i < (l.length : Int) := by simpa using h
      refine Sat.chk ⟨h0, hi⟩ (Sat.bind (copy_sat 1600 _ K (hw _ (getD_mem l i.toNat (by omega))) (by omega) (by omega)) fun t _ => Sat.chk (by simp only [List.length_cons, List.length_nil]; omega) ?_)
      rw [W_in (by omega) (by omega)]
      exact ih _ (i + 1) (by omega) (by omega) (by simp only [List.length_append, List.length_cons, List.length_nil]; omega) (by omega)
  unfold code_values.f
  exact key K [] 0 (by omega) (by omega) (by simp) (by omega)
theorem cpred_sat (K : Nat) (hK : 6000 < K) (a : ApiArg) (hw : wV a.V ≤ 1600) : Sat (code_pred.f K a) fun _ => True := by
  unfold code_pred.f
  exact Sat.ite (fun _ => Sat.bind (copy_sat 1600 _ K hw (by omega) (by omega)) fun t _ => Sat.some trivial) (fun _ => Sat.some trivial)
theorem nA_take : ∀ (l : List ApiArg) (j : Nat), j < l.length → nA (l.take (j + 1)) = nA (l.take j) + nS (List.getD l j default).T
  | [], j, h => by simp at h
  | ⟨_, _, _, _⟩ :: r, 0, _ => by simp [nA, nA1]
  | x :: r, j + 1, h => by
    have := nA_take r j (by simpa using h)
    simp only [List.take_succ_cons, nA, List.getD_cons_succ, this]; omega
theorem nA_take_le : ∀ (l : List ApiArg) (j : Nat), nA (l.take j) ≤ nA l
  | [], j => by simp
  | x :: r, 0 => by simp [nA]
  | x :: r, j + 1 => by have := nA_take_le r j; simp only [List.take_succ_cons, nA]; omega
theorem nS_take : ∀ (l : List ApiStep) (j : Nat), j < l.length → nS (l.take (j + 1)) = nS (l.take j) + nS1 (List.getD l j default)
  | [], j, h => by simp at h
  | x :: r, 0, _ => by simp [nS]
  | x :: r, j + 1, h => by
    have := nS_take r j (by simpa using h)
    simp only [List.take_succ_cons, nS, List.getD_cons_succ, this]; omega
theorem nS_take_le : ∀ (l : List ApiStep) (j : Nat), nS (l.take j) ≤ nS l
  | [], j => by simp
  | x :: r, 0 => by simp [nS]
  | x :: r, j + 1 => by have := nS_take_le r j; simp only [List.take_succ_cons, nS]; omega
/-- Steps that make a body. -/
def Tr (T : List ApiStep) : Prop := T ≠ [] ∧ GS T ∧ T.length ≤ 150 ∧ (∀ i, i < T.length → PlAt T i) ∧ CS T
theorem tr_of {a : ApiArg} (h3 : a.Kind = 3) (hg : GA1 a) (hc : CA1 a) : Tr a.T := by
  obtain ⟨_, _, g1, g2, g3⟩ := hg.split
  cases a
  simp only [CA1] at hc
  exact ⟨g1 h3, g3, g2, hc h3⟩
/-- A step that may be, as it is parsed. -/
structure StOk (s : ApiStep) : Prop where
  g : GS1 s
  c : CS1 s
theorem StOk.args {s : ApiStep} (h : StOk s) : s.Args.length ≤ 12 := h.g.split.1
theorem StOk.wv {s : ApiStep} (h : StOk s) : ∀ a ∈ s.Args, wV a.V ≤ 1600 := getD_all fun i hi => (GA_get _ i h.g.split.2 hi).split.1
theorem StOk.fit {s : ApiStep} (h : StOk s) : Fit s := h.c.split.1.2
theorem StOk.arg {s : ApiStep} (h : StOk s) (j : Nat) (hj : j < s.Args.length) (h3 : (List.getD s.Args j default).Kind = 3) : Tr (List.getD s.Args j default).T :=
  tr_of h3 (GA_get _ j h.g.split.2 hj) (CA_get _ j h.c.split.2 hj)
abbrev BF := OCM → List ApiStep → Option (Int × OCM)
def HB (F : BF) (N : Nat) : Prop := ∀ T, Tr T → nS T ≤ N → ∀ m : OCM, m.out.length + nS T ≤ 5000 → Sat (F m T) fun r => Res m (nS T) [r.1] r.2
section
variable {N : Nat} (f1 : BF) (f2 : OCM → ApiStep → List ApiStep → Option (ApiIns × OCM)) (f3 : OCM → List ApiArg → Option (List Int × OCM)) (f4 : OCM → ApiStep → List ApiStep → Option (ApiIns × OCM)) (f5 : OCM → List ApiStep → Int → Option (List Int × OCM)) (f6 : OCM → ApiStep → Option (Int × OCM)) (f7 : OCM → List ApiStep → Option (ApiIns × OCM)) (f8 : OCM → ApiStep → List ApiStep → Option (ApiIns × OCM)) (f9 : OCM → ApiStep → List ApiStep → Option (ApiIns × OCM))
theorem kids_sat (hB : HB f1 N) (K : Nat) (hK : 300 < K) (args : List ApiArg) (hA : ∀ a ∈ args, Tr a.T) (hN : nA args ≤ N) (hl : args.length ≤ 12) (m : OCM) (hm : m.out.length + nA args ≤ 5000) :
    Sat (cm_kids.b f1 f2 f3 f4 f5 f6 f7 f8 f9 K m args) fun r => Res m (nA args) r.1 r.2 ∧ r.1.length ≤ 200 := by
  have key : ∀ (k j : Nat) (ks : List Int) (m1 : OCM), j ≤ args.length → args.length - j < k → ks.length = j → Res m (nA (args.take j)) ks m1 → Sat (cm_kids.l1 f1 f2 f3 f4 f5 f6 f7 f8 f9 K k ks m1.out args (args.length : Int) (j : Int)) fun r => Res m (nA args) r.1 r.2 ∧ r.1.length ≤ 200 := by
    intro k
    induction k with
    | zero => intro j ks m1 h0 h1; omega
    | succ k ih =>
      intro j ks m1 h0 h1 hks hr
      have hrl := hr.len
      have htl := nA_take_le args j
      rw [cm_kids.l1]
      refine Sat.ite (fun h => ?_) (fun h => Sat.some ⟨hr.mono htl, by show ks.length ≤ 200; omega⟩)
      have hlt : (j : Int) < (args.length : Int) := by simpa using h
      refine Sat.chk ⟨by omega, hlt⟩ ?_
      rw [Int.toNat_natCast]
      have hmem := getD_mem args j (by omega)
      have hn := nA_get args j (by omega)
      have ht := nA_take args j (by omega)
      have htl1 := nA_take_le args (j + 1)
      refine Sat.bind (hB _ (hA _ hmem) (by omega) m1 (by omega)) fun t htt => Sat.chk (by simp only [List.length_cons, List.length_nil]; omega) ?_
      rw [W_in (by omega) (by omega), show (j : Int) + 1 = ((j + 1 : Nat) : Int) by omega]
      exact ih (j + 1) _ t.2 (by omega) (by omega) (by simp [hks]) (by rw [ht]; exact hr.seq htt)
  unfold cm_kids.b
  exact key K 0 [] m (by omega) (by omega) rfl (Res.none m _ fun k hk => by cases hk)
theorem by_sat (hB : HB f1 N) (K : Nat) (hK : 6000 < K) (y : ApiStep) (hy : StOk y) (hN : nA y.Args ≤ N) (m : OCM) (hm : m.out.length + nS1 y ≤ 5000) :
    Sat (cm_by.b f1 f2 f3 f4 f5 f6 f7 f8 f9 K m y) fun r => Res m (nS1 y) [r.1] r.2 := by
  unfold cm_by.b
  have hlen := hy.args
  have h1 := nS1_eq y
  have hc : decide ((y.Args.length : Int) = 0) = false → (0 : Int) ≤ 0 ∧ (0 : Int) < (y.Args.length : Int) := by
    intro h
    have : ¬ (y.Args.length : Int) = 0 := by simpa using h
    omega
  refine Sat.chk hc ?_
  refine Sat.ite (fun _ => Sat.some (Res.none m _ fun k hk => by simpa using hk)) (fun h => ?_)
  simp only [Bool.or_eq_false_iff] at h
  have h0 := hc h.1
  refine Sat.chk h0 ?_
  refine Sat.ite (fun h3 => ?_) (fun _ => ?_)
  · have h3' : (List.getD y.Args 0 default).Kind = 3 := by simpa using h3
    have hn := nA_get y.Args 0 (by omega)
    exact Sat.bind (hB _ (hy.arg 0 (by omega) h3') (by omega) m (by show _ + nS (List.getD y.Args 0 default).T ≤ _; omega)) fun t ht => Sat.some (ht.mono (by show nS (List.getD y.Args 0 default).T ≤ _; omega))
  · refine Sat.chk ⟨by omega, by omega, by omega⟩ ?_
    refine Sat.bind (names_sat K (by omega) _ (by simp only [List.length_take, List.length_drop]; omega)) fun t2 _ => ?_
    refine Sat.chk (by simp only [List.length_cons, List.length_nil]; omega) (Sat.some ?_)
    refine ⟨[[⟨22, t2, [], [], ⟨[], [], []⟩, [], false⟩]], rfl, ?_, by simp only [List.length_cons, List.length_nil]; omega⟩
    have e : IntKind.wrap .i64 (((m.out ++ [[(⟨22, t2, [], [], ⟨[], [], []⟩, [], false⟩ : ApiIns)]]).length : Int) - 1) = (m.out.length : Int) := by
      rw [W_in (by simp only [List.length_append, List.length_cons, List.length_nil]; omega) (by simp only [List.length_append, List.length_cons, List.length_nil]; omega)]
      simp only [List.length_append, List.length_cons, List.length_nil]; omega
    show Own m.out.length [_] _
    rw [e]
    exact Own.body (Own.none fun k hk => by simp [kidsB] at hk) (by simp)
theorem bys_sat (hB : HB f1 N) (K' : Nat) (hK' : 6000 < K') (hf6 : ∀ m y, f6 m y = cm_by.b f1 f2 f3 f4 f5 f6 f7 f8 f9 K' m y ∨ True) (hby : ∀ y, StOk y → nA y.Args ≤ N → ∀ m : OCM, m.out.length + nS1 y ≤ 5000 → Sat (f6 m y) fun r => Res m (nS1 y) [r.1] r.2)
    (K : Nat) (hK : 300 < K) (mods : List ApiStep) (hm : ∀ y ∈ mods, StOk y) (hN : nS mods ≤ N) (n : Nat) (hn : n ≤ 200) (m : OCM) (hmo : m.out.length + nS mods ≤ 5000) :
    Sat (cm_bys.b f1 f2 f3 f4 f5 f6 f7 f8 f9 K m mods (n : Int)) fun r => Res m (nS mods) r.1 r.2 ∧ r.1.length = n := by
  have key : ∀ (k j : Nat) (ks : List Int) (m1 : OCM), j ≤ n → n - j < k → ks.length = j → Res m (nS (mods.take j)) ks m1 → Sat (cm_bys.l1 f1 f2 f3 f4 f5 f6 f7 f8 f9 K k ks m1.out mods (n : Int) (j : Int)) fun r => Res m (nS mods) r.1 r.2 ∧ r.1.length = n := by
    intro k
    induction k with
    | zero => intro j ks m1 h0 h1; omega
    | succ k ih =>
      intro j ks m1 h0 h1 hks hr
      have hrl := hr.len
      have htl := nS_take_le mods j
      rw [cm_bys.l1]
      refine Sat.ite (fun h => ?_) (fun h => Sat.some ⟨hr.mono htl, ?_⟩)
      · have hlt : (j : Int) < (n : Int) := by simpa using h
        have nxt : ∀ (v : Int) (m2 : OCM), Res m (nS (mods.take (j + 1))) (ks ++ [v]) m2 → Sat (cm_bys.j1 f1 f2 f3 f4 f5 f6 f7 f8 f9 (cm_bys.l1 f1 f2 f3 f4 f5 f6 f7 f8 f9 K k) K ks m2.out mods v (n : Int) (j : Int)) fun r => Res m (nS mods) r.1 r.2 ∧ r.1.length = n := by
          intro v m2 h2
          unfold cm_bys.j1
          refine Sat.chk (by simp only [List.length_cons, List.length_nil]; omega) ?_
          rw [W_in (by omega) (by omega), show (j : Int) + 1 = ((j + 1 : Nat) : Int) by omega]
          exact ih (j + 1) _ m2 (by omega) (by omega) (by simp [hks]) h2
        refine Sat.ite (fun hj => ?_) (fun hj => ?_)
        · have hj' : (j : Int) < (mods.length : Int) := by simpa using hj
          refine Sat.chk ⟨by omega, hj'⟩ ?_
          rw [Int.toNat_natCast]
          have hmem := getD_mem mods j (by omega)
          have hn1 := nS_get mods j (by omega)
          have ht := nS_take mods j (by omega)
          have htl1 := nS_take_le mods (j + 1)
          have he := nS1_eq (List.getD mods j default)
          exact Sat.bind (hby _ (hm _ hmem) (by omega) m1 (by omega)) fun t htt => nxt t.1 t.2 (by rw [ht]; exact hr.seq htt)
        · have hj' : ¬ (j : Int) < (mods.length : Int) := by simpa using hj
          refine nxt (-1) m1 ?_
          have e : mods.take (j + 1) = mods.take j := by rw [List.take_of_length_le (by omega), List.take_of_length_le (by omega)]
          rw [e]
          exact (hr.seq (Res.none m1 0 (ks := [-1]) fun k hk => by simpa using hk)).mono (by omega)
      · have hge : ¬ (j : Int) < (n : Int) := by simpa using h
        show ks.length = n
        omega
  unfold cm_bys.b
  exact key K 0 [] m (by omega) (by omega) rfl (Res.none m _ fun k hk => by cases hk)
end
end Go.Proofs.Ytbjbgodcenopnaa
