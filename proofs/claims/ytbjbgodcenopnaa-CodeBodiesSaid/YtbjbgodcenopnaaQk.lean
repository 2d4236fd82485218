/- Plain law of code.Compile: the whole of it. -/
import Derived.Test.YtbjbgodcenopnaaQn
namespace Go.Proofs.Ytbjbgodcenopnaa
set_option linter.unusedVariables false
set_option linter.unusedSimpArgs false
set_option maxHeartbeats 2000000
def otherL : List (List UInt8) := [[104, 97, 115], [105, 115], [108, 105, 109, 105, 116], [115, 107, 105, 112], [114, 97, 110, 103, 101], [111, 117, 116, 86], [105, 110, 86], [98, 111, 116, 104, 86], [100, 101, 100, 117, 112], [103, 114, 111, 117, 112], [103, 114, 111, 117, 112, 67, 111, 117, 110, 116], nOrder, nRepeat, nAddE]
def kind0 (n : List UInt8) : Bool := decide (code_simple.f n = some 0) && decide (code_nested.f n = some 0) && (match code_walk.f n with | some r => !r.2 | none => false) && decide (code_reduce.f n = some 0)
theorem other_names (n : List UInt8) (h : n ∈ names57) (h0 : kind0 n = true) (ha : aft n = []) (ho : n ∉ otherL) : need n = 2 := by
  have key : ∀ n ∈ names57, (!kind0 n || !decide (aft n = []) || decide (n ∈ otherL) || decide (need n = 2)) = true := by decide +kernel
  have := key n h
  simpa [h0, ha, ho] using this
theorem nested_sat (n : List UInt8) : Sat (code_nested.f n) fun t => t ≠ 0 → trv n = true := by
  unfold code_nested.f
  have yes : ∀ {c : List UInt8} {v : Int}, decide (n = c) = true → trv c = true → Sat (some v) fun t => t ≠ 0 → trv n = true := fun {c v} h hc => Sat.some fun _ => by
    have e : n = c := by simpa using h
    rw [e]; exact hc
  refine Sat.ite (fun h => yes h rfl) (fun _ => ?_)
  refine Sat.ite (fun h => yes h rfl) (fun _ => ?_)
  refine Sat.ite (fun h => yes h rfl) (fun _ => ?_)
  refine Sat.ite (fun h => yes h rfl) (fun _ => ?_)
  refine Sat.ite (fun h => yes h rfl) (fun _ => ?_)
  refine Sat.ite (fun h => yes h rfl) (fun _ => ?_)
  refine Sat.ite (fun h => yes h rfl) (fun _ => ?_)
  refine Sat.ite (fun h => yes h rfl) (fun _ => ?_)
  refine Sat.ite (fun h => yes h rfl) (fun _ => Sat.some fun h => absurd rfl h)
theorem simple_tot (n : List UInt8) : ∃ t, code_simple.f n = some t := by
  have : Sat (code_simple.f n) fun _ => True := by
    unfold code_simple.f
    repeat (first | exact Sat.some trivial | refine Sat.ite (fun _ => Sat.some trivial) (fun _ => ?_))
  obtain ⟨t, h, _⟩ := this
  exact ⟨t, h⟩
theorem walk_tot (n : List UInt8) : ∃ t, code_walk.f n = some t := by
  unfold code_walk.f
  repeat' split
  all_goals exact ⟨_, rfl⟩
theorem reduce_tot (n : List UInt8) : ∃ t, code_reduce.f n = some t := by
  unfold code_reduce.f
  repeat' split
  all_goals exact ⟨_, rfl⟩
section
variable {N : Nat} (f1 : BF) (f2 : OCM → ApiStep → List ApiStep → Option (ApiIns × OCM)) (f3 : OCM → List ApiArg → Option (List Int × OCM)) (f4 : OCM → ApiStep → List ApiStep → Option (ApiIns × OCM)) (f5 : OCM → List ApiStep → Int → Option (List Int × OCM)) (f6 : OCM → ApiStep → Option (Int × OCM)) (f7 : OCM → List ApiStep → Option (ApiIns × OCM)) (f8 : OCM → ApiStep → List ApiStep → Option (ApiIns × OCM)) (f9 : OCM → ApiStep → List ApiStep → Option (ApiIns × OCM))
/-- What a maker of instructions promises. -/
def InsP (m : OCM) (s : ApiStep) (mods : List ApiStep) (r : ApiIns × OCM) : Prop := Res m (nA s.Args + nS mods) r.1.Kids r.2 ∧ r.1.Kids.length ≤ 200
theorem other_sat (K : Nat) (hK : 6000 < K) (s : ApiStep) (hs : StOk s) (mods : List ApiStep) (m : OCM)
    (h5 : ∀ n : Nat, n ≤ 200 → Sat (f5 m mods (n : Int)) fun r => Res m (nS mods) r.1 r.2 ∧ r.1.length = n) (h7 : Sat (f7 m mods) fun r => Res m (nS mods) r.1.Kids r.2 ∧ r.1.Kids.length ≤ 200)
    (h8 : s.Name = nRepeat → Sat (f8 m s mods) (InsP m s mods)) (h9 : s.Name = nAddE → Sat (f9 m s mods) (InsP m s mods)) (hd : s.Name ∉ otherL → need s.Name = 2) :
    Sat (cm_other.b f1 f2 f3 f4 f5 f6 f7 f8 f9 K m s mods) (InsP m s mods) := by
  unfold cm_other.b
  have hlen := hs.args
  have hneed := hs.fit.1
  have hwv := hs.wv
  have none : ∀ {x : ApiIns}, x.Kids = [] → InsP m s mods (x, m) := fun h => ⟨Res.none m _ (by rw [h]; intro k hk; cases hk), by rw [h]; simp⟩
  have nm1 : ∀ c : List UInt8, decide (s.Name = c) = true → s.Name = c := fun c h => by simpa using h
  refine Sat.ite (fun h => ?_) (fun n1 => ?_)
  · have e := nm1 _ h
    rw [e] at hneed
    have h1 : 1 ≤ s.Args.length := hneed
    refine Sat.ite (fun _ => Sat.bind (names_sat K (by omega) _ (by omega)) fun t _ => Sat.some (none rfl)) (fun hn => ?_)
    have hne : ¬ (s.Args.length : Int) = 1 := by simpa using hn
    refine Sat.chk ⟨by omega, by omega, by omega⟩ (Sat.bind (names_sat K (by omega) _ (by simp only [List.length_take, List.length_drop]; omega)) fun t _ => ?_)
    refine Sat.chk ⟨by omega, by omega⟩ (Sat.bind (cpred_sat K hK _ (hwv _ (getD_mem _ _ (by show (1 : Nat) < _; omega)))) fun t3 _ => Sat.some (none rfl))
  refine Sat.ite (fun h => ?_) (fun n2 => ?_)
  · have e := nm1 _ h
    rw [e] at hneed
    have h1 : 1 ≤ s.Args.length := hneed
    exact Sat.chk ⟨by omega, by omega⟩ (Sat.bind (cpred_sat K hK _ (hwv _ (getD_mem _ _ (by show (0 : Nat) < _; omega)))) fun t3 _ => Sat.some (none rfl))
  refine Sat.ite (fun h => ?_) (fun n3 => ?_)
  · have e := nm1 _ h
    rw [e] at hneed
    have h1 : 1 ≤ s.Args.length := hneed
    exact Sat.chk ⟨by omega, by omega⟩ (Sat.some (none rfl))
  refine Sat.ite (fun h => ?_) (fun n4 => ?_)
  · have e := nm1 _ h
    rw [e] at hneed
    have h1 : 1 ≤ s.Args.length := hneed
    exact Sat.chk ⟨by omega, by omega⟩ (Sat.some (none rfl))
  refine Sat.ite (fun h => Sat.bind (numbers_sat K (by omega) _ (by omega)) fun t _ => Sat.some (none rfl)) (fun n5 => ?_)
  refine Sat.ite (fun h => Sat.some (none rfl)) (fun n6 => ?_)
  refine Sat.ite (fun h => Sat.some (none rfl)) (fun n7 => ?_)
  refine Sat.ite (fun h => Sat.some (none rfl)) (fun n8 => ?_)
  have fromBys : ∀ {x : ApiIns} {r : List Int × OCM}, Res m (nS mods) r.1 r.2 → x.Kids = r.1 → r.1.length ≤ 200 → InsP m s mods (x, r.2) := fun hr hx hl => by
    refine ⟨?_, by rw [hx]; exact hl⟩
    rw [hx]; exact hr.mono (by omega)
  refine Sat.ite (fun h => Sat.bind (h5 1 (by omega)) fun t ht => Sat.some (fromBys ht.1 rfl (by omega))) (fun n9 => ?_)
  refine Sat.ite (fun h => Sat.bind (h5 2 (by omega)) fun t ht => Sat.some (fromBys ht.1 rfl (by omega))) (fun n10 => ?_)
  refine Sat.ite (fun h => Sat.bind (h5 1 (by omega)) fun t ht => Sat.some (fromBys ht.1 rfl (by omega))) (fun n11 => ?_)
  refine Sat.ite (fun h => Sat.bind h7 fun t ht => Sat.some ⟨ht.1.mono (by omega), ht.2⟩) (fun n12 => ?_)
  refine Sat.ite (fun h => Sat.bind (h8 (nm1 _ h)) fun t ht => Sat.some ht) (fun n13 => ?_)
  refine Sat.ite (fun h => Sat.bind (h9 (nm1 _ h)) fun t ht => Sat.some ht) (fun n14 => ?_)
  have hno : s.Name ∉ otherL := by
    simp only [decide_eq_false_iff_not] at n1 n2 n3 n4 n5 n6 n7 n8 n9 n10 n11 n12 n13 n14
    simp [otherL, n1, n2, n3, n4, n5, n6, n7, n8, n9, n10, n11, n12, n13, n14]
  have h2 := hd hno
  rw [h2] at hneed
  refine Sat.chk (fun _ => ⟨by omega, by omega⟩) ?_
  have last : ∀ (v7 : List ApiArg) (b : Bool), 1 ≤ v7.length → v7.length ≤ 12 → (∀ a ∈ v7, wV a.V ≤ 1600) → Sat (cm_other.j1 f1 f2 f3 f4 f5 f6 f7 f8 f9 K m v7 b) (InsP m s mods) := by
    intro v7 b a1 a2 a3
    unfold cm_other.j1
    refine Sat.chk ⟨by omega, by omega, by omega⟩ (Sat.bind (names_sat K (by omega) _ (by simp only [List.length_take, List.length_drop]; omega)) fun t _ => ?_)
    refine Sat.chk ⟨by omega, by omega, by omega⟩ (Sat.bind (values_sat K hK _ (by simp only [List.length_take, List.length_drop]; omega) fun a ha => a3 a (List.mem_of_mem_drop (List.mem_of_mem_take ha))) fun t3 _ => Sat.some (none rfl))
  refine Sat.ite (fun h3 => ?_) (fun _ => last _ _ (by omega) hlen hwv)
  have h3' : (s.Args.length : Int) = 3 := by simpa using h3
  refine Sat.chk ⟨by omega, by omega, by omega⟩ ?_
  exact last _ _ (by simp only [List.length_take, List.length_drop]; omega) (by simp only [List.length_take, List.length_drop]; omega) fun a ha => hwv a (List.mem_of_mem_drop (List.mem_of_mem_take ha))
theorem ins_sat (K : Nat) (hK : 6000 < K) (s : ApiStep) (hs : StOk s) (ha : aft s.Name = []) (mods : List ApiStep) (m : OCM)
    (h3 : (∀ a ∈ s.Args, Tr a.T) → Sat (f3 m s.Args) fun r => Res m (nA s.Args) r.1 r.2 ∧ r.1.length ≤ 200) (h4 : (s.Name ∉ otherL → need s.Name = 2) → Sat (f4 m s mods) (InsP m s mods)) :
    Sat (cm_ins.b f1 f2 f3 f4 f5 f6 f7 f8 f9 K m s mods) (InsP m s mods) := by
  unfold cm_ins.b
  have hlen := hs.args
  have hwv := hs.wv
  have none : ∀ {x : ApiIns}, x.Kids = [] → InsP m s mods (x, m) := fun h => ⟨Res.none m _ (by rw [h]; intro k hk; cases hk), by rw [h]; simp⟩
  obtain ⟨t1, e1⟩ := simple_tot s.Name
  refine Sat.bindE e1 ?_
  refine Sat.ite (fun _ => ?_) (fun z1 => ?_)
  · have j3 : ∀ (y : ApiIns) (b : Bool), y.Kids = [] → Sat (cm_ins.j3 f1 f2 f3 f4 f5 f6 f7 f8 f9 K m s y b) (InsP m s mods) := by
      intro y b hy
      unfold cm_ins.j3 cm_ins.j1
      exact Sat.ite (fun _ => Sat.bind (values_sat K hK _ (by omega) hwv) fun t _ => Sat.some (none hy)) (fun _ => Sat.bind (names_sat K (by omega) _ (by omega)) fun t _ => Sat.some (none hy))
    have j2 : ∀ (b : Bool), Sat (cm_ins.j2 f1 f2 f3 f4 f5 f6 f7 f8 f9 K m ⟨t1, [], [], [], ⟨[], [], []⟩, [], false⟩ s t1 b) (InsP m s mods) := by
      intro b
      unfold cm_ins.j2
      refine Sat.ite (fun _ => ?_) (fun _ => Sat.ite (fun _ => j3 _ _ rfl) (fun _ => Sat.ite (fun _ => j3 _ _ rfl) (fun _ => Sat.ite (fun _ => j3 _ _ rfl) (fun _ => j3 _ _ rfl))))
      unfold cm_ins.j1
      exact Sat.bind (numbers_sat K (by omega) _ (by omega)) fun t _ => Sat.some (none rfl)
    exact Sat.ite (fun _ => j2 _) (fun _ => Sat.ite (fun _ => j2 _) (fun _ => Sat.ite (fun _ => j2 _) (fun _ => j2 _)))
  obtain ⟨t5, e5, p5⟩ := nested_sat s.Name
  refine Sat.bindE e5 ?_
  refine Sat.ite (fun z5 => ?_) (fun z5 => ?_)
  · have hne : t5 ≠ 0 := by simpa using z5
    have hk3 := hs.fit.2 (p5 hne)
    have hT : ∀ a ∈ s.Args, Tr a.T := getD_all fun i hi => hs.arg i hi (hk3 _ (getD_mem _ i hi))
    refine Sat.bind (h3 hT) fun t6 ht6 => Sat.some ⟨ht6.1.mono (by omega), ht6.2⟩
  obtain ⟨t7, e7⟩ := walk_tot s.Name
  refine Sat.bindE e7 ?_
  refine Sat.ite (fun _ => Sat.bind (names_sat K (by omega) _ (by omega)) fun t _ => Sat.some (none rfl)) (fun z7 => ?_)
  obtain ⟨t9, e9⟩ := reduce_tot s.Name
  refine Sat.bindE e9 ?_
  refine Sat.ite (fun _ => Sat.some (none rfl)) (fun z9 => ?_)
  refine Sat.bind (h4 fun hno => ?_) fun t10 ht => Sat.some ht
  refine other_names _ hs.c.split.1.1 ?_ ha hno
  have x1 : t1 = 0 := by simpa using z1
  have x5 : t5 = 0 := by simpa using z5
  have x9 : t9 = 0 := by simpa using z9
  unfold kind0
  rw [e1, e5, e7, e9, x1, x5, x9]
  simp [z7]
def heads (l : List ApiStep) : Nat := (l.filter fun s => decide (aft s.Name = [])).length
theorem heads_append (a b : List ApiStep) : heads (a ++ b) = heads a + heads b := by simp [heads]
theorem set_at {α : Type} : ∀ (A : List α) (x y : α) (B : List α), (A ++ x :: B).set A.length y = A ++ y :: B
  | [], x, y, B => rfl
  | a :: A, x, y, B => by simp [set_at A x y B]
theorem take_split (l : List ApiStep) (i n : Nat) (hi : i < l.length) (hn : 1 ≤ n) : l.take (i + n) = l.take i ++ (List.getD l i default :: (l.drop (i + 1)).take (n - 1)) := by
  obtain ⟨n, rfl⟩ : ∃ q, n = q + 1 := ⟨n - 1, by omega⟩
  rw [List.take_add, List.drop_eq_getElem_cons hi, List.take_succ_cons, List.getD_eq_getElem?_getD, List.getElem?_eq_getElem hi]
  rfl
theorem nm_mods (l : List ApiStep) (i n j : Nat) (hj : j < n) : nm ((l.drop i).take n) j = nm l (i + j) := by
  unfold nm
  rw [List.getD_eq_getElem?_getD, List.getElem?_take, if_pos hj, List.getElem?_drop, ← List.getD_eq_getElem?_getD]
theorem rn_one (l : List ApiStep) (n : List UInt8) (p : Nat) (hp : nm l p = n) : ∀ e, p ≤ e → (∀ x, p < x → x ≤ e → aft (nm l x) ≠ []) → 1 ≤ rn l n e := by
  intro e
  induction e with
  | zero =>
    intro h _
    have : p = 0 := by omega
    subst this
    rw [rn, if_pos hp]; omega
  | succ e ih =>
    intro h hx
    rw [rn]
    by_cases e1 : p = e + 1
    · subst e1; rw [if_pos hp]; omega
    · rw [if_neg (hx (e + 1) (by omega) (by omega))]
      have := ih (by omega) fun x h1 h2 => hx x h1 (by omega)
      omega
theorem rn_two (l : List ApiStep) (n : List UInt8) (p e : Nat) (hp : nm l p = n) (he : nm l e = n) (hpe : p < e) (hx : ∀ x, p < x → x ≤ e → aft (nm l x) ≠ []) : 2 ≤ rn l n e := by
  obtain ⟨e, rfl⟩ : ∃ q, e = q + 1 := ⟨e - 1, by omega⟩
  rw [rn, if_pos he, if_neg (hx (e + 1) (by omega) (by omega))]
  have := rn_one l n p hp e (by omega) fun x h1 h2 => hx x h1 (by omega)
  omega
/-- What a body promises. -/
def BodyP (m : OCM) (l : List ApiStep) (r : Int × OCM) : Prop := ∃ ins rest, r = ((m.out.length : Int), (⟨m.out ++ ins :: rest⟩ : OCM)) ∧ Own m.out.length [(m.out.length : Int)] (ins :: rest) ∧ (ins :: rest).length ≤ nS l ∧ ins.length = heads l
theorem BodyP.res {m : OCM} {l : List ApiStep} {r : Int × OCM} (h : BodyP m l r) : Res m (nS l) [r.1] r.2 := by
  obtain ⟨ins, rest, rfl, h1, h2, h3⟩ := h
  exact ⟨ins :: rest, rfl, h1, h2⟩
theorem body_sat (K : Nat) (hK : 600 < K) (l : List ApiStep) (hl : Tr l) (m : OCM) (hm : m.out.length + nS l ≤ 5000)
    (hI : ∀ (s : ApiStep) (mods : List ApiStep) (m' : OCM), StOk s → aft s.Name = [] → (∀ y ∈ mods, StOk y) → MP s.Name mods → mods.length ≤ 150 → nA s.Args + nS mods + 1 ≤ nS l → m'.out.length + nA s.Args + nS mods ≤ 5000 → Sat (f2 m' s mods) (InsP m' s mods)) :
    Sat (cm_body.b f1 f2 f3 f4 f5 f6 f7 f8 f9 K m l) (BodyP m l) := by
  obtain ⟨hne, hg, hlen, hpl, hcs⟩ := hl
  have hpos := nS_pos l hne
  have hst : ∀ i, i < l.length → StOk (List.getD l i default) := fun i hi => ⟨GS_get l i hg hi, CS_get l i hcs hi⟩
  have hl0 : 0 < l.length := List.length_pos_iff.2 hne
  have hhd0 : aft (nm l 0) = [] := Classical.not_not.1 fun h => by have := (hpl 0 hl0 h).1; omega
  unfold cm_body.b
  refine Sat.chk (by simp only [List.length_cons, List.length_nil]; omega) ?_
  have key : ∀ (k i : Nat) (l4 : List ApiIns) (m1 : OCM) (B : Nat), i ≤ l.length → l.length - i < k → (i < l.length → aft (nm l i) = []) → Res ⟨m.out ++ [[]]⟩ B (kidsB l4) m1 → B + l4.length ≤ nS (l.take i) → l4.length = heads (l.take i) → (∀ x ∈ l4, x.Kids.length ≤ 200) →
      Sat (cm_body.l1 f1 f2 f3 f4 f5 f6 f7 f8 f9 K k l4 m1.out l (m.out.length : Int) (i : Int)) (BodyP m l) := by
    intro k
    induction k with
    | zero => intro i l4 m1 B h0 h1; omega
    | succ k ih =>
      intro i l4 m1 B h0 h1 hhd hr hB hh hsm
      rw [cm_body.l1]
      have htl := nS_take_le l i
      refine Sat.ite (fun h => ?_) (fun h => ?_)
      · have hlt : (i : Int) < (l.length : Int) := by simpa using h
        have hi : i < l.length := by omega
        have key2 : ∀ (k2 n : Nat), 1 ≤ n → i + n ≤ l.length → l.length - (i + n) < k2 → (∀ x, i < x → x < i + n → aft (nm l x) ≠ []) →
            Sat (cm_body.l2 f1 f2 f3 f4 f5 f6 f7 f8 f9 (cm_body.l1 f1 f2 f3 f4 f5 f6 f7 f8 f9 K k) K m1.out l4 k2 l (m.out.length : Int) (i : Int) (n : Int)) (BodyP m l) := by
          intro k2
          induction k2 with
          | zero => intro n a1 a2 a3; omega
          | succ k2 ih2 =>
            intro n a1 a2 a3 a4
            rw [cm_body.l2]
            have w1 : IntKind.wrap .i64 ((i : Int) + (n : Int)) = ((i + n : Nat) : Int) := by rw [W_in (by omega) (by omega)]; omega
            rw [w1]
            refine Sat.chk (fun hh => by simp only [decide_eq_true_eq] at hh; omega) ?_
            rw [Int.toNat_natCast]
            have modE : code_modifies.f (List.getD l (i + n) default).Name = some (decide (aft (nm l (i + n)) ≠ [])) := by
              show code_modifies.f (nm l (i + n)) = _
              generalize nm l (i + n) = c
              unfold code_modifies.f code_modifies.j1 aft
              by_cases h1 : c = nBy
              · simp [h1]
              by_cases h2 : c = nTimes
              · simp [h2]
              by_cases h3 : c = nUntil
              · simp [h3]
              by_cases h4 : c = nEmit
              · simp [h4]
              by_cases h5 : c = nTo
              · simp [h5]
              by_cases h6 : c = nFrom
              · simp [h6]
              simp [h1, h2, h3, h4, h5, h6]
            have go : (i + n < l.length → aft (nm l (i + n)) = []) → Sat (if ((0 : Int) ≤ (i : Int) ∧ (i : Int) < (List.length l : Int)) then (if ((0 : Int) ≤ (IntKind.wrap .i64 ((i : Int) + 1)) ∧ ((IntKind.wrap .i64 ((i : Int) + 1)) : Int) ≤ ((i + n : Nat) : Int) ∧ ((i + n : Nat) : Int) ≤ (List.length l : Int)) then (Option.bind (f2 (⟨m1.out⟩ : OCM) (List.getD l (Int.toNat (i : Int)) default) (List.take (i + n - Int.toNat (IntKind.wrap .i64 ((i : Int) + 1))) (List.drop (Int.toNat (IntKind.wrap .i64 ((i : Int) + 1))) l))) fun t2 => (if ((List.length l4 + List.length ([t2.1] : List ApiIns)) * 176 ≤ 140737488355328 ∧ List.length l4 + List.length ([t2.1] : List ApiIns) ≤ 140737488355328) then cm_body.l1 f1 f2 f3 f4 f5 f6 f7 f8 f9 K k (l4 ++ ([t2.1] : List ApiIns)) t2.2.out l (m.out.length : Int) ((i + n : Nat) : Int) else none)) else none) else none) (BodyP m l) := by
              intro hend
              have w2 : IntKind.wrap .i64 ((i : Int) + 1) = ((i + 1 : Nat) : Int) := by rw [W_in (by omega) (by omega)]; omega
              rw [w2]
              refine Sat.chk ⟨by omega, hlt⟩ (Sat.chk ⟨by omega, by omega, by omega⟩ ?_)
              rw [Int.toNat_natCast, Int.toNat_natCast]
              have hsp := take_split l i n hi a1
              have e0 : i + n - (i + 1) = n - 1 := by omega
              rw [e0]
              generalize hmods : (l.drop (i + 1)).take (n - 1) = mods at hsp ⊢
              have hml : mods.length = n - 1 := by rw [← hmods, List.length_take, List.length_drop]; omega
              have hnm : ∀ j, j < n - 1 → nm mods j = nm l (i + 1 + j) := fun j hj => by rw [← hmods]; exact nm_mods l (i + 1) (n - 1) j hj
              have hmem : ∀ y ∈ mods, StOk y := by
                refine getD_all fun j hj => ?_
                have hs := hst (i + 1 + j) (by omega)
                rw [← hmods, List.getD_eq_getElem?_getD, List.getElem?_take, if_pos (by omega), List.getElem?_drop, ← List.getD_eq_getElem?_getD]
                exact hs
              have hnS : nS (l.take (i + n)) = nS (l.take i) + (nS1 (List.getD l i default) + nS mods) := by rw [hsp, nS_append, nS]
              have hnS2 := nS_take_le l (i + n)
              have he := nS1_eq (List.getD l i default)
              have hrl := hr.len
              simp only [List.length_append, List.length_cons, List.length_nil] at hrl
              have hmp : MP (List.getD l i default).Name mods := by
                refine ⟨fun j hj => ?_, fun q j hq hj hby => ?_⟩
                · have hx := a4 (i + 1 + j) (by omega) (by omega)
                  have hp := (hpl (i + 1 + j) (by omega) hx).2.1
                  rw [hnm j (by omega)]
                  by_cases j0 : j = 0
                  · subst j0
                    rw [if_pos rfl]
                    exact hp
                  · rw [if_neg j0, hnm (j - 1) (by omega)]
                    rw [show i + 1 + j - 1 = i + 1 + (j - 1) by omega] at hp
                    exact hp
                · rw [hnm q (by omega), hnm j (by omega)]
                  rw [hnm j (by omega)] at hby
                  intro heq
                  have hx := a4 (i + 1 + j) (by omega) (by omega)
                  have h1 := (hpl (i + 1 + j) (by omega) hx).2.2 hby
                  have h2 := rn_two l (nm l (i + 1 + j)) (i + 1 + q) (i + 1 + j) heq rfl (by omega) fun x b1 b2 => a4 x (by omega) (by omega)
                  omega
              refine Sat.bind (hI _ mods m1 (hst i hi) (hhd hi) hmem hmp (by omega) (by omega) (by omega)) fun t2 ht2 => ?_
              refine Sat.chk (by simp only [List.length_cons, List.length_nil]; omega) ?_
              have hr2 := hr.seq ht2.1
              rw [← kidsB_snoc] at hr2
              refine ih (i + n) (l4 ++ [t2.1]) t2.2 _ (by omega) (by omega) hend hr2 (by simp only [List.length_append, List.length_cons, List.length_nil]; omega) ?_ ?_
              rotate_right
              · intro x hx
                rcases List.mem_append.1 hx with hx | hx
                · exact hsm x hx
                · simp only [List.mem_cons, List.not_mem_nil, or_false] at hx
                  rw [hx]; exact ht2.2
              rw [hsp, heads_append]
              have hz : heads (List.getD l i default :: mods) = 1 := by
                unfold heads
                have h1 : aft (List.getD l i default).Name = [] := hhd hi
                have h2 : mods.filter (fun s => decide (aft s.Name = [])) = [] := by
                  rw [List.filter_eq_nil_iff]
                  refine getD_all (p := fun (a : ApiStep) => ¬ decide (aft a.Name = []) = true) fun j hj => ?_
                  have hx := a4 (i + 1 + j) (by omega) (by omega)
                  rw [← hnm j (by omega)] at hx
                  simpa [nm] using hx
                rw [List.filter_cons, if_pos (by simpa using h1), h2]
                rfl
              rw [hz]
              simp only [List.length_append, List.length_cons, List.length_nil]
              omega
            by_cases hc : i + n < l.length
            · have hc' : decide (((i + n : Nat) : Int) < (l.length : Int)) = true := decide_eq_true (by omega)
              rw [hc', if_pos rfl, modE]
              refine Sat.bindE rfl ?_
              by_cases ha : aft (nm l (i + n)) = []
              · rw [if_neg (by simp [ha])]
                exact go fun _ => ha
              · rw [if_pos (by simp [ha]), W_in (by omega) (by omega), show (n : Int) + 1 = ((n + 1 : Nat) : Int) by omega]
                refine ih2 (n + 1) (by omega) (by omega) (by omega) fun x b1 b2 => ?_
                by_cases e : x = i + n
                · rw [e]; exact ha
                · exact a4 x b1 (by omega)
            · have hc' : decide (((i + n : Nat) : Int) < (l.length : Int)) = false := by
                rw [decide_eq_false_iff_not]; omega
              rw [hc', if_neg (by simp)]
              refine Sat.bindE rfl ?_
              rw [Bool.false_and, if_neg (by simp)]
              exact go fun h => absurd h hc
        exact key2 K 1 (by omega) (by omega) (by omega) fun x b1 b2 => by omega
      · have hge : ¬ (i : Int) < (l.length : Int) := by simpa using h
        have hie : i = l.length := by omega
        subst hie
        rw [List.take_length] at hB hh
        obtain ⟨rest, r1, r2, r3⟩ := hr
        have e1 : m1.out = m.out ++ [] :: rest := by rw [r1]; simp
        rw [e1]
        refine Sat.chk ⟨by omega, by simp only [List.length_append, List.length_cons]; omega⟩ (Sat.some ?_)
        rw [Int.toNat_natCast, set_at]
        have r2' : Own (m.out.length + 1) (kidsB l4) rest := by
          have : (m.out ++ [[]]).length = m.out.length + 1 := by simp
          rw [← this]; exact r2
        have hh1 : 1 ≤ heads l := by
          obtain ⟨x, r, rfl⟩ : ∃ x r, l = x :: r := by
            cases l with
            | nil => exact absurd rfl hne
            | cons x r => exact ⟨x, r, rfl⟩
          unfold heads
          have h1 : aft x.Name = [] := hhd0
          rw [List.filter_cons, if_pos (by simpa using h1)]
          simp
        have hle : heads l ≤ l.length := List.length_filter_le _ _
        exact ⟨l4, rest, rfl, Own.body r2' ⟨by omega, hsm⟩, by simp only [List.length_cons]; omega, hh⟩
  have := key K 0 [] ⟨m.out ++ [[]]⟩ 0 (by omega) (by omega) (fun _ => hhd0) (Res.none _ _ fun k hk => by simp [kidsB] at hk) (by simp) (by simp [heads]) (fun x hx => by cases hx)
  exact this
end
theorem knot : ∀ (N K : Nat), 10 * N + 7000 ≤ K → ∀ T, Tr T → nS T ≤ N → ∀ m : OCM, m.out.length + nS T ≤ 5000 → Sat (cm_body.f K m T) (BodyP m T) := by
  intro N
  induction N with
  | zero => intro K hK T hT hn; have := nS_pos T hT.1; omega
  | succ N ih =>
    intro K hK T hT hn m hm
    have hB : ∀ K', 10 * N + 7000 ≤ K' → HB (cm_body.f K') N := fun K' hK' U hU hn' m' hm' => (ih K' hK' U hU hn' m' hm').mono fun r hr => hr.res
    obtain ⟨K, rfl⟩ : ∃ q, K = q + 1 + 1 + 1 + 1 + 1 + 1 := ⟨K - 6, by omega⟩
    have hBy : ∀ K', 10 * N + 7001 ≤ K' → ∀ y, StOk y → nA y.Args ≤ N → ∀ m : OCM, m.out.length + nS1 y ≤ 5000 → Sat (cm_by.f K' m y) fun r => Res m (nS1 y) [r.1] r.2 := by
      intro K' hK' y hy hny m' hm'
      obtain ⟨K', rfl⟩ : ∃ q, K' = q + 1 := ⟨K' - 1, by omega⟩
      rw [cm_by.f]
      exact by_sat _ _ _ _ _ _ _ _ _ (hB K' (by omega)) K' (by omega) y hy hny m' hm'
    have hBys : ∀ K', 10 * N + 7002 ≤ K' → ∀ mods : List ApiStep, (∀ y ∈ mods, StOk y) → nS mods ≤ N → ∀ m : OCM, m.out.length + nS mods ≤ 5000 → ∀ n : Nat, n ≤ 200 → Sat (cm_bys.f K' m mods (n : Int)) fun r => Res m (nS mods) r.1 r.2 ∧ r.1.length = n := by
      intro K' hK' mods hms hns m' hm' n hn'
      obtain ⟨K', rfl⟩ : ∃ q, K' = q + 1 := ⟨K' - 1, by omega⟩
      rw [cm_bys.f]
      exact bys_sat _ _ _ _ _ _ _ _ _ (hB K' (by omega)) 7000 (by omega) (fun _ _ => .inr trivial) (hBy K' (by omega)) K' (by omega) mods hms hns n hn' m' hm'
    rw [cm_body.f]
    refine body_sat _ _ _ _ _ _ _ _ _ _ (by omega) T hT m hm fun s mods m' hs ha hms hmp hml hN hm' => ?_
    rw [cm_ins.f]
    refine ins_sat _ _ _ _ _ _ _ _ _ _ (by omega) s hs ha mods m' (fun hA => ?_) (fun hd => ?_)
    · rw [cm_kids.f]
      exact kids_sat _ _ _ _ _ _ _ _ _ (hB _ (by omega)) _ (by omega) s.Args hA (by omega) hs.args m' (by omega)
    · rw [cm_other.f]
      refine other_sat _ _ _ _ _ _ _ _ _ _ (by omega) s hs mods m' (fun n hn' => hBys _ (by omega) mods hms (by omega) m' (by omega) n hn') ?_ (fun hr => ?_) (fun hr => ?_) hd
      · rw [cm_order.f]
        exact order_sat _ _ _ _ _ _ _ _ _ _ (by omega) mods (fun y hy => (hms y hy).args) hml m' fun n hn' => hBys _ (by omega) mods hms (by omega) m' (by omega) n hn'
      · rw [cm_repeat.f]
        exact repeat_sat _ _ _ _ _ _ _ _ _ (hB _ (by omega)) _ (by omega) s hs hr mods hms (by rw [← hr]; exact hmp) hml (by omega) m' (by omega)
      · rw [cm_addE.f]
        exact addE_sat _ _ _ _ _ _ _ _ _ (hB _ (by omega)) _ (by omega) s hs mods hms (by rw [← hr]; exact hmp) hml (by omega) m' (by omega)
/-- What code.Compile comes to. -/
theorem compile_sat (l : List ApiStep) (hp : Prs l) (K : Nat) (hK : 20000 ≤ K) : Sat (code_Compile.f K l) fun r => (r.2 ≠ 0 → r.1.Bodies = []) ∧ (r.2 = 0 → ∃ ins rest, r.1.Bodies = ins :: rest ∧ Own 0 [0] (ins :: rest) ∧ (ins :: rest).length ≤ 500 ∧ ins.length = heads l) := by
  unfold code_Compile.f
  refine Sat.bind (Check_sat l K hp (by omega)) fun t1 ht1 => ?_
  refine Sat.ite (fun hn => Sat.some ⟨fun _ => rfl, fun hz => ?_⟩) (fun hz => ?_)
  · have : ¬ t1 = 0 := by simpa using hn
    exact absurd hz this
  · obtain ⟨h1, h2⟩ := ht1 (by simpa using hz)
    obtain ⟨p1, p2, p3, p4⟩ := hp
    refine Sat.bind (knot (nS l) K (by omega) l ⟨p1, p3, p2, h1, h2⟩ (Nat.le_refl _) ⟨[]⟩ (by simp; omega)) fun t2 ht2 => Sat.some ⟨fun h => absurd rfl h, fun _ => ?_⟩
    obtain ⟨ins, rest, e, o, b1, b2⟩ := ht2
    refine ⟨ins, rest, by rw [e]; simp, o, by omega, b2⟩
end Go.Proofs.Ytbjbgodcenopnaa
