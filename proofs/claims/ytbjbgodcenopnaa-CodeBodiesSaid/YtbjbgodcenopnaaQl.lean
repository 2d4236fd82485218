/- Plain law of CodeBodies. -/
import Derived.Test.YtbjbgodcenopnaaQk
namespace Go.Proofs.Ytbjbgodcenopnaa
set_option linter.unusedVariables false
set_option linter.unusedSimpArgs false
set_option linter.unusedSectionVars false
set_option maxHeartbeats 2000000
def KB : Nat := 10000000
set_option maxRecDepth 100000 in
theorem awake15 : w15_awake.f KB = some true := by decide +kernel
/-- How often each body was called so far. -/
def U (used : List Int) (n : Nat) (P : List Int) : Prop := used.length = n ∧ ∀ j, j < n → List.getD used j default = (P.count (j : Int) : Int)
theorem U.skip {used : List Int} {n : Nat} {P : List Int} (h : U used n P) : U used n (P ++ [-1]) := by
  refine ⟨h.1, fun j hj => ?_⟩
  rw [h.2 j hj, List.count_append]
  have : List.count (j : Int) [(-1 : Int)] = 0 := by
    rw [List.count_eq_zero]; simp only [List.mem_cons, List.not_mem_nil, or_false]; omega
  rw [this, Nat.add_zero]
theorem U.inc {used : List Int} {n : Nat} {P : List Int} (h : U used n P) (q : Nat) (hq : q < n) (hc : P.count (q : Int) ≤ 1000) : U (List.set used q (IntKind.wrap .i64 (List.getD used q default + 1))) n (P ++ [(q : Int)]) := by
  refine ⟨by rw [List.length_set]; exact h.1, fun j hj => ?_⟩
  have hq' := h.2 q hq
  rw [hq', W_in (by omega) (by omega), List.count_append]
  by_cases e : j = q
  · subst e
    rw [List.getD_eq_getElem?_getD, List.getElem?_set_self (by rw [h.1]; exact hj), Option.getD_some]
    simp
  · rw [List.getD_eq_getElem?_getD, List.getElem?_set_ne (fun h => e h.symm), ← List.getD_eq_getElem?_getD, h.2 j hj]
    have : List.count (j : Int) [(q : Int)] = 0 := by
      rw [List.count_eq_zero]; simp only [List.mem_cons, List.not_mem_nil, or_false]; omega
    rw [this, Nat.add_zero]
theorem count_pre {P Q R : List Int} (h : P ++ Q = R) (x : Int) : P.count x ≤ R.count x := by rw [← h, List.count_append]; omega
section
variable (y1 : ApiProg) (steps : List ApiStep) (ho : Own 0 [0] y1.Bodies) (hn : y1.Bodies.length ≤ 1000)
include ho
theorem own_one (j : Nat) (hj : j < y1.Bodies.length) : (refs y1.Bodies).count (j : Int) ≤ 1 := by
  have := ho.one j (by omega) (by simpa using hj)
  rw [List.count_append] at this
  omega
include hn
theorem bodies_l3 (G1 : List Int → ApiProg → List ApiStep → Int → Option Bool) (G2 : List Int → List ApiStep → Int → Int → Option Bool) (i : Nat) (v10 : Int) (ks pre post : List Int) (hR : pre ++ (ks ++ post) = refs y1.Bodies) (hks : ks.length ≤ 200)
    (hr : ∀ k ∈ ks, k = -1 ∨ ((i : Int) < k ∧ k < (y1.Bodies.length : Int))) (hG : ∀ used, U used y1.Bodies.length (pre ++ ks) → G2 used steps (i : Int) (IntKind.wrap .i64 (v10 + 1)) = some true) :
    ∀ (k j : Nat) (used : List Int), j ≤ ks.length → ks.length - j < k → U used y1.Bodies.length (pre ++ ks.take j) → w15_CodeBodies.l3 G1 G2 KB y1 k used steps (i : Int) v10 ks (j : Int) = some true := by
  intro k
  induction k with
  | zero => intro j used h0 h1; omega
  | succ k ih =>
    intro j used h0 h1 hu
    refine Sat.get ?_
    rw [w15_CodeBodies.l3]
    refine Sat.ite (fun h => ?_) (fun h => ?_)
    · have hlt : (j : Int) < (ks.length : Int) := by simpa using h
      have hj : j < ks.length := by omega
      refine Sat.chk ⟨by omega, hlt⟩ ?_
      rw [Int.toNat_natCast]
      have hmem := getD_mem ks j hj
      have htk : ks.take (j + 1) = ks.take j ++ [List.getD ks j default] := by
        rw [List.take_add_one, List.getD_eq_getElem?_getD, List.getElem?_eq_getElem hj]; rfl
      have nxt : ∀ used', U used' y1.Bodies.length (pre ++ ks.take (j + 1)) → Sat (w15_CodeBodies.j1 G1 G2 (w15_CodeBodies.l3 G1 G2 KB y1 k) KB y1 used' steps (i : Int) v10 ks (j : Int)) fun r => r = true := by
        intro used' hu'
        unfold w15_CodeBodies.j1
        rw [W_in (by omega) (by omega), show (j : Int) + 1 = ((j + 1 : Nat) : Int) by omega]
        exact Sat.eq (ih (j + 1) used' (by omega) (by omega) hu') rfl
      refine Sat.ite (fun hm => ?_) (fun hm => ?_)
      · have e : List.getD ks j default = -1 := by simpa using hm
        refine nxt used ?_
        rw [htk, e, ← List.append_assoc]
        exact hu.skip
      · have e : ¬ List.getD ks j default = -1 := by simpa using hm
        obtain ⟨r1, r2⟩ := (hr _ hmem).resolve_left e
        have hul := hu.1
        refine Sat.chk ⟨by omega, hlt⟩ (Sat.chk (fun _ => ⟨by omega, hlt⟩) ?_)
        refine Sat.ite (fun hb => ?_) (fun _ => ?_)
        · simp only [Bool.or_eq_true, decide_eq_true_eq] at hb
          omega
        refine Sat.chk ⟨by omega, hlt⟩ (Sat.chk ⟨by omega, by omega⟩ (Sat.chk ⟨by omega, by omega⟩ (nxt _ ?_)))
        obtain ⟨q, hq⟩ : ∃ q : Nat, List.getD ks j default = (q : Int) := ⟨(List.getD ks j default).toNat, by omega⟩
        rw [htk, hq, Int.toNat_natCast, ← List.append_assoc]
        have hqn : q < y1.Bodies.length := by omega
        refine hu.inc q hqn ?_
        have h1 := own_one y1 ho q hqn
        have h2 : (pre ++ ks.take j).count (q : Int) ≤ (refs y1.Bodies).count (q : Int) := by
          refine count_pre (Q := ks.drop j ++ post) ?_ _
          rw [← hR]
          rw [List.append_assoc, ← List.append_assoc (ks.take j), List.take_append_drop]
        omega
    · have hge : ¬ (j : Int) < (ks.length : Int) := by simpa using h
      have hje : j = ks.length := by omega
      subst hje
      rw [List.take_length] at hu
      exact Sat.eq (hG used hu) rfl
theorem bodies_l2 (G1 : List Int → ApiProg → List ApiStep → Int → Option Bool) (i : Nat) (hi : i < y1.Bodies.length) (pre post : List Int) (hR : pre ++ (kidsB (y1.Bodies.getD i []) ++ post) = refs y1.Bodies)
    (hG : ∀ used, U used y1.Bodies.length (pre ++ kidsB (y1.Bodies.getD i [])) → G1 used y1 steps (IntKind.wrap .i64 ((i : Int) + 1)) = some true) :
    ∀ (k j : Nat) (used : List Int), j ≤ (y1.Bodies.getD i []).length → (y1.Bodies.getD i []).length - j < k → U used y1.Bodies.length (pre ++ kidsB ((y1.Bodies.getD i []).take j)) → w15_CodeBodies.l2 G1 KB y1 k used steps (i : Int) (j : Int) = some true := by
  have hsm := ho.small i hi
  have hlow := ho.low i hi
  generalize hb : y1.Bodies.getD i [] = b at hR hG hsm hlow ⊢
  have hb' : List.getD y1.Bodies (Int.toNat (i : Int)) default = b := by rw [Int.toNat_natCast]; exact hb
  intro k
  induction k with
  | zero => intro j used h0 h1; omega
  | succ k ih =>
    intro j used h0 h1 hu
    refine Sat.get ?_
    rw [w15_CodeBodies.l2, hb']
    refine Sat.chk ⟨by omega, by omega⟩ (Sat.ite (fun h => ?_) (fun h => ?_))
    · have hlt : (j : Int) < (b.length : Int) := by simpa using h
      have hj : j < b.length := by omega
      refine Sat.chk ⟨by omega, by omega⟩ (Sat.chk ⟨by omega, hlt⟩ ?_)
      rw [Int.toNat_natCast]
      have hmem := getD_mem b j hj
      have htk : b.take (j + 1) = b.take j ++ [List.getD b j default] := by
        rw [List.take_add_one, List.getD_eq_getElem?_getD, List.getElem?_eq_getElem hj]; rfl
      have hsplit : kidsB b = kidsB (b.take j) ++ ((List.getD b j default).Kids ++ kidsB (b.drop (j + 1))) := by
        conv => lhs; rw [← List.take_append_drop (j + 1) b, htk]
        simp [kidsB]
      refine Sat.eq (bodies_l3 y1 steps ho hn G1 _ i (j : Int) (List.getD b j default).Kids (pre ++ kidsB (b.take j)) (kidsB (b.drop (j + 1)) ++ post) ?_ (hsm.2 _ hmem) (fun x hx => ?_) (fun used' hu' => ?_) KB 0 used (by omega) (by have := hsm.2 _ hmem; unfold KB; omega) (by simpa using hu)) rfl
      · rw [← hR, hsplit]; simp
      · have := hlow x (by rw [hsplit]; exact List.mem_append.2 (.inr (List.mem_append.2 (.inl hx))))
        rcases this with e | e
        · exact .inl e
        · exact .inr ⟨by omega, by omega⟩
      · rw [W_in (by omega) (by omega), show (j : Int) + 1 = ((j + 1 : Nat) : Int) by omega]
        refine ih (j + 1) used' (by omega) (by omega) ?_
        rw [htk, kidsB_snoc, ← List.append_assoc]
        exact hu'
    · have hge : ¬ (j : Int) < (b.length : Int) := by simpa using h
      have hje : j = b.length := by omega
      subst hje
      rw [List.take_length] at hu
      exact Sat.eq (hG used hu) rfl
theorem bodies_l1 (hfin : ∀ (G1 : List Int → ApiProg → List ApiStep → Int → Option Bool) (used : List Int), U used y1.Bodies.length (refs y1.Bodies) → w15_CodeBodies.l4 G1 KB used y1 KB steps 1 = some true) :
    ∀ (k i : Nat) (used : List Int), i ≤ y1.Bodies.length → y1.Bodies.length - i < k → U used y1.Bodies.length (refs (y1.Bodies.take i)) → w15_CodeBodies.l1 KB k used y1 steps (i : Int) = some true := by
  intro k
  induction k with
  | zero => intro i used h0 h1; omega
  | succ k ih =>
    intro i used h0 h1 hu
    refine Sat.get ?_
    rw [w15_CodeBodies.l1]
    refine Sat.ite (fun h => ?_) (fun h => ?_)
    · have hlt : (i : Int) < (y1.Bodies.length : Int) := by simpa using h
      have hi : i < y1.Bodies.length := by omega
      have htk : y1.Bodies.take (i + 1) = y1.Bodies.take i ++ [y1.Bodies.getD i []] := by
        rw [List.take_add_one, List.getD_eq_getElem?_getD, List.getElem?_eq_getElem hi]; rfl
      have hsplit : refs y1.Bodies = refs (y1.Bodies.take i) ++ (kidsB (y1.Bodies.getD i []) ++ refs (y1.Bodies.drop (i + 1))) := by
        conv => lhs; rw [← List.take_append_drop (i + 1) y1.Bodies, htk]
        simp [refs]
      refine Sat.eq (bodies_l2 y1 steps ho hn _ i hi (refs (y1.Bodies.take i)) (refs (y1.Bodies.drop (i + 1))) hsplit.symm (fun used' hu' => ?_) KB 0 used (by omega) (by have := (ho.small i hi).1; unfold KB; omega) (by simpa [kidsB] using hu)) rfl
      rw [W_in (by omega) (by omega), show (i : Int) + 1 = ((i + 1 : Nat) : Int) by omega]
      refine ih (i + 1) used' (by omega) (by omega) ?_
      rw [htk, refs_append]
      simpa [refs] using hu'
    · have hge : ¬ (i : Int) < (y1.Bodies.length : Int) := by simpa using h
      have hie : i = y1.Bodies.length := by omega
      subst hie
      rw [List.take_length] at hu
      exact Sat.eq (hfin _ used hu) rfl
theorem bodies_l4 (hlen : steps.length ≤ 150) (h0 : (List.getD y1.Bodies 0 default).length = heads steps) (G1 : List Int → ApiProg → List ApiStep → Int → Option Bool) (used : List Int) (hu : U used y1.Bodies.length (refs y1.Bodies)) (hpos : 0 < y1.Bodies.length) :
    ∀ (k j : Nat), 1 ≤ j → j ≤ y1.Bodies.length → y1.Bodies.length - j < k → w15_CodeBodies.l4 G1 KB used y1 k steps (j : Int) = some true := by
  intro k
  induction k with
  | zero => intro j a0 a1 a2; omega
  | succ k ih =>
    intro j a0 a1 a2
    refine Sat.get ?_
    rw [w15_CodeBodies.l4, hu.1]
    refine Sat.ite (fun h => ?_) (fun h => ?_)
    · have hlt : (j : Int) < (y1.Bodies.length : Int) := by simpa using h
      refine Sat.chk ⟨by omega, hlt⟩ ?_
      have h1 := ho.one j (by omega) (by omega)
      have h2 : List.count (j : Int) [(0 : Int)] = 0 := by
        rw [List.count_eq_zero]; simp only [List.mem_cons, List.not_mem_nil, or_false]; omega
      rw [List.count_append, h2, Nat.zero_add] at h1
      have h3 : List.getD used (Int.toNat (j : Int)) default = 1 := by rw [Int.toNat_natCast, hu.2 j (by omega), h1]; rfl
      rw [h3]
      refine Sat.ite (fun h => by simp at h) (fun _ => ?_)
      rw [W_in (by omega) (by omega), show (j : Int) + 1 = ((j + 1 : Nat) : Int) by omega]
      exact Sat.eq (ih (j + 1) (by omega) (by omega) (by omega)) rfl
    · have key : ∀ (G4 : List ApiStep → Int → Option Bool) (k i : Nat), i ≤ steps.length → steps.length - i < k → w15_CodeBodies.l5 G1 G4 KB y1 k steps ((heads (steps.take i) : Nat) : Int) (i : Int) = some true := by
        intro G4 k
        induction k with
        | zero => intro i b0 b1; omega
        | succ k ih5 =>
          intro i b0 b1
          refine Sat.get ?_
          rw [w15_CodeBodies.l5]
          refine Sat.ite (fun hh => ?_) (fun hh => ?_)
          · have hlt : (i : Int) < (steps.length : Int) := by simpa using hh
            have hi : i < steps.length := by omega
            refine Sat.chk ⟨by omega, hlt⟩ ?_
            have htk : steps.take (i + 1) = steps.take i ++ [List.getD steps i default] := by
              rw [List.take_add_one, List.getD_eq_getElem?_getD, List.getElem?_eq_getElem hi]; rfl
            have hhd : heads (steps.take (i + 1)) = heads (steps.take i) + (if aft (List.getD steps i default).Name = [] then 1 else 0) := by
              rw [htk, heads_append]
              congr 1
              unfold heads
              by_cases ha : aft (List.getD steps i default).Name = []
              · rw [if_pos ha, List.filter_cons, if_pos (by simpa using ha)]; rfl
              · rw [if_neg ha, List.filter_cons, if_neg (by simpa using ha)]; rfl
            have hle : heads (steps.take i) ≤ 150 := by
              have : heads (steps.take i) ≤ (steps.take i).length := List.length_filter_le _ _
              rw [List.length_take] at this
              omega
            rw [Int.toNat_natCast]
            generalize (List.getD steps i default).Name = c at hhd
            have j3 : ∀ b : Bool, (b = true → aft c ≠ []) → (b = false → aft c = []) → Sat (w15_CodeBodies.j3 G1 G4 (w15_CodeBodies.l5 G1 G4 KB y1 k) KB y1 steps ((heads (steps.take i) : Nat) : Int) (i : Int) b) fun r => r = true := by
              intro b c1 c2
              unfold w15_CodeBodies.j3 w15_CodeBodies.j2
              have e1 : IntKind.wrap .i64 ((i : Int) + 1) = ((i + 1 : Nat) : Int) := by rw [W_in (by omega) (by omega)]; omega
              have e2 : IntKind.wrap .i64 (((heads (steps.take i) : Nat) : Int) + 1) = ((heads (steps.take i) + 1 : Nat) : Int) := by rw [W_in (by omega) (by omega)]; omega
              rw [e1, e2]
              have := ih5 (i + 1) (by omega) (by omega)
              rw [hhd] at this
              cases b
              · rw [if_pos (c2 rfl)] at this
                rw [if_neg (by simp)]
                exact Sat.eq this rfl
              · rw [if_neg (c1 rfl), Nat.add_zero] at this
                rw [if_pos rfl]
                exact Sat.eq this rfl
            have yes : ∀ d : List UInt8, decide (c = d) = true → aft d ≠ [] → Sat (w15_CodeBodies.j3 G1 G4 (w15_CodeBodies.l5 G1 G4 KB y1 k) KB y1 steps ((heads (steps.take i) : Nat) : Int) (i : Int) (decide (c = d))) fun r => r = true := by
              intro d hd ha
              have e : c = d := by simpa using hd
              exact j3 _ (fun _ => by rw [e]; exact ha) (fun hf => by rw [hd] at hf; cases hf)
            refine Sat.ite (fun h1 => yes _ h1 (by decide)) (fun n1 => ?_)
            refine Sat.ite (fun h1 => yes _ h1 (by decide)) (fun n2 => ?_)
            refine Sat.ite (fun h1 => yes _ h1 (by decide)) (fun n3 => ?_)
            refine Sat.ite (fun h1 => yes _ h1 (by decide)) (fun n4 => ?_)
            refine Sat.ite (fun h1 => yes _ h1 (by decide)) (fun n5 => ?_)
            refine j3 _ (fun h1 => ?_) (fun n6 => ?_)
            · have e : c = nFrom := by simpa using h1
              rw [e]; decide
            · simp only [decide_eq_false_iff_not] at n1 n2 n3 n4 n5 n6
              unfold aft
              simp [n1, n2, n3, n4, n5, n6]
          · have hge : ¬ (i : Int) < (steps.length : Int) := by simpa using hh
            have hie : i = steps.length := by omega
            subst hie
            refine Sat.chk ⟨by omega, by omega⟩ (Sat.some ?_)
            rw [List.take_length]
            have : List.getD y1.Bodies (Int.toNat 0) default = List.getD y1.Bodies 0 default := rfl
            rw [this, h0]
            simp
      have := key (w15_CodeBodies.l4 G1 KB used y1 k) KB 0 (by omega) (by unfold KB; omega)
      have e0 : heads (steps.take 0) = 0 := by simp [heads]
      rw [e0] at this
      exact Sat.eq this rfl
end
/-- Of a program's bodies each but the first belongs to one instruction, of a body ahead of it; there are as many instructions as steps that belong to no other. -/
theorem code_bodies_true (s : List UInt8) : ∃ K, w15_CodeBodies.f K s = some true := by
  refine ⟨KB, Sat.get ?_⟩
  have hKB : 20000 ≤ KB := by unfold KB; omega
  unfold w15_CodeBodies.f
  refine Sat.bind (parse_sat KB (by omega) s) fun t1 ht1 => ?_
  refine Sat.bindE awake15 ?_
  refine Sat.ite (fun _ => Sat.bindE awake15 (Sat.some rfl)) (fun he => ?_)
  have he' : t1.2.2 = 0 := by simpa using he
  have hp := ht1 he'
  refine Sat.bind (compile_sat t1.1 hp KB hKB) fun t4 ht4 => ?_
  by_cases h4 : t4.2 = 0
  · obtain ⟨ins, rest, e1, o, l1, l2⟩ := ht4.2 h4
    have hl : t4.1.Bodies.length ≤ 500 := by rw [e1]; exact l1
    have hl0 : 0 < t4.1.Bodies.length := by rw [e1]; simp
    refine Sat.ite (fun hb => ?_) (fun _ => ?_)
    · exfalso
      simp only [Bool.or_eq_true, Bool.not_eq_true', decide_eq_false_iff_not, decide_eq_true_eq] at hb
      omega
    · refine Sat.chk ⟨by omega, by omega⟩ ?_
      rw [← e1] at o
      refine Sat.eq (bodies_l1 t4.1 t1.1 o (by omega) (fun G1 used hu => ?_) KB 0 _ (by omega) (by omega) ⟨by simp, fun j hj => ?_⟩) rfl
      · exact bodies_l4 t4.1 t1.1 o (by omega) hp.2.1 (by rw [e1]; exact l2) G1 used hu hl0 KB 1 (by omega) (by omega) (by omega)
      · rw [Int.toNat_natCast, List.getD_eq_getElem?_getD, List.getElem?_replicate, if_pos hj]
        simp [refs]
  · have e := ht4.1 h4
    refine Sat.ite (fun _ => Sat.some ?_) (fun hb => ?_)
    · rw [e]; simp [h4]
    · exfalso
      simp only [Bool.or_eq_false_iff, Bool.not_eq_false', decide_eq_true_eq] at hb
      exact h4 hb.1.1
end Go.Proofs.Ytbjbgodcenopnaa
