/- Calls of functions that are handed items. -/
import Derived.Test.YtaoffkhflmndhaaAvRow
namespace Go.Proofs.Ytaoffkhflmndhaa.FW
variable {Df : List Deferred}
open Go.RowKit
set_option linter.unusedVariables false
/-- An item is put in front. -/
theorem okM_perm {M : Nat → Prop} {I I' : List It} (h : ∀ x, x ∈ I ↔ x ∈ I') : okM M I = okM M I' := by
  funext k
  unfold okM
  exact propext ⟨fun ⟨a, b⟩ => ⟨a, fun it hi => b it ((h it).2 hi)⟩, fun ⟨a, b⟩ => ⟨a, fun it hi => b it ((h it).1 hi)⟩⟩
section
variable {P : Program} {M : Nat → Prop} {w0 : Bs} {w w' : World} {a : Act} {n : Nat} {I I' : List It} {σ : St} {it : It} {j : Nat}
/-- Items in another row. -/
theorem Own.perm (h : Own M w0 w I) (f : Nat → Nat) (hf : ∀ i it, I'[i]? = some it → I[f i]? = some it) (hinj : ∀ i j, i < I'.length → j < I'.length → f i = f j → i = j) (hm : ∀ x, x ∈ I ↔ x ∈ I') : Own M w0 w I' := by
  refine ⟨h.frm, h.bd, fun i it hi => ?_, fun i j x y hij hx hy => ?_, h.apart⟩
  · rw [← okM_perm hm]
    exact h.ok (f i) it (hf i it hi)
  · refine h.dis (f i) (f j) x y (fun e => hij (hinj i j (List.getElem?_eq_some_iff.1 hx).1 (List.getElem?_eq_some_iff.1 hy).1 e)) (hf i x hx) (hf j y hy)
/-- The item at a place goes to the front. -/
def frontF (j i : Nat) : Nat := if i = 0 then j else if i ≤ j then i - 1 else i
theorem Own.front (h : Own M w0 w I) (hj : I[j]? = some it) : Own M w0 w (it :: I.eraseIdx j) := by
  have hlt : j < I.length := (List.getElem?_eq_some_iff.1 hj).1
  have hm : ∀ x, x ∈ I ↔ x ∈ it :: I.eraseIdx j := by
    intro x
    constructor
    · intro hx
      obtain ⟨i, hi⟩ := List.mem_iff_getElem?.1 hx
      by_cases hij : i = j
      · subst hij
        rw [hj] at hi; injection hi with hi; subst hi
        exact List.mem_cons_self
      · refine List.mem_cons_of_mem _ (List.mem_iff_getElem?.2 ?_)
        by_cases hlt : i < j
        · exact ⟨i, by rw [List.getElem?_eraseIdx, if_pos hlt]; exact hi⟩
        · refine ⟨i - 1, ?_⟩
          rw [List.getElem?_eraseIdx, if_neg (by omega), show i - 1 + 1 = i from by omega]
          exact hi
    · intro hx
      rcases List.mem_cons.1 hx with rfl | hx
      · exact List.mem_of_getElem? hj
      · exact List.mem_of_mem_eraseIdx hx
  refine h.perm (frontF j) ?_ ?_ hm
  · intro i x hi
    unfold frontF
    cases i with
    | zero => rw [if_pos rfl]; simp only [List.getElem?_cons_zero, Option.some.injEq] at hi; rw [← hi]; exact hj
    | succ i =>
      rw [if_neg (by omega)]
      rw [List.getElem?_cons_succ, List.getElem?_eraseIdx] at hi
      by_cases hij : i < j
      · rw [if_pos hij] at hi
        rw [if_pos (by omega)]; exact hi
      · rw [if_neg hij] at hi
        rw [if_neg (by omega)]; exact hi
  · intro p q hp hq
    unfold frontF
    split <;> split <;> (try split) <;> (try split) <;> omega
theorem S.front (h : S M w0 a w n I σ Df) (hj : I[j]? = some it) : S M w0 a w n (it :: I.eraseIdx j) σ Df := by
  have ho := h.own.front hj
  refine ⟨ho, ?_⟩
  have hm : okM M (it :: I.eraseIdx j) = okM M I := by
    refine (okM_perm fun x => ?_).symm
    constructor
    · intro hx
      obtain ⟨i, hi⟩ := List.mem_iff_getElem?.1 hx
      by_cases hij : i = j
      · subst hij
        rw [hj] at hi; injection hi with hi; subst hi
        exact List.mem_cons_self
      · refine List.mem_cons_of_mem _ (List.mem_iff_getElem?.2 ?_)
        by_cases hlt : i < j
        · exact ⟨i, by rw [List.getElem?_eraseIdx, if_pos hlt]; exact hi⟩
        · refine ⟨i - 1, ?_⟩
          rw [List.getElem?_eraseIdx, if_neg (by omega), show i - 1 + 1 = i from by omega]
          exact hi
    · intro hx
      rcases List.mem_cons.1 hx with rfl | hx
      · exact List.mem_of_getElem? hj
      · exact List.mem_of_mem_eraseIdx hx
  rw [hm]; exact h.kn
/-- Items at places, in a row, in front of the others. -/
def pick (I : List It) : List Nat → List It
  | [] => I
  | j :: js => match I[j]? with
    | some it => pick (it :: I.eraseIdx j) js
    | none => I
theorem S.pick (h : S M w0 a w n I σ Df) : ∀ {js : List Nat} {I' : List It}, pick I js = I' → S M w0 a w n I' σ Df := by
  intro js
  induction js generalizing I with
  | nil => intro I' e; subst e; exact h
  | cons j js ih =>
    intro I' e
    unfold FW.pick at e
    cases hj : I[j]? with
    | none => rw [hj] at e; subst e; exact h
    | some it => rw [hj] at e; exact ih (h.front hj) e

/-- The callee's part of what is owned. -/
theorem Own.part {I1 I2 : List It} (h : Own M w0 w (I1 ++ I2)) : Own (fun k => M k ∨ footL I2 k) ⟨w, footL I1⟩ w I1 := by
  refine ⟨Frm.refl _ _, fun k hk => ?_, fun i it hi => ?_, fun i j x y hij hx hy => ?_, fun k hk hf => ?_⟩
  · rcases hk with hk | ⟨it, hi, hf⟩
    · exact Nat.lt_of_lt_of_le (h.bd k hk) h.frm.size
    · obtain ⟨p, hp⟩ := List.mem_iff_getElem?.1 (List.mem_append_right I1 hi)
      exact (h.lt hp hf).2
  · have hi' : (I1 ++ I2)[i]? = some it := by
      rw [List.getElem?_append_left (List.getElem?_eq_some_iff.1 hi).1]; exact hi
    obtain ⟨h1, h2⟩ := h.ok i it hi'
    refine ⟨?_, fun k hk => ⟨.inr ⟨it, List.mem_of_getElem? hi, hk⟩, (h2 k hk).2⟩⟩
    have e : okM M (I1 ++ I2) = okM (fun k => M k ∨ footL I2 k) I1 := by
      funext k
      unfold okM footL
      apply propext
      constructor
      · rintro ⟨a, b⟩
        exact ⟨fun hh => hh.elim a fun ⟨x, hx, hf⟩ => b x (List.mem_append_right _ hx) hf, fun x hx => b x (List.mem_append_left _ hx)⟩
      · rintro ⟨a, b⟩
        exact ⟨fun hh => a (.inl hh), fun x hx hf => (List.mem_append.1 hx).elim (fun hx => b x hx hf) fun hx => a (.inr ⟨x, hx, hf⟩)⟩
    rw [← e]; exact h1
  · refine h.dis i j x y hij ?_ ?_
    · rw [List.getElem?_append_left (List.getElem?_eq_some_iff.1 hx).1]; exact hx
    · rw [List.getElem?_append_left (List.getElem?_eq_some_iff.1 hy).1]; exact hy
  · obtain ⟨x, hx, hfx⟩ := hf
    obtain ⟨p, hp⟩ := List.mem_iff_getElem?.1 hx
    have hp' : (I1 ++ I2)[p]? = some x := by
      rw [List.getElem?_append_left (List.getElem?_eq_some_iff.1 hp).1]; exact hp
    rcases hk with hk | ⟨y, hy, hfy⟩
    · have := h.lt hp' hfx
      rcases this.1 with h1 | h1
      · have := h.bd k hk; omega
      · exact h.apart k hk h1
    · obtain ⟨q, hq⟩ := List.mem_iff_getElem?.1 hy
      have hq' : (I1 ++ I2)[I1.length + q]? = some y := by
        rw [List.getElem?_append_right (by omega), show I1.length + q - I1.length = q from by omega]; exact hq
      exact h.dis p (I1.length + q) x y (by have := (List.getElem?_eq_some_iff.1 hp).1; omega) hp' hq' k hfx hfy
theorem okM_part (M : Nat → Prop) (I1 I2 : List It) : okM (fun k => M k ∨ footL I2 k) I1 = okM M (I1 ++ I2) := by
  funext k
  unfold okM footL
  apply propext
  constructor
  · rintro ⟨a, b⟩
    exact ⟨fun hh => a (.inl hh), fun x hx hf => (List.mem_append.1 hx).elim (fun hx => b x hx hf) fun hx => a (.inr ⟨x, hx, hf⟩)⟩
  · rintro ⟨a, b⟩
    exact ⟨fun hh => hh.elim a fun ⟨x, hx, hf⟩ => b x (List.mem_append_right _ hx) hf, fun x hx => b x (List.mem_append_left _ hx)⟩
/-- Behind the call: what came back, and what the callee was not handed. -/
theorem Own.join {I1 I2 I3 : List It} (h : Own M w0 w (I1 ++ I2)) (h' : Own (fun k => M k ∨ footL I2 k) ⟨w, footL I1⟩ w' I3) : Own M w0 w' (I3 ++ I2) ∧ Goes (okM M (I1 ++ I2)) (okM M (I3 ++ I2)) w w' := by
  have hfrm : Frm (footL I1) w w' := h'.frm
  have lt3 : ∀ {p : Nat} {x : It} {k : Nat}, I3[p]? = some x → x.foot k → (w.heap.size ≤ k ∨ footL I1 k) ∧ k < w'.heap.size := fun hp hf => h'.lt hp hf
  have in1 : ∀ k, footL I1 k → (w0.heap.size ≤ k ∨ w0.F k) ∧ k < w.heap.size := by
    rintro k ⟨x, hx, hf⟩
    obtain ⟨p, hp⟩ := List.mem_iff_getElem?.1 (List.mem_append_left I2 hx)
    exact h.lt hp hf
  have no12 : ∀ k x y, x ∈ I1 → y ∈ I2 → x.foot k → ¬ y.foot k := by
    intro k x y hx hy hfx hfy
    exact h'.apart k (.inr ⟨y, hy, hfy⟩) ⟨x, hx, hfx⟩
  have hgo : Goes (okM M (I1 ++ I2)) (okM M (I3 ++ I2)) w w' := by
    intro b hb hlt
    have hb1 : ¬ footL I1 b := fun ⟨x, hx, hf⟩ => hb.2 x (List.mem_append_left _ hx) hf
    refine ⟨⟨hb.1, fun x hx hf => ?_⟩, hfrm.block b hlt hb1⟩
    rcases List.mem_append.1 hx with hx | hx
    · obtain ⟨p, hp⟩ := List.mem_iff_getElem?.1 hx
      rcases (lt3 hp hf).1 with h1 | h1
      · omega
      · exact hb1 h1
    · exact hb.2 x (List.mem_append_right _ hx) hf
  have at2 : ∀ {q : Nat} {y : It}, I2[q]? = some y → (I1 ++ I2)[I1.length + q]? = some y := by
    intro q y hq
    rw [List.getElem?_append_right (by omega), show I1.length + q - I1.length = q from by omega]; exact hq
  have split3 : ∀ {i : Nat} {x : It}, (I3 ++ I2)[i]? = some x → (i < I3.length ∧ I3[i]? = some x) ∨ (I3.length ≤ i ∧ I2[i - I3.length]? = some x) := by
    intro i x hi
    by_cases hl : i < I3.length
    · rw [List.getElem?_append_left hl] at hi; exact .inl ⟨hl, hi⟩
    · rw [List.getElem?_append_right (by omega)] at hi; exact .inr ⟨by omega, hi⟩
  refine ⟨⟨Frm.trans h.frm hfrm (fun _ h => h) (fun k hk hm => (in1 k hm).1.resolve_left (by omega)), h.bd, fun i x hi => ?_, fun i j x y hij hx hy k hfx hfy => ?_, h.apart⟩, hgo⟩
  · rcases split3 hi with ⟨hl, hi⟩ | ⟨hl, hi⟩
    · obtain ⟨h1, h2⟩ := h'.ok i x hi
      rw [okM_part] at h1
      refine ⟨h1, fun k hk => ⟨?_, (h2 k hk).2⟩⟩
      rcases (h2 k hk).1 with h3 | h3
      · have := h.frm.size; left; exact Nat.le_trans this h3
      · exact (in1 k h3).1
    · obtain ⟨h1, h2⟩ := h.ok _ x (at2 hi)
      refine ⟨x.stable hgo hfrm.size (fun k hk => (h2 k hk).2) (fun k hk => hfrm.block k (h2 k hk).2 fun ⟨z, hz, hfz⟩ => no12 k z x hz (List.mem_of_getElem? hi) hfz hk) h1, fun k hk => ⟨(h2 k hk).1, Nat.lt_of_lt_of_le (h2 k hk).2 hfrm.size⟩⟩
  · rcases split3 hx with ⟨hl, hx⟩ | ⟨hl, hx⟩ <;> rcases split3 hy with ⟨hl', hy⟩ | ⟨hl', hy⟩
    · exact h'.dis i j x y hij hx hy k hfx hfy
    · rcases (lt3 hx hfx).1 with h1 | ⟨z, hz, hfz⟩
      · have := (h.lt (at2 hy) hfy).2
        omega
      · exact no12 k z y hz (List.mem_of_getElem? hy) hfz hfy
    · rcases (lt3 hy hfy).1 with h1 | ⟨z, hz, hfz⟩
      · have := (h.lt (at2 hx) hfx).2
        omega
      · exact no12 k z x hz (List.mem_of_getElem? hx) hfz hfx
    · exact h.dis _ _ x y (by omega) (at2 hx) (at2 hy) k hfx hfy
variable {c : Ch} {dst : Option Tmp} {ty : TypeId} {pos : String} {aft : Array Edge} {ops : Array Oper} {K : Exit → Act → World → Prop} {rest : List Oper} {d : Nat}
/-- A call that is handed the items in front. -/
theorem l_callH {f : Operand} {fid : FuncId} {ps : List Operand} {tys : Array TypeId} {fn : Func} {xs : List AV} {I1 I2 : List It} {Q : AV → List It → Prop} {js : List Nat} (hk : S M w0 a w n I σ Df) (hp : FW.pick I js = I1 ++ I2) (hn : Nat.blt d n = true) (hf' : chFree σ d = true)
    (hv : opvc σ [] f = some (.lit (.func (.func fid) #[] #[]))) (hx : argsA σ [] ps = some xs)
    (hf : P.funcs[fid]? = some fn) (hb : fn.body.isSome = true) (hnm : (fn.name == "runtime.NumGoroutine") = false) (hok : OkH P fid xs I1 Q)
    (h : ∀ y I3, Q y I3 → ∀ a' w', S M w0 a' w' n (I3 ++ I2) ((d, [], y) :: σ) Df → wpList P ops K rest a' w') :
    wpList P ops K (⟨some d, .call { callee := .value f, args := ps.toArray, argTypes := tys }, ty, pos, aft, none⟩ :: rest) a w := by
  have hk1 := hk.pick hp
  have hargs : RepL (okM (fun k => M k ∨ footL I2 k) I1) w xs (ps.map a.eval) := by
    rw [okM_part]; exact rep_args hk1.kn (holds_nil a) hx
  have hc := hok (fun k => M k ∨ footL I2 k) w (ps.map a.eval).toArray hk1.own.part (by simpa using hargs)
  refine leffcall (R := fun v w' => ∃ y I3, Q y I3 ∧ Own (fun k => M k ∨ footL I2 k) ⟨w, footL I1⟩ w' I3 ∧ Rep (okM (fun k => M k ∨ footL I2 k) I3) w' y v) hk1 rfl rfl hn hf' (run_call (f := f) (hk1.kn.val (holds_nil a) hv) (by simp) hf hb hnm) (hc.mono fun e w' ⟨v, y, I3, he, hq, ho, hr⟩ => ⟨v, he, y, I3, hq, ho, hr⟩) ?_
  rintro v w' ⟨y, I3, hq, ho, hr⟩
  obtain ⟨ho', hgo⟩ := hk1.own.join ho
  rw [okM_part] at hr
  exact ⟨I3 ++ I2, y, ⟨ho', hk1.kn.go hgo⟩, hr, fun a' h' => h y I3 hq a' w' h'⟩
end
end Go.Proofs.Ytaoffkhflmndhaa.FW
