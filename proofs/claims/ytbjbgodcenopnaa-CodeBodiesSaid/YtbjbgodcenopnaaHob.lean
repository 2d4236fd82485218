/- Written by merge.py of: AvMorC, Hv, Hg, Hp, Hq, Hc, Hmf, Hcl, Hnr, Hso, AvFl, Hsh. -/
import Derived.Test.YtbjbgodcenopnaaAvRow
import Derived.Test.YtbjbgodcenopnaaAvDraw
import Derived.Lib.SliceRun
import Derived.Test.YtbjbgodcenopnaaAvFun
import Derived.Test.YtbjbgodcenopnaaAvOps
import Derived.KernelRfl
/- Further contracts of library functions; a variable that is laid with its value. -/
namespace Go.Proofs.Ytbjbgodcenopnaa
variable {Df : List Deferred}
open Go.RowKit
set_option linter.unusedVariables false
namespace FW
section
variable {P : Program} {M : Nat → Prop} {w0 : Bs} {w : World} {a : Act} {n : Nat} {I : List It} {σ : St} {c : Ch} {ty : TypeId} {pos : String} {aft : Array Edge} {x : Operand} {u : AV} {ops : Array Oper} {Q : Exit → Act → World → Prop} {rest : List Oper} {d : Nat} {cs : List AV}
theorem l_box {t : TypeId} (hk : S M w0 a w n I σ Df) (hn : Nat.blt d n = true) (hf : chFree σ d = true) (hx : opvc σ [] x = some u) (hw : wholeA u = true) (hcs : cellsA u = cs)
    (h : ∀ b a' w', S M w0 a' w' n (blk b t cs :: I) ((d, [], .lit (.pointer (some ⟨b, 0, none⟩))) :: σ) Df → wpList P ops Q rest a' w') :
    wpList P ops Q (⟨some d, .box t x, ty, pos, aft, none⟩ :: rest) a w := by
  subst hcs
  obtain ⟨hL, _⟩ := rep_cells (hk.kn.rep (holds_nil a) hx) hw
  have hr : (execOp a.eval ⟨some d, .box t x, ty, pos, aft, none⟩).run P w = .ok (.value (.pointer (some ⟨w.heap.size, 0, none⟩))) (w.alloc (.cells (a.eval x).cells t)) := by
    simp [execOp, Instr.box, newVar, newRow]
  refine leff hk rfl rfl hn hf hr ?_ (rep_lit rfl) (fun a' hk' => h _ _ _ hk')
  have hfoot : ∀ k, (blk w.heap.size t (cellsA u)).foot k → w.heap.size ≤ k ∧ k < (w.alloc (.cells (a.eval x).cells t)).heap.size := by
    intro k hk
    have hk' : k = w.heap.size := hk
    subst hk'
    simp
  exact hk.push (New.alloc w _) ⟨(a.eval x).cells, heap_alloc_new w _, RepL.go (Goes.push (it' := blk w.heap.size t (cellsA u)) (New.alloc w _) hfoot) _ _ hL⟩ hfoot
theorem S.squash {t : Nat} {x x' : AV} {c' : Ch} (hk : S M w0 a w n I ((t, [], x) :: (t, c', x') :: σ) Df) : S M w0 a w n I ((t, [], x) :: σ) Df := by
  refine ⟨hk.own, hk.kn.of_look fun i z hz => ?_⟩
  simp only [look] at hz ⊢
  cases hb : Nat.beq t i with
  | true => rw [hb] at hz; exact hz
  | false => rw [hb] at hz; simpa using hz
theorem S.freezeR {α : Type} {ad : Option Addr} {cap sz j : Nat} {e : TypeId} {f : α → List AV} {l : List α} {R : List α → List (List AV)} {t : Nat} {I' : List It} (hR : ∀ l, R l = l.map f) (hk : S M w0 a w n I σ Df) (hj : I[j]? = some (orow ad cap e sz f l)) (hl : look σ t = some ([], .lit (.slice ad l.length cap))) (h : I.eraseIdx j = I') : S M w0 a w n I' ((t, [], .row (R l)) :: σ) Df := by
  rw [hR]; exact S.freezeI hk hj hl h
/-- What a struct's parts come to: a nil slice is told as a row without elements, but where it is to be kept. -/
def nilA (keep : List Nat) (vs : List AV) : List AV := vs.zipIdx.map fun p => match p.1 with
  | .lit (.slice none 0 0) => bif keep.any (Nat.beq p.2) then .lit (.slice none 0 0) else .row []
  | v => v
theorem repL_nilA {ok : Nat → Prop} {w : World} {keep : List Nat} : ∀ (cs : List AV) (vs : List Value) (k : Nat), RepL ok w cs vs → RepL ok w ((cs.zipIdx k).map fun p => match p.1 with
    | .lit (.slice none 0 0) => bif keep.any (Nat.beq p.2) then .lit (.slice none 0 0) else .row []
    | v => v) vs
  | [], vs, k, h => by simpa [RepL] using h
  | c :: cs, vs, k, h => by
    simp only [RepL] at h
    obtain ⟨v, r, rfl, h1, h2⟩ := h
    rw [List.zipIdx_cons, List.map_cons]
    refine repL_cons ?_ (repL_nilA cs r (k + 1) h2)
    split
    · rename_i hv
      have hv' : c = .lit (.slice none 0 0) := hv
      subst hv'
      simp only [Rep] at h1
      subst h1
      cases keep.any (Nat.beq k) with
      | true => exact rep_lit rfl
      | false => exact rep_nil
    · exact h1
theorem f_buildN {dst : Option Tmp} {g : Option (Nat × Bool)} {t : TypeId} {ps : List (Nat × Operand)} {xs : List (Nat × AV)} {cs cs' : List AV} (keep : List Nat) (hk : S M w0 a w n I σ Df) (hc : holds a c) (hx : partsA σ c ps = some xs) (h : builtA P t xs = some cs) (h' : nilA keep cs = cs') :
    Fun P (okM M I) ⟨dst, .build t ps.toArray, ty, pos, aft, g⟩ a w (.agg cs') := by
  subst h'
  obtain ⟨arr, h1, h2⟩ := rep_built (rep_parts hk.kn hc hx) h
  refine .inl ⟨.agg arr, w, ?_, New.refl w, by simp only [Rep]; exact ⟨arr, rfl, repL_nilA _ _ 0 h2⟩⟩
  simp only [execOp, Sem.run_bind]
  rw [run_build w t _ arr (by simpa using h1)]
  simp
theorem RepL.setk {ok : Nat → Prop} {w : World} {x y : AV} (hy : ∀ v, Rep ok w x v → Rep ok w y v) : ∀ {cs : List AV} {vs : List Value} {k : Nat}, RepL ok w cs vs → cs[k]? = some x → RepL ok w (cs.set k y) vs
  | [], vs, k, h, hk => by simp at hk
  | c :: cs, vs, k, h, hk => by
    simp only [RepL] at h
    obtain ⟨v, r, rfl, h1, h2⟩ := h
    cases k with
    | zero =>
      simp only [List.getElem?_cons_zero, Option.some.injEq] at hk
      subst hk
      rw [List.set_cons_zero]
      exact repL_cons (hy v h1) h2
    | succ k =>
      rw [List.set_cons_succ]
      exact repL_cons h1 (RepL.setk hy h2 (by simpa using hk))
/-- A row that a variable holds is let go: from there on it is read alone. -/
theorem S.freezeBlk {α : Type} {ad : Option Addr} {cap sz b : Nat} {e t0 : TypeId} {f : α → List AV} {l : List α} {cs cs' : List AV} {I1 I' : List It} {R : List α → List (List AV)} (hR : ∀ l, R l = l.map f) (hk : S M w0 a w n I σ Df) (j jb k : Nat) (hj : I[j]? = some (orow ad cap e sz f l)) (h1 : I.eraseIdx j = I1) (hb : I1[jb]? = some (blk b t0 cs)) (hc : cs[k]? = some (.lit (.slice ad l.length cap)))
    (hcs : cs.set k (.row (R l)) = cs') (hI : I1.set jb (blk b t0 cs') = I') : S M w0 a w n I' σ Df := by
  subst h1; subst hI; subst hcs
  rw [hR]
  refine (hk.drop j).conv hb (fun ok hg hP => ?_) (fun k hk => hk)
  obtain ⟨arr, h2, h3⟩ := hP
  refine ⟨arr, h2, ?_⟩
  exact RepL.go hg _ _ (RepL.setk (hk.freeze hj) h3 hc)
end
end FW
end Go.Proofs.Ytbjbgodcenopnaa
/- Calls of functions that are handed items. -/
namespace Go.Proofs.Ytbjbgodcenopnaa.FW
variable {Df : List Deferred}
open Go.RowKit
set_option linter.unusedVariables false
/-- An item is put in front. -/
theorem okM_perm {M : Nat → Prop} {I I' : List It} (h : ∀ x, x ∈ I ↔ x ∈ I') : okM M I = okM M I' := by
  funext k
  unfold okM
  exact propext ⟨fun ⟨a, b⟩ => ⟨a, fun it hi => b it ((h it).2 hi)⟩, fun ⟨a, b⟩ => ⟨a, fun it hi => b it ((h it).1 hi)⟩⟩
section
variable {P : Program} {M : Nat → Prop} {w0 : Bs} {w w' : World} {a : Act} {n : Nat} {I I' : List It} {σ : St} {it : It} {j : Nat}
/-- Items in another row. -/
theorem Own.perm (h : Own M w0 w I) (f : Nat → Nat) (hf : ∀ i it, I'[i]? = some it → I[f i]? = some it) (hinj : ∀ i j, i < I'.length → j < I'.length → f i = f j → i = j) (hm : ∀ x, x ∈ I ↔ x ∈ I') : Own M w0 w I' := by
  refine ⟨h.frm, h.bd, fun i it hi => ?_, fun i j x y hij hx hy => ?_, h.apart⟩
  · rw [← okM_perm hm]
    exact h.ok (f i) it (hf i it hi)
  · refine h.dis (f i) (f j) x y (fun e => hij (hinj i j (List.getElem?_eq_some_iff.1 hx).1 (List.getElem?_eq_some_iff.1 hy).1 e)) (hf i x hx) (hf j y hy)
/-- The item at a place goes to the front. -/
def frontF (j i : Nat) : Nat := if i = 0 then j else if i ≤ j then i - 1 else i
theorem Own.front (h : Own M w0 w I) (hj : I[j]? = some it) : Own M w0 w (it :: I.eraseIdx j) := by
  have hlt : j < I.length := (List.getElem?_eq_some_iff.1 hj).1
  have hm : ∀ x, x ∈ I ↔ x ∈ it :: I.eraseIdx j := by
    intro x
    constructor
    · intro hx
      obtain ⟨i, hi⟩ := List.mem_iff_getElem?.1 hx
      by_cases hij : i = j
      · subst hij
        rw [hj] at hi; injection hi with hi; subst hi
        exact List.mem_cons_self
      · refine List.mem_cons_of_mem _ (List.mem_iff_getElem?.2 ?_)
        by_cases hlt : i < j
        · exact ⟨i, by rw [List.getElem?_eraseIdx, if_pos hlt]; exact hi⟩
        · refine ⟨i - 1, ?_⟩
          rw [List.getElem?_eraseIdx, if_neg (by omega), show i - 1 + 1 = i from by omega]
          exact hi
    · intro hx
      rcases List.mem_cons.1 hx with rfl | hx
      · exact List.mem_of_getElem? hj
      · exact List.mem_of_mem_eraseIdx hx
  refine h.perm (frontF j) ?_ ?_ hm
  · intro i x hi
    unfold frontF
    cases i with
    | zero => rw [if_pos rfl]; simp only [List.getElem?_cons_zero, Option.some.injEq] at hi; rw [← hi]; exact hj
    | succ i =>
      rw [if_neg (by omega)]
      rw [List.getElem?_cons_succ, List.getElem?_eraseIdx] at hi
      by_cases hij : i < j
      · rw [if_pos hij] at hi
        rw [if_pos (by omega)]; exact hi
      · rw [if_neg hij] at hi
        rw [if_neg (by omega)]; exact hi
  · intro p q hp hq
    unfold frontF
    split <;> split <;> (try split) <;> (try split) <;> omega
theorem S.front (h : S M w0 a w n I σ Df) (hj : I[j]? = some it) : S M w0 a w n (it :: I.eraseIdx j) σ Df := by
  have ho := h.own.front hj
  refine ⟨ho, ?_⟩
  have hm : okM M (it :: I.eraseIdx j) = okM M I := by
    refine (okM_perm fun x => ?_).symm
    constructor
    · intro hx
      obtain ⟨i, hi⟩ := List.mem_iff_getElem?.1 hx
      by_cases hij : i = j
      · subst hij
        rw [hj] at hi; injection hi with hi; subst hi
        exact List.mem_cons_self
      · refine List.mem_cons_of_mem _ (List.mem_iff_getElem?.2 ?_)
        by_cases hlt : i < j
        · exact ⟨i, by rw [List.getElem?_eraseIdx, if_pos hlt]; exact hi⟩
        · refine ⟨i - 1, ?_⟩
          rw [List.getElem?_eraseIdx, if_neg (by omega), show i - 1 + 1 = i from by omega]
          exact hi
    · intro hx
      rcases List.mem_cons.1 hx with rfl | hx
      · exact List.mem_of_getElem? hj
      · exact List.mem_of_mem_eraseIdx hx
  rw [hm]; exact h.kn
/-- Items at places, in a row, in front of the others. -/
def pick (I : List It) : List Nat → List It
  | [] => I
  | j :: js => match I[j]? with
    | some it => pick (it :: I.eraseIdx j) js
    | none => I
theorem S.pick (h : S M w0 a w n I σ Df) : ∀ {js : List Nat} {I' : List It}, pick I js = I' → S M w0 a w n I' σ Df := by
  intro js
  induction js generalizing I with
  | nil => intro I' e; subst e; exact h
  | cons j js ih =>
    intro I' e
    unfold FW.pick at e
    cases hj : I[j]? with
    | none => rw [hj] at e; subst e; exact h
    | some it => rw [hj] at e; exact ih (h.front hj) e

/-- The callee's part of what is owned. -/
theorem Own.part {I1 I2 : List It} (h : Own M w0 w (I1 ++ I2)) : Own (fun k => M k ∨ footL I2 k) ⟨w, footL I1⟩ w I1 := by
  refine ⟨Frm.refl _ _, fun k hk => ?_, fun i it hi => ?_, fun i j x y hij hx hy => ?_, fun k hk hf => ?_⟩
  · rcases hk with hk | ⟨it, hi, hf⟩
    · exact Nat.lt_of_lt_of_le (h.bd k hk) h.frm.size
    · obtain ⟨p, hp⟩ := List.mem_iff_getElem?.1 (List.mem_append_right I1 hi)
      exact (h.lt hp hf).2
  · have hi' : (I1 ++ I2)[i]? = some it := by
      rw [List.getElem?_append_left (List.getElem?_eq_some_iff.1 hi).1]; exact hi
    obtain ⟨h1, h2⟩ := h.ok i it hi'
    refine ⟨?_, fun k hk => ⟨.inr ⟨it, List.mem_of_getElem? hi, hk⟩, (h2 k hk).2⟩⟩
    have e : okM M (I1 ++ I2) = okM (fun k => M k ∨ footL I2 k) I1 := by
      funext k
      unfold okM footL
      apply propext
      constructor
      · rintro ⟨a, b⟩
        exact ⟨fun hh => hh.elim a fun ⟨x, hx, hf⟩ => b x (List.mem_append_right _ hx) hf, fun x hx => b x (List.mem_append_left _ hx)⟩
      · rintro ⟨a, b⟩
        exact ⟨fun hh => a (.inl hh), fun x hx hf => (List.mem_append.1 hx).elim (fun hx => b x hx hf) fun hx => a (.inr ⟨x, hx, hf⟩)⟩
    rw [← e]; exact h1
  · refine h.dis i j x y hij ?_ ?_
    · rw [List.getElem?_append_left (List.getElem?_eq_some_iff.1 hx).1]; exact hx
    · rw [List.getElem?_append_left (List.getElem?_eq_some_iff.1 hy).1]; exact hy
  · obtain ⟨x, hx, hfx⟩ := hf
    obtain ⟨p, hp⟩ := List.mem_iff_getElem?.1 hx
    have hp' : (I1 ++ I2)[p]? = some x := by
      rw [List.getElem?_append_left (List.getElem?_eq_some_iff.1 hp).1]; exact hp
    rcases hk with hk | ⟨y, hy, hfy⟩
    · have := h.lt hp' hfx
      rcases this.1 with h1 | h1
      · have := h.bd k hk; omega
      · exact h.apart k hk h1
    · obtain ⟨q, hq⟩ := List.mem_iff_getElem?.1 hy
      have hq' : (I1 ++ I2)[I1.length + q]? = some y := by
        rw [List.getElem?_append_right (by omega), show I1.length + q - I1.length = q from by omega]; exact hq
      exact h.dis p (I1.length + q) x y (by have := (List.getElem?_eq_some_iff.1 hp).1; omega) hp' hq' k hfx hfy
theorem okM_part (M : Nat → Prop) (I1 I2 : List It) : okM (fun k => M k ∨ footL I2 k) I1 = okM M (I1 ++ I2) := by
  funext k
  unfold okM footL
  apply propext
  constructor
  · rintro ⟨a, b⟩
    exact ⟨fun hh => a (.inl hh), fun x hx hf => (List.mem_append.1 hx).elim (fun hx => b x hx hf) fun hx => a (.inr ⟨x, hx, hf⟩)⟩
  · rintro ⟨a, b⟩
    exact ⟨fun hh => hh.elim a fun ⟨x, hx, hf⟩ => b x (List.mem_append_right _ hx) hf, fun x hx => b x (List.mem_append_left _ hx)⟩
/-- Behind the call: what came back, and what the callee was not handed. -/
theorem Own.join {I1 I2 I3 : List It} (h : Own M w0 w (I1 ++ I2)) (h' : Own (fun k => M k ∨ footL I2 k) ⟨w, footL I1⟩ w' I3) : Own M w0 w' (I3 ++ I2) ∧ Goes (okM M (I1 ++ I2)) (okM M (I3 ++ I2)) w w' := by
  have hfrm : Frm (footL I1) w w' := h'.frm
  have lt3 : ∀ {p : Nat} {x : It} {k : Nat}, I3[p]? = some x → x.foot k → (w.heap.size ≤ k ∨ footL I1 k) ∧ k < w'.heap.size := fun hp hf => h'.lt hp hf
  have in1 : ∀ k, footL I1 k → (w0.heap.size ≤ k ∨ w0.F k) ∧ k < w.heap.size := by
    rintro k ⟨x, hx, hf⟩
    obtain ⟨p, hp⟩ := List.mem_iff_getElem?.1 (List.mem_append_left I2 hx)
    exact h.lt hp hf
  have no12 : ∀ k x y, x ∈ I1 → y ∈ I2 → x.foot k → ¬ y.foot k := by
    intro k x y hx hy hfx hfy
    exact h'.apart k (.inr ⟨y, hy, hfy⟩) ⟨x, hx, hfx⟩
  have hgo : Goes (okM M (I1 ++ I2)) (okM M (I3 ++ I2)) w w' := by
    intro b hb hlt
    have hb1 : ¬ footL I1 b := fun ⟨x, hx, hf⟩ => hb.2 x (List.mem_append_left _ hx) hf
    refine ⟨⟨hb.1, fun x hx hf => ?_⟩, hfrm.block b hlt hb1⟩
    rcases List.mem_append.1 hx with hx | hx
    · obtain ⟨p, hp⟩ := List.mem_iff_getElem?.1 hx
      rcases (lt3 hp hf).1 with h1 | h1
      · omega
      · exact hb1 h1
    · exact hb.2 x (List.mem_append_right _ hx) hf
  have at2 : ∀ {q : Nat} {y : It}, I2[q]? = some y → (I1 ++ I2)[I1.length + q]? = some y := by
    intro q y hq
    rw [List.getElem?_append_right (by omega), show I1.length + q - I1.length = q from by omega]; exact hq
  have split3 : ∀ {i : Nat} {x : It}, (I3 ++ I2)[i]? = some x → (i < I3.length ∧ I3[i]? = some x) ∨ (I3.length ≤ i ∧ I2[i - I3.length]? = some x) := by
    intro i x hi
    by_cases hl : i < I3.length
    · rw [List.getElem?_append_left hl] at hi; exact .inl ⟨hl, hi⟩
    · rw [List.getElem?_append_right (by omega)] at hi; exact .inr ⟨by omega, hi⟩
  refine ⟨⟨Frm.trans h.frm hfrm (fun _ h => h) (fun k hk hm => (in1 k hm).1.resolve_left (by omega)), h.bd, fun i x hi => ?_, fun i j x y hij hx hy k hfx hfy => ?_, h.apart⟩, hgo⟩
  · rcases split3 hi with ⟨hl, hi⟩ | ⟨hl, hi⟩
    · obtain ⟨h1, h2⟩ := h'.ok i x hi
      rw [okM_part] at h1
      refine ⟨h1, fun k hk => ⟨?_, (h2 k hk).2⟩⟩
      rcases (h2 k hk).1 with h3 | h3
      · have := h.frm.size; left; exact Nat.le_trans this h3
      · exact (in1 k h3).1
    · obtain ⟨h1, h2⟩ := h.ok _ x (at2 hi)
      refine ⟨x.stable hgo hfrm.size (fun k hk => (h2 k hk).2) (fun k hk => hfrm.block k (h2 k hk).2 fun ⟨z, hz, hfz⟩ => no12 k z x hz (List.mem_of_getElem? hi) hfz hk) h1, fun k hk => ⟨(h2 k hk).1, Nat.lt_of_lt_of_le (h2 k hk).2 hfrm.size⟩⟩
  · rcases split3 hx with ⟨hl, hx⟩ | ⟨hl, hx⟩ <;> rcases split3 hy with ⟨hl', hy⟩ | ⟨hl', hy⟩
    · exact h'.dis i j x y hij hx hy k hfx hfy
    · rcases (lt3 hx hfx).1 with h1 | ⟨z, hz, hfz⟩
      · have := (h.lt (at2 hy) hfy).2
        omega
      · exact no12 k z y hz (List.mem_of_getElem? hy) hfz hfy
    · rcases (lt3 hy hfy).1 with h1 | ⟨z, hz, hfz⟩
      · have := (h.lt (at2 hx) hfx).2
        omega
      · exact no12 k z x hz (List.mem_of_getElem? hx) hfz hfx
    · exact h.dis _ _ x y (by omega) (at2 hx) (at2 hy) k hfx hfy
variable {c : Ch} {dst : Option Tmp} {ty : TypeId} {pos : String} {aft : Array Edge} {ops : Array Oper} {K : Exit → Act → World → Prop} {rest : List Oper} {d : Nat}
/-- A call that is handed the items in front. -/
theorem l_callH {f : Operand} {fid : FuncId} {ps : List Operand} {tys : Array TypeId} {fn : Func} {xs : List AV} {I1 I2 : List It} {Q : AV → List It → Prop} {js : List Nat} (hk : S M w0 a w n I σ Df) (hp : FW.pick I js = I1 ++ I2) (hn : Nat.blt d n = true) (hf' : chFree σ d = true)
    (hv : opvc σ [] f = some (.lit (.func (.func fid) #[] #[]))) (hx : argsA σ [] ps = some xs)
    (hf : P.funcs[fid]? = some fn) (hb : fn.body.isSome = true) (hnm : (fn.name == "runtime.NumGoroutine") = false) (hok : OkH P fid xs I1 Q)
    (h : ∀ y I3, Q y I3 → ∀ a' w', S M w0 a' w' n (I3 ++ I2) ((d, [], y) :: σ) Df → wpList P ops K rest a' w') :
    wpList P ops K (⟨some d, .call { callee := .value f, args := ps.toArray, argTypes := tys }, ty, pos, aft, none⟩ :: rest) a w := by
  have hk1 := hk.pick hp
  have hargs : RepL (okM (fun k => M k ∨ footL I2 k) I1) w xs (ps.map a.eval) := by
    rw [okM_part]; exact rep_args hk1.kn (holds_nil a) hx
  have hc := hok (fun k => M k ∨ footL I2 k) w (ps.map a.eval).toArray hk1.own.part (by simpa using hargs)
  refine leffcall (R := fun v w' => ∃ y I3, Q y I3 ∧ Own (fun k => M k ∨ footL I2 k) ⟨w, footL I1⟩ w' I3 ∧ Rep (okM (fun k => M k ∨ footL I2 k) I3) w' y v) hk1 rfl rfl hn hf' (run_call (f := f) (hk1.kn.val (holds_nil a) hv) (by simp) hf hb hnm) (hc.mono fun e w' ⟨v, y, I3, he, hq, ho, hr⟩ => ⟨v, he, y, I3, hq, ho, hr⟩) ?_
  rintro v w' ⟨y, I3, hq, ho, hr⟩
  obtain ⟨ho', hgo⟩ := hk1.own.join ho
  rw [okM_part] at hr
  exact ⟨I3 ++ I2, y, ⟨ho', hk1.kn.go hgo⟩, hr, fun a' h' => h y I3 hq a' w' h'⟩
end
end Go.Proofs.Ytbjbgodcenopnaa.FW
/- Calls with items under a guard. -/
namespace Go.Proofs.Ytbjbgodcenopnaa.FW
variable {Df : List Deferred}
open Go.RowKit
set_option linter.unusedVariables false
/-- A chain that is told by what is known. -/
def asmH (σ : St) : Ch → Prop
  | [] => True
  | (j, want) :: c => match look σ j with
    | some (c0, .lit (.bool b)) => b = want ∧ subc c0 c = true ∧ asmH σ c
    | _ => False
theorem asm_in {ok : Nat → Prop} {a : Act} {w : World} {n : Nat} {σ : St} (hk : Knows ok a w n σ Df) : ∀ {c : Ch}, asmH σ c → holds a c
  | [], _ => holds_nil a
  | (j, want) :: c, h => by
    unfold asmH at h
    split at h
    · rename_i c0 b hl
      obtain ⟨rfl, hs, h'⟩ := h
      have hc := asm_in hk h'
      have h1 := (hk.ent _ _ _ hl).1 (holds_sub hs hc)
      simp only [Rep] at h1
      intro p hp
      rcases List.mem_cons.1 hp with rfl | hp
      · exact h1
      · exact hc p hp
    · exact h.elim
theorem bndG2 {α β : Type} {p : Prop} [Decidable p] {x : Option β} {d : β} {F : β → Option α} {r : α} (h : (if p then x else some d).bind F = some r) : ∃ y, (p → x = some y) ∧ (¬ p → y = d) ∧ F y = some r := by
  by_cases hp : p
  · rw [if_pos hp] at h; obtain ⟨y, h1, h2⟩ := bnd h; exact ⟨y, fun _ => h1, fun h' => absurd hp h', h2⟩
  · rw [if_neg hp] at h; exact ⟨d, fun h' => absurd h' hp, fun _ => rfl, h⟩
/-- A pointer that may be nil, and what belongs to it. -/
def ptrO {α : Type} (o : Option α) (b : Nat) : AV := .lit (.pointer (o.map fun _ => ⟨b, 0, none⟩))
def optI {α : Type} (o : Option α) (F : α → List It) : List It := match o with
  | none => []
  | some x => F x
theorem isNone_ptrO {α : Type} (o : Option α) (b : Nat) : (o.map fun _ => (⟨b, 0, none⟩ : Addr)).isNone = o.isNone := by cases o <;> rfl
section
variable {P : Program} {M : Nat → Prop} {w0 : Bs} {w w' : World} {a : Act} {n : Nat} {I I' : List It} {σ : St} {it : It} {j : Nat}
variable {c : Ch} {dst : Option Tmp} {ty : TypeId} {pos : String} {aft : Array Edge} {ops : Array Oper} {K : Exit → Act → World → Prop} {rest : List Oper} {d : Nat}
theorem S.dropL : ∀ {I1 I2 : List It}, S M w0 a w n (I1 ++ I2) σ Df → S M w0 a w n I2 σ Df
  | [], _, h => h
  | _ :: I1, _, h => S.dropL (I1 := I1) (h.drop 0)
theorem S.dropL2 {I1 I2 I3 : List It} (h : S M w0 a w n ((I1 ++ I2) ++ I3) σ Df) : S M w0 a w n (I2 ++ I3) σ Df := S.dropL (I1 := I1) (by rwa [List.append_assoc] at h)
theorem mem_pick : ∀ {js : List Nat} {I : List It} {x : It}, x ∈ FW.pick I js → x ∈ I
  | [], I, x, h => h
  | j :: js, I, x, h => by
    unfold FW.pick at h
    cases hj : I[j]? with
    | none => rw [hj] at h; exact h
    | some it =>
      rw [hj] at h
      rcases List.mem_cons.1 (mem_pick h) with rfl | h
      · exact List.mem_of_getElem? hj
      · exact List.mem_of_mem_eraseIdx h
/-- A result that stands in a variable, ahead of letting the variable go. -/
theorem rres_keep {js : List Nat} {I1 I2 : List It} {r : ResultVar} {y : AV} (hp : FW.pick I js = I1 ++ I2) (h : RRes P (okM M I) a w r y) : RRes P (okM M I1) a w r y := by
  have hg : Goes (okM M I) (okM M I1) w w := by
    intro b hb hlt
    refine ⟨⟨hb.1, fun x hx => hb.2 x (mem_pick (js := js) (by rw [hp]; exact List.mem_append_left _ hx))⟩, rfl⟩
  cases h with
  | tmp h => exact .tmp (Rep.go hg _ _ h)
  | cell h => obtain ⟨v, h1, h2⟩ := h; exact .cell ⟨v, h1, Rep.go hg _ _ h2⟩
/-- A call that is handed the items in front, under a guard. -/
theorem l_callHG {f : Operand} {fid : FuncId} {ps : List Operand} {tys : Array TypeId} {fn : Func} {xs : List AV} {I1 I2 : List It} {Q : AV → List It → Prop} {js : List Nat} {j g : Nat} {want b : Bool} {c0 : Ch} (hk : S M w0 a w n I σ Df) (hp : FW.pick I js = I1 ++ I2)
    (hj : (ops[j]?).bind (·.dst) = some g) (hgn : Nat.blt g n = true) (hl : look σ g = some (c0, .lit (.bool b))) (hn : Nat.blt d n = true) (hf' : chFree σ d = true) (hcf : cFree ((g, want) :: c0) d = true)
    (hv : opvc σ [] f = some (.lit (.func (.func fid) #[] #[]))) (hx : argsA σ ((g, want) :: c0) ps = some xs)
    (hf : P.funcs[fid]? = some fn) (hb : fn.body.isSome = true) (hnm : (fn.name == "runtime.NumGoroutine") = false) (hok : holds a ((g, want) :: c0) → OkH P fid xs I1 Q)
    (hno : ¬ holds a ((g, want) :: c0) → ∃ y, Q y I1)
    (h : ∀ y I3, Q y I3 → ∀ a' w', S M w0 a' w' n (I3 ++ I2) ((d, (g, want) :: c0, y) :: σ) Df → wpList P ops K rest a' w') :
    wpList P ops K (⟨some d, .call { callee := .value f, args := ps.toArray, argTypes := tys }, ty, pos, aft, some (j, want)⟩ :: rest) a w := by
  have hk1 := hk.pick hp
  obtain ⟨hw1, hw2⟩ := wanted_iff (o := ⟨some d, .call { callee := .value f, args := ps.toArray, argTypes := tys }, ty, pos, aft, some (j, want)⟩) hk.kn rfl hj hgn hl
  unfold wpList
  by_cases hh : holds a ((g, want) :: c0)
  · rw [if_pos (hw1.2 hh)]
    left
    have hargs : RepL (okM (fun k => M k ∨ footL I2 k) I1) w xs (ps.map a.eval) := by
      rw [okM_part]; exact rep_args hk1.kn hh hx
    have hc := hok hh (fun k => M k ∨ footL I2 k) w (ps.map a.eval).toArray hk1.own.part (by simpa using hargs)
    unfold Oper.wp
    have hr0 : (execOp a.eval ⟨some d, .call { callee := .value f, args := ps.toArray, argTypes := tys }, ty, pos, aft, some (j, want)⟩).run P w = .ok (.enter fid (ps.map a.eval).toArray) w := run_call (f := f) (hk1.kn.val (holds_nil a) hv) (by simp) hf hb hnm
    rw [hr0, Oper.upon_enter]
    refine hc.mono ?_
    rintro e w' ⟨v, y, I3, rfl, hq, ho, hr⟩
    obtain ⟨ho', hgo⟩ := hk1.own.join ho
    rw [okM_part] at hr
    exact h y I3 hq _ w' ⟨ho', (hk1.kn.go hgo).put hn hf' hcf (fun _ => hr) (fun h' => absurd hh h')⟩
  · rw [if_neg (by rw [hw2 hh]; simp)]
    obtain ⟨y, hq⟩ := hno hh
    exact h y I1 hq _ _ ⟨hk1.own, hk1.kn.put hn hf' hcf (fun h' => absurd h' hh) (fun _ => rfl)⟩
end
end Go.Proofs.Ytbjbgodcenopnaa.FW
/- Elements of rows of a call's own, pointers held against nil. -/
namespace Go.Proofs.Ytbjbgodcenopnaa.FW
variable {Df : List Deferred}
open Go.RowKit
set_option linter.unusedVariables false
set_option linter.unusedSimpArgs false
set_option linter.unusedSectionVars false
section
variable {P : Program} {ok : Nat → Prop} {a : Act} {n : Nat} {σ : St} {wk : World} {c : Ch} {dst : Option Tmp} {ty : TypeId} {pos : String} {aft : Array Edge} {g : Option (Nat × Bool)} {t t' e : TypeId} {x y : Operand} {A : Addr}
theorem eqGuard_ptr (op : BinOp) (t : TypeId) (x y : Operand) (p q : Option Addr) (w : World) : (eqGuard op t x y (.pointer p) (.pointer q)).run P w = .ok () w := by
  unfold eqGuard; cases op <;> simp
theorem equal_ptr {A : Option Addr} (hu : P.underlying t = some (.pointer e)) (w : World) : (Op.equal t (.pointer A) (.pointer none)).run P w = .ok A.isNone w := by
  unfold Op.equal
  rw [show Op.maxDepth = 9999 + 1 from rfl, Op.equalIn]
  simp only [Sem.run_bind, run_underlying hu, Result.andThen_ok]
  cases A <;> rfl
theorem run_eqlp {A : Option Addr} (hu : P.underlying t = some (.pointer e)) (w : World) : (binOp .eql t (.pointer A) (.pointer none)).run P w = .ok (.bool A.isNone) w := by
  simp only [binOp, Sem.run_bind, equal_ptr hu, Result.andThen_ok, Sem.run_pure]
theorem run_neqp {A : Option Addr} (hu : P.underlying t = some (.pointer e)) (w : World) : (binOp .neq t (.pointer A) (.pointer none)).run P w = .ok (.bool (!A.isNone)) w := by
  simp only [binOp, Sem.run_bind, equal_ptr hu, Result.andThen_ok, Sem.run_pure]
theorem p_ptrEq {A : Option Addr} {b : Bool} (hu : P.underlying t = some (.pointer e)) (hk : Knows ok a wk n σ Df) (hc : holds a c) (hx : opvc σ c x = some (.lit (.pointer A))) (hy : opvc σ c y = some (.lit (.pointer none))) (hb : A.isNone = b) :
    PureOp P a ⟨dst, .binOp .eql t x y t', ty, pos, aft, g⟩ (.bool b) := by
  intro w; subst hb
  simp only [execOp, hk.val hc hx, hk.val hc hy, Sem.run_bind, eqGuard_ptr, Result.andThen_ok, run_eqlp hu, Sem.run_pure]
theorem p_ptrNe {A : Option Addr} {b : Bool} (hu : P.underlying t = some (.pointer e)) (hk : Knows ok a wk n σ Df) (hc : holds a c) (hx : opvc σ c x = some (.lit (.pointer A))) (hy : opvc σ c y = some (.lit (.pointer none))) (hb : (!A.isNone) = b) :
    PureOp P a ⟨dst, .binOp .neq t x y t', ty, pos, aft, g⟩ (.bool b) := by
  intro w; subst hb
  simp only [execOp, hk.val hc hx, hk.val hc hy, Sem.run_bind, eqGuard_ptr, Result.andThen_ok, run_neqp hu, Sem.run_pure]
end
section
variable {P : Program} {M : Nat → Prop} {w0 : Bs} {w : World} {a : Act} {n : Nat} {I I' : List It} {σ : St} {c : Ch} {dst : Option Tmp} {ty : TypeId} {pos : String} {aft : Array Edge} {g : Option (Nat × Bool)} {x y z : Operand} {u : AV} {ops : Array Oper} {Q : Exit → Act → World → Prop} {rest : List Oper} {d j : Nat}
  {α : Type} [Inhabited α] {f : α → List AV} {l : List α} {ad : Option Addr} {cap : Nat} {e t : TypeId} {sz : Nat}
/-- Where an element of a row lies. -/
def elA (ad : Option Addr) (sz : Nat) (i : Int) : AV := .lit (.pointer (ad.map fun b => ⟨b.block, i.toNat * sz, none⟩))
theorem f_idxOwn {k : IntKind} {i : Int} {nl : Nat} (hk : S M w0 a w n I σ Df) (hc : holds a c) (hj : I[j]? = some (orow ad cap e sz f l)) (hx : opvc σ c x = some (.lit (.slice ad nl cap))) (hnl : nl = l.length) (hy : opvc σ c y = some (.lit (.int k i))) (hu : P.underlying t = some (.slice e)) (hs : (P.info? e).map (·.size) = some sz) (hi : asmP σ c (0 ≤ i ∧ i < l.length)) :
    Fun P (okM M I) ⟨dst, .indexAddr t x y, ty, pos, aft, g⟩ a w (elA ad sz i) := by
  subst hnl
  have hi := asm_out hk.kn hc hi
  obtain ⟨hsz, vals, hown, hL⟩ := hk.own.get hj
  obtain ⟨inf, hinf, hs'⟩ := Option.map_eq_some_iff.1 hs
  rcases hown.2 with ⟨hv, hn⟩ | ⟨gb, cp, cur, hv, _, hh, hle, hcm, hcs, htk⟩
  · omega
  · injection hv with h3 h4 h5
    subst h3
    refine .inl ⟨.pointer (some ⟨gb, i.toNat * sz, none⟩), w, ?_, New.refl w, rep_lit rfl⟩
    simp [execOp, hk.kn.val hc hx, hk.kn.val hc hy, Instr.indexAt, asIntOf, run_underlying hu, sizeOf, typeInfo, hinf, hs', hi.1, hi.2, add_addr]
theorem f_loadOwn1 {D : TypeDesc} {i : Int} (hk : S M w0 a w n I σ Df) (hc : holds a c) (hj : I[j]? = some (orow ad cap e 1 f l)) (hx : opvc σ c x = some (elA ad 1 i)) (hi : asmP σ c (0 ≤ i ∧ i < l.length)) (hfu : f (l.getD i.toNat default) = [u]) (hu : P.underlying t = some D) (hd : isAggD D = false) :
    Fun P (okM M I) ⟨dst, .load t x, ty, pos, aft, g⟩ a w u := by
  have hi := asm_out hk.kn hc hi
  obtain ⟨hsz, vals, hown, hL⟩ := hk.own.get hj
  rcases hown.2 with ⟨hv, hn⟩ | ⟨gb, cp, cur, hv, _, hh, hle, hcm, hcs, htk⟩
  · omega
  · injection hv with h3 h4 h5
    subst h3
    have hget : ((l.map f).flatten)[i.toNat]? = some u := by
      have key : ∀ (l : List α) (i : Nat), i < l.length → f (l.getD i default) = [u] → ((l.map f).flatten)[i]? = some u := by
        intro l
        induction l with
        | nil => intro i h; simp at h
        | cons z l ih =>
          intro i h hf
          have hz : (f z).length = 1 := hsz z
          cases i with
          | zero =>
            simp only [List.getD_cons_zero] at hf
            rw [List.map_cons, List.flatten_cons, hf]; rfl
          | succ i =>
            simp only [List.getD_cons_succ] at hf
            rw [List.map_cons, List.flatten_cons, List.getElem?_append_right (by omega), hz]
            simpa using ih i (by simpa using h) hf
      exact key l _ (by omega) hfu
    obtain ⟨v, hv', hr⟩ := hL.get hget
    have hx' : a.eval x = .pointer (some ⟨gb, i.toNat * 1, none⟩) := hk.kn.val hc hx
    have hcell : w.cell? ⟨gb, i.toNat * 1, none⟩ = some v := by
      rw [cell_of_row w gb _ cur e (0, 0) hh, Nat.mul_one]
      rw [← htk, List.getElem?_take] at hv'
      split at hv'
      · simpa using hv'
      · cases hv'
    refine .inl ⟨v, w, ?_, New.refl w, hr⟩
    have : (isAgg t).run P w = .ok false w := by
      simp only [isAgg, Sem.run_bind, run_underlying hu, Result.andThen_ok]
      cases D <;> simp_all [isAggD]
    simp only [execOp, hx', Instr.loadAt, Instr.sureAddr, Sem.run_bind, Sem.run_pure, Result.andThen_ok, loadVar, this]
    rw [Nat.mul_one] at hcell
    simp [load, Sem.run, hcell]
theorem flat_set {l : List α} (hsz : ∀ x, (f x).length = 1) : ∀ (l : List α) (i : Nat) (v : α) (u : AV), f v = [u] → ((l.set i v).map f).flatten = ((l.map f).flatten).set i u
  | [], i, v, u, h => by simp
  | z :: l, 0, v, u, h => by
    obtain ⟨z0, hz⟩ := List.length_eq_one_iff.1 (hsz z)
    simp [h, hz]
  | z :: l, i + 1, v, u, h => by
    obtain ⟨z0, hz⟩ := List.length_eq_one_iff.1 (hsz z)
    have := flat_set (l := l) hsz l i v u h
    simp only [List.map_cons, List.flatten_cons, List.set_cons_succ, hz, this, List.cons_append, List.nil_append]
theorem repL_set {ok : Nat → Prop} : ∀ {cs : List AV} {vs : List Value} (i : Nat) {u : AV} {v : Value}, RepL ok w cs vs → Rep ok w u v → RepL ok w (cs.set i u) (vs.set i v)
  | [], vs, i, u, v, h, _ => by simp only [RepL] at h; subst h; simpa using repL_nil
  | x :: cs, vs, 0, u, v, h, hu => by
    simp only [RepL] at h
    obtain ⟨v0, r, rfl, h1, h2⟩ := h
    exact repL_cons hu h2
  | x :: cs, vs, i + 1, u, v, h, hu => by
    simp only [RepL] at h
    obtain ⟨v0, r, rfl, h1, h2⟩ := h
    exact repL_cons h1 (repL_set i h2 hu)
theorem l_storeOwn1 {i : Int} {v : α} {v' : Value} {I' : List It} (hk : S M w0 a w n I σ Df) (hj : I[j]? = some (orow ad cap e 1 f l)) (hx : opvc σ [] x = some (elA ad 1 i)) (hi : 0 ≤ i ∧ i < l.length) (hy : opvc σ [] y = some (.lit v')) (hfu : f v = [.lit v']) (hcl : v'.cells = #[v']) (hone : v'.oneCell' = true) (hs : (P.info? t).map (·.size) = some 1)
    (hI : I.set j (orow ad cap e 1 f (l.set i.toNat v)) = I') (h : ∀ w', S M w0 a w' n I' σ Df → wpList P ops Q rest a w') : wpList P ops Q (⟨none, .store t x y, ty, pos, aft, none⟩ :: rest) a w := by
  obtain ⟨hsz, vals, hown, hL⟩ := hk.own.get hj
  obtain ⟨inf, hinf, hs'⟩ := Option.map_eq_some_iff.1 hs
  rcases hown.2 with ⟨hv, hn⟩ | ⟨gb, cp, cur, hv, hb0, hh, hle, hcm, hcs, htk⟩
  · omega
  · injection hv with h3 h4 h5
    subst h3; subst h5
    have hx' : a.eval x = .pointer (some ⟨gb, i.toNat * 1, none⟩) := hk.kn.val (holds_nil a) hx
    have hy' : a.eval y = v' := hk.kn.val (holds_nil a) hy
    have hlt : i.toNat < cur.size := by rw [hcs]; omega
    have hst := run_storeCells_at (P := P) gb i.toNat e [v'] 0 cur w hh (by simp; omega) (by simpa using hone)
    simp only [Nat.add_zero] at hst
    have hrow : (cur.toList.take i.toNat ++ [v'] ++ cur.toList.drop (i.toNat + [v'].length)) = cur.toList.set i.toNat v' := by
      rw [List.set_eq_take_append_cons_drop, if_pos (by simpa using hlt)]
      simp
    rw [hrow] at hst
    have hr : (execOp a.eval ⟨none, .store t x y, ty, pos, aft, none⟩).run P w = .ok .skip (w.setRow gb (cur.toList.set i.toNat v').toArray) := by
      have hso : (sizeOf t).run P w = .ok inf.size w := by simp [sizeOf, typeInfo, hinf]
      simp only [execOp, hx', hy', Instr.storeAt, Instr.sureAddr, storeVar, Sem.run_bind, Sem.run_pure, Result.andThen_ok, hso, hs', hcl, Nat.mul_one]
      simp only [List.size_toArray, List.length_cons, List.length_nil, ne_eq, not_true_eq_false, ite_false, Sem.run_bind, Sem.run_pure, Result.andThen_ok, hst]
    subst hI
    have hfoot : ∀ k, (orow (some ⟨gb, 0, none⟩) cap e 1 f (l.set i.toNat v)).foot k → ((orow (some ⟨gb, 0, none⟩) cap e 1 f l).foot k ∨ w.heap.size ≤ k) ∧ k < (w.setRow gb (cur.toList.set i.toNat v').toArray).heap.size := by
      intro k hk'
      have hk0 : Value.ownBlock (.slice (some ⟨gb, 0, none⟩) (l.set i.toNat v).length cap) = some k := hk'
      simp only [Value.ownBlock, Option.some.injEq] at hk0
      subst hk0
      have hf : (orow (some ⟨gb, 0, none⟩) cap e 1 f l).foot gb := rfl
      exact ⟨.inl hf, by have := (hk.own.lt hj hf).2; simpa [World.setRow] using this⟩
    have hfrm : Frm (orow (some ⟨gb, 0, none⟩) cap e 1 f l).foot w (w.setRow gb (cur.toList.set i.toNat v').toArray) := (Frm.setRow w gb _).mono fun k hk' => by subst hk'; rfl
    refine lskip hk rfl rfl hr ?_ (fun hk' => h _ hk')
    refine hk.upd hj hfrm ⟨hsz, vals.set i.toNat v', ⟨by simpa using hown.1, .inr ⟨gb, cap, _, by simp, hb0, setRow_heap w gb cur _ e (0, 0) hh, by simpa using hle, hcm, by simpa using hcs, ?_⟩⟩, ?_⟩ hfoot
    · rw [← htk]
      simp only [List.length_set, Nat.mul_one]
      rw [List.take_set]
    · rw [flat_set (l := l) hsz l _ v _ hfu]
      refine repL_set _ (RepL.go (Goes.upd hk.own hj hfrm hfoot) _ _ hL) (rep_lit rfl)
end
end Go.Proofs.Ytbjbgodcenopnaa.FW
/- Further steps of a walk: what is known ahead, what is kept, the lesser and the greater of two. -/
namespace Go.Proofs.Ytbjbgodcenopnaa.FW
variable {Df : List Deferred}
open Go.RowKit
set_option linter.unusedVariables false
set_option linter.unusedSimpArgs false
set_option linter.unusedSectionVars false
section
variable {P : Program} {M : Nat → Prop} {w0 : Bs} {w : World} {a : Act} {n : Nat} {I I1 I2 : List It} {σ : St} {Q : Exit → Act → World → Prop}
theorem S.dropTail : ∀ {I2 I1 : List It}, S M w0 a w n (I1 ++ I2) σ Df → S M w0 a w n I1 σ Df
  | [], I1, h => by simpa using h
  | it :: I2, I1, h => by
    have h1 := h.drop I1.length
    rw [List.eraseIdx_append_of_length_le (Nat.le_refl _)] at h1
    simp only [Nat.sub_self, List.eraseIdx_cons_zero] at h1
    exact S.dropTail h1
/-- Some items are kept, in a row. -/
theorem S.keep {js : List Nat} (h : S M w0 a w n I σ Df) (hp : FW.pick I js = I1 ++ I2) : S M w0 a w n I1 σ Df := (h.pick hp).dropTail
theorem S.cast {I' : List It} {σ' : St} (h : S M w0 a w n I σ Df) (hI : I = I') (hσ : σ = σ') : S M w0 a w n I' σ' Df := by subst hI; subst hσ; exact h
theorem wcondT {t : Operand} {x y : Code} (hk : S M w0 a w n I σ Df) (ht : opvc σ [] t = some (.lit (.bool true))) (h1 : x.wp P Q a w) : (Code.cond t x y).wp P Q a w := wcond hk ht (fun _ => h1) (fun h => by cases h)
theorem wcondX {t : Operand} {x y : Code} (hk : S M w0 a w n I σ Df) (ht : opvc σ [] t = some (.lit (.bool false))) (h1 : y.wp P Q a w) : (Code.cond t x y).wp P Q a w := wcond hk ht (fun h => by cases h) (fun _ => h1)
/-- A guard that does not hold. -/
theorem noHold {ok : Nat → Prop} {g : Nat} {b want : Bool} {c : Ch} (hk : Knows ok a w n σ Df) (hl : look σ g = some ([], .lit (.bool b))) (hb : (b == want) = false) : ¬ holds a ((g, want) :: c) := by
  intro hh
  have h1 := hh (g, want) List.mem_cons_self
  have h2 := (hk.ent g [] _ hl).1 (holds_nil a)
  simp only [Rep] at h2
  rw [h2] at h1
  injection h1 with h1
  subst h1
  simp at hb
end
section
variable {P : Program} {ok : Nat → Prop} {a : Act} {wk : World} {n : Nat} {σ : St} {c : Ch} {dst : Option Tmp} {ty : TypeId} {pos : String} {aft : Array Edge} {g : Option (Nat × Bool)} {x y z : Operand} {k : IntKind} {p q : Int} {tys : Array TypeId} {v : Value}
theorem holds_more {s : Nat} {b : Bool} (hk : Knows ok a wk n σ Df) (hc : holds a c) (hs : opvc σ c (.tmp s) = some (.lit (.bool b))) : holds a ((s, b) :: c) := by
  intro p hp
  rcases List.mem_cons.1 hp with rfl | hp
  · exact hk.val hc hs
  · exact hc p hp
theorem p_pickT {s : Nat} (hk : Knows ok a wk n σ Df) (hc : holds a c) (hs : opvc σ c (.tmp s) = some (.lit (.bool true))) (hx : opvc σ ((s, true) :: c) y = some (.lit v)) : PureOp P a ⟨dst, .pick (.tmp s) y z, ty, pos, aft, g⟩ v := by
  intro w; simp [execOp, hk.val hc hs, hk.val (holds_more hk hc hs) hx, asBool]
theorem p_pickX {s : Nat} (hk : Knows ok a wk n σ Df) (hc : holds a c) (hs : opvc σ c (.tmp s) = some (.lit (.bool false))) (hx : opvc σ ((s, false) :: c) z = some (.lit v)) : PureOp P a ⟨dst, .pick (.tmp s) y z, ty, pos, aft, g⟩ v := by
  intro w; simp [execOp, hk.val hc hs, hk.val (holds_more hk hc hs) hx, asBool]
theorem p_min (hk : Knows ok a wk n σ Df) (hc : holds a c) (hx : opvc σ c x = some (.lit (.int k p))) (hy : opvc σ c y = some (.lit (.int k q))) :
    PureOp P a ⟨dst, .call { callee := .builtin .min, args := #[x, y], argTypes := tys }, ty, pos, aft, g⟩ (.int k (if q < p then q else p)) := by
  intro w; simp [execOp, resolve, invoke, builtin, hk.val hc hx, hk.val hc hy, Builtin.min_, Builtin.min2]
theorem p_max (hk : Knows ok a wk n σ Df) (hc : holds a c) (hx : opvc σ c x = some (.lit (.int k p))) (hy : opvc σ c y = some (.lit (.int k q))) :
    PureOp P a ⟨dst, .call { callee := .builtin .max, args := #[x, y], argTypes := tys }, ty, pos, aft, g⟩ (.int k (if p < q then q else p)) := by
  intro w; simp [execOp, resolve, invoke, builtin, hk.val hc hx, hk.val hc hy, Builtin.max_, Builtin.max2]
end
end Go.Proofs.Ytbjbgodcenopnaa.FW
/- Calls of functions with captured variables; elements of several cells of rows of one's own. -/
namespace Go.Proofs.Ytbjbgodcenopnaa.FW
variable {Df : List Deferred}
open Go.RowKit
set_option linter.unusedVariables false
set_option linter.unusedSectionVars false
section
variable {P : Program} {M : Nat → Prop} {w0 : Bs} {w w' : World} {a : Act} {n : Nat} {I I' : List It} {σ : St} {it : It} {j : Nat}
variable {c : Ch} {dst : Option Tmp} {ty : TypeId} {pos : String} {aft : Array Edge} {ops : Array Oper} {K : Exit → Act → World → Prop} {rest : List Oper} {d : Nat} {g : Option (Nat × Bool)} {x y : Operand}
theorem run_callC {f : Operand} {fid : FuncId} {args : Array Operand} {tys : Array TypeId} {vs cp : Array Value} {fn : Func}
    (hv : a.eval f = .func (.func fid) #[] cp) (ha : args.map a.eval = vs) (hf : P.funcs[fid]? = some fn) (hb : fn.body.isSome = true) (hn : (fn.name == "runtime.NumGoroutine") = false) :
    (execOp a.eval ⟨dst, .call { callee := .value f, args := args, argTypes := tys }, ty, pos, aft, g⟩).run P w = .ok (.enter fid (vs ++ cp)) w := by
  have hb' : ¬ fn.body = none := by cases h : fn.body <;> simp_all
  have hn' : ¬ fn.name = "runtime.NumGoroutine" := by simpa using hn
  simp only [execOp, resolve, hv, ha, Deferred.ofValue, invoke]
  simp [callFunc, hf, hb', hn']
/-- A call of a function with captured variables that is handed the items in front. -/
theorem l_callHC {f : Operand} {fid : FuncId} {ps : List Operand} {tys : Array TypeId} {fn : Func} {xs : List AV} {I1 I2 : List It} {Q : AV → List It → Prop} {js : List Nat} {cp : List Value} (hk : S M w0 a w n I σ Df) (hp : FW.pick I js = I1 ++ I2) (hn : Nat.blt d n = true) (hf' : chFree σ d = true)
    (hv : opvc σ [] f = some (.lit (.func (.func fid) #[] cp.toArray))) (hx : argsA σ [] ps = some xs)
    (hf : P.funcs[fid]? = some fn) (hb : fn.body.isSome = true) (hnm : (fn.name == "runtime.NumGoroutine") = false) (hok : OkH P fid (xs ++ cp.map .lit) I1 Q)
    (h : ∀ y I3, Q y I3 → ∀ a' w', S M w0 a' w' n (I3 ++ I2) ((d, [], y) :: σ) Df → wpList P ops K rest a' w') :
    wpList P ops K (⟨some d, .call { callee := .value f, args := ps.toArray, argTypes := tys }, ty, pos, aft, none⟩ :: rest) a w := by
  have hk1 := hk.pick hp
  have hargs : RepL (okM (fun k => M k ∨ footL I2 k) I1) w (xs ++ cp.map .lit) (ps.map a.eval ++ cp) := by
    refine RepL.append ?_ (repL_lits cp)
    rw [okM_part]; exact rep_args hk1.kn (holds_nil a) hx
  have hc := hok (fun k => M k ∨ footL I2 k) w ((ps.map a.eval).toArray ++ cp.toArray) hk1.own.part (by simpa using hargs)
  refine leffcall (R := fun v w' => ∃ y I3, Q y I3 ∧ Own (fun k => M k ∨ footL I2 k) ⟨w, footL I1⟩ w' I3 ∧ Rep (okM (fun k => M k ∨ footL I2 k) I3) w' y v) hk1 rfl rfl hn hf' (run_callC (f := f) (hk1.kn.val (holds_nil a) hv) (by simp) hf hb hnm) (hc.mono fun e w' ⟨v, y, I3, he, hq, ho, hr⟩ => ⟨v, he, y, I3, hq, ho, hr⟩) ?_
  rintro v w' ⟨y, I3, hq, ho, hr⟩
  obtain ⟨ho', hgo⟩ := hk1.own.join ho
  rw [okM_part] at hr
  exact ⟨I3 ++ I2, y, ⟨ho', hk1.kn.go hgo⟩, hr, fun a' h' => h y I3 hq a' w' h'⟩
variable {α : Type} [Inhabited α] {f : α → List AV} {l : List α} {ad : Option Addr} {cap : Nat} {e t : TypeId} {sz : Nat}
theorem flat_at (hsz : ∀ x, (f x).length = sz) : ∀ (l : List α) (i : Nat), i < l.length → ((l.map f).flatten.drop (i * sz)).take sz = f (l.getD i default)
  | [], i, h => by simp at h
  | z :: l, 0, _ => by
    rw [Nat.zero_mul, List.drop_zero, List.map_cons, List.flatten_cons, List.getD_cons_zero, List.take_left' (hsz z)]
  | z :: l, i + 1, h => by
    rw [List.map_cons, List.flatten_cons, List.getD_cons_succ, Nat.succ_mul, Nat.add_comm (i * sz) sz, ← List.drop_drop, List.drop_left' (hsz z)]
    exact flat_at hsz l i (by simpa using h)
/-- An element of several cells of a row of one's own is read. -/
theorem f_loadOwn {D : TypeDesc} {i : Int} (hk : S M w0 a w n I σ Df) (hc : holds a c) (hj : I[j]? = some (orow ad cap e sz f l)) (hx : opvc σ c x = some (elA ad sz i)) (hi : asmP σ c (0 ≤ i ∧ i < l.length)) (hu : P.underlying t = some D) (hd : isAggD D = true) (hs : (P.info? t).map (·.size) = some sz) :
    Fun P (okM M I) ⟨dst, .load t x, ty, pos, aft, g⟩ a w (.agg (f (l.getD i.toNat default))) := by
  have hi := asm_out hk.kn hc hi
  obtain ⟨hsz, vals, hown, hL⟩ := hk.own.get hj
  rcases hown.2 with ⟨hv, hn⟩ | ⟨gb, cp, cur, hv, _, hh, hle, hcm, hcs, htk⟩
  · omega
  · injection hv with h3 h4 h5
    subst h3
    have hin : i.toNat * sz + sz ≤ l.length * sz := by
      rw [← Nat.succ_mul]; exact Nat.mul_le_mul_right sz (by omega)
    have hcl : l.length * sz ≤ cur.size := by rw [hcs]; exact Nat.mul_le_mul_right sz hle
    have hx' : a.eval x = .pointer (some ⟨gb, i.toNat * sz, none⟩) := hk.kn.val hc hx
    have hload := load_at (P := P) (b := gb) (off := i.toNat * sz) hh hu hd hs (by omega)
    refine .inl ⟨.agg ((cur.toList.drop (i.toNat * sz)).take sz).toArray, w, by simp only [execOp, hx', Instr.loadAt, Instr.sureAddr, Sem.run_bind, Sem.run_pure, Result.andThen_ok, hload], New.refl w, ?_⟩
    simp only [Rep]
    refine ⟨_, rfl, ?_⟩
    have hpart : ((cur.toList.drop (i.toNat * sz)).take sz) = ((vals.drop (i.toNat * sz)).take sz) := by
      rw [← htk, List.drop_take, List.take_take, show min sz (l.length * sz - i.toNat * sz) = sz by omega]
    rw [hpart, ← flat_at hsz l i.toNat (by omega)]
    exact (hL.drop _).take _
theorem eqGuard_sl (op : BinOp) (t : TypeId) (x y : Operand) (A B : Option Addr) (p q p' q' : Nat) (w : World) : (eqGuard op t x y (.slice A p q) (.slice B p' q')).run P w = .ok () w := by
  unfold eqGuard; cases op <;> simp
/-- Is a slice nil? -/
theorem f_eqSliceNil {t t' : TypeId} {n' cp p q : Nat} (hk : S M w0 a w n I σ Df) (hc : holds a c) (hx : opvc σ c x = some (.lit (.slice ad n' cp))) (hy : opvc σ c y = some (.lit (.slice none p q))) (hu : P.underlying t = some (.slice e)) :
    Fun P (okM M I) ⟨dst, .binOp .eql t x y t', ty, pos, aft, g⟩ a w (.lit (.bool ad.isNone)) := by
  refine .inl ⟨.bool ad.isNone, w, ?_, New.refl w, rep_lit rfl⟩
  simp only [execOp, hk.kn.val hc hx, hk.kn.val hc hy, Sem.run_bind, eqGuard_sl, Result.andThen_ok, Go.Lib.run_eql_slice_nil w t e ad n' cp p q hu, Sem.run_pure]
/-- A row as the slice that it is. -/
theorem S.asSlice {R : List α → List (List AV)} {i : Nat} (hR : ∀ l, R l = l.map f) (hk : S M w0 a w n I σ Df) (hl : look σ i = some ([], .row (R l))) : ∃ (ad : Option Addr) (cp : Nat), (ad = none → l = []) ∧ S M w0 a w n I ((i, [], .lit (.slice ad l.length cp)) :: σ) Df := by
  have h := (hk.kn.ent _ _ _ hl).1 (holds_nil a)
  rw [hR] at h
  simp only [Rep] at h
  obtain ⟨ad, cp, hv, hle, h⟩ := h
  rw [List.length_map] at hv
  refine ⟨ad, cp, fun e0 => ?_, hk.own, hk.kn.defers, hk.kn.size, fun j c u hl' => ?_⟩
  · rcases h with h | ⟨b, off, arr, el, fr, h1, _⟩
    · exact List.map_eq_nil_iff.1 h
    · rw [e0] at h1; cases h1
  · unfold look at hl'
    cases hb : Nat.beq i j with
    | true =>
      simp only [hb, cond_true, Option.some.injEq, Prod.mk.injEq] at hl'
      obtain ⟨rfl, rfl⟩ := hl'
      have : i = j := Nat.eq_of_beq_eq_true hb
      subst this
      exact ⟨fun _ => by simp only [Rep]; exact hv, fun hh => absurd (holds_nil a) hh⟩
    | false =>
      simp only [hb, cond_false] at hl'
      exact hk.kn.ent _ _ _ hl'
end
end Go.Proofs.Ytbjbgodcenopnaa.FW
/- Function values that bear what they have of their surroundings. -/
namespace Go.Proofs.Ytbjbgodcenopnaa
variable {Df : List Deferred}
open Go.RowKit
set_option linter.unusedVariables false
namespace FW
section
variable {P : Program} {M : Nat → Prop} {w0 : Bs} {w : World} {a : Act} {n : Nat} {I : List It} {σ : St} {c : Ch} {dst : Option Tmp} {ty : TypeId} {pos : String} {aft : Array Edge} {g : Option (Nat × Bool)}
def litsA (σ : St) (c : Ch) : List Operand → Option (List Value)
  | [] => some []
  | x :: r => match opvc σ c x, litsA σ c r with
    | some (.lit v), some vs => some (v :: vs)
    | _, _ => none
theorem litsA_eval (hk : Knows (okM M I) a w n σ Df) (hc : holds a c) : ∀ {ps : List Operand} {vs : List Value}, litsA σ c ps = some vs → ps.map a.eval = vs
  | [], vs, h => by simp only [litsA, Option.some.injEq] at h; subst h; rfl
  | x :: r, vs, h => by
    simp only [litsA] at h
    split at h
    · rename_i v vs' h1 h2
      simp only [Option.some.injEq] at h
      subst h
      simp [hk.val hc h1, litsA_eval hk hc h2]
    · cases h
/-- A function value that bears what it has of its surroundings. -/
theorem f_makeFunc {fid : FuncId} {ps : List Operand} {vs : List Value} (hk : S M w0 a w n I σ Df) (hc : holds a c) (hx : litsA σ c ps = some vs) :
    Fun P (okM M I) ⟨dst, .makeFunc (.func fid) #[] ps.toArray, ty, pos, aft, g⟩ a w (.lit (.func (.func fid) #[] vs.toArray)) := by
  refine .inl ⟨_, w, ?_, New.refl w, rep_lit rfl⟩
  have h := litsA_eval hk.kn hc hx
  subst h
  simp [execOp, Instr.makeFunc]
end
end FW
end Go.Proofs.Ytbjbgodcenopnaa
/- A slice whose capacity is cut to its length. -/
namespace Go.Proofs.Ytbjbgodcenopnaa.FW
variable {Df : List Deferred}
open Go.RowKit
set_option linter.unusedVariables false
section
variable {P : Program} {M : Nat → Prop} {w0 : Bs} {w : World} {a : Act} {n : Nat} {I : List It} {σ : St} {c : Ch} {dst : Option Tmp} {ty : TypeId} {pos : String} {aft : Array Edge} {g : Option (Nat × Bool)} {x : Operand}
theorem f_clip {α : Type} {f : α → List AV} {R : List α → List (List AV)} {l : List α} {t e : TypeId} {sz : Nat} {hi mx : Operand} (hR : ∀ l, R l = l.map f) (hsz : ∀ x, (f x).length = sz) (hk : S M w0 a w n I σ Df) (hc : holds a c)
    (hx : opvc σ c x = some (.row (R l))) (hu : P.underlying t = some (.slice e)) (hs : (P.info? e).map (·.size) = some sz)
    (hq : opvc σ c hi = some (.lit (.int .i64 (l.length : Int)))) (hm : opvc σ c mx = some (.lit (.int .i64 (l.length : Int)))) :
    Fun P (okM M I) ⟨dst, .slice t x none (some hi) (some mx), ty, pos, aft, g⟩ a w (.row (R l)) := by
  rw [hR] at hx ⊢
  have hr := hk.kn.rep hc hx
  obtain ⟨ad, cap, hv, hcp⟩ := rep_slice hr
  simp only [List.length_map] at hv hcp
  obtain ⟨inf, hinf, hs'⟩ := Option.map_eq_some_iff.1 hs
  have hr2 : Rep (okM M I) w (.row (l.map f)) (.slice ad l.length l.length) := by
    simp only [Rep] at hr ⊢
    obtain ⟨a', cap', hv', hcp', hx'⟩ := hr
    rw [hv] at hv'
    injection hv' with e1 e2 e3
    subst e1; subst e3
    exact ⟨ad, l.length, by simp, by simp, hx'⟩
  have hpart := rep_part hsz hr2 rfl 0 l.length (by omega) (by omega)
  have el : (l.drop 0).take (l.length - 0) = l := by simp
  rw [el] at hpart
  refine .inl ⟨_, w, ?_, New.refl w, hpart⟩
  have hb : (Instr.sliceBounds true l.length cap none (some (.int .i64 (l.length : Int))) (some (.int .i64 (l.length : Int)))).run P w = .ok (0, l.length, l.length) w := by
    simp [Instr.sliceBounds, Instr.sliceBound, asIntOf, show (l.length : Int) ≤ (cap : Int) from by omega]
  simp only [execOp, hv, Option.map_none, Option.map_some, hk.kn.val hc hq, hk.kn.val hc hm, Instr.sliceAt, Sem.run_bind, run_underlying hu, Result.andThen_ok, Instr.slice, hb, sizeOf, typeInfo]
  simp [hinf, hs']
end
end Go.Proofs.Ytbjbgodcenopnaa.FW
/- Slices that are nil where they have nothing. -/
namespace Go.Proofs.Ytbjbgodcenopnaa.FW
variable {Df : List Deferred}
open Go.RowKit
set_option linter.unusedVariables false
set_option linter.unusedSectionVars false
def nrow : List (List AV) → AV
  | [] => .lit (.slice none 0 0)
  | x :: r => .row (x :: r)
theorem nrow_row {ok : Nat → Prop} {w : World} {v : Value} : ∀ {R : List (List AV)}, Rep ok w (nrow R) v → Rep ok w (.row R) v
  | [], h => by simp only [nrow, Rep] at h; subst h; exact rep_nil
  | x :: r, h => h
section
variable {P : Program} {M : Nat → Prop} {w0 : Bs} {w : World} {a : Act} {n : Nat} {I I' : List It} {σ : St} {c : Ch} {dst : Option Tmp} {ty : TypeId} {pos : String} {aft : Array Edge} {g : Option (Nat × Bool)} {x y z : Operand} {e t t' : TypeId} {R : List (List AV)}
theorem nrow_slice {ok : Nat → Prop} {v : Value} : ∀ {R : List (List AV)}, Rep ok w (nrow R) v → ∃ ad n cp, v = .slice ad n cp ∧ ad.isNone = R.isEmpty
  | [], h => by simp only [nrow, Rep] at h; exact ⟨_, _, _, h, rfl⟩
  | x :: r, h => by
    simp only [nrow, Rep] at h
    obtain ⟨ad, cp, hv, hle, h⟩ := h
    rcases h with h | ⟨b, off, arr, el, fr, h1, _⟩
    · cases h
    · exact ⟨_, _, _, hv, by rw [h1]; rfl⟩
theorem run_neq_sl {p q p' q' : Nat} {ad : Option Addr} (hu : P.underlying t = some (.slice e)) (w : World) : (binOp .neq t (.slice ad p q) (.slice none p' q')).run P w = .ok (.bool (!ad.isNone)) w := by
  simp only [binOp]
  simp [Op.equal, Op.maxDepth, Go.Lib.run_equalIn_slice_nil w 9999 t e ad p q p' q' hu]
theorem f_nrowEq {b : Bool} (hk : S M w0 a w n I σ Df) (hc : holds a c) (hx : opvc σ c x = some (nrow R)) (hy : opvc σ c y = some (.lit (.slice none 0 0))) (hu : P.underlying t = some (.slice e)) (hb : R.isEmpty = b) :
    Fun P (okM M I) ⟨dst, .binOp .eql t x y t', ty, pos, aft, g⟩ a w (.lit (.bool b)) := by
  obtain ⟨ad, m, cp, hv, hn⟩ := nrow_slice (hk.kn.rep hc hx)
  refine .inl ⟨.bool b, w, ?_, New.refl w, rep_lit rfl⟩
  rw [← hb, ← hn]
  simp only [execOp, hv, hk.kn.val hc hy, Sem.run_bind, eqGuard_sl, Result.andThen_ok, Go.Lib.run_eql_slice_nil w t e ad m cp 0 0 hu, Sem.run_pure]
theorem f_nrowNe {b : Bool} (hk : S M w0 a w n I σ Df) (hc : holds a c) (hx : opvc σ c x = some (nrow R)) (hy : opvc σ c y = some (.lit (.slice none 0 0))) (hu : P.underlying t = some (.slice e)) (hb : (!R.isEmpty) = b) :
    Fun P (okM M I) ⟨dst, .binOp .neq t x y t', ty, pos, aft, g⟩ a w (.lit (.bool b)) := by
  obtain ⟨ad, m, cp, hv, hn⟩ := nrow_slice (hk.kn.rep hc hx)
  refine .inl ⟨.bool b, w, ?_, New.refl w, rep_lit rfl⟩
  rw [← hb, ← hn]
  simp only [execOp, hv, hk.kn.val hc hy, Sem.run_bind, eqGuard_sl, Result.andThen_ok, run_neq_sl hu w, Sem.run_pure]
theorem empty_map {α β : Type} {f : α → β} {l : List α} {b : Bool} (h : l.isEmpty = b) : (l.map f).isEmpty = b := by rw [← h]; cases l <;> rfl
theorem nempty_map {α β : Type} {f : α → β} {l : List α} {b : Bool} (h : (!l.isEmpty) = b) : (!(l.map f).isEmpty) = b := by rw [← h]; cases l <;> rfl
/-- A literal of one nil slice is a row of one row that has nothing. -/
theorem S.rowNil {α : Type} {ad : Option Addr} {cap : Nat} {f : α → List AV} {z : α} (hk : S M w0 a w n (orow ad cap e 1 (fun _ : Unit => [AV.lit (.slice none 0 0)]) [()] :: I) σ Df) (hf : f z = [.row []]) (hsz : ∀ x, (f x).length = 1) :
    S M w0 a w n (orow ad cap e 1 f [z] :: I) σ Df :=
  hk.conv (j := 0) (it' := orow ad cap e 1 f [z]) rfl (fun ok hg ⟨_, vals, h1, h2⟩ => ⟨hsz, vals, h1, by
    have h3 : RepL (okM M _) w [AV.lit (.slice none 0 0)] vals := h2
    simp only [RepL] at h3
    obtain ⟨v, r, rfl, h4, rfl⟩ := h3
    have : (List.map f [z]).flatten = [.row []] := by simp [hf]
    rw [this]
    refine repL_cons ?_ repL_nil
    simp only [Rep] at h4
    subst h4
    exact rep_nil⟩) (fun k hk => hk)
end
end Go.Proofs.Ytbjbgodcenopnaa.FW
/- Elements of many cells: laid into rows of the call's own; rows of them that are made. Is any row nil? -/
namespace Go.Proofs.Ytbjbgodcenopnaa.FW
variable {Df : List Deferred}
open Go.RowKit
set_option linter.unusedVariables false
set_option linter.unusedSectionVars false
section
variable {P : Program} {M : Nat → Prop} {w0 : Bs} {w : World} {a : Act} {n : Nat} {I I' : List It} {σ : St} {c : Ch} {dst : Option Tmp} {ty : TypeId} {pos : String} {aft : Array Edge} {g : Option (Nat × Bool)} {x y z : Operand} {u : AV} {ops : Array Oper} {Q : Exit → Act → World → Prop} {rest : List Oper} {d j : Nat}
  {α : Type} {f : α → List AV} {l : List α} {ad : Option Addr} {cap : Nat} {e t t' : TypeId} {sz : Nat}
theorem flat_len {α : Type} {f : α → List AV} {sz : Nat} (hsz : ∀ x, (f x).length = sz) : ∀ l : List α, ((l.map f).flatten).length = l.length * sz
  | [] => by simp
  | z :: l => by
    have := flat_len hsz l
    simp only [List.map_cons, List.flatten_cons, List.length_append, hsz, this, List.length_cons, Nat.succ_mul]
    omega
theorem flat_put {α : Type} {f : α → List AV} {sz : Nat} (hsz : ∀ x, (f x).length = sz) : ∀ (l : List α) (i : Nat) (v : α), i < l.length → ((l.set i v).map f).flatten = ((l.map f).flatten).take (i * sz) ++ f v ++ ((l.map f).flatten).drop (i * sz + sz)
  | [], i, v, h => by simp at h
  | z :: l, 0, v, h => by
    simp only [List.set_cons_zero, List.map_cons, List.flatten_cons, Nat.zero_mul, List.take_zero, List.nil_append, Nat.zero_add]
    rw [List.drop_left' (hsz z)]
  | z :: l, i + 1, v, h => by
    have ih := flat_put hsz l i v (by simpa using h)
    simp only [List.set_cons_succ, List.map_cons, List.flatten_cons, ih]
    have e1 : (i + 1) * sz = (f z).length + i * sz := by rw [hsz, Nat.succ_mul, Nat.add_comm]
    rw [e1, List.take_length_add_append, Nat.add_assoc, List.drop_length_add_append]
    simp [List.append_assoc]
theorem take_put {β : Type} (cur cs : List β) (q sz N : Nat) (h1 : cs.length = sz) (h2 : q + sz ≤ N) (h3 : N ≤ cur.length) : (cur.take q ++ cs ++ cur.drop (q + sz)).take N = (cur.take N).take q ++ cs ++ (cur.take N).drop (q + sz) := by
  have hA : (cur.take q ++ cs).length = q + sz := by simp only [List.length_append, List.length_take, h1]; omega
  rw [List.take_append, List.take_of_length_le (by omega), hA, List.take_take, List.drop_take, Nat.min_eq_left (by omega)]
theorem l_storeOwn {i : Int} {v : α} {I' : List It} (hk : S M w0 a w n I σ Df) (hj : I[j]? = some (orow ad cap e sz f l)) (hx : opvc σ [] x = some (elA ad sz i)) (hi : 0 ≤ i ∧ i < l.length) (hy : opvc σ [] y = some u) (hw : wholeA u = true) (hfu : cellsA u = f v) (hs : (P.info? t).map (·.size) = some sz)
    (hI : I.set j (orow ad cap e sz f (l.set i.toNat v)) = I') (h : ∀ w', S M w0 a w' n I' σ Df → wpList P ops Q rest a w') : wpList P ops Q (⟨none, .store t x y, ty, pos, aft, none⟩ :: rest) a w := by
  obtain ⟨hsz, vals, hown, hL⟩ := hk.own.get hj
  obtain ⟨inf, hinf, hs'⟩ := Option.map_eq_some_iff.1 hs
  obtain ⟨hv, h1⟩ := rep_cells (hk.kn.rep (holds_nil a) hy) hw
  rw [hfu] at hv
  rcases hown.2 with ⟨hv0, hn⟩ | ⟨gb, cp, cur, hv0, hb0, hh, hle, hcm, hcs, htk⟩
  · omega
  · injection hv0 with h3 h4 h5
    subst h3; subst h5
    have hx' : a.eval x = .pointer (some ⟨gb, i.toNat * sz, none⟩) := hk.kn.val (holds_nil a) hx
    have hvl : (a.eval y).cells.toList.length = sz := by rw [hv.length, hsz]
    have hin : i.toNat * sz + sz ≤ l.length * sz := by
      rw [← Nat.succ_mul]; exact Nat.mul_le_mul_right sz (by omega)
    have hcl : l.length * sz ≤ cur.size := by rw [hcs]; exact Nat.mul_le_mul_right sz hle
    have hst := run_storeCells_at (P := P) gb (i.toNat * sz) e (a.eval y).cells.toList 0 cur w hh (by omega) h1
    simp only [Nat.add_zero] at hst
    have hr : (execOp a.eval ⟨none, .store t x y, ty, pos, aft, none⟩).run P w = .ok .skip (w.setRow gb (cur.toList.take (i.toNat * sz) ++ (a.eval y).cells.toList ++ cur.toList.drop (i.toNat * sz + (a.eval y).cells.toList.length)).toArray) := by
      have hsz' : (a.eval y).cells.size = inf.size := by rw [hs', ← hvl]; simp
      simp only [execOp, hx', Instr.storeAt, Instr.sureAddr, storeVar]
      have hso : (sizeOf t).run P w = .ok inf.size w := by simp [sizeOf, typeInfo, hinf]
      simp only [Sem.run_bind, Sem.run_pure, Result.andThen_ok, hso]
      simp [hsz']
      have hst' := hst
      simp [hsz'] at hst'
      rw [hst']
      rfl
    subst hI
    generalize hnew : (cur.toList.take (i.toNat * sz) ++ (a.eval y).cells.toList ++ cur.toList.drop (i.toNat * sz + (a.eval y).cells.toList.length)) = new at hr
    have hnl : new.length = cur.size := by
      rw [← hnew]
      simp only [List.length_append, List.length_take, List.length_drop, Array.length_toList, hvl]
      omega
    have hfoot : ∀ k, (orow (some ⟨gb, 0, none⟩) cap e sz f (l.set i.toNat v)).foot k → ((orow (some ⟨gb, 0, none⟩) cap e sz f l).foot k ∨ w.heap.size ≤ k) ∧ k < (w.setRow gb new.toArray).heap.size := by
      intro k hk'
      have hk0 : Value.ownBlock (.slice (some ⟨gb, 0, none⟩) (l.set i.toNat v).length cap) = some k := hk'
      simp only [Value.ownBlock, Option.some.injEq] at hk0
      subst hk0
      have hf : (orow (some ⟨gb, 0, none⟩) cap e sz f l).foot gb := rfl
      exact ⟨.inl hf, by have := (hk.own.lt hj hf).2; simpa [World.setRow] using this⟩
    have hfrm : Frm (orow (some ⟨gb, 0, none⟩) cap e sz f l).foot w (w.setRow gb new.toArray) := (Frm.setRow w gb _).mono fun k hk' => by subst hk'; rfl
    refine lskip hk rfl rfl hr ?_ (fun hk' => h _ hk')
    have hlv : vals.length = l.length * sz := by
      have hcl2 : l.length * sz ≤ cur.toList.length := by simpa using hcl
      rw [← htk, List.length_take]; omega
    have hA : (vals.take (i.toNat * sz) ++ (a.eval y).cells.toList ++ vals.drop (i.toNat * sz + sz)).length = l.length * sz := by
      simp only [List.length_append, List.length_take, List.length_drop, hvl, hlv]; omega
    refine hk.upd hj hfrm ⟨hsz, vals.take (i.toNat * sz) ++ (a.eval y).cells.toList ++ vals.drop (i.toNat * sz + sz), ⟨by rw [hA, List.length_set], .inr ⟨gb, cap, _, by simp, hb0, setRow_heap w gb cur _ e (0, 0) hh, by simpa using hle, hcm, by simpa [hnl] using hcs, ?_⟩⟩, ?_⟩ hfoot
    · simp only [List.length_set]
      rw [← hnew, hvl, ← htk]
      exact take_put _ _ _ _ _ hvl (by omega) (by simpa using hcl)
    · rw [flat_put hsz l _ v (by omega)]
      have hL' := RepL.go (Goes.upd hk.own hj hfrm hfoot) _ _ hL
      have hv' := RepL.go (Goes.upd hk.own hj hfrm hfoot) _ _ hv
      exact ((hL'.take _).append hv').append (hL'.drop _)
theorem range_mod {β : Type} [Inhabited β] (zc : List β) (sz : Nat) (h : zc.length = sz) (hp : 0 < sz) : ∀ m : Nat, (List.range (m * sz)).map (fun i => zc[i % sz]!) = (List.replicate m zc).flatten
  | 0 => by simp
  | m + 1 => by
    rw [Nat.succ_mul, List.range_add, List.map_append, range_mod zc sz h hp m, List.replicate_succ', List.flatten_append, List.flatten_singleton, List.map_map]
    congr 1
    apply List.ext_getElem
    · simp [h]
    · intro i h1 h2
      simp only [List.getElem_map, List.getElem_range, Function.comp]
      rw [Nat.mul_comm m sz, Nat.mul_add_mod, Nat.mod_eq_of_lt (by omega), getElem!_pos zc i h2]
theorem madeCells_flat (zc : Array Value) (m : Nat) (hp : 0 < zc.size) : (madeCells zc (m * zc.size)).toList = (List.replicate m zc.toList).flatten := by
  unfold madeCells
  rw [Array.toList_map, Array.toList_range, ← range_mod zc.toList zc.size (by simp) hp m]
  simp
  intro a _
  rw [getElem!_def]
  cases zc[a % zc.size]? <;> rfl
theorem repL_rep {ok : Nat → Prop} {cs : List AV} {vs : List Value} (h : RepL ok w cs vs) : ∀ m : Nat, RepL ok w (List.replicate m cs).flatten (List.replicate m vs).flatten
  | 0 => by simpa using repL_nil
  | m + 1 => by
    simp only [List.replicate_succ, List.flatten_cons]
    exact h.append (repL_rep h m)
/-- make([]T, n), elements of many cells. -/
theorem l_makeSliceN {k : Int} {z : α} {zv : Value} (hp : 0 < sz) (hsz : ∀ x, (f x).length = sz) (hk : S M w0 a w n I σ Df) (hn : Nat.blt d n = true) (hf : chFree σ d = true) (hx : opvc σ [] x = some (.lit (.int .i64 k))) (hy : opvc σ [] y = some (.lit (.int .i64 k))) (ht : P.underlying t = some (.slice e))
    (hi : (P.info? e).map (fun i => (i.size, i.zero)) = some (sz, some zv)) (hz : ∀ (ok : Nat → Prop) (w : World), RepL ok w (f z) zv.cells.toList) (hb : ((P.info? e).map fun i => decide (i.bytes ≤ 256)) = some true) (hc : 0 ≤ k ∧ k ≤ 1000000000000)
    (h : ∀ b a' w', S M w0 a' w' n (orow (some ⟨b, 0, none⟩) k.toNat e sz f (List.replicate k.toNat z) :: I) ((d, [], .lit (.slice (some ⟨b, 0, none⟩) (List.length (List.replicate k.toNat z)) k.toNat)) :: σ) Df → wpList P ops Q rest a' w') :
    wpList P ops Q (⟨some d, .makeSlice t x y, ty, pos, aft, none⟩ :: rest) a w := by
  obtain ⟨inf, hinf, hi'⟩ := Option.map_eq_some_iff.1 hi
  injection hi' with hs hz0
  obtain ⟨inf2, hinf2, hb'⟩ := Option.map_eq_some_iff.1 hb
  rw [hinf] at hinf2; injection hinf2 with e1; subst e1
  have hb2 : inf.bytes ≤ 256 := by simpa using hb'
  obtain ⟨m, rfl⟩ := Int.eq_ofNat_of_zero_le hc.1
  have hm : m ≤ 1000000000000 := by omega
  have hbm : inf.bytes * m ≤ 281474976710656 := by
    have := Nat.mul_le_mul hb2 hm
    omega
  obtain ⟨w', hr, hrow, hg⟩ := run_make_full (P := P) w 0 t e inf zv sz ht hinf hz0 hs .i64 .i64 m hbm (by unfold maxLen; omega) (Nat.zero_le _)
  have hr' : (execOp a.eval ⟨some d, .makeSlice t x y, ty, pos, aft, none⟩).run P w = .ok (.value (.slice (some ⟨w.heap.size, 0, none⟩) m m)) w' := by
    simp only [execOp, hk.kn.val (holds_nil a) hx, hk.kn.val (holds_nil a) hy, Sem.run_bind, hr, Result.andThen_ok, Sem.run_pure]
  have hlen : (List.replicate m z).length = m := by simp
  have hfoot : ∀ k, (orow (some ⟨w.heap.size, 0, none⟩) m e sz f (List.replicate m z)).foot k → w.heap.size ≤ k ∧ k < w'.heap.size := by
    intro k hk'
    have hk0 : Value.ownBlock (.slice (some ⟨w.heap.size, 0, none⟩) (List.replicate m z).length m) = some k := hk'
    simp only [Value.ownBlock, Option.some.injEq] at hk0
    subst hk0
    rcases hrow.2 with ⟨hv, _⟩ | ⟨g, cap, cur, hv, _, hh, _⟩
    · cases hv
    · injection hv with h3
      injection h3 with h3
      injection h3 with h3
      subst h3
      exact ⟨Nat.le_refl _, heap_lt hh⟩
  have hnew : New w w' := by
    have h1 := Frm.of_grown hg
    exact h1.mono fun k hk' => by cases hk'
  have hzl : zv.cells.size = sz := by
    have := (hz (fun _ => False) w).length
    rw [hsz] at this
    simpa using this
  refine leff hk rfl rfl hn hf hr' ?_ (by rw [Int.toNat_natCast, hlen]; exact rep_lit rfl) (fun a' hk' => h w.heap.size a' _ hk')
  refine hk.push hnew ?_ hfoot
  refine ⟨hsz, _, by simpa using hrow, ?_⟩
  rw [← hzl, madeCells_flat zv.cells m (by omega), Int.toNat_natCast, List.map_replicate]
  exact repL_rep (hz _ _) m
/-- Is a row nil? It may be where it has nothing. -/
theorem f_nilAny {R : List (List AV)} (hk : S M w0 a w n I σ Df) (hc : holds a c) (hx : opvc σ c x = some (.row R)) (hy : opvc σ c y = some (.lit (.slice none 0 0))) (hu : P.underlying t = some (.slice e)) :
    ∃ b : Bool, (b = false → R = []) ∧ Fun P (okM M I) ⟨dst, .binOp .neq t x y t', ty, pos, aft, g⟩ a w (.lit (.bool b)) := by
  have h := hk.kn.rep hc hx
  simp only [Rep] at h
  obtain ⟨ad, cp, hv, hle, h⟩ := h
  refine ⟨!ad.isNone, fun hb => ?_, .inl ⟨.bool (!ad.isNone), w, ?_, New.refl w, rep_lit rfl⟩⟩
  · rcases h with h | ⟨b, off, arr, el, fr, h1, _⟩
    · exact h
    · rw [h1] at hb; simp at hb
  · simp only [execOp, hv, hk.kn.val hc hy, Sem.run_bind, eqGuard_sl, Result.andThen_ok, run_neq_sl hu w, Sem.run_pure]
theorem l_nilAny {R : List (List AV)} (hk : S M w0 a w n I σ Df) (hn : Nat.blt d n = true) (hf : chFree σ d = true) (hx : opvc σ [] x = some (.row R)) (hy : opvc σ [] y = some (.lit (.slice none 0 0))) (hu : P.underlying t = some (.slice e))
    (h : ∀ (b : Bool) (a' : Act) (w' : World), (b = false → R = []) → S M w0 a' w' n I ((d, [], .lit (.bool b)) :: σ) Df → wpList P ops Q rest a' w') : wpList P ops Q (⟨some d, .binOp .neq t x y t', ty, pos, aft, none⟩ :: rest) a w := by
  obtain ⟨b, hb, hF⟩ := f_nilAny (P := P) (dst := some d) (ty := ty) (pos := pos) (aft := aft) (g := none) (t' := t') hk (holds_nil a) hx hy hu
  exact lfun hk rfl rfl hn hf hF fun a' w' hk' => h b a' w' hb hk'
end
end Go.Proofs.Ytbjbgodcenopnaa.FW
/- Numbers turned into floats, products of floats. -/
namespace Go.Proofs.Ytbjbgodcenopnaa.FW
variable {Df : List Deferred}
open Go.RowKit
set_option linter.unusedVariables false
set_option linter.unusedSimpArgs false
section
variable {P : Program} {ok : Nat → Prop} {a : Act} {wk : World} {n : Nat} {σ : St} {c : Ch} {dst : Option Tmp} {ty : TypeId} {pos : String} {aft : Array Edge} {g : Option (Nat × Bool)} {t t' : TypeId} {x y : Operand} {p q : Nat}
def i2f (n : Int) : Nat := FloatKind.f64.nearest n
theorem p_i2f {s d : TypeId} {D : TypeDesc} {k : IntKind} {m : Int} (hs : P.underlying s = some D) (hd : P.underlying d = some (.float .f64)) (hk : Knows ok a wk n σ Df) (hc : holds a c) (hx : opvc σ c x = some (.lit (.int k m))) :
    PureOp P a ⟨dst, .convert s d x, ty, pos, aft, g⟩ (.float .f64 (i2f m)) := by
  intro w; simp [execOp, hk.val hc hx, convert, run_underlying hs, run_underlying hd, Conv.intToFloat, i2f]
def fmul (p q : Nat) : Nat := (FloatKind.f64.format.mul p q).getD 0
theorem p_fmul (hk : Knows ok a wk n σ Df) (hc : holds a c) (hx : opvc σ c x = some (.lit (.float .f64 p))) (hy : opvc σ c y = some (.lit (.float .f64 q))) (h : asmP σ c ((FloatKind.f64.format.mul p q).isSome = true)) :
    PureOp P a ⟨dst, .binOp .mul t x y t', ty, pos, aft, g⟩ (.float .f64 (fmul p q)) := by
  have h := asm_out hk hc h
  obtain ⟨r, hr⟩ := Option.isSome_iff_exists.1 h
  intro w; simp [execOp, hk.val hc hx, hk.val hc hy, eqGuard_float, binOp, Op.floatArith, hr, fmul]
end
theorem h0 {a : Act} : holds a [] := holds_nil a
end Go.Proofs.Ytbjbgodcenopnaa.FW
/- Steps told shortly: what goes without saying is found by 'rfl'. -/
namespace Go.Proofs.Ytbjbgodcenopnaa.FW
variable {Df : List Deferred}
open Go.RowKit
set_option linter.unusedVariables false
set_option linter.unusedSectionVars false
section
variable {P : Program} {M : Nat → Prop} {w0 : Bs} {w : World} {a : Act} {n d : Nat} {I : List It} {σ : St} {c : Ch} {ty : TypeId} {pos : String} {aft : Array Edge} {x y : Operand} {u : AV} {ops : Array Oper} {Q : Exit → Act → World → Prop} {rest : List Oper} {o : Op} {t t' : TypeId} {k : IntKind} {p q : Int}
theorem lf {y : AV} {op : Op} (hk : S M w0 a w n I σ Df) (hF : Fun P (okM M I) ⟨some d, op, ty, pos, aft, none⟩ a w y) (h : ∀ a' w', S M w0 a' w' n I ((d, [], y) :: σ) Df → wpList P ops Q rest a' w') (hn : Nat.blt d n = true := by exact rfl) (hf : chFree σ d = true := by exact rfl) :
    wpList P ops Q (⟨some d, op, ty, pos, aft, none⟩ :: rest) a w := lfun hk rfl rfl hn hf hF h
theorem sA (hk : S M w0 a w n I σ Df) (h : ∀ a' w', S M w0 a' w' n I ((d, [], u) :: σ) Df → wpList P ops Q rest a' w') (hx : opvc σ [] x = some u := by exact rfl) (hn : Nat.blt d n = true := by exact rfl) (hf : chFree σ d = true := by exact rfl) :
    wpList P ops Q (⟨some d, .assign x, ty, pos, aft, none⟩ :: rest) a w := lfun hk rfl rfl hn hf (f_assign hk h0 hx) h
theorem sM (hk : S M w0 a w n I σ Df) (h : ∀ a' w', S M w0 a' w' n I ((d, [], u) :: σ) Df → wpList P ops Q rest a' w') (hx : opvc σ [] x = some u := by exact rfl) (hn : Nat.blt d n = true := by exact rfl) (hf : chFree σ d = true := by exact rfl) :
    wpList P ops Q (⟨some d, .move x, ty, pos, aft, none⟩ :: rest) a w := lfun hk rfl rfl hn hf (f_move hk h0 hx) h
theorem sP {v : Value} {op : Op} (hk : S M w0 a w n I σ Df) (hF : PureOp P a ⟨some d, op, ty, pos, aft, none⟩ v) (h : ∀ a' w', S M w0 a' w' n I ((d, [], .lit v) :: σ) Df → wpList P ops Q rest a' w') (hn : Nat.blt d n = true := by exact rfl) (hf : chFree σ d = true := by exact rfl) :
    wpList P ops Q (⟨some d, op, ty, pos, aft, none⟩ :: rest) a w := lfun hk rfl rfl hn hf (f_pure hF) h
theorem sSe {l m : List UInt8} (hk : S M w0 a w n I σ Df) (h : ∀ a' w', S M w0 a' w' n I ((d, [], .lit (.bool (decide (l = m)))) :: σ) Df → wpList P ops Q rest a' w') (hx : opvc σ [] x = some (.lit (.string (B l))) := by exact rfl) (hy : opvc σ [] y = some (.lit (.string (B m))) := by exact rfl) (hn : Nat.blt d n = true := by exact rfl) (hf : chFree σ d = true := by exact rfl) :
    wpList P ops Q (⟨some d, .binOp .eql t x y t', ty, pos, aft, none⟩ :: rest) a w := lfun hk rfl rfl hn hf (f_pure (p_seql hk.kn h0 hx hy)) h
theorem sEq (hk : S M w0 a w n I σ Df) (h : ∀ a' w', S M w0 a' w' n I ((d, [], .lit (.bool (decide (p = q)))) :: σ) Df → wpList P ops Q rest a' w') (hx : opvc σ [] x = some (.lit (.int k p)) := by exact rfl) (hy : opvc σ [] y = some (.lit (.int k q)) := by exact rfl) (hn : Nat.blt d n = true := by exact rfl) (hf : chFree σ d = true := by exact rfl) :
    wpList P ops Q (⟨some d, .binOp .eql t x y t', ty, pos, aft, none⟩ :: rest) a w := lfun hk rfl rfl hn hf (f_pure (p_eql hk.kn h0 hx hy)) h
theorem sAd (hk : S M w0 a w n I σ Df) (h : ∀ a' w', S M w0 a' w' n I ((d, [], .lit (.int k (k.wrap (p + q)))) :: σ) Df → wpList P ops Q rest a' w') (hx : opvc σ [] x = some (.lit (.int k p)) := by exact rfl) (hy : opvc σ [] y = some (.lit (.int k q)) := by exact rfl) (hn : Nat.blt d n = true := by exact rfl) (hf : chFree σ d = true := by exact rfl) :
    wpList P ops Q (⟨some d, .binOp .add t x y t', ty, pos, aft, none⟩ :: rest) a w := lfun hk rfl rfl hn hf (f_pure (p_add hk.kn h0 hx hy)) h
theorem sLt (hk : S M w0 a w n I σ Df) (h : ∀ a' w', S M w0 a' w' n I ((d, [], .lit (.bool (decide (p < q)))) :: σ) Df → wpList P ops Q rest a' w') (hx : opvc σ [] x = some (.lit (.int k p)) := by exact rfl) (hy : opvc σ [] y = some (.lit (.int k q)) := by exact rfl) (hn : Nat.blt d n = true := by exact rfl) (hf : chFree σ d = true := by exact rfl) :
    wpList P ops Q (⟨some d, .binOp .lss t x y t', ty, pos, aft, none⟩ :: rest) a w := lfun hk rfl rfl hn hf (f_pure (p_lss hk.kn h0 hx hy)) h
theorem sAn {s : Nat} {b b' : Bool} (hk : S M w0 a w n I σ Df) (h : ∀ a' w', S M w0 a' w' n I ((d, [], .lit (.bool (b && b'))) :: σ) Df → wpList P ops Q rest a' w') (hs : opvc σ [] (.tmp s) = some (.lit (.bool b)) := by exact rfl) (hx : opvc σ ((s, true) :: []) x = some (.lit (.bool b')) := by exact rfl) (hn : Nat.blt d n = true := by exact rfl) (hf : chFree σ d = true := by exact rfl) :
    wpList P ops Q (⟨some d, .pick (.tmp s) x (.const (.bool false)), ty, pos, aft, none⟩ :: rest) a w := lfun hk rfl rfl hn hf (f_pure (p_pick_and hk.kn h0 hs hx)) h
theorem sOr {s : Nat} {b b' : Bool} (hk : S M w0 a w n I σ Df) (h : ∀ a' w', S M w0 a' w' n I ((d, [], .lit (.bool (b || b'))) :: σ) Df → wpList P ops Q rest a' w') (hs : opvc σ [] (.tmp s) = some (.lit (.bool b)) := by exact rfl) (hx : opvc σ ((s, false) :: []) x = some (.lit (.bool b')) := by exact rfl) (hn : Nat.blt d n = true := by exact rfl) (hf : chFree σ d = true := by exact rfl) :
    wpList P ops Q (⟨some d, .pick (.tmp s) (.const (.bool true)) x, ty, pos, aft, none⟩ :: rest) a w := lfun hk rfl rfl hn hf (f_pure (p_pick_or hk.kn h0 hs hx)) h
theorem sFp {b off : Nat} {fs : Array Field} {j : Nat} {f : Field} (o' : Nat) (hk : S M w0 a w n I σ Df) (hu : P.underlying t = some (.struct fs)) (h : ∀ a' w', S M w0 a' w' n I ((d, [], .lit (.pointer (some ⟨b, o', none⟩))) :: σ) Df → wpList P ops Q rest a' w') (hx : opvc σ [] x = some (.lit (.pointer (some ⟨b, off, none⟩))) := by exact rfl) (hf' : fs[j]? = some f := by exact rfl)
    (hs : ((P.info? f.type).map fun i => Nat.beq i.size 0) = some false := by kernel_rfl) (ho : off + f.offset = o' := by exact rfl) (hn : Nat.blt d n = true := by exact rfl) (hf : chFree σ d = true := by exact rfl) :
    wpList P ops Q (⟨some d, .fieldAddr t x j, ty, pos, aft, none⟩ :: rest) a w := lfun hk rfl rfl hn hf (f_fieldPtr hk h0 hx hu hf' hs ho) h
theorem lg {op : Op} (hk : S M w0 a w n I σ Df) {j g : Nat} {want b : Bool} {c0 : Ch} {y : AV} (hj : (ops[j]?).bind (·.dst) = some g) (hgn : Nat.blt g n = true) (hl : look σ g = some (c0, .lit (.bool b))) (hF : holds a ((g, want) :: c0) → Fun P (okM M I) ⟨some d, op, ty, pos, aft, some (j, want)⟩ a w y)
    (h : ∀ a' w', S M w0 a' w' n I ((d, (g, want) :: c0, y) :: σ) Df → wpList P ops Q rest a' w') (hn : Nat.blt d n = true := by exact rfl) (hf : chFree σ d = true := by exact rfl) (hcf : cFree ((g, want) :: c0) d = true := by exact rfl) :
    wpList P ops Q (⟨some d, op, ty, pos, aft, some (j, want)⟩ :: rest) a w := lfunG hk rfl hj hgn hl rfl hn hf hcf hF h
theorem tn {K : Act → World → Prop} (h : K a w) : Exit.then K Q .normal a w := h
theorem bn {id : Nat} (h : Q .normal a w) : Exit.inBlock id Q .normal a w := h
theorem st0 {b off : Nat} {t0 : TypeId} {cs cs' : List AV} (hk : S M w0 a w n (blk b t0 cs :: I) σ Df) (hy : opvc σ [] y = some u) (hs : (P.info? t).map (·.size) = some (cellsA u).length) (h : ∀ w', S M w0 a w' n (blk b t0 cs' :: I) σ Df → wpList P ops Q rest a w') (hx : opvc σ [] x = some (.lit (.pointer (some ⟨b, off, none⟩))) := by exact rfl) (hw : wholeA u = true := by exact rfl) (hl : Nat.ble (off + (cellsA u).length) cs.length = true := by exact rfl) (hcs : putA off (cellsA u) cs = cs' := by exact rfl) :
    wpList P ops Q (⟨none, .store t x y, ty, pos, aft, none⟩ :: rest) a w := l_store (j := 0) hk rfl hx hy hw hl hs hcs rfl h
theorem st1 {b off : Nat} {t0 : TypeId} {cs cs' : List AV} {x0 : It} (hk : S M w0 a w n (x0 :: blk b t0 cs :: I) σ Df) (hy : opvc σ [] y = some u) (hs : (P.info? t).map (·.size) = some (cellsA u).length) (h : ∀ w', S M w0 a w' n (x0 :: blk b t0 cs' :: I) σ Df → wpList P ops Q rest a w') (hx : opvc σ [] x = some (.lit (.pointer (some ⟨b, off, none⟩))) := by exact rfl) (hw : wholeA u = true := by exact rfl) (hl : Nat.ble (off + (cellsA u).length) cs.length = true := by exact rfl) (hcs : putA off (cellsA u) cs = cs' := by exact rfl) :
    wpList P ops Q (⟨none, .store t x y, ty, pos, aft, none⟩ :: rest) a w := l_store (j := 1) hk rfl hx hy hw hl hs hcs rfl h
theorem st2 {b off : Nat} {t0 : TypeId} {cs cs' : List AV} {x0 x1 : It} (hk : S M w0 a w n (x0 :: x1 :: blk b t0 cs :: I) σ Df) (hy : opvc σ [] y = some u) (hs : (P.info? t).map (·.size) = some (cellsA u).length) (h : ∀ w', S M w0 a w' n (x0 :: x1 :: blk b t0 cs' :: I) σ Df → wpList P ops Q rest a w') (hx : opvc σ [] x = some (.lit (.pointer (some ⟨b, off, none⟩))) := by exact rfl) (hw : wholeA u = true := by exact rfl) (hl : Nat.ble (off + (cellsA u).length) cs.length = true := by exact rfl) (hcs : putA off (cellsA u) cs = cs' := by exact rfl) :
    wpList P ops Q (⟨none, .store t x y, ty, pos, aft, none⟩ :: rest) a w := l_store (j := 2) hk rfl hx hy hw hl hs hcs rfl h
theorem st3 {b off : Nat} {t0 : TypeId} {cs cs' : List AV} {x0 x1 x2 : It} (hk : S M w0 a w n (x0 :: x1 :: x2 :: blk b t0 cs :: I) σ Df) (hy : opvc σ [] y = some u) (hs : (P.info? t).map (·.size) = some (cellsA u).length) (h : ∀ w', S M w0 a w' n (x0 :: x1 :: x2 :: blk b t0 cs' :: I) σ Df → wpList P ops Q rest a w') (hx : opvc σ [] x = some (.lit (.pointer (some ⟨b, off, none⟩))) := by exact rfl) (hw : wholeA u = true := by exact rfl) (hl : Nat.ble (off + (cellsA u).length) cs.length = true := by exact rfl) (hcs : putA off (cellsA u) cs = cs' := by exact rfl) :
    wpList P ops Q (⟨none, .store t x y, ty, pos, aft, none⟩ :: rest) a w := l_store (j := 3) hk rfl hx hy hw hl hs hcs rfl h
theorem st4 {b off : Nat} {t0 : TypeId} {cs cs' : List AV} {x0 x1 x2 x3 : It} (hk : S M w0 a w n (x0 :: x1 :: x2 :: x3 :: blk b t0 cs :: I) σ Df) (hy : opvc σ [] y = some u) (hs : (P.info? t).map (·.size) = some (cellsA u).length) (h : ∀ w', S M w0 a w' n (x0 :: x1 :: x2 :: x3 :: blk b t0 cs' :: I) σ Df → wpList P ops Q rest a w') (hx : opvc σ [] x = some (.lit (.pointer (some ⟨b, off, none⟩))) := by exact rfl) (hw : wholeA u = true := by exact rfl) (hl : Nat.ble (off + (cellsA u).length) cs.length = true := by exact rfl) (hcs : putA off (cellsA u) cs = cs' := by exact rfl) :
    wpList P ops Q (⟨none, .store t x y, ty, pos, aft, none⟩ :: rest) a w := l_store (j := 4) hk rfl hx hy hw hl hs hcs rfl h
theorem st5 {b off : Nat} {t0 : TypeId} {cs cs' : List AV} {x0 x1 x2 x3 x4 : It} (hk : S M w0 a w n (x0 :: x1 :: x2 :: x3 :: x4 :: blk b t0 cs :: I) σ Df) (hy : opvc σ [] y = some u) (hs : (P.info? t).map (·.size) = some (cellsA u).length) (h : ∀ w', S M w0 a w' n (x0 :: x1 :: x2 :: x3 :: x4 :: blk b t0 cs' :: I) σ Df → wpList P ops Q rest a w') (hx : opvc σ [] x = some (.lit (.pointer (some ⟨b, off, none⟩))) := by exact rfl) (hw : wholeA u = true := by exact rfl) (hl : Nat.ble (off + (cellsA u).length) cs.length = true := by exact rfl) (hcs : putA off (cellsA u) cs = cs' := by exact rfl) :
    wpList P ops Q (⟨none, .store t x y, ty, pos, aft, none⟩ :: rest) a w := l_store (j := 5) hk rfl hx hy hw hl hs hcs rfl h
theorem st6 {b off : Nat} {t0 : TypeId} {cs cs' : List AV} {x0 x1 x2 x3 x4 x5 : It} (hk : S M w0 a w n (x0 :: x1 :: x2 :: x3 :: x4 :: x5 :: blk b t0 cs :: I) σ Df) (hy : opvc σ [] y = some u) (hs : (P.info? t).map (·.size) = some (cellsA u).length) (h : ∀ w', S M w0 a w' n (x0 :: x1 :: x2 :: x3 :: x4 :: x5 :: blk b t0 cs' :: I) σ Df → wpList P ops Q rest a w') (hx : opvc σ [] x = some (.lit (.pointer (some ⟨b, off, none⟩))) := by exact rfl) (hw : wholeA u = true := by exact rfl) (hl : Nat.ble (off + (cellsA u).length) cs.length = true := by exact rfl) (hcs : putA off (cellsA u) cs = cs' := by exact rfl) :
    wpList P ops Q (⟨none, .store t x y, ty, pos, aft, none⟩ :: rest) a w := l_store (j := 6) hk rfl hx hy hw hl hs hcs rfl h
end
end Go.Proofs.Ytbjbgodcenopnaa.FW
