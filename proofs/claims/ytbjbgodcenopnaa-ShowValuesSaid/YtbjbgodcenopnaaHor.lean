/- Arguments that hold others of their own type: values. -/
import Derived.Test.YtbjbgodcenopnaaHo
import Derived.Test.YtbjbgodcenopnaaAvFloat
import Derived.Test.YtbjbgodcenopnaaSvD
namespace Go.Proofs.Ytbjbgodcenopnaa
open Go.ChangeShapes Go.WideShapes Go.ChangeAt Go.RowKit
set_option linter.unusedVariables false
set_option linter.unusedSectionVars false
namespace FW
/-- What is read as a datum of a type, no deeper than so, is told by a value. -/
def OpenN (N : Nat) (P : Program) (W : World) (t : TypeId) {α : Type} (f : α → List AV) (Pr : α → Prop) : Prop :=
  ∀ {H : Type} (enc : TypeId × Value → H) (sp : Nat → Bool) (n : Nat) (cs : List Value) (x : DataW H × List MemPlace), n ≤ N → DataW.trod enc P W 0 sp true n t cs = some x → ∃ v : α, Pr v ∧ RepL (fun _ => ¬ False) W (f v) cs
section
variable {P : Program} {W : World} {t e : TypeId} {N : Nat}
theorem OpenT.toN {α : Type} {f : α → List AV} {Pr : α → Prop} (h : OpenT P W t f Pr) : OpenN N P W t f Pr := fun enc sp n cs x _ hx => h enc sp n cs x hx
theorem openT_float {k : FloatKind} (ht : P.underlying t = some (.float k)) : OpenT P W t (fun n => [.lit (.float k n)]) (fun n => (Lit.float k n).wf = true) := by
  intro H enc sp n cs x h
  obtain ⟨m, rfl, _, hw⟩ := trod_float ht h
  exact ⟨m, hw, repL_cons (rep_lit rfl) repL_nil⟩
theorem openN_fld {H : Type} {enc : TypeId × Value → H} {sp : Nat → Bool} {n : Nat} {cs : List Value} {xs : List (DataW H × List MemPlace)} {fs : Array Field} {α : Type} {f : α → List AV} {Pr : α → Prop} {i : Nat} {fd : Field} {off m : Nat}
    (hx : ∀ (i : Nat) (f : Field), fs[i]? = some f → DataW.trod enc P W 0 sp true n f.type ((cs.drop f.offset).take (P.cellsOf f.type)) = xs[i]?) (hl : xs.length = fs.size) (hf : fs[i]? = some fd) (ho : fd.offset = off) (hm : P.cellsOf fd.type = m) (hn : n ≤ N) (hO : OpenN N P W fd.type f Pr) :
    ∃ v : α, Pr v ∧ RepL (fun _ => ¬ False) W (f v) ((cs.drop off).take m) := by
  have h1 := hx i fd hf
  have hlt : i < xs.length := by
    rw [hl]
    exact (Array.getElem?_eq_some_iff.1 hf).1
  rw [List.getElem?_eq_getElem hlt] at h1
  rw [ho, hm] at h1
  exact hO enc sp n _ _ hn h1
theorem openN_slice {α : Type} {f : α → List AV} {Pr : α → Prop} {sz : Nat} {R : List α → List (List AV)} (hR : ∀ l, R l = l.map f) (ht : P.underlying t = some (.slice e)) (hc : P.cellsOf e = sz) (hsz : ∀ x, (f x).length = sz) (hpos : 0 < sz) (hO : OpenN N P W e f Pr) :
    OpenN (N + 1) P W t (fun l => [.row (R l)]) (fun l => (∀ x ∈ l, Pr x) ∧ l.length ≤ maxLen) := by
  intro H enc sp n cs x hn h
  rcases DataW.trod_slice ht h with ⟨rfl, _⟩ | ⟨a, len, cap, elems, rest, n', hnn, rfl, _, _, hlc, hcm, hlen, hel, _⟩
  · exact ⟨[], by simp, repL_cons (by rw [hR]; simp only [Rep, List.map_nil]; exact ⟨none, 0, rfl, Nat.le_refl _, .inl trivial⟩) repL_nil⟩
  rw [hc] at hel
  obtain ⟨l, hl, hp⟩ := list_of (α := α) (p := fun i v => Pr v ∧ ∃ cs', W.cells? 0 (a.add (i * sz)) sz = some cs' ∧ RepL (fun _ => ¬ False) W (f v) cs') len (fun i hi => by
    have h0 := hel i hi
    rw [List.getElem?_eq_getElem (by omega)] at h0
    obtain ⟨cs', h1, h2⟩ := Option.bind_eq_some_iff.1 h0
    obtain ⟨v, hv, hr⟩ := hO enc sp n' cs' _ (by omega) h2
    exact ⟨v, hv, cs', h1, hr⟩)
  refine ⟨l, ⟨fun x hx' => ?_, by omega⟩, ?_⟩
  · obtain ⟨i, hi⟩ := List.mem_iff_getElem?.1 hx'
    exact (hp i x hi).1
  refine repL_cons ?_ repL_nil
  rw [hR]
  simp only [Rep, List.length_map]
  refine ⟨some a, cap, by rw [hl], by omega, ?_⟩
  by_cases h0 : l = []
  · left; subst h0; rfl
  right
  obtain ⟨b, off, spot⟩ := a
  have hl0 : 0 < l.length := List.length_pos_iff.2 h0
  obtain ⟨_, cs0, hc0, _⟩ := hp 0 _ (List.getElem?_eq_getElem hl0)
  obtain ⟨_, _, hcell0⟩ := World.cells?_some hc0
  have hcs0 : cs0.length = sz := (World.cells?_some hc0).2.1
  have h1 := hcell0 0 hpos
  have h2 : ∃ v, cs0[0]? = some v := ⟨cs0[0]'(by omega), List.getElem?_eq_getElem (by omega)⟩
  obtain ⟨v0, hv0⟩ := h2
  rw [hv0] at h1
  unfold World.cell? at h1
  have hblk : ((⟨b, off, spot⟩ : Addr).add (0 * sz)).add 0 = ⟨b, off, spot⟩ := by
    cases spot <;> simp [Addr.add]
  rw [hblk] at h1
  split at h1
  · rename_i arr el fr hh
    split at h1
    · cases h1
    · rename_i hsp
      have hspot : spot = none := by
        cases spot with
        | none => rfl
        | some s => simp at hsp
      subst hspot
      refine ⟨b, off, arr, el, fr, rfl, fun h => h, hh, repR_at hsz l _ fun i v hi => ?_⟩
      obtain ⟨_, cs', hc', hr⟩ := hp i v hi
      obtain ⟨_, hlen, hcell⟩ := World.cells?_some hc'
      have e1 : cs' = ((arr.toList.drop off).drop (i * sz)).take sz := by
        apply List.ext_getElem?
        intro q
        by_cases hq : q < sz
        · rw [← hcell q hq, List.getElem?_take, if_pos hq, List.getElem?_drop, List.getElem?_drop, add_addr, add_addr, cell_of_row W b _ arr el fr hh]
          simp [Nat.add_assoc]
        · rw [List.getElem?_eq_none (by omega), List.getElem?_eq_none (by rw [List.length_take]; omega)]
      rw [← e1]; exact hr
  · cases h1
end
end FW
/-! A value, and those in it: numbers that are such, texts and rows that are not too long. -/
mutual
def OkV : ApiValue → Prop
  | ⟨k, _, n, f, s, l⟩ => (Lit.int .i64 k).wf = true ∧ (Lit.int .i64 n).wf = true ∧ (Lit.float .f64 f).wf = true ∧ s.length ≤ maxLen ∧ l.length ≤ maxLen ∧ OkVL l
def OkVL : List ApiValue → Prop
  | [] => True
  | x :: r => OkV x ∧ OkVL r
end
theorem okVL_of : ∀ l : List ApiValue, (∀ x ∈ l, OkV x) → OkVL l
  | [], _ => by simp [OkVL]
  | x :: r, h => by
    simp only [OkVL]
    exact ⟨h x List.mem_cons_self, okVL_of r fun y hy => h y (List.mem_cons_of_mem _ hy)⟩
theorem openN_ApiValue {W : World} : ∀ N, FW.OpenN N Try.prog W 33 ApiValue.cells OkV := by
  intro N
  induction N using Nat.strongRecOn with
  | _ N ih =>
    intro H enc sp n cs x hN h
    obtain ⟨xs, n', rfl, _, hlen, hxl, hx⟩ := DataW.trod_struct Try.underlying33 h
    obtain ⟨v0, k0, r0⟩ := FW.open_fld hx hxl (i := 0) rfl rfl (m := 1) (by kernel_rfl) (FW.openT_int Try.underlying3)
    obtain ⟨v1, _, r1⟩ := FW.open_fld hx hxl (i := 1) rfl rfl (m := 1) (by kernel_rfl) (FW.openT_bool Try.underlying4)
    obtain ⟨v2, k2, r2⟩ := FW.open_fld hx hxl (i := 2) rfl rfl (m := 1) (by kernel_rfl) (FW.openT_int Try.underlying2)
    obtain ⟨v3, k3, r3⟩ := FW.open_fld hx hxl (i := 3) rfl rfl (m := 1) (by kernel_rfl) (FW.openT_float Try.underlying30)
    obtain ⟨v4, k4, r4⟩ := FW.open_fld hx hxl (i := 4) rfl rfl (m := 1) (by kernel_rfl) (FW.openT_str Try.underlying9)
    obtain ⟨v5, k5, r5⟩ : ∃ v : List ApiValue, ((∀ x ∈ v, OkV x) ∧ v.length ≤ maxLen) ∧ FW.RepL (fun _ => ¬ False) W [.row (r_ApiValue_cells v)] ((cs.drop 5).take 1) := by
      cases n' with
      | zero =>
        have h1 := hx 5 _ rfl
        have hlt : 5 < xs.length := by rw [hxl]; decide
        rw [List.getElem?_eq_getElem hlt] at h1
        unfold DataW.trod at h1
        cases h1
      | succ n' => exact FW.openN_fld (N := n' + 1) hx hxl (i := 5) rfl rfl (m := 1) (by kernel_rfl) (Nat.le_refl _) (FW.openN_slice (sz := 6) r_ApiValue_cells_eq Try.underlying31 (by kernel_rfl) (fun _ => rfl) (by decide) (ih n' (by omega)))
    exact ⟨⟨v0, v1, v2, v3, v4, v5⟩, by simp only [OkV]; exact ⟨k0, k2, k3, k4, k5.2, okVL_of v5 k5.1⟩, FW.seg_all (m := 6) (FW.seg_cons r0 (FW.seg_cons r1 (FW.seg_cons r2 (FW.seg_cons r3 (FW.seg_cons r4 r5))))) (by rw [hlen]; kernel_rfl)⟩
theorem open_ApiValue {W : World} : FW.OpenT Try.prog W 33 ApiValue.cells OkV := fun enc sp n cs x h => openN_ApiValue n enc sp n cs x (Nat.le_refl _) h
end Go.Proofs.Ytbjbgodcenopnaa
