/- Further contracts of library functions; a variable that is laid with its value. -/
import Derived.Test.YtbjbgodcenopnaaAvRow
import Derived.Test.YtbjbgodcenopnaaAvMan
import Derived.Test.YtbjbgodcenopnaaAvDraw
import Derived.Test.YtbjbgodcenopnaaAvMoreD
namespace Go.Proofs.Ytbjbgodcenopnaa
variable {Df : List Deferred}
open Go.RowKit
set_option linter.unusedVariables false
namespace FW
section
variable {P : Program} {M : Nat → Prop} {w0 : Bs} {w : World} {a : Act} {n : Nat} {I : List It} {σ : St} {c : Ch} {ty : TypeId} {pos : String} {aft : Array Edge} {x : Operand} {u : AV} {ops : Array Oper} {Q : Exit → Act → World → Prop} {rest : List Oper} {d : Nat} {cs : List AV}
theorem l_box {t : TypeId} (hk : S M w0 a w n I σ Df) (hn : Nat.blt d n = true) (hf : chFree σ d = true) (hx : opvc σ [] x = some u) (hw : wholeA u = true) (hcs : cellsA u = cs)
    (h : ∀ b a' w', S M w0 a' w' n (blk b t cs :: I) ((d, [], .lit (.pointer (some ⟨b, 0, none⟩))) :: σ) Df → wpList P ops Q rest a' w') :
    wpList P ops Q (⟨some d, .box t x, ty, pos, aft, none⟩ :: rest) a w := by
  subst hcs
  obtain ⟨hL, _⟩ := rep_cells (hk.kn.rep (holds_nil a) hx) hw
  have hr : (execOp a.eval ⟨some d, .box t x, ty, pos, aft, none⟩).run P w = .ok (.value (.pointer (some ⟨w.heap.size, 0, none⟩))) (w.alloc (.cells (a.eval x).cells t)) := by
    simp [execOp, Instr.box, newVar, newRow]
  refine leff hk rfl rfl hn hf hr ?_ (rep_lit rfl) (fun a' hk' => h _ _ _ hk')
  have hfoot : ∀ k, (blk w.heap.size t (cellsA u)).foot k → w.heap.size ≤ k ∧ k < (w.alloc (.cells (a.eval x).cells t)).heap.size := by
    intro k hk
    have hk' : k = w.heap.size := hk
    subst hk'
    simp
  exact hk.push (New.alloc w _) ⟨(a.eval x).cells, heap_alloc_new w _, RepL.go (Goes.push (it' := blk w.heap.size t (cellsA u)) (New.alloc w _) hfoot) _ _ hL⟩ hfoot
theorem S.squash {t : Nat} {x x' : AV} {c' : Ch} (hk : S M w0 a w n I ((t, [], x) :: (t, c', x') :: σ) Df) : S M w0 a w n I ((t, [], x) :: σ) Df := by
  refine ⟨hk.own, hk.kn.of_look fun i z hz => ?_⟩
  simp only [look] at hz ⊢
  cases hb : Nat.beq t i with
  | true => rw [hb] at hz; exact hz
  | false => rw [hb] at hz; simpa using hz
theorem S.freezeR {α : Type} {ad : Option Addr} {cap sz j : Nat} {e : TypeId} {f : α → List AV} {l : List α} {R : List α → List (List AV)} {t : Nat} {I' : List It} (hR : ∀ l, R l = l.map f) (hk : S M w0 a w n I σ Df) (hj : I[j]? = some (orow ad cap e sz f l)) (hl : look σ t = some ([], .lit (.slice ad l.length cap))) (h : I.eraseIdx j = I') : S M w0 a w n I' ((t, [], .row (R l)) :: σ) Df := by
  rw [hR]; exact S.freezeI hk hj hl h
/-- What a struct's parts come to: a nil slice is told as a row without elements, but where it is to be kept. -/
def nilA (keep : List Nat) (vs : List AV) : List AV := vs.zipIdx.map fun p => match p.1 with
  | .lit (.slice none 0 0) => bif keep.any (Nat.beq p.2) then .lit (.slice none 0 0) else .row []
  | v => v
theorem repL_nilA {ok : Nat → Prop} {w : World} {keep : List Nat} : ∀ (cs : List AV) (vs : List Value) (k : Nat), RepL ok w cs vs → RepL ok w ((cs.zipIdx k).map fun p => match p.1 with
    | .lit (.slice none 0 0) => bif keep.any (Nat.beq p.2) then .lit (.slice none 0 0) else .row []
    | v => v) vs
  | [], vs, k, h => by simpa [RepL] using h
  | c :: cs, vs, k, h => by
    simp only [RepL] at h
    obtain ⟨v, r, rfl, h1, h2⟩ := h
    rw [List.zipIdx_cons, List.map_cons]
    refine repL_cons ?_ (repL_nilA cs r (k + 1) h2)
    split
    · rename_i hv
      have hv' : c = .lit (.slice none 0 0) := hv
      subst hv'
      simp only [Rep] at h1
      subst h1
      cases keep.any (Nat.beq k) with
      | true => exact rep_lit rfl
      | false => exact rep_nil
    · exact h1
theorem f_buildN {dst : Option Tmp} {g : Option (Nat × Bool)} {t : TypeId} {ps : List (Nat × Operand)} {xs : List (Nat × AV)} {cs cs' : List AV} (keep : List Nat) (hk : S M w0 a w n I σ Df) (hc : holds a c) (hx : partsA σ c ps = some xs) (h : builtA P t xs = some cs) (h' : nilA keep cs = cs') :
    Fun P (okM M I) ⟨dst, .build t ps.toArray, ty, pos, aft, g⟩ a w (.agg cs') := by
  subst h'
  obtain ⟨arr, h1, h2⟩ := rep_built (rep_parts hk.kn hc hx) h
  refine .inl ⟨.agg arr, w, ?_, New.refl w, by simp only [Rep]; exact ⟨arr, rfl, repL_nilA _ _ 0 h2⟩⟩
  simp only [execOp, Sem.run_bind]
  rw [run_build w t _ arr (by simpa using h1)]
  simp
theorem RepL.setk {ok : Nat → Prop} {w : World} {x y : AV} (hy : ∀ v, Rep ok w x v → Rep ok w y v) : ∀ {cs : List AV} {vs : List Value} {k : Nat}, RepL ok w cs vs → cs[k]? = some x → RepL ok w (cs.set k y) vs
  | [], vs, k, h, hk => by simp at hk
  | c :: cs, vs, k, h, hk => by
    simp only [RepL] at h
    obtain ⟨v, r, rfl, h1, h2⟩ := h
    cases k with
    | zero =>
      simp only [List.getElem?_cons_zero, Option.some.injEq] at hk
      subst hk
      rw [List.set_cons_zero]
      exact repL_cons (hy v h1) h2
    | succ k =>
      rw [List.set_cons_succ]
      exact repL_cons h1 (RepL.setk hy h2 (by simpa using hk))
/-- A row that a variable holds is let go: from there on it is read alone. -/
theorem S.freezeBlk {α : Type} {ad : Option Addr} {cap sz b : Nat} {e t0 : TypeId} {f : α → List AV} {l : List α} {cs cs' : List AV} {I1 I' : List It} {R : List α → List (List AV)} (hR : ∀ l, R l = l.map f) (hk : S M w0 a w n I σ Df) (j jb k : Nat) (hj : I[j]? = some (orow ad cap e sz f l)) (h1 : I.eraseIdx j = I1) (hb : I1[jb]? = some (blk b t0 cs)) (hc : cs[k]? = some (.lit (.slice ad l.length cap)))
    (hcs : cs.set k (.row (R l)) = cs') (hI : I1.set jb (blk b t0 cs') = I') : S M w0 a w n I' σ Df := by
  subst h1; subst hI; subst hcs
  rw [hR]
  refine (hk.drop j).conv hb (fun ok hg hP => ?_) (fun k hk => hk)
  obtain ⟨arr, h2, h3⟩ := hP
  refine ⟨arr, h2, ?_⟩
  exact RepL.go hg _ _ (RepL.setk (hk.freeze hj) h3 hc)
end
end FW
theorem B_toList (l : List UInt8) : (FW.B l).data.toList = l := by simp
theorem strings_Join.ok (xs : List (List UInt8)) (sep r : List UInt8) (h : strings_Join.f xs sep = some r) : FW.Ok Go.Proofs.Try.prog 54 [.row (xs.map fun x => [.lit (.string (FW.B x))]), .lit (.string (FW.B sep))] (.lit (.string (FW.B r))) := by
  obtain ⟨hc, h⟩ := FW.chk h
  obtain rfl := Option.some.inj h
  intro M w vs hM hL
  simp only [FW.RepL] at hL
  obtain ⟨v, r1, e1, h1, v2, r2, rfl, h2, rfl⟩ := hL
  simp only [FW.Rep] at h2
  subst h2
  obtain rfl : vs = #[v, .string (FW.B sep)] := by rw [← Array.toArray_toList (xs := vs), e1]
  simp only [FW.Rep] at h1
  obtain ⟨a', cp, rfl, hle, hx⟩ := h1
  by_cases hl : xs = []
  · subst hl
    refine (Try.strings_Join_none a' cp (FW.B sep) w).mono ?_
    rintro e w' ⟨rfl, rfl⟩
    exact ⟨_, rfl, FW.New.refl _, FW.rep_lit rfl⟩
  · obtain ⟨b, off, cs, e2, fr, rfl, hb, hh, hR⟩ := hx.resolve_left (by simpa using hl)
    have hmap : (xs.map FW.B).map (·.data.toList) = xs := by rw [List.map_map]; exact (List.map_congr_left fun x _ => B_toList x).trans (List.map_id xs)
    have hlen : (xs.map fun x => [FW.AV.lit (.string (FW.B x))]).length = (xs.map FW.B).length := by simp
    rw [hlen] at hle ⊢
    refine (Try.strings_Join b off cp (xs.map FW.B) (FW.B sep) w ?_ (FW.heap_lt hh) (by simpa using hc.1) hle (by rw [hmap, B_toList]; exact hc.2)).mono ?_
    · intro i x hi
      obtain ⟨y, hy, rfl⟩ := List.mem_map.1 (List.mem_of_getElem? hi)
      obtain ⟨y, hy, hyx⟩ : ∃ y, xs[i]? = some y ∧ FW.B y = FW.B y := by
        rw [List.getElem?_map, Option.map_eq_some_iff] at hi
        obtain ⟨z, hz, _⟩ := hi
        exact ⟨z, hz, rfl⟩
      rw [List.getElem?_map, hy] at hi
      simp only [Option.map_some, Option.some.injEq] at hi
      rw [← hi]
      have hg : (xs.map fun x => [FW.AV.lit (.string (FW.B x))])[i]? = some [.lit (.string (FW.B y))] := by rw [List.getElem?_map, hy]; rfl
      have h2 := FW.RepR.at hR (sz := 1) (by intro x hx; obtain ⟨y, _, rfl⟩ := List.mem_map.1 hx; rfl) hg
      simp only [FW.RepP] at h2
      obtain ⟨v', r, h3, h4, _⟩ := h2
      simp only [FW.Rep] at h4
      subst h4
      rw [cell_of_row w b (off + i) cs e2 fr hh]
      have h5 : (cs.toList.drop off).drop (i * 1) = .string (FW.B y) :: r := h3
      rw [List.drop_drop, Nat.mul_one] at h5
      have h6 : (cs.toList.drop (off + i))[0]? = some (.string (FW.B y)) := by rw [h5]; rfl
      simpa using h6
    · rintro e w' ⟨rfl, hb'⟩
      rw [hmap, B_toList]
      exact ⟨_, rfl, FW.New.of_below hb', FW.rep_lit rfl⟩
end Go.Proofs.Ytbjbgodcenopnaa
