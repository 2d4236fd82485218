/- Further contracts of library functions; a variable that is laid with its value. -/
import Derived.Test.YtaoffkhflmndhaaAvRow
import Derived.Test.YtaoffkhflmndhaaAvDraw
namespace Go.Proofs.Ytaoffkhflmndhaa
variable {Df : List Deferred}
open Go.RowKit
set_option linter.unusedVariables false
namespace FW
section
variable {P : Program} {M : Nat → Prop} {w0 : Bs} {w : World} {a : Act} {n : Nat} {I : List It} {σ : St} {c : Ch} {ty : TypeId} {pos : String} {aft : Array Edge} {x : Operand} {u : AV} {ops : Array Oper} {Q : Exit → Act → World → Prop} {rest : List Oper} {d : Nat} {cs : List AV}
theorem l_box {t : TypeId} (hk : S M w0 a w n I σ Df) (hn : Nat.blt d n = true) (hf : chFree σ d = true) (hx : opvc σ [] x = some u) (hw : wholeA u = true) (hcs : cellsA u = cs)
    (h : ∀ b a' w', S M w0 a' w' n (blk b t cs :: I) ((d, [], .lit (.pointer (some ⟨b, 0, none⟩))) :: σ) Df → wpList P ops Q rest a' w') :
    wpList P ops Q (⟨some d, .box t x, ty, pos, aft, none⟩ :: rest) a w := by
  subst hcs
  obtain ⟨hL, _⟩ := rep_cells (hk.kn.rep (holds_nil a) hx) hw
  have hr : (execOp a.eval ⟨some d, .box t x, ty, pos, aft, none⟩).run P w = .ok (.value (.pointer (some ⟨w.heap.size, 0, none⟩))) (w.alloc (.cells (a.eval x).cells t)) := by
    simp [execOp, Instr.box, newVar, newRow]
  refine leff hk rfl rfl hn hf hr ?_ (rep_lit rfl) (fun a' hk' => h _ _ _ hk')
  have hfoot : ∀ k, (blk w.heap.size t (cellsA u)).foot k → w.heap.size ≤ k ∧ k < (w.alloc (.cells (a.eval x).cells t)).heap.size := by
    intro k hk
    have hk' : k = w.heap.size := hk
    subst hk'
    simp
  exact hk.push (New.alloc w _) ⟨(a.eval x).cells, heap_alloc_new w _, RepL.go (Goes.push (it' := blk w.heap.size t (cellsA u)) (New.alloc w _) hfoot) _ _ hL⟩ hfoot
theorem S.squash {t : Nat} {x x' : AV} {c' : Ch} (hk : S M w0 a w n I ((t, [], x) :: (t, c', x') :: σ) Df) : S M w0 a w n I ((t, [], x) :: σ) Df := by
  refine ⟨hk.own, hk.kn.of_look fun i z hz => ?_⟩
  simp only [look] at hz ⊢
  cases hb : Nat.beq t i with
  | true => rw [hb] at hz; exact hz
  | false => rw [hb] at hz; simpa using hz
theorem S.freezeR {α : Type} {ad : Option Addr} {cap sz j : Nat} {e : TypeId} {f : α → List AV} {l : List α} {R : List α → List (List AV)} {t : Nat} {I' : List It} (hR : ∀ l, R l = l.map f) (hk : S M w0 a w n I σ Df) (hj : I[j]? = some (orow ad cap e sz f l)) (hl : look σ t = some ([], .lit (.slice ad l.length cap))) (h : I.eraseIdx j = I') : S M w0 a w n I' ((t, [], .row (R l)) :: σ) Df := by
  rw [hR]; exact S.freezeI hk hj hl h
/-- What a struct's parts come to: a nil slice is told as a row without elements, but where it is to be kept. -/
def nilA (keep : List Nat) (vs : List AV) : List AV := vs.zipIdx.map fun p => match p.1 with
  | .lit (.slice none 0 0) => bif keep.any (Nat.beq p.2) then .lit (.slice none 0 0) else .row []
  | v => v
theorem repL_nilA {ok : Nat → Prop} {w : World} {keep : List Nat} : ∀ (cs : List AV) (vs : List Value) (k : Nat), RepL ok w cs vs → RepL ok w ((cs.zipIdx k).map fun p => match p.1 with
    | .lit (.slice none 0 0) => bif keep.any (Nat.beq p.2) then .lit (.slice none 0 0) else .row []
    | v => v) vs
  | [], vs, k, h => by simpa [RepL] using h
  | c :: cs, vs, k, h => by
    simp only [RepL] at h
    obtain ⟨v, r, rfl, h1, h2⟩ := h
    rw [List.zipIdx_cons, List.map_cons]
    refine repL_cons ?_ (repL_nilA cs r (k + 1) h2)
    split
    · rename_i hv
      have hv' : c = .lit (.slice none 0 0) := hv
      subst hv'
      simp only [Rep] at h1
      subst h1
      cases keep.any (Nat.beq k) with
      | true => exact rep_lit rfl
      | false => exact rep_nil
    · exact h1
theorem f_buildN {dst : Option Tmp} {g : Option (Nat × Bool)} {t : TypeId} {ps : List (Nat × Operand)} {xs : List (Nat × AV)} {cs cs' : List AV} (keep : List Nat) (hk : S M w0 a w n I σ Df) (hc : holds a c) (hx : partsA σ c ps = some xs) (h : builtA P t xs = some cs) (h' : nilA keep cs = cs') :
    Fun P (okM M I) ⟨dst, .build t ps.toArray, ty, pos, aft, g⟩ a w (.agg cs') := by
  subst h'
  obtain ⟨arr, h1, h2⟩ := rep_built (rep_parts hk.kn hc hx) h
  refine .inl ⟨.agg arr, w, ?_, New.refl w, by simp only [Rep]; exact ⟨arr, rfl, repL_nilA _ _ 0 h2⟩⟩
  simp only [execOp, Sem.run_bind]
  rw [run_build w t _ arr (by simpa using h1)]
  simp
theorem RepL.setk {ok : Nat → Prop} {w : World} {x y : AV} (hy : ∀ v, Rep ok w x v → Rep ok w y v) : ∀ {cs : List AV} {vs : List Value} {k : Nat}, RepL ok w cs vs → cs[k]? = some x → RepL ok w (cs.set k y) vs
  | [], vs, k, h, hk => by simp at hk
  | c :: cs, vs, k, h, hk => by
    simp only [RepL] at h
    obtain ⟨v, r, rfl, h1, h2⟩ := h
    cases k with
    | zero =>
      simp only [List.getElem?_cons_zero, Option.some.injEq] at hk
      subst hk
      rw [List.set_cons_zero]
      exact repL_cons (hy v h1) h2
    | succ k =>
      rw [List.set_cons_succ]
      exact repL_cons h1 (RepL.setk hy h2 (by simpa using hk))
/-- A row that a variable holds is let go: from there on it is read alone. -/
theorem S.freezeBlk {α : Type} {ad : Option Addr} {cap sz b : Nat} {e t0 : TypeId} {f : α → List AV} {l : List α} {cs cs' : List AV} {I1 I' : List It} {R : List α → List (List AV)} (hR : ∀ l, R l = l.map f) (hk : S M w0 a w n I σ Df) (j jb k : Nat) (hj : I[j]? = some (orow ad cap e sz f l)) (h1 : I.eraseIdx j = I1) (hb : I1[jb]? = some (blk b t0 cs)) (hc : cs[k]? = some (.lit (.slice ad l.length cap)))
    (hcs : cs.set k (.row (R l)) = cs') (hI : I1.set jb (blk b t0 cs') = I') : S M w0 a w n I' σ Df := by
  subst h1; subst hI; subst hcs
  rw [hR]
  refine (hk.drop j).conv hb (fun ok hg hP => ?_) (fun k hk => hk)
  obtain ⟨arr, h2, h3⟩ := hP
  refine ⟨arr, h2, ?_⟩
  exact RepL.go hg _ _ (RepL.setk (hk.freeze hj) h3 hc)
end
end FW
end Go.Proofs.Ytaoffkhflmndhaa
