/- Pieces of slices.Delete of the one element of a row of one's own. -/
import Derived.Test.YtimaibcaehagjaaHc
import Derived.Test.YtimaibcaehagjaaAvMore
namespace Go.Proofs.Ytimaibcaehagjaa.FW
variable {Df : List Deferred}
open Go.RowKit
set_option linter.unusedVariables false
set_option linter.unusedSectionVars false
section
variable {P : Program} {M : Nat → Prop} {w0 : Bs} {w w' : World} {a : Act} {n : Nat} {I I' : List It} {σ : St} {it : It} {j : Nat}
variable {c : Ch} {dst : Option Tmp} {ty : TypeId} {pos : String} {aft : Array Edge} {ops : Array Oper} {Q : Exit → Act → World → Prop} {rest : List Oper} {d : Nat} {g : Option (Nat × Bool)} {x y y0 y1 y2 : Operand}
variable {α : Type} [Inhabited α] {f : α → List AV} {l : List α} {ad : Option Addr} {cap b cp : Nat} {e t : TypeId} {sz : Nat}
theorem f_sl3 (hk : S M w0 a w n I σ Df) (hc : holds a c) (hx : opvc σ c x = some (.lit (.slice ad 1 cp))) (h0 : opvc σ c y0 = some (.lit (.int .i64 0))) (h1 : opvc σ c y1 = some (.lit (.int .i64 1))) (h2 : opvc σ c y2 = some (.lit (.int .i64 1))) (hcp : 1 ≤ cp) (hu : P.underlying t = some (.slice e)) (hs : (P.info? e).map (·.size) = some sz) :
    Fun P (okM M I) ⟨dst, .slice t x (some y0) (some y1) (some y2), ty, pos, aft, g⟩ a w (.lit (.slice (ad.map (·.add 0)) 1 1)) := by
  obtain ⟨inf, hinf, hs'⟩ := Option.map_eq_some_iff.1 hs
  refine .inl ⟨_, w, ?_, New.refl w, rep_lit rfl⟩
  have hcp' : (1 : Int) ≤ (cp : Int) := by omega
  simp [execOp, hk.kn.val hc hx, hk.kn.val hc h0, hk.kn.val hc h1, hk.kn.val hc h2, Instr.sliceAt, Instr.slice, Instr.sliceBounds, Instr.sliceBound, asIntOf, run_underlying hu, sizeOf, typeInfo, hinf, hcp']
theorem f_slTo (hk : S M w0 a w n I σ Df) (hc : holds a c) (hx : opvc σ c x = some (.lit (.slice (some ⟨b, 0, none⟩) 1 cp))) (h0 : opvc σ c y0 = some (.lit (.int .i64 0))) (hu : P.underlying t = some (.slice e)) (hs : (P.info? e).map (·.size) = some sz) :
    Fun P (okM M I) ⟨dst, .slice t x none (some y0) none, ty, pos, aft, g⟩ a w (.lit (.slice (some ⟨b, 0, none⟩) 0 cp)) := by
  obtain ⟨inf, hinf, hs'⟩ := Option.map_eq_some_iff.1 hs
  refine .inl ⟨_, w, ?_, New.refl w, rep_lit rfl⟩
  simp [execOp, hk.kn.val hc hx, hk.kn.val hc h0, Instr.sliceAt, Instr.slice, Instr.sliceBounds, Instr.sliceBound, asIntOf, run_underlying hu, sizeOf, typeInfo, hinf, add_addr]
theorem f_slFrom (hk : S M w0 a w n I σ Df) (hc : holds a c) (hx : opvc σ c x = some (.lit (.slice ad 1 cp))) (h0 : opvc σ c y0 = some (.lit (.int .i64 1))) (hu : P.underlying t = some (.slice e)) (hs : (P.info? e).map (·.size) = some sz) :
    Fun P (okM M I) ⟨dst, .slice t x (some y0) none none, ty, pos, aft, g⟩ a w (.lit (.slice (if cp = 1 then ad else ad.map (·.add (1 * sz))) 0 (cp - 1))) := by
  obtain ⟨inf, hinf, hs'⟩ := Option.map_eq_some_iff.1 hs
  refine .inl ⟨_, w, ?_, New.refl w, rep_lit rfl⟩
  simp [execOp, hk.kn.val hc hx, hk.kn.val hc h0, Instr.sliceAt, Instr.slice, Instr.sliceBounds, Instr.sliceBound, asIntOf, run_underlying hu, sizeOf, typeInfo, hinf, hs']
theorem f_slPart (hk : S M w0 a w n I σ Df) (hc : holds a c) (hx : opvc σ c x = some (.lit (.slice (some ⟨b, 0, none⟩) 0 cp))) (h0 : opvc σ c y0 = some (.lit (.int .i64 0))) (h1 : opvc σ c y1 = some (.lit (.int .i64 1))) (hcp : 1 ≤ cp) (hu : P.underlying t = some (.slice e)) (hs : (P.info? e).map (·.size) = some sz) :
    Fun P (okM M I) ⟨dst, .slice t x (some y0) (some y1) none, ty, pos, aft, g⟩ a w (.lit (.slice (some ⟨b, 0, none⟩) 1 cp)) := by
  obtain ⟨inf, hinf, hs'⟩ := Option.map_eq_some_iff.1 hs
  refine .inl ⟨_, w, ?_, New.refl w, rep_lit rfl⟩
  have hcp' : (1 : Int) ≤ (cp : Int) := by omega
  simp [execOp, hk.kn.val hc hx, hk.kn.val hc h0, hk.kn.val hc h1, Instr.sliceAt, Instr.slice, Instr.sliceBounds, Instr.sliceBound, asIntOf, run_underlying hu, sizeOf, typeInfo, hinf, hcp', add_addr]
/-- Nothing is appended. -/
theorem f_append0 {A : Option Addr} {q : Nat} (hk : S M w0 a w n I σ Df) (hc : holds a c) (hx : opvc σ c x = some (.lit (.slice (some ⟨b, 0, none⟩) 0 cp))) (hy : opvc σ c y = some (.lit (.slice A 0 q))) (hu : P.underlying t = some (.slice e)) (hs : (P.info? e).map (·.size) = some sz) :
    Fun P (okM M I) ⟨dst, .call { callee := .builtin .append, args := #[x, y], argTypes := #[t, t] }, ty, pos, aft, g⟩ a w (.lit (.slice (some ⟨b, 0, none⟩) 0 cp)) := by
  obtain ⟨inf, hinf, hs'⟩ := Option.map_eq_some_iff.1 hs
  refine .inl ⟨.slice (some ⟨b, 0, none⟩) 0 cp, w, ?_, New.refl w, rep_lit rfl⟩
  simp [execOp, resolve, invoke, builtin, hk.kn.val hc hx, hk.kn.val hc hy, Builtin.append_, run_underlying hu, sizeOf, typeInfo, hinf, Builtin.lenOf, Builtin.firstCells]
  cases A <;> simp [loadCells, loadCellsFrom, storeCells]
theorem zeroCells_one (z : Array Value) : (Builtin.zeroCells z 1).toList = z.toList := by
  unfold Builtin.zeroCells
  apply List.ext_getElem?
  intro i
  by_cases h : i < z.size
  · simp [h, Nat.mod_eq_of_lt h]
  · rw [List.getElem?_eq_none (by simp; omega), List.getElem?_eq_none (by simp; omega)]
/-- The one element of a row is cleared, and the row is told as one without elements. -/
theorem l_clearOne {x0 : α} {z : Value} {I' : List It} (hk : S M w0 a w n I σ Df) (hj : I[j]? = some (orow (some ⟨b, 0, none⟩) cap e sz f [x0])) (hx : opvc σ [] x = some (.lit (.slice (some ⟨b, 0, none⟩) 1 cap))) (hu : P.underlying t = some (.slice e)) (hz : (P.info? e).bind (·.zero) = some z) (hzl : z.cells.size = sz) (hone : z.cells.toList.all Value.oneCell' = true)
    (hI : I.set j (orow (some ⟨b, 0, none⟩) cap e sz f ([] : List α)) = I') (h : ∀ w', S M w0 a w' n I' σ Df → wpList P ops Q rest a w') :
    wpList P ops Q (⟨none, .call { callee := .builtin .clear, args := #[x], argTypes := #[t] }, ty, pos, aft, none⟩ :: rest) a w := by
  obtain ⟨hsz, vals, hown, hL⟩ := hk.own.get hj
  obtain ⟨inf, hi, hz'⟩ := Option.bind_eq_some_iff.1 hz
  rcases hown.2 with ⟨hv, hn⟩ | ⟨gb, cp, cur, hv, hb0, hh, hle, hcm, hcs, htk⟩
  · cases hv
  · injection hv with h3 h4 h5
    injection h3 with h3
    injection h3 with h3
    subst h3; subst h5
    simp only [List.length_cons, List.length_nil, Nat.zero_add] at hle
    have hle2 : 1 * sz ≤ cap * sz := Nat.mul_le_mul_right sz hle
    have hst := run_storeCells_at (P := P) b 0 e z.cells.toList 0 cur w hh (by simp; omega) (fun v hv => List.all_eq_true.1 hone v hv)
    simp only [Nat.add_zero, Nat.zero_add, List.take_zero, List.nil_append] at hst
    have hr' : (execOp a.eval ⟨none, .call { callee := .builtin .clear, args := #[x], argTypes := #[t] }, ty, pos, aft, none⟩).run P w = .ok (.value (.tuple #[])) (w.setRow b (z.cells.toList ++ cur.toList.drop z.cells.toList.length).toArray) := by
      have hst2 : (storeCells ⟨b, 0, none⟩ z.cells.toList).run P w = .ok () (w.setRow b (z.cells.toList ++ cur.toList.drop z.cells.toList.length).toArray) := by simpa using hst
      simp [execOp, resolve, invoke, builtin, hk.kn.val (holds_nil a) hx, Builtin.clear_, run_underlying hu, zeroValue, typeInfo, hi, hz', zeroCells_one]
      simp [hst2]
    subst hI
    refine lval hk rfl rfl hr' ?_ (fun hk' => h _ hk')
    have hfrm : Frm (orow (some ⟨b, 0, none⟩) cap e sz f [x0]).foot w (w.setRow b (z.cells.toList ++ cur.toList.drop z.cells.toList.length).toArray) := (Frm.setRow w b _).mono fun k hk' => by subst hk'; rfl
    refine hk.upd hj hfrm ⟨hsz, [], ⟨by simp, .inr ⟨b, cap, _, by simp, hb0, setRow_heap w b cur _ e (0, 0) hh, Nat.zero_le _, hcm, ?_, by simp⟩⟩, by simpa using repL_nil⟩ fun k hk' => ?_
    · simp; omega
    · have hk0 : Value.ownBlock (.slice (some ⟨b, 0, none⟩) ([] : List α).length cap) = some k := hk'
      simp only [Value.ownBlock, Option.some.injEq] at hk0
      subst hk0
      have hf : (orow (some ⟨b, 0, none⟩) cap e sz f [x0]).foot b := rfl
      exact ⟨.inl hf, by have := (hk.own.lt hj hf).2; simpa [World.setRow] using this⟩
end
end Go.Proofs.Ytimaibcaehagjaa.FW
