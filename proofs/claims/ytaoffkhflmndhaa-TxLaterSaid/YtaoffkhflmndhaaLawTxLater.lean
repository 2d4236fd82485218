/- offshootlaw09.TxLater returns true at every input; the input reads as it did. -/
import Derived.Test.YtaoffkhflmndhaaAvLaw
import Derived.Test.YtaoffkhflmndhaaHo
import Derived.Test.YtaoffkhflmndhaaHtx
import Derived.Test.YtaoffkhflmndhaaTxP3
import Derived.Test.YtaoffkhflmndhaaPureTx3
namespace Go.Proofs.Ytaoffkhflmndhaa
open Go.ChangeShapes Go.WideShapes Go.ChangeAt Go.RowKit
set_option linter.unusedVariables false
theorem offshootlaw09_TxLater.own : ownKnob Try.prog.godebug = none := by kernel_rfl
theorem offshootlaw09_TxLater.laid : laidOutB Try.prog = true := by kernel_rfl
set_option maxRecDepth 100000 in
theorem offshootlaw09_TxLater.lifted (os : Os) (started : os.Started) (H : Type) (enc : TypeId × Value → H) :
    ReturnsInHanded {} Try.checked os 3 .any (Rows.txLaterSpec.pre6 enc Try.prog Try.f3 Rows.txLaterRow.domain false) (Rows.txLaterSpec.post enc Try.prog Try.f3 false true false false) := by
  refine returnsInHanded_of_change (C := Try.checked) offshootlaw09_TxLater.own started (by kernel_rfl) Try.func3
    (ChangeSpec.witness6 (enc := enc) (C := Try.checked) false ⟨#[], #[.slice none 0 0, .slice none 0 0], []⟩ 8 (by kernel_rfl) (by kernel_rfl) (by kernel_rfl) (by kernel_rfl)) ?_
  intro W base args ds gs before hval0 hW hcnd _
  have hval : ∀ (j : Nat) t v, Try.f3.params[j]? = some t → args[j]? = some v → Value.okWide Try.prog W .any base t v := hval0
  have hW' := hW
  have hlt : ∀ p ∈ before, p.block < W.heap.size := fun p hp => hW.lt p hp
  obtain ⟨p, q, hA0, hV, rfl, hfz, hnd⟩ := hW
  have hA : DataW.TrodAll enc Try.prog W 0 (fun _ => true) true Try.f3.params.toList args.toList ds p := hA0
  rw [Try.params3] at hA hval
  obtain ⟨v0, vs0, d0, ds0, p0, q0, hargs, rfl, rfl, h0, r0⟩ := trodAll_cons hA
  obtain ⟨v1, vs1, d1, ds1, p1, q1, rfl, rfl, rfl, h1, r1⟩ := trodAll_cons r0
  obtain ⟨rfl, rfl, rfl⟩ := trodAll_nil r1
  obtain rfl : args = #[v0, v1] := by cases args; simp_all
  obtain ⟨rfl, rfl⟩ := trodVars_none hV
  obtain ⟨x0, _, e0⟩ := FW.open_row Try.underlying22 open_row_ApiChange (hval 0 _ v0 rfl rfl) h0
  obtain ⟨x1, _, e1⟩ := FW.open_row Try.underlying22 open_row_ApiChange (hval 1 _ v1 rfl rfl) h1
  have hc : Calls Try.prog 3 #[v0, v1] W fun e W' => e = .returned (.bool true) ∧ Below W.heap.size W W' := by
    obtain ⟨K, hK⟩ := txLater_true x0 x1
    exact calls_of_ok (offshootlaw09_TxLater.ok K x0 x1 true hK) (FW.repL_cons e0 (FW.repL_cons e1 (FW.repL_nil)))
  refine hc.mono fun e W' ⟨he, hb⟩ => ?_
  subst he
  have hkeep : ∀ (sp : Nat → Bool) {t : TypeId} {v : Value} {d : DataW H} {ps : List MemPlace} (hr : Try.prog.readableRec t = true) (hrow : t < Try.prog.types.size), DataW.Trod enc Try.prog W 0 (fun _ => true) true t v d ps → (∀ p ∈ ps, p ∈ (p0 ++ (p1 ++ [])) ++ []) → (∀ p ∈ (p0 ++ (p1 ++ [])) ++ [], sp p.block = true) → DataW.Trod enc Try.prog W' 0 sp true t v d ps :=
    fun sp {t v d ps} hr hrow h hin hsp => WideElems.Trod_stays offshootlaw09_TxLater.laid hr hrow h (fun x hx => hb.same (hlt x (hin x hx))) (fun x hx => hsp x (hin x hx))
  exact ⟨_, rfl, post_of_below (pa := (p0 ++ (p1 ++ []))) (pv := []) hW' (fun _ _ _ => (trodAll_cons_mk (shut_bool Try.underlying4 _) trodAll_mk0)) (fun sp hsp => trodAll_cons_mk (hkeep sp (by kernel_rfl) (of_decide_eq_true (by kernel_rfl)) h0 (fun x hx => by simp [hx]) hsp) (trodAll_cons_mk (hkeep sp (by kernel_rfl) (of_decide_eq_true (by kernel_rfl)) h1 (fun x hx => by simp [hx]) hsp) (trodAll_mk0))) (fun _ _ => rfl) rfl hb
    (ok_one (by kernel_rfl) rfl (okWide_bool_mk Try.underlying4 _))⟩
theorem txLater_holds : Rows.TxLaterSaid :=
  OpenClaim.holds_of_wide 3 Try.f3 rfl rfl rfl rfl rfl rfl rfl ⟨rfl, rfl, rfl, rfl, rfl⟩ rfl rfl rfl rfl rfl (by kernel_rfl) Try.func3 (by kernel_rfl)
    (of_decide_eq_true (by kernel_rfl)) (by unfold Func.isWrapper; first | (rw [if_pos (by decide +kernel)]; kernel_rfl) | (rw [if_neg (by decide +kernel)]; exact ⟨rfl, rfl⟩))
    (fun os started H enc _ => offshootlaw09_TxLater.lifted os started H enc)
end Go.Proofs.Ytaoffkhflmndhaa
