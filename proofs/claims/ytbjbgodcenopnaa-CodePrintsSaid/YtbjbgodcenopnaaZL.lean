/- offshootlaw15.CodePrints returns true at every input; the input reads as it did. -/
import Derived.Test.YtbjbgodcenopnaaZ5
namespace Go.Proofs.Ytbjbgodcenopnaa
open Go.ChangeShapes Go.WideShapes Go.ChangeAt Go.RowKit
set_option linter.unusedVariables false
theorem offshootlaw15_CodePrints.own : ownKnob Try.prog.godebug = none := by kernel_rfl
theorem offshootlaw15_CodePrints.laid : laidOutB Try.prog = true := by kernel_rfl
set_option maxRecDepth 100000 in
theorem offshootlaw15_CodePrints.lifted (os : Os) (started : os.Started) (H : Type) (enc : TypeId × Value → H) :
    ReturnsInHanded {} Try.checked os 7 .any (Rows.codePrintsSpec.pre6 enc Try.prog Try.f7 Rows.codePrintsRow.domain false) (Rows.codePrintsSpec.post enc Try.prog Try.f7 false true false false) := by
  refine returnsInHanded_of_change (C := Try.checked) offshootlaw15_CodePrints.own started (by kernel_rfl) Try.func7
    (ChangeSpec.witness6 (enc := enc) (C := Try.checked) false ⟨#[], #[.string ⟨#[]⟩], []⟩ 8 (by kernel_rfl) (by kernel_rfl) (by kernel_rfl) (by kernel_rfl)) ?_
  intro W base args ds gs before hval0 hW hcnd _
  have hval : ∀ (j : Nat) t v, Try.f7.params[j]? = some t → args[j]? = some v → Value.okWide Try.prog W .any base t v := hval0
  have hW' := hW
  have hlt : ∀ p ∈ before, p.block < W.heap.size := fun p hp => hW.lt p hp
  obtain ⟨p, q, hA0, hV, rfl, hfz, hnd⟩ := hW
  have hA : DataW.TrodAll enc Try.prog W 0 (fun _ => true) true Try.f7.params.toList args.toList ds p := hA0
  rw [Try.params7] at hA hval
  obtain ⟨v0, vs0, d0, ds0, p0, q0, hargs, rfl, rfl, h0, r0⟩ := trodAll_cons hA
  obtain ⟨rfl, rfl, rfl⟩ := trodAll_nil r0
  obtain rfl : args = #[v0] := by cases args; simp_all
  obtain ⟨rfl, rfl⟩ := trodVars_none hV
  obtain ⟨x0, _, e0⟩ := FW.open_text Try.underlying9 (hval 0 _ v0 rfl rfl) h0
  have hc : Calls Try.prog 7 #[v0] W fun e W' => e = .returned (.bool true) ∧ Below W.heap.size W W' := by
    obtain ⟨K, hK⟩ := code_prints_true x0
    exact calls_of_ok (w15_CodePrints.ok K x0 true hK) (FW.repL_cons e0 (FW.repL_nil))
  refine hc.mono fun e W' ⟨he, hb⟩ => ?_
  subst he
  have hkeep : ∀ (sp : Nat → Bool) {t : TypeId} {v : Value} {d : DataW H} {ps : List MemPlace} (hr : Try.prog.readableRec t = true) (hrow : t < Try.prog.types.size), DataW.Trod enc Try.prog W 0 (fun _ => true) true t v d ps → (∀ p ∈ ps, p ∈ (p0 ++ []) ++ []) → (∀ p ∈ (p0 ++ []) ++ [], sp p.block = true) → DataW.Trod enc Try.prog W' 0 sp true t v d ps :=
    fun sp {t v d ps} hr hrow h hin hsp => WideElems.Trod_stays offshootlaw15_CodePrints.laid hr hrow h (fun x hx => hb.same (hlt x (hin x hx))) (fun x hx => hsp x (hin x hx))
  exact ⟨_, rfl, post_of_below (pa := (p0 ++ [])) (pv := []) hW' (fun _ _ _ => (trodAll_cons_mk (shut_bool Try.underlying4 _) trodAll_mk0)) (fun sp hsp => trodAll_cons_mk (hkeep sp (by kernel_rfl) (of_decide_eq_true (by kernel_rfl)) h0 (fun x hx => by simp [hx]) hsp) (trodAll_mk0)) (fun _ _ => rfl) rfl hb
    (ok_one (by kernel_rfl) rfl (okWide_bool_mk Try.underlying4 _))⟩
theorem codePrints_holds : Rows.CodePrintsSaid :=
  OpenClaim.holds_of_wide 7 Try.f7 rfl rfl rfl rfl rfl rfl rfl ⟨rfl, rfl, rfl, rfl, rfl⟩ rfl rfl rfl rfl rfl (by kernel_rfl) Try.func7 (by kernel_rfl)
    (of_decide_eq_true (by kernel_rfl)) (by unfold Func.isWrapper; first | (rw [if_pos (by decide +kernel)]; kernel_rfl) | (rw [if_neg (by decide +kernel)]; exact ⟨rfl, rfl⟩))
    (fun os started H enc _ => offshootlaw15_CodePrints.lifted os started H enc)
end Go.Proofs.Ytbjbgodcenopnaa
