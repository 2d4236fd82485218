/- A deferred closure that recovers: its body behind the recover is walked as any other. -/
import Derived.Test.YtbjbgodcenopnaaHpa
import Derived.Recover
namespace Go.Proofs.Ytbjbgodcenopnaa.FW
variable {Df : List Deferred}
open Go.RowKit
set_option linter.unusedVariables false
set_option linter.unusedSectionVars false
theorem upon_S {P : Program} {o : Oper} {a : Act} {N N' : Act → World → Prop} {Q : Exit → Act → World → Prop} (hN : ∀ a w, N a w → N' a w) (r : Result Next) (h : o.upon P a N Q r) : o.upon P a N' Q r := by
  cases r with
  | ok x w =>
    cases x <;> first
      | exact hN _ _ h
      | exact h.elim
      | exact Calls.mono h (fun e w' h' => by cases e <;> first | exact hN _ _ h' | exact h')
      | exact Rows.mono h (fun v w' h' => hN _ _ h')
  | halt x w => cases x <;> first | exact h | exact h.elim
theorem upon_S2 {P : Program} {o : Oper} {a : Act} {N N' : Act → World → Prop} {Q Q' : Exit → Act → World → Prop} (hN : ∀ a w, N a w → N' a w) (hQ : ∀ e a w, Q e a w → Q' e a w) (r : Result Next) (h : o.upon P a N Q r) : o.upon P a N' Q' r := by
  have hl : LetsOut Q → LetsOut Q' := fun ⟨a, w, h⟩ => ⟨a, w, hQ _ _ _ h⟩
  cases r with
  | ok x w =>
    cases x <;> first
      | exact hN _ _ h
      | exact h.elim
      | exact Calls.mono h (fun e w' h' => by cases e <;> first | exact hN _ _ h' | exact hQ _ _ _ h' | exact hl h')
      | exact Rows.mono h (fun v w' h' => hN _ _ h')
  | halt x w => cases x <;> first | exact hQ _ _ _ h | exact h.elim
theorem wpList_mono {P : Program} {ops : Array Oper} {Q Q' : Exit → Act → World → Prop} (hq : ∀ e a w, Q e a w → Q' e a w) : ∀ (l : List Oper) (a : Act) (w : World), wpList P ops Q l a w → wpList P ops Q' l a w
  | [], a, w, h => hq _ _ _ h
  | o :: rest, a, w, h => by
    unfold wpList at h ⊢
    by_cases hw : Region.wanted o (yielded ops a.tmps) = true
    · rw [if_pos hw] at h ⊢
      rcases h with h | ⟨h1, a', w', h2⟩
      · exact .inl (upon_S2 (fun a' w' h' => wpList_mono hq rest a' w' h') hq _ h)
      · exact .inr ⟨h1, a', w', hq _ _ _ h2⟩
    · rw [if_neg hw] at h ⊢
      exact wpList_mono hq rest _ _ h
theorem wpOpsS_of {P : Program} {ops : Array Oper} {Q : Exit → Act → List Frame → World → Prop} {cs : List Frame} (hQ : ¬ LetsOut (fun e a w => Q e a cs w)) : ∀ (l : List Nat) (a : Act) (w : World), wpOps P ops (fun e a' w' => Q e a' cs w') l a w → wpOpsS P ops Q l a cs w
  | [], a, w, h => h
  | i :: rest, a, w, h => by
    unfold wpOps at h
    unfold wpOpsS
    cases ho : ops[i]? with
    | none => rw [ho] at h; exact wpOpsS_of hQ rest a w h
    | some o =>
      rw [ho] at h
      dsimp only at h ⊢
      by_cases hw : Region.wanted o (yielded ops a.tmps) = true
      · rw [if_pos hw] at h ⊢
        rcases h with h | ⟨_, h⟩
        · unfold Oper.wp at h
          have h1 := upon_S (fun a' w' h' => wpOpsS_of hQ rest a' w' h') _ h
          generalize (execOp a.eval o).run P w = r at h1 ⊢
          cases r with
          | ok x w' =>
            cases x <;> first | exact h1 | exact h1.elim
          | halt x w' => exact h1
        · exact absurd h hQ
      · rw [if_neg hw] at h ⊢
        exact wpOpsS_of hQ rest _ _ h
/-- The contract of a deferred closure that recovers: of a frame that goes in one way it makes one that goes in another. -/
def OkRH (P : Program) (f : FuncId) (xs : List AV) (I : List It) (u u1 : FrameMode) (Q : AV → List It → Prop) : Prop :=
  ∀ (M : Nat → Prop) (w : World) (vs : Array Value), Own M ⟨w, footL I⟩ w I → RepL (okM M I) w xs vs.toList → CallsD P f vs u w (fun e u' w' => u' = u1 ∧ RetH M ⟨w, footL I⟩ Q e w')
theorem enterRec {P : Program} {f : FuncId} {fn : Func} {n id d : Nat} {o0 : Oper} {rest : List Oper} {y : Code} {xs : List AV} {I : List It} {u u1 : FrameMode} {v : Value} {Q : AV → List It → Prop} (hf : P.funcs[f]? = some fn) (hb : fn.body = some (.seq (.region id (o0 :: rest).toArray false) y)) (hn : fn.ntmps = n) (hle : Nat.ble xs.length n = true)
    (hg : o0.guard = none) (hd : o0.dst = some d) (hlt : Nat.blt d n = true) (hfr : chFree (start 0 xs) d = true) (hr : ∀ ρ w, (execOp ρ o0).run P w = .ok .recover w)
    (hrec : ∀ (c₀ : Frame) (cs : List Frame), c₀.mode = u → recoverD (c₀ :: cs) = some (v, { c₀ with mode := u1 } :: cs) ∨ (recoverD (c₀ :: cs) = none ∧ v = .nilIface ∧ u1 = u))
    (h : ∀ M (w0 : Bs) a, S M w0 a w0.toWorld n I ((d, [], .lit v) :: start 0 xs) → ∀ K : Act → World → Prop, (∀ a w, y.wp P (bodyPost P fn (RetH M w0 Q)) a w → K a w) → wpList P (o0 :: rest).toArray (Exit.then K (bodyPost P fn (RetH M w0 Q))) rest a w0.toWorld) : OkRH P f xs I u u1 Q := by
  intro M w vs hO hL
  refine callsD_of_wpS hf hb fun c₀ cs hu => ?_
  have hk := start_S (n := n) hle hO hL
  rw [hn]
  have hk' : S M ⟨w, footL I⟩ (Act.put { tmps := vs ++ Array.replicate (n - vs.size) undef, defers := [] } (some d) v) w n I ((d, [], .lit v) :: start 0 xs) :=
    ⟨hk.own, hk.kn.put hlt hfr rfl (fun _ => rep_lit rfl) (fun hh => absurd (holds_nil _) hh)⟩
  generalize ({ tmps := vs ++ Array.replicate (n - vs.size) undef, defers := [] } : Act) = a at hk'
  apply wpS_seq
  apply wpS_region
  have hcs : ∃ cs', cs' = ({ c₀ with mode := u1 } : Frame) :: cs ∧ (recoverD (c₀ :: cs) = some (v, cs') ∨ (recoverD (c₀ :: cs) = none ∧ v = .nilIface ∧ cs' = c₀ :: cs)) := by
    refine ⟨_, rfl, (hrec c₀ cs hu).imp (fun h => h) fun ⟨h1, h2, h3⟩ => ⟨h1, h2, ?_⟩⟩
    rw [h3, ← hu]
  obtain ⟨cs', hcs0, hcs1⟩ := hcs
  let R : Ending → FrameMode → World → Prop := fun e u' w' => u' = u1 ∧ RetH M ⟨w, footL I⟩ Q e w'
  have hpost : ∀ e a' w', bodyPost P fn (RetH M ⟨w, footL I⟩ Q) e a' w' → bodyPostS P fn c₀ cs R e a' cs' w' := by
    intro e a' w' hb'
    cases e with
    | normal => obtain ⟨h0, v', h1, h2⟩ := hb'; exact ⟨h0, u1, hcs0, v', h1, rfl, h2⟩
    | ret => obtain ⟨h0, v', h1, h2⟩ := hb'; exact ⟨h0, u1, hcs0, v', h1, rfl, h2⟩
    | panic ch => obtain ⟨h0, v', y', I', he, _⟩ := hb'; cases he
    | outgrown => obtain ⟨v', y', I', he, _⟩ := hb'; cases he
    | exit i => exact hb'.elim
    | goto i => exact hb'.elim
  have hnot : ¬ LetsOut (fun e a w' => Exit.thenS (y.wpS P (bodyPostS P fn c₀ cs R)) (bodyPostS P fn c₀ cs R) e a cs' w') := by
    rintro ⟨a, w', hx⟩
    obtain ⟨u', _, v', y', I', he, _⟩ := hx
    cases he
  have hgo : wpOpsS P (o0 :: rest).toArray (Exit.thenS (y.wpS P (bodyPostS P fn c₀ cs R)) (bodyPostS P fn c₀ cs R)) (List.range' 1 rest.length) (a.put (some d) v) cs' w := by
    refine wpOpsS_of hnot _ _ _ ?_
    rw [wpOps_eq_wpList rest 1 (by intro j; simp [Nat.add_comm])]
    have h0 := h M ⟨w, footL I⟩ (a.put (some d) v) hk' (fun a' w' => y.wpS P (bodyPostS P fn c₀ cs R) a' cs' w') (fun a' w' hy => wpS_of_wp (Code.wp_mono (fun e a2 w2 hq => hpost e a2 w2 hq) hy))
    refine wpList_mono ?_ rest _ _ h0
    intro e a' w' hx
    cases e with
    | normal => exact hx
    | ret => exact hpost .ret a' w' hx
    | panic ch => exact hpost (.panic ch) a' w' hx
    | outgrown => exact hpost .outgrown a' w' hx
    | exit i => exact hpost (.exit i) a' w' hx
    | goto i => exact hpost (.goto i) a' w' hx
  have hrange : List.range (o0 :: rest).toArray.size = 0 :: List.range' 1 rest.length := by
    simp [List.range_eq_range', List.range'_succ]
  rw [hrange]
  unfold wpOpsS
  have h0 : (o0 :: rest).toArray[0]? = some o0 := by simp
  rw [h0]
  dsimp only
  rw [if_pos (by simp [Region.wanted, hg]), hr]
  dsimp only
  rcases hcs1 with h1 | ⟨h1, h2, h3⟩
  · rw [h1]; dsimp only; rw [hd]; exact hgo
  · rw [h1]; dsimp only; rw [hd, ← h2, ← h3]; exact hgo
end Go.Proofs.Ytbjbgodcenopnaa.FW
