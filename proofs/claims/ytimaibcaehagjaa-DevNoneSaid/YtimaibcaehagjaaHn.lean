/- Rows that are made, structs with rows and maps of a call's own, calls with objects under guards. -/
import Derived.Test.YtimaibcaehagjaaHk
import Derived.Laws.OwnMore
namespace Go.Proofs.Ytimaibcaehagjaa.FW
variable {Df : List Deferred}
open Go.RowKit
set_option linter.unusedVariables false
set_option linter.unusedSectionVars false
section
variable {P : Program} {M : Nat → Prop} {w0 : Bs} {w : World} {a : Act} {n : Nat} {I I1 I2 : List It} {σ : St} {ty : TypeId} {pos : String} {aft : Array Edge} {x y : Operand} {ops : Array Oper} {Q : Exit → Act → World → Prop} {rest : List Oper} {d : Nat} {t e : TypeId} {α : Type} {f : α → List AV}
/-- make([]T, n), elements of one cell. -/
theorem l_makeSlice {k : Int} {z : α} {zv : Value} (hsz : ∀ x, (f x).length = 1) (hk : S M w0 a w n I σ Df) (hn : Nat.blt d n = true) (hf : chFree σ d = true) (hx : opvc σ [] x = some (.lit (.int .i64 k))) (hy : opvc σ [] y = some (.lit (.int .i64 k))) (ht : P.underlying t = some (.slice e))
    (hi : (P.info? e).map (fun i => (i.size, i.zero)) = some (1, some zv)) (hzc : zv.cells = #[zv]) (hz : f z = [.lit zv]) (hb : ((P.info? e).map fun i => decide (i.bytes ≤ 64)) = some true) (hc : 0 ≤ k ∧ k ≤ 1000000000000)
    (h : ∀ b a' w', S M w0 a' w' n (orow (some ⟨b, 0, none⟩) k.toNat e 1 f (List.replicate k.toNat z) :: I) ((d, [], .lit (.slice (some ⟨b, 0, none⟩) (List.length (List.replicate k.toNat z)) k.toNat)) :: σ) Df → wpList P ops Q rest a' w') :
    wpList P ops Q (⟨some d, .makeSlice t x y, ty, pos, aft, none⟩ :: rest) a w := by
  obtain ⟨inf, hinf, hi'⟩ := Option.map_eq_some_iff.1 hi
  injection hi' with hs hz0
  obtain ⟨inf2, hinf2, hb'⟩ := Option.map_eq_some_iff.1 hb
  rw [hinf] at hinf2; injection hinf2 with e1; subst e1
  have hb2 : inf.bytes ≤ 64 := by simpa using hb'
  obtain ⟨m, rfl⟩ := Int.eq_ofNat_of_zero_le hc.1
  have hm : m ≤ 1000000000000 := by omega
  have hbm : inf.bytes * m ≤ 281474976710656 := by
    have := Nat.mul_le_mul hb2 hm
    omega
  obtain ⟨w', hr, hrow, hg⟩ := run_make_full (P := P) w 0 t e inf zv 1 ht hinf hz0 hs .i64 .i64 m hbm (by unfold maxLen; omega) (Nat.zero_le _)
  have hr' : (execOp a.eval ⟨some d, .makeSlice t x y, ty, pos, aft, none⟩).run P w = .ok (.value (.slice (some ⟨w.heap.size, 0, none⟩) m m)) w' := by
    simp only [execOp, hk.kn.val (holds_nil a) hx, hk.kn.val (holds_nil a) hy, Sem.run_bind, hr, Result.andThen_ok, Sem.run_pure]
  have hlen : (List.replicate m z).length = m := by simp
  have hfoot : ∀ k, (orow (some ⟨w.heap.size, 0, none⟩) m e 1 f (List.replicate m z)).foot k → w.heap.size ≤ k ∧ k < w'.heap.size := by
    intro k hk'
    have hk0 : Value.ownBlock (.slice (some ⟨w.heap.size, 0, none⟩) (List.replicate m z).length m) = some k := hk'
    simp only [Value.ownBlock, Option.some.injEq] at hk0
    subst hk0
    rcases hrow.2 with ⟨hv, _⟩ | ⟨g, cap, cur, hv, _, hh, _⟩
    · cases hv
    · injection hv with h3
      injection h3 with h3
      injection h3 with h3
      subst h3
      exact ⟨Nat.le_refl _, heap_lt hh⟩
  have hnew : New w w' := by
    have h1 := Frm.of_grown hg
    exact h1.mono fun k hk' => by cases hk'
  refine leff hk rfl rfl hn hf hr' ?_ (by rw [Int.toNat_natCast, hlen]; exact rep_lit rfl) (fun a' hk' => h w.heap.size a' _ hk')
  refine hk.push hnew ?_ hfoot
  refine ⟨hsz, _, by simpa using hrow, ?_⟩
  rw [hzc, toList_madeCells_one]
  have key : ∀ m : Nat, RepL (okM M (orow (some ⟨w.heap.size, 0, none⟩) (Int.toNat (m : Int)) e 1 f (List.replicate (Int.toNat (m : Int)) z) :: I)) w' ((List.replicate m z).map f).flatten (List.replicate m zv) := by
    intro m
    generalize okM M (orow (some ⟨w.heap.size, 0, none⟩) (Int.toNat (m : Int)) e 1 f (List.replicate (Int.toNat (m : Int)) z) :: I) = ok
    induction m with
    | zero => simpa using repL_nil
    | succ m ih =>
      rw [List.replicate_succ, List.map_cons, List.flatten_cons, hz, List.replicate_succ]
      exact repL_cons (rep_lit rfl) ih
  exact key m
end
end Go.Proofs.Ytimaibcaehagjaa.FW
