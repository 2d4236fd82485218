/- Arrays in variables: they are told as rows of one's own. -/
import Derived.Test.YtimaibcaehagjaaHp
namespace Go.Proofs.Ytimaibcaehagjaa.FW
variable {Df : List Deferred}
open Go.RowKit
set_option linter.unusedVariables false
section
variable {P : Program} {M : Nat → Prop} {w0 : Bs} {w w' : World} {a : Act} {n : Nat} {I I' : List It} {σ : St} {it : It} {j : Nat}
variable {c : Ch} {dst : Option Tmp} {ty : TypeId} {pos : String} {aft : Array Edge} {ops : Array Oper} {Q : Exit → Act → World → Prop} {rest : List Oper} {d : Nat} {x y : Operand} {g : Option (Nat × Bool)}
variable {α : Type} {f : α → List AV} {l : List α}
theorem flat_one (hsz : ∀ x, (f x).length = 1) : ∀ l : List α, (l.map f).flatten.length = l.length
  | [] => rfl
  | x :: l => by rw [List.map_cons, List.flatten_cons, List.length_append, hsz, flat_one hsz l, List.length_cons, Nat.add_comm]
/-- The variable of an array. -/
theorem l_allocArr {t : TypeId} {N : Nat} {z : Value} {z0 : α} {zs : List AV} (hsz : ∀ x, (f x).length = 1) (hk : S M w0 a w n I σ Df) (hn : Nat.blt d n = true) (hf : chFree σ d = true) (hz : (P.info? t).bind (·.zero) = some z) (hzs : zeroA [] z.cells.toList = zs) (hzl : zs = ((List.replicate N z0).map f).flatten) (hN : N ≤ 1000)
    (h : ∀ b a' w', S M w0 a' w' n (orow (some ⟨b, 0, none⟩) N t 1 f (List.replicate N z0) :: I) ((d, [], .lit (.pointer (some ⟨b, 0, none⟩))) :: σ) Df → wpList P ops Q rest a' w') :
    wpList P ops Q (⟨some d, .alloc t, ty, pos, aft, none⟩ :: rest) a w := by
  refine l_alloc [] hk hn hf hz hzs fun b a' w' hk' => h b a' w' ?_
  refine hk'.conv (j := 0) (it := blk b t zs) rfl (fun ok hg hP => ?_) (fun k hk => ?_)
  · obtain ⟨arr, h1, h2⟩ := hP
    have hl : arr.toList.length = N := by rw [h2.length, hzl, flat_one hsz]; simp
    refine ⟨hsz, arr.toList, ⟨by simp [hl], .inr ⟨b, N, arr, by simp, Nat.zero_le _, h1, by simp, by unfold maxLen; omega, by simpa using hl, ?_⟩⟩, ?_⟩
    · rw [List.length_replicate, Nat.mul_one, ← hl, List.take_length]
    · rw [← hzl]; exact RepL.go hg _ _ h2
  · have hk0 : Value.ownBlock (.slice (some ⟨b, 0, none⟩) (List.replicate N z0).length N) = some k := hk
    simp only [Value.ownBlock, Option.some.injEq] at hk0
    exact hk0.symm
theorem f_idxArr {t e e' : TypeId} {N b : Nat} {k : IntKind} {i : Int} (hk : S M w0 a w n I σ Df) (hc : holds a c) (hj : I[j]? = some (orow (some ⟨b, 0, none⟩) N e' 1 f l)) (hx : opvc σ c x = some (.lit (.pointer (some ⟨b, 0, none⟩)))) (hy : opvc σ c y = some (.lit (.int k i))) (hu : P.underlying t = some (.array N e)) (hs : (P.info? e).map (·.size) = some 1) (hi : asmP σ c (0 ≤ i ∧ i < (l.length : Int))) :
    Fun P (okM M I) ⟨dst, .indexAddr t x y, ty, pos, aft, g⟩ a w (elA (some ⟨b, 0, none⟩) 1 i) := by
  have hi := asm_out hk.kn hc hi
  have hN : i < (N : Int) := by
    obtain ⟨_, vals, hown, _⟩ := hk.own.get hj
    rcases hown.2 with ⟨hv, _⟩ | ⟨gb, cp, cur, hv, _, _, hle, _⟩
    · cases hv
    · injection hv with _ _ h5
      omega
  obtain ⟨inf, hinf, hs'⟩ := Option.map_eq_some_iff.1 hs
  refine .inl ⟨.pointer (some ⟨b, i.toNat * 1, none⟩), w, ?_, New.refl w, rep_lit rfl⟩
  simp [execOp, hk.kn.val hc hx, hk.kn.val hc hy, Instr.indexAt, Instr.sureAddr, asIntOf, run_underlying hu, sizeOf, typeInfo, hinf, hs', hi.1, hN, add_addr]
theorem f_sliceArr {t e : TypeId} {N b : Nat} (hk : S M w0 a w n I σ Df) (hc : holds a c) (hx : opvc σ c x = some (.lit (.pointer (some ⟨b, 0, none⟩)))) (hu : P.underlying t = some (.array N e)) (hs : (P.info? e).map (·.size) = some 1) (hl : l.length = N) :
    Fun P (okM M I) ⟨dst, .slice t x none none none, ty, pos, aft, g⟩ a w (.lit (.slice (some ⟨b, 0, none⟩) l.length N)) := by
  rw [hl]
  obtain ⟨inf, hinf, hs'⟩ := Option.map_eq_some_iff.1 hs
  refine .inl ⟨.slice (some ⟨b, 0, none⟩) N N, w, ?_, New.refl w, rep_lit rfl⟩
  simp [execOp, hk.kn.val hc hx, Instr.sliceAt, Instr.sureAddr, Instr.sliceBounds, run_underlying hu, sizeOf, typeInfo, hinf, add_addr]
theorem f_toBarr {s t e0 e : TypeId} {sz cap : Nat} {l : List Int} {ad : Option Addr} {f : Int → List AV} (hf : f = fun x => [.lit (.int .u8 x)]) (hk : S M w0 a w n I σ Df) (hc : holds a c) (hj : I[j]? = some (orow ad cap e0 sz f l)) (hx : opvc σ c x = some (.lit (.slice ad l.length cap))) (hs : P.underlying s = some (.slice e)) (he : P.underlying e = some (.int .u8)) (ht : P.underlying t = some .string) :
    Fun P (okM M I) ⟨dst, .convert s t x, ty, pos, aft, g⟩ a w (.lit (.string (B (toB l)))) := by
  subst hf
  have hr : Rep (fun _ => True) w (.row (l.map fun x => [.lit (.int .u8 x)])) (.slice ad l.length cap) := by
    refine orow_rep ((orow ad cap e0 sz (fun x => [.lit (.int .u8 x)]) l).stable (ok := okM M I) (ok' := fun _ => True) (w := w) (fun b _ _ => ⟨trivial, rfl⟩) (Nat.le_refl _) (fun k hk' => (hk.own.lt hj hk').2) (fun _ _ => rfl) (hk.own.get hj)) (fun _ _ => trivial)
  exact .inl ⟨_, w, by simp only [execOp, hk.kn.val hc hx, Sem.run_bind, conv_bytes hr hs he ht, Result.andThen_ok, Sem.run_pure], New.refl w, rep_lit rfl⟩
end
end Go.Proofs.Ytimaibcaehagjaa.FW
