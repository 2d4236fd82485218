/- Elements of rows of a call's own, pointers held against nil. -/
import Derived.Test.YtaoffkhflmndhaaHm
namespace Go.Proofs.Ytaoffkhflmndhaa.FW
variable {Df : List Deferred}
open Go.RowKit
set_option linter.unusedVariables false
set_option linter.unusedSimpArgs false
set_option linter.unusedSectionVars false
section
variable {P : Program} {ok : Nat → Prop} {a : Act} {n : Nat} {σ : St} {wk : World} {c : Ch} {dst : Option Tmp} {ty : TypeId} {pos : String} {aft : Array Edge} {g : Option (Nat × Bool)} {t t' e : TypeId} {x y : Operand} {A : Addr}
theorem eqGuard_ptr (op : BinOp) (t : TypeId) (x y : Operand) (p q : Option Addr) (w : World) : (eqGuard op t x y (.pointer p) (.pointer q)).run P w = .ok () w := by
  unfold eqGuard; cases op <;> simp
theorem equal_ptr {A : Option Addr} (hu : P.underlying t = some (.pointer e)) (w : World) : (Op.equal t (.pointer A) (.pointer none)).run P w = .ok A.isNone w := by
  unfold Op.equal
  rw [show Op.maxDepth = 9999 + 1 from rfl, Op.equalIn]
  simp only [Sem.run_bind, run_underlying hu, Result.andThen_ok]
  cases A <;> rfl
theorem run_eqlp {A : Option Addr} (hu : P.underlying t = some (.pointer e)) (w : World) : (binOp .eql t (.pointer A) (.pointer none)).run P w = .ok (.bool A.isNone) w := by
  simp only [binOp, Sem.run_bind, equal_ptr hu, Result.andThen_ok, Sem.run_pure]
theorem run_neqp {A : Option Addr} (hu : P.underlying t = some (.pointer e)) (w : World) : (binOp .neq t (.pointer A) (.pointer none)).run P w = .ok (.bool (!A.isNone)) w := by
  simp only [binOp, Sem.run_bind, equal_ptr hu, Result.andThen_ok, Sem.run_pure]
theorem p_ptrEq {A : Option Addr} {b : Bool} (hu : P.underlying t = some (.pointer e)) (hk : Knows ok a wk n σ Df) (hc : holds a c) (hx : opvc σ c x = some (.lit (.pointer A))) (hy : opvc σ c y = some (.lit (.pointer none))) (hb : A.isNone = b) :
    PureOp P a ⟨dst, .binOp .eql t x y t', ty, pos, aft, g⟩ (.bool b) := by
  intro w; subst hb
  simp only [execOp, hk.val hc hx, hk.val hc hy, Sem.run_bind, eqGuard_ptr, Result.andThen_ok, run_eqlp hu, Sem.run_pure]
theorem p_ptrNe {A : Option Addr} {b : Bool} (hu : P.underlying t = some (.pointer e)) (hk : Knows ok a wk n σ Df) (hc : holds a c) (hx : opvc σ c x = some (.lit (.pointer A))) (hy : opvc σ c y = some (.lit (.pointer none))) (hb : (!A.isNone) = b) :
    PureOp P a ⟨dst, .binOp .neq t x y t', ty, pos, aft, g⟩ (.bool b) := by
  intro w; subst hb
  simp only [execOp, hk.val hc hx, hk.val hc hy, Sem.run_bind, eqGuard_ptr, Result.andThen_ok, run_neqp hu, Sem.run_pure]
end
section
variable {P : Program} {M : Nat → Prop} {w0 : Bs} {w : World} {a : Act} {n : Nat} {I I' : List It} {σ : St} {c : Ch} {dst : Option Tmp} {ty : TypeId} {pos : String} {aft : Array Edge} {g : Option (Nat × Bool)} {x y z : Operand} {u : AV} {ops : Array Oper} {Q : Exit → Act → World → Prop} {rest : List Oper} {d j : Nat}
  {α : Type} [Inhabited α] {f : α → List AV} {l : List α} {ad : Option Addr} {cap : Nat} {e t : TypeId} {sz : Nat}
/-- Where an element of a row lies. -/
def elA (ad : Option Addr) (sz : Nat) (i : Int) : AV := .lit (.pointer (ad.map fun b => ⟨b.block, i.toNat * sz, none⟩))
theorem f_idxOwn {k : IntKind} {i : Int} {nl : Nat} (hk : S M w0 a w n I σ Df) (hc : holds a c) (hj : I[j]? = some (orow ad cap e sz f l)) (hx : opvc σ c x = some (.lit (.slice ad nl cap))) (hnl : nl = l.length) (hy : opvc σ c y = some (.lit (.int k i))) (hu : P.underlying t = some (.slice e)) (hs : (P.info? e).map (·.size) = some sz) (hi : asmP σ c (0 ≤ i ∧ i < l.length)) :
    Fun P (okM M I) ⟨dst, .indexAddr t x y, ty, pos, aft, g⟩ a w (elA ad sz i) := by
  subst hnl
  have hi := asm_out hk.kn hc hi
  obtain ⟨hsz, vals, hown, hL⟩ := hk.own.get hj
  obtain ⟨inf, hinf, hs'⟩ := Option.map_eq_some_iff.1 hs
  rcases hown.2 with ⟨hv, hn⟩ | ⟨gb, cp, cur, hv, _, hh, hle, hcm, hcs, htk⟩
  · omega
  · injection hv with h3 h4 h5
    subst h3
    refine .inl ⟨.pointer (some ⟨gb, i.toNat * sz, none⟩), w, ?_, New.refl w, rep_lit rfl⟩
    simp [execOp, hk.kn.val hc hx, hk.kn.val hc hy, Instr.indexAt, asIntOf, run_underlying hu, sizeOf, typeInfo, hinf, hs', hi.1, hi.2, add_addr]
theorem f_loadOwn1 {D : TypeDesc} {i : Int} (hk : S M w0 a w n I σ Df) (hc : holds a c) (hj : I[j]? = some (orow ad cap e 1 f l)) (hx : opvc σ c x = some (elA ad 1 i)) (hi : asmP σ c (0 ≤ i ∧ i < l.length)) (hfu : f (l.getD i.toNat default) = [u]) (hu : P.underlying t = some D) (hd : isAggD D = false) :
    Fun P (okM M I) ⟨dst, .load t x, ty, pos, aft, g⟩ a w u := by
  have hi := asm_out hk.kn hc hi
  obtain ⟨hsz, vals, hown, hL⟩ := hk.own.get hj
  rcases hown.2 with ⟨hv, hn⟩ | ⟨gb, cp, cur, hv, _, hh, hle, hcm, hcs, htk⟩
  · omega
  · injection hv with h3 h4 h5
    subst h3
    have hget : ((l.map f).flatten)[i.toNat]? = some u := by
      have key : ∀ (l : List α) (i : Nat), i < l.length → f (l.getD i default) = [u] → ((l.map f).flatten)[i]? = some u := by
        intro l
        induction l with
        | nil => intro i h; simp at h
        | cons z l ih =>
          intro i h hf
          have hz : (f z).length = 1 := hsz z
          cases i with
          | zero =>
            simp only [List.getD_cons_zero] at hf
            rw [List.map_cons, List.flatten_cons, hf]; rfl
          | succ i =>
            simp only [List.getD_cons_succ] at hf
            rw [List.map_cons, List.flatten_cons, List.getElem?_append_right (by omega), hz]
            simpa using ih i (by simpa using h) hf
      exact key l _ (by omega) hfu
    obtain ⟨v, hv', hr⟩ := hL.get hget
    have hx' : a.eval x = .pointer (some ⟨gb, i.toNat * 1, none⟩) := hk.kn.val hc hx
    have hcell : w.cell? ⟨gb, i.toNat * 1, none⟩ = some v := by
      rw [cell_of_row w gb _ cur e (0, 0) hh, Nat.mul_one]
      rw [← htk, List.getElem?_take] at hv'
      split at hv'
      · simpa using hv'
      · cases hv'
    refine .inl ⟨v, w, ?_, New.refl w, hr⟩
    have : (isAgg t).run P w = .ok false w := by
      simp only [isAgg, Sem.run_bind, run_underlying hu, Result.andThen_ok]
      cases D <;> simp_all [isAggD]
    simp only [execOp, hx', Instr.loadAt, Instr.sureAddr, Sem.run_bind, Sem.run_pure, Result.andThen_ok, loadVar, this]
    rw [Nat.mul_one] at hcell
    simp [load, Sem.run, hcell]
theorem flat_set {l : List α} (hsz : ∀ x, (f x).length = 1) : ∀ (l : List α) (i : Nat) (v : α) (u : AV), f v = [u] → ((l.set i v).map f).flatten = ((l.map f).flatten).set i u
  | [], i, v, u, h => by simp
  | z :: l, 0, v, u, h => by
    obtain ⟨z0, hz⟩ := List.length_eq_one_iff.1 (hsz z)
    simp [h, hz]
  | z :: l, i + 1, v, u, h => by
    obtain ⟨z0, hz⟩ := List.length_eq_one_iff.1 (hsz z)
    have := flat_set (l := l) hsz l i v u h
    simp only [List.map_cons, List.flatten_cons, List.set_cons_succ, hz, this, List.cons_append, List.nil_append]
theorem repL_set {ok : Nat → Prop} : ∀ {cs : List AV} {vs : List Value} (i : Nat) {u : AV} {v : Value}, RepL ok w cs vs → Rep ok w u v → RepL ok w (cs.set i u) (vs.set i v)
  | [], vs, i, u, v, h, _ => by simp only [RepL] at h; subst h; simpa using repL_nil
  | x :: cs, vs, 0, u, v, h, hu => by
    simp only [RepL] at h
    obtain ⟨v0, r, rfl, h1, h2⟩ := h
    exact repL_cons hu h2
  | x :: cs, vs, i + 1, u, v, h, hu => by
    simp only [RepL] at h
    obtain ⟨v0, r, rfl, h1, h2⟩ := h
    exact repL_cons h1 (repL_set i h2 hu)
theorem l_storeOwn1 {i : Int} {v : α} {v' : Value} {I' : List It} (hk : S M w0 a w n I σ Df) (hj : I[j]? = some (orow ad cap e 1 f l)) (hx : opvc σ [] x = some (elA ad 1 i)) (hi : 0 ≤ i ∧ i < l.length) (hy : opvc σ [] y = some (.lit v')) (hfu : f v = [.lit v']) (hcl : v'.cells = #[v']) (hone : v'.oneCell' = true) (hs : (P.info? t).map (·.size) = some 1)
    (hI : I.set j (orow ad cap e 1 f (l.set i.toNat v)) = I') (h : ∀ w', S M w0 a w' n I' σ Df → wpList P ops Q rest a w') : wpList P ops Q (⟨none, .store t x y, ty, pos, aft, none⟩ :: rest) a w := by
  obtain ⟨hsz, vals, hown, hL⟩ := hk.own.get hj
  obtain ⟨inf, hinf, hs'⟩ := Option.map_eq_some_iff.1 hs
  rcases hown.2 with ⟨hv, hn⟩ | ⟨gb, cp, cur, hv, hb0, hh, hle, hcm, hcs, htk⟩
  · omega
  · injection hv with h3 h4 h5
    subst h3; subst h5
    have hx' : a.eval x = .pointer (some ⟨gb, i.toNat * 1, none⟩) := hk.kn.val (holds_nil a) hx
    have hy' : a.eval y = v' := hk.kn.val (holds_nil a) hy
    have hlt : i.toNat < cur.size := by rw [hcs]; omega
    have hst := run_storeCells_at (P := P) gb i.toNat e [v'] 0 cur w hh (by simp; omega) (by simpa using hone)
    simp only [Nat.add_zero] at hst
    have hrow : (cur.toList.take i.toNat ++ [v'] ++ cur.toList.drop (i.toNat + [v'].length)) = cur.toList.set i.toNat v' := by
      rw [List.set_eq_take_append_cons_drop, if_pos (by simpa using hlt)]
      simp
    rw [hrow] at hst
    have hr : (execOp a.eval ⟨none, .store t x y, ty, pos, aft, none⟩).run P w = .ok .skip (w.setRow gb (cur.toList.set i.toNat v').toArray) := by
      have hso : (sizeOf t).run P w = .ok inf.size w := by simp [sizeOf, typeInfo, hinf]
      simp only [execOp, hx', hy', Instr.storeAt, Instr.sureAddr, storeVar, Sem.run_bind, Sem.run_pure, Result.andThen_ok, hso, hs', hcl, Nat.mul_one]
      simp only [List.size_toArray, List.length_cons, List.length_nil, ne_eq, not_true_eq_false, ite_false, Sem.run_bind, Sem.run_pure, Result.andThen_ok, hst]
    subst hI
    have hfoot : ∀ k, (orow (some ⟨gb, 0, none⟩) cap e 1 f (l.set i.toNat v)).foot k → ((orow (some ⟨gb, 0, none⟩) cap e 1 f l).foot k ∨ w.heap.size ≤ k) ∧ k < (w.setRow gb (cur.toList.set i.toNat v').toArray).heap.size := by
      intro k hk'
      have hk0 : Value.ownBlock (.slice (some ⟨gb, 0, none⟩) (l.set i.toNat v).length cap) = some k := hk'
      simp only [Value.ownBlock, Option.some.injEq] at hk0
      subst hk0
      have hf : (orow (some ⟨gb, 0, none⟩) cap e 1 f l).foot gb := rfl
      exact ⟨.inl hf, by have := (hk.own.lt hj hf).2; simpa [World.setRow] using this⟩
    have hfrm : Frm (orow (some ⟨gb, 0, none⟩) cap e 1 f l).foot w (w.setRow gb (cur.toList.set i.toNat v').toArray) := (Frm.setRow w gb _).mono fun k hk' => by subst hk'; rfl
    refine lskip hk rfl rfl hr ?_ (fun hk' => h _ hk')
    refine hk.upd hj hfrm ⟨hsz, vals.set i.toNat v', ⟨by simpa using hown.1, .inr ⟨gb, cap, _, by simp, hb0, setRow_heap w gb cur _ e (0, 0) hh, by simpa using hle, hcm, by simpa using hcs, ?_⟩⟩, ?_⟩ hfoot
    · rw [← htk]
      simp only [List.length_set, Nat.mul_one]
      rw [List.take_set]
    · rw [flat_set (l := l) hsz l _ v _ hfu]
      refine repL_set _ (RepL.go (Goes.upd hk.own hj hfrm hfoot) _ _ hL) (rep_lit rfl)
end
end Go.Proofs.Ytaoffkhflmndhaa.FW
