/- Calls of functions with captured variables; elements of several cells of rows of one's own. -/
import Derived.Test.YtaoffkhflmndhaaHg
import Derived.Test.YtaoffkhflmndhaaHp
import Derived.Lib.SliceRun
namespace Go.Proofs.Ytaoffkhflmndhaa.FW
variable {Df : List Deferred}
open Go.RowKit
set_option linter.unusedVariables false
set_option linter.unusedSectionVars false
section
variable {P : Program} {M : Nat → Prop} {w0 : Bs} {w w' : World} {a : Act} {n : Nat} {I I' : List It} {σ : St} {it : It} {j : Nat}
variable {c : Ch} {dst : Option Tmp} {ty : TypeId} {pos : String} {aft : Array Edge} {ops : Array Oper} {K : Exit → Act → World → Prop} {rest : List Oper} {d : Nat} {g : Option (Nat × Bool)} {x y : Operand}
theorem run_callC {f : Operand} {fid : FuncId} {args : Array Operand} {tys : Array TypeId} {vs cp : Array Value} {fn : Func}
    (hv : a.eval f = .func (.func fid) #[] cp) (ha : args.map a.eval = vs) (hf : P.funcs[fid]? = some fn) (hb : fn.body.isSome = true) (hn : (fn.name == "runtime.NumGoroutine") = false) :
    (execOp a.eval ⟨dst, .call { callee := .value f, args := args, argTypes := tys }, ty, pos, aft, g⟩).run P w = .ok (.enter fid (vs ++ cp)) w := by
  have hb' : ¬ fn.body = none := by cases h : fn.body <;> simp_all
  have hn' : ¬ fn.name = "runtime.NumGoroutine" := by simpa using hn
  simp only [execOp, resolve, hv, ha, Deferred.ofValue, invoke]
  simp [callFunc, hf, hb', hn']
/-- A call of a function with captured variables that is handed the items in front. -/
theorem l_callHC {f : Operand} {fid : FuncId} {ps : List Operand} {tys : Array TypeId} {fn : Func} {xs : List AV} {I1 I2 : List It} {Q : AV → List It → Prop} {js : List Nat} {cp : List Value} (hk : S M w0 a w n I σ Df) (hp : FW.pick I js = I1 ++ I2) (hn : Nat.blt d n = true) (hf' : chFree σ d = true)
    (hv : opvc σ [] f = some (.lit (.func (.func fid) #[] cp.toArray))) (hx : argsA σ [] ps = some xs)
    (hf : P.funcs[fid]? = some fn) (hb : fn.body.isSome = true) (hnm : (fn.name == "runtime.NumGoroutine") = false) (hok : OkH P fid (xs ++ cp.map .lit) I1 Q)
    (h : ∀ y I3, Q y I3 → ∀ a' w', S M w0 a' w' n (I3 ++ I2) ((d, [], y) :: σ) Df → wpList P ops K rest a' w') :
    wpList P ops K (⟨some d, .call { callee := .value f, args := ps.toArray, argTypes := tys }, ty, pos, aft, none⟩ :: rest) a w := by
  have hk1 := hk.pick hp
  have hargs : RepL (okM (fun k => M k ∨ footL I2 k) I1) w (xs ++ cp.map .lit) (ps.map a.eval ++ cp) := by
    refine RepL.append ?_ (repL_lits cp)
    rw [okM_part]; exact rep_args hk1.kn (holds_nil a) hx
  have hc := hok (fun k => M k ∨ footL I2 k) w ((ps.map a.eval).toArray ++ cp.toArray) hk1.own.part (by simpa using hargs)
  refine leffcall (R := fun v w' => ∃ y I3, Q y I3 ∧ Own (fun k => M k ∨ footL I2 k) ⟨w, footL I1⟩ w' I3 ∧ Rep (okM (fun k => M k ∨ footL I2 k) I3) w' y v) hk1 rfl rfl hn hf' (run_callC (f := f) (hk1.kn.val (holds_nil a) hv) (by simp) hf hb hnm) (hc.mono fun e w' ⟨v, y, I3, he, hq, ho, hr⟩ => ⟨v, he, y, I3, hq, ho, hr⟩) ?_
  rintro v w' ⟨y, I3, hq, ho, hr⟩
  obtain ⟨ho', hgo⟩ := hk1.own.join ho
  rw [okM_part] at hr
  exact ⟨I3 ++ I2, y, ⟨ho', hk1.kn.go hgo⟩, hr, fun a' h' => h y I3 hq a' w' h'⟩
variable {α : Type} [Inhabited α] {f : α → List AV} {l : List α} {ad : Option Addr} {cap : Nat} {e t : TypeId} {sz : Nat}
theorem flat_at (hsz : ∀ x, (f x).length = sz) : ∀ (l : List α) (i : Nat), i < l.length → ((l.map f).flatten.drop (i * sz)).take sz = f (l.getD i default)
  | [], i, h => by simp at h
  | z :: l, 0, _ => by
    rw [Nat.zero_mul, List.drop_zero, List.map_cons, List.flatten_cons, List.getD_cons_zero, List.take_left' (hsz z)]
  | z :: l, i + 1, h => by
    rw [List.map_cons, List.flatten_cons, List.getD_cons_succ, Nat.succ_mul, Nat.add_comm (i * sz) sz, ← List.drop_drop, List.drop_left' (hsz z)]
    exact flat_at hsz l i (by simpa using h)
/-- An element of several cells of a row of one's own is read. -/
theorem f_loadOwn {D : TypeDesc} {i : Int} (hk : S M w0 a w n I σ Df) (hc : holds a c) (hj : I[j]? = some (orow ad cap e sz f l)) (hx : opvc σ c x = some (elA ad sz i)) (hi : asmP σ c (0 ≤ i ∧ i < l.length)) (hu : P.underlying t = some D) (hd : isAggD D = true) (hs : (P.info? t).map (·.size) = some sz) :
    Fun P (okM M I) ⟨dst, .load t x, ty, pos, aft, g⟩ a w (.agg (f (l.getD i.toNat default))) := by
  have hi := asm_out hk.kn hc hi
  obtain ⟨hsz, vals, hown, hL⟩ := hk.own.get hj
  rcases hown.2 with ⟨hv, hn⟩ | ⟨gb, cp, cur, hv, _, hh, hle, hcm, hcs, htk⟩
  · omega
  · injection hv with h3 h4 h5
    subst h3
    have hin : i.toNat * sz + sz ≤ l.length * sz := by
      rw [← Nat.succ_mul]; exact Nat.mul_le_mul_right sz (by omega)
    have hcl : l.length * sz ≤ cur.size := by rw [hcs]; exact Nat.mul_le_mul_right sz hle
    have hx' : a.eval x = .pointer (some ⟨gb, i.toNat * sz, none⟩) := hk.kn.val hc hx
    have hload := load_at (P := P) (b := gb) (off := i.toNat * sz) hh hu hd hs (by omega)
    refine .inl ⟨.agg ((cur.toList.drop (i.toNat * sz)).take sz).toArray, w, by simp only [execOp, hx', Instr.loadAt, Instr.sureAddr, Sem.run_bind, Sem.run_pure, Result.andThen_ok, hload], New.refl w, ?_⟩
    simp only [Rep]
    refine ⟨_, rfl, ?_⟩
    have hpart : ((cur.toList.drop (i.toNat * sz)).take sz) = ((vals.drop (i.toNat * sz)).take sz) := by
      rw [← htk, List.drop_take, List.take_take, show min sz (l.length * sz - i.toNat * sz) = sz by omega]
    rw [hpart, ← flat_at hsz l i.toNat (by omega)]
    exact (hL.drop _).take _
theorem eqGuard_sl (op : BinOp) (t : TypeId) (x y : Operand) (A B : Option Addr) (p q p' q' : Nat) (w : World) : (eqGuard op t x y (.slice A p q) (.slice B p' q')).run P w = .ok () w := by
  unfold eqGuard; cases op <;> simp
/-- Is a slice nil? -/
theorem f_eqSliceNil {t t' : TypeId} {n' cp p q : Nat} (hk : S M w0 a w n I σ Df) (hc : holds a c) (hx : opvc σ c x = some (.lit (.slice ad n' cp))) (hy : opvc σ c y = some (.lit (.slice none p q))) (hu : P.underlying t = some (.slice e)) :
    Fun P (okM M I) ⟨dst, .binOp .eql t x y t', ty, pos, aft, g⟩ a w (.lit (.bool ad.isNone)) := by
  refine .inl ⟨.bool ad.isNone, w, ?_, New.refl w, rep_lit rfl⟩
  simp only [execOp, hk.kn.val hc hx, hk.kn.val hc hy, Sem.run_bind, eqGuard_sl, Result.andThen_ok, Go.Lib.run_eql_slice_nil w t e ad n' cp p q hu, Sem.run_pure]
/-- A row as the slice that it is. -/
theorem S.asSlice {R : List α → List (List AV)} {i : Nat} (hR : ∀ l, R l = l.map f) (hk : S M w0 a w n I σ Df) (hl : look σ i = some ([], .row (R l))) : ∃ (ad : Option Addr) (cp : Nat), (ad = none → l = []) ∧ S M w0 a w n I ((i, [], .lit (.slice ad l.length cp)) :: σ) Df := by
  have h := (hk.kn.ent _ _ _ hl).1 (holds_nil a)
  rw [hR] at h
  simp only [Rep] at h
  obtain ⟨ad, cp, hv, hle, h⟩ := h
  rw [List.length_map] at hv
  refine ⟨ad, cp, fun e0 => ?_, hk.own, hk.kn.defers, hk.kn.size, fun j c u hl' => ?_⟩
  · rcases h with h | ⟨b, off, arr, el, fr, h1, _⟩
    · exact List.map_eq_nil_iff.1 h
    · rw [e0] at h1; cases h1
  · unfold look at hl'
    cases hb : Nat.beq i j with
    | true =>
      simp only [hb, cond_true, Option.some.injEq, Prod.mk.injEq] at hl'
      obtain ⟨rfl, rfl⟩ := hl'
      have : i = j := Nat.eq_of_beq_eq_true hb
      subst this
      exact ⟨fun _ => by simp only [Rep]; exact hv, fun hh => absurd (holds_nil a) hh⟩
    | false =>
      simp only [hb, cond_false] at hl'
      exact hk.kn.ent _ _ _ hl'
end
end Go.Proofs.Ytaoffkhflmndhaa.FW
