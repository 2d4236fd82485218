/- Functions that may panic, and functions that defer a call of a closure that turns one number of an object back. -/
import Derived.Test.YtbjbgodcenopnaaAvRow
import Derived.Test.YtbjbgodcenopnaaHq
import Derived.Test.YtbjbgodcenopnaaHc
import Derived.Test.YtbjbgodcenopnaaHmf
import Derived.Defers
import Derived.WalkSmall
namespace Go.Proofs.Ytbjbgodcenopnaa.FW
variable {Df : List Deferred}
open Go.RowKit
set_option linter.unusedVariables false
set_option linter.unusedSectionVars false
/-- A panic's entry. -/
abbrev pe (pv : Value) : PanicEntry := { v := pv, recovered := false }
/-- What a call comes to that may panic: a value and items, or a panic and items. -/
def RetX (M : Nat → Prop) (w0 : Bs) (Q : Except Value AV → List It → Prop) (e : Ending) (w' : World) : Prop :=
  (∃ v y I, e = .returned v ∧ Q (.ok y) I ∧ Own M w0 w' I ∧ Rep (okM M I) w' y v) ∨ (∃ pv I, e = .panicked [pe pv] ∧ Q (.error pv) I ∧ Own M w0 w' I)
def OkX (P : Program) (f : FuncId) (xs : List AV) (I : List It) (Q : Except Value AV → List It → Prop) : Prop :=
  ∀ (M : Nat → Prop) (w : World) (vs : Array Value), Own M ⟨w, footL I⟩ w I → RepL (okM M I) w xs vs.toList → Calls P f vs w (RetX M ⟨w, footL I⟩ Q)
/-- What is known of it, where it is known what it comes to. -/
def qX {E R : Type} (rx : Except E R) (A : R → AV → List It → Prop) (B : E → Value → List It → Prop) : Except Value AV → List It → Prop
  | .ok y, I => ∃ r, rx = .ok r ∧ A r y I
  | .error v, I => ∃ e, rx = .error e ∧ B e v I
/-- The value of a fault: a struct of two numbers, in an interface. -/
def faultV (t : TypeId) (e : Int × Int) : Value := .iface t (.agg #[.int .i64 e.1, .int .i64 e.2])
def bindX {E α β : Type} (x : Option (Except E β)) (F : β → Option (Except E α)) : Option (Except E α) :=
  match x with
  | none => none
  | some (.error e) => some (.error e)
  | some (.ok y) => F y
theorem bndX {E α β : Type} {x : Option (Except E β)} {F : β → Option (Except E α)} {r : Except E α} (h : bindX x F = some r) : (∃ e, x = some (.error e) ∧ r = .error e) ∨ ∃ y, x = some (.ok y) ∧ F y = some r := by
  unfold bindX at h
  split at h
  · cases h
  · rename_i e; injection h with h; exact .inl ⟨e, rfl, h.symm⟩
  · rename_i y; exact .inr ⟨y, rfl, h⟩
theorem OkX.toH {P : Program} {f : FuncId} {xs : List AV} {I : List It} {E R : Type} {t : R} {A : R → AV → List It → Prop} {B : E → Value → List It → Prop} (h : OkX P f xs I (qX (.ok t) A B)) : OkH P f xs I (A t) := by
  intro M w vs hO hL
  refine (h M w vs hO hL).mono ?_
  rintro e w' (⟨v, y, I', rfl, ⟨r, hr, hA⟩, h1, h2⟩ | ⟨pv, I', rfl, ⟨r, hr, hB⟩, h1⟩)
  · injection hr with hr; subst hr
    exact ⟨v, y, I', rfl, hA, h1, h2⟩
  · cases hr
theorem OkH.toX {P : Program} {f : FuncId} {xs : List AV} {I : List It} {Q : AV → List It → Prop} {Q' : Except Value AV → List It → Prop} (h : OkH P f xs I Q) (hq : ∀ y I, Q y I → Q' (.ok y) I) : OkX P f xs I Q' := by
  intro M w vs hO hL
  refine (h M w vs hO hL).mono ?_
  rintro e w' ⟨v, y, I', rfl, h0, h1, h2⟩
  exact .inl ⟨v, y, I', rfl, hq _ _ h0, h1, h2⟩

/-- The first frame of a call that is handed items. -/
theorem start_S {n : Nat} {xs : List AV} {I : List It} {M : Nat → Prop} {w : World} {vs : Array Value} (hle : Nat.ble xs.length n = true) (hO : Own M ⟨w, footL I⟩ w I) (hL : RepL (okM M I) w xs vs.toList) :
    S M ⟨w, footL I⟩ { tmps := vs ++ Array.replicate (n - vs.size) undef, defers := [] } w n I (start 0 xs) := by
  have hle' : xs.length ≤ n := Nat.le_of_ble_eq_true hle
  have hsz : vs.size = xs.length := by rw [← hL.length]; simp
  refine ⟨hO, rfl, by simp; omega, ?_⟩
  intro i c' v hl
  obtain ⟨rfl, _, hv⟩ := look_start xs 0 i c' v hl
  refine ⟨fun _ => ?_, fun hh => absurd (holds_nil _) hh⟩
  simp only [Nat.sub_zero] at hv
  have hlt : i < vs.size := by
    have := (List.getElem?_eq_some_iff.1 hv).1
    omega
  obtain ⟨u, hu, hr⟩ := hL.get hv
  simp only [Array.getD_eq_getD_getElem?]
  rw [Array.getElem?_append_left (by simpa using hlt)]
  have hu' : vs[i]? = some u := by simpa using hu
  rw [hu']
  exact hr
/-- A contract of a function that may panic. -/
theorem enterX {P : Program} {f : FuncId} {fn : Func} {c : Code} {n : Nat} {xs : List AV} {I : List It} {Q : Except Value AV → List It → Prop} (hf : P.funcs[f]? = some fn) (hb : fn.body = some c) (hn : fn.ntmps = n) (hle : Nat.ble xs.length n = true)
    (h : ∀ M (w0 : Bs) a, S M w0 a w0.toWorld n I (start 0 xs) → c.wp P (bodyPost P fn (RetX M w0 Q)) a w0.toWorld) : OkX P f xs I Q := by
  intro M w vs hO hL
  refine calls_of_wp hf hb (h M ⟨w, footL I⟩ _ ?_)
  rw [hn]
  exact start_S hle hO hL
/-- The same of one that defers. -/
theorem enterD {P : Program} {f : FuncId} {fn : Func} {c : Code} {n : Nat} {xs : List AV} {I : List It} {Q : Except Value AV → List It → Prop} (hf : P.funcs[f]? = some fn) (hb : fn.body = some c) (hn : fn.ntmps = n) (hle : Nat.ble xs.length n = true)
    (h : ∀ M (w0 : Bs) a, S M w0 a w0.toWorld n I (start 0 xs) → c.wp P (bodyPostD P fn (RetX M w0 Q)) a w0.toWorld) : OkX P f xs I Q := by
  intro M w vs hO hL
  refine calls_of_wp_defers hf hb (h M ⟨w, footL I⟩ _ ?_)
  rw [hn]
  exact start_S hle hO hL
/-- The contract of a function that is called when its caller's frame goes. -/
def OkDH (P : Program) (f : FuncId) (xs : List AV) (I : List It) (Q : AV → List It → Prop) : Prop :=
  ∀ (u : FrameMode) (M : Nat → Prop) (w : World) (vs : Array Value), Own M ⟨w, footL I⟩ w I → RepL (okM M I) w xs vs.toList → CallsD P f vs u w (fun e u' w' => u' = u ∧ RetH M ⟨w, footL I⟩ Q e w')
theorem enterDH {P : Program} {f : FuncId} {fn : Func} {c : Code} {n : Nat} {xs : List AV} {I : List It} {Q : AV → List It → Prop} (hf : P.funcs[f]? = some fn) (hb : fn.body = some c) (hn : fn.ntmps = n) (hle : Nat.ble xs.length n = true)
    (h : ∀ M (w0 : Bs) a, S M w0 a w0.toWorld n I (start 0 xs) → c.wp P (bodyPost P fn (RetH M w0 Q)) a w0.toWorld) : OkDH P f xs I Q := by
  intro u M w vs hO hL
  refine callsD_of_wp hf hb (h M ⟨w, footL I⟩ _ ?_)
  rw [hn]
  exact start_S hle hO hL

section
variable {P : Program} {M : Nat → Prop} {w0 : Bs} {w : World} {a : Act} {n : Nat} {I I' : List It} {σ : St} {it : It} {j : Nat}
variable {c : Ch} {dst : Option Tmp} {ty : TypeId} {pos : String} {aft : Array Edge} {ops : Array Oper} {K : Exit → Act → World → Prop} {rest : List Oper} {d : Nat} {x y : Operand}
/-- A call that panics. -/
theorem lpan {o : Oper} {f : FuncId} {args : Array Value} {R : List PanicEntry → World → Prop} (hg : o.guard = none)
    (hr : (execOp a.eval o).run P w = .ok (.enter f args) w) (hc : Calls P f args w fun e w' => ∃ ch, e = .panicked ch ∧ R ch w')
    (hR : ∀ ch w', R ch w' → K (.panic ch) a w') : wpList P ops K (o :: rest) a w := by
  unfold wpList
  rw [if_pos (by simp [Region.wanted, hg])]
  left
  unfold Oper.wp
  rw [hr, Oper.upon_enter]
  refine hc.mono ?_
  rintro e w' ⟨ch, rfl, h⟩
  exact hR ch w' h
/-- A call that comes to a panic, of a function that is handed the items in front. -/
theorem l_callXE {f : Operand} {fid : FuncId} {ps : List Operand} {tys : Array TypeId} {fn : Func} {xs : List AV} {I1 I2 : List It} {E R : Type} {e0 : E} {A : R → AV → List It → Prop} {B : E → Value → List It → Prop} {js : List Nat} (hk : S M w0 a w n I σ Df) (hp : FW.pick I js = I1 ++ I2)
    (hv : opvc σ [] f = some (.lit (.func (.func fid) #[] #[]))) (hx : argsA σ [] ps = some xs)
    (hf : P.funcs[fid]? = some fn) (hb : fn.body.isSome = true) (hnm : (fn.name == "runtime.NumGoroutine") = false) (hok : OkX P fid xs I1 (qX (.error e0) A B))
    (h : ∀ pv I3, B e0 pv I3 → ∀ w', S M w0 a w' n (I3 ++ I2) σ Df → K (.panic [pe pv]) a w') :
    wpList P ops K (⟨dst, .call { callee := .value f, args := ps.toArray, argTypes := tys }, ty, pos, aft, none⟩ :: rest) a w := by
  have hk1 := hk.pick hp
  have hargs : RepL (okM (fun k => M k ∨ footL I2 k) I1) w xs (ps.map a.eval) := by
    rw [okM_part]; exact rep_args hk1.kn (holds_nil a) hx
  have hc := hok (fun k => M k ∨ footL I2 k) w (ps.map a.eval).toArray hk1.own.part (by simpa using hargs)
  refine lpan (R := fun ch w' => ∃ pv I3, ch = [pe pv] ∧ B e0 pv I3 ∧ Own (fun k => M k ∨ footL I2 k) ⟨w, footL I1⟩ w' I3) rfl (run_call (f := f) (hk1.kn.val (holds_nil a) hv) (by simp) hf hb hnm) (hc.mono ?_) ?_
  · rintro e w' (⟨v, y, I3, rfl, ⟨r, hr, _⟩, _⟩ | ⟨pv, I3, rfl, ⟨r, hr, hB⟩, ho⟩)
    · cases hr
    · injection hr with hr; subst hr
      exact ⟨_, rfl, pv, I3, rfl, hB, ho⟩
  · rintro ch w' ⟨pv, I3, rfl, hB, ho⟩
    obtain ⟨ho', hgo⟩ := hk1.own.join ho
    exact h pv I3 hB w' ⟨ho', hk1.kn.go hgo⟩
/-- A panic of the text's own. -/
theorem l_panic {t : TypeId} {v : Value} (hk : S M w0 a w n I σ Df) (hx : opvc σ [] x = some (.lit (.iface t v))) (h : K (.panic [pe (.iface t v)]) a w) :
    wpList P ops K (⟨dst, .panic x, ty, pos, aft, none⟩ :: rest) a w := by
  unfold wpList
  rw [if_pos (by simp [Region.wanted])]
  left
  unfold Oper.wp
  have hr : (execOp a.eval ⟨dst, .panic x, ty, pos, aft, none⟩).run P w = .halt (.panic (.iface t v)) w := by
    simp only [execOp, hk.kn.val (holds_nil a) hx, Sem.run_bind, run_panic_iface]
    rfl
  rw [hr]
  exact h
/-- The end of a function that panics, and defers nothing. -/
theorem fpan {fn : Func} {I1 I2 : List It} {js : List Nat} {Q : Except Value AV → List It → Prop} {pv : Value} (hk : S M w0 a w n I σ) (hp : FW.pick I js = I1 ++ I2) (hq : Q (.error pv) I1) : bodyPost P fn (RetX M w0 Q) (.panic [pe pv]) a w :=
  ⟨hk.kn.defers, .inr ⟨pv, I1, rfl, hq, (hk.keep hp).own⟩⟩
theorem toX {fn : Func} {A : AV → List It → Prop} {Q : Except Value AV → List It → Prop} (h : bodyPost P fn (RetH M w0 A) .ret a w) (hq : ∀ y I, A y I → Q (.ok y) I) : bodyPost P fn (RetX M w0 Q) .ret a w := by
  obtain ⟨h0, v, hr, v', y, I', e, hA, ho, hrep⟩ := h
  exact ⟨h0, v, hr, .inl ⟨v', y, I', e, hq y I' hA, ho, hrep⟩⟩
theorem S.bare (hk : S M w0 a w n I σ Df) : S M w0 { a with defers := [] } w n I σ := ⟨hk.own, rfl, hk.kn.size, fun i c x hl => hk.kn.ent i c x hl⟩

/-! ### Closures that are deferred -/
def dfI (F : FuncId) (b : Nat) : Deferred := { target := .fn (.func F) #[.pointer (some ⟨b, 0, none⟩)], args := #[] }
/-- Variables that closures captured: each holds a pointer. -/
def boxesI (t : TypeId) (bs : List Nat) (b0 : Nat) (dn : Nat) : It where
  foot := fun k => k ∈ bs
  P := fun ok w => bs.length = dn ∧ bs.Nodup ∧ ∀ b ∈ bs, (blk b t [.lit (.pointer (some ⟨b0, 0, none⟩))]).P ok w
  stable := fun hg hs hb hw ⟨h1, h2, h3⟩ => ⟨h1, h2, fun b hm => (blk b t [.lit (.pointer (some ⟨b0, 0, none⟩))]).stable hg hs (fun k hk => hb k (by have hk : k = b := hk; rw [hk]; exact hm)) (fun k hk => hw k (by have hk : k = b := hk; rw [hk]; exact hm)) (h3 b hm)⟩
theorem S.box0 {t : TypeId} {b0 : Nat} {F : FuncId} (hk : S M w0 a w n I σ) : S M w0 a w n (boxesI t [] b0 0 :: I) σ (([] : List Nat).map (dfI F)) :=
  hk.push (New.refl w) ⟨rfl, List.nodup_nil, by simp⟩ (by intro k hk; cases hk)
/-- Two items told as one. -/
theorem S.merge {A B Cc : It} (hk : S M w0 a w n (A :: B :: I) σ Df) (hf : ∀ k, Cc.foot k ↔ (A.foot k ∨ B.foot k)) (hP : ∀ ok, (∀ k, ¬ (A.foot k ∧ B.foot k)) → A.P ok w → B.P ok w → Cc.P ok w) : S M w0 a w n (Cc :: I) σ Df := by
  have e : okM M (A :: B :: I) = okM M (Cc :: I) := by
    funext k
    apply propext
    unfold okM
    constructor
    · rintro ⟨h1, h2⟩
      refine ⟨h1, fun z hz hfz => ?_⟩
      rcases List.mem_cons.1 hz with rfl | hz
      · rcases (hf k).1 hfz with h | h
        · exact h2 A (by simp) h
        · exact h2 B (by simp) h
      · exact h2 z (by simp [hz]) hfz
    · rintro ⟨h1, h2⟩
      refine ⟨h1, fun z hz hfz => ?_⟩
      rcases List.mem_cons.1 hz with rfl | hz
      · exact h2 Cc (by simp) ((hf k).2 (.inl hfz))
      · rcases List.mem_cons.1 hz with rfl | hz
        · exact h2 Cc (by simp) ((hf k).2 (.inr hfz))
        · exact h2 z (by simp [hz]) hfz
  have hdisj : ∀ k, ¬ (A.foot k ∧ B.foot k) := fun k ⟨ha, hb⟩ => hk.own.dis 0 1 A B (by omega) rfl rfl k ha hb
  refine ⟨⟨hk.own.frm, hk.own.bd, fun i z hi => ?_, fun p q x y hpq hp hq k hx hy => ?_, hk.own.apart⟩, e ▸ hk.kn⟩
  · cases i with
    | zero =>
      simp only [List.getElem?_cons_zero, Option.some.injEq] at hi
      subst hi
      refine ⟨hP _ hdisj ?_ ?_, fun k hk' => ?_⟩
      · have := (hk.own.ok 0 A rfl).1; rwa [e] at this
      · have := (hk.own.ok 1 B rfl).1; rwa [e] at this
      · rcases (hf k).1 hk' with h | h
        · exact (hk.own.ok 0 A rfl).2 k h
        · exact (hk.own.ok 1 B rfl).2 k h
    | succ i =>
      have := hk.own.ok (i + 2) z (by simpa using hi)
      rwa [e] at this
  · cases p with
    | zero =>
      simp only [List.getElem?_cons_zero, Option.some.injEq] at hp
      subst hp
      cases q with
      | zero => exact hpq rfl
      | succ q =>
        rcases (hf k).1 hx with h | h
        · exact hk.own.dis 0 (q + 2) A y (by omega) rfl (by simpa using hq) k h hy
        · exact hk.own.dis 1 (q + 2) B y (by omega) rfl (by simpa using hq) k h hy
    | succ p =>
      cases q with
      | zero =>
        simp only [List.getElem?_cons_zero, Option.some.injEq] at hq
        subst hq
        rcases (hf k).1 hy with h | h
        · exact hk.own.dis (p + 2) 0 x A (by omega) (by simpa using hp) rfl k hx h
        · exact hk.own.dis (p + 2) 1 x B (by omega) (by simpa using hp) rfl k hx h
      | succ q => exact hk.own.dis (p + 2) (q + 2) x y (by omega) (by simpa using hp) (by simpa using hq) k hx hy
/-- One item told as two. -/
theorem S.split {A B Cc : It} (hk : S M w0 a w n (Cc :: I) σ Df) (hf : ∀ k, Cc.foot k ↔ (A.foot k ∨ B.foot k)) (hd : ∀ k, ¬ (A.foot k ∧ B.foot k)) (hP : ∀ ok, Cc.P ok w → A.P ok w ∧ B.P ok w) : S M w0 a w n (A :: B :: I) σ Df := by
  have e : okM M (Cc :: I) = okM M (A :: B :: I) := by
    funext k
    apply propext
    unfold okM
    constructor
    · rintro ⟨h1, h2⟩
      refine ⟨h1, fun z hz hfz => ?_⟩
      rcases List.mem_cons.1 hz with rfl | hz
      · exact h2 Cc (by simp) ((hf k).2 (.inl hfz))
      · rcases List.mem_cons.1 hz with rfl | hz
        · exact h2 Cc (by simp) ((hf k).2 (.inr hfz))
        · exact h2 z (by simp [hz]) hfz
    · rintro ⟨h1, h2⟩
      refine ⟨h1, fun z hz hfz => ?_⟩
      rcases List.mem_cons.1 hz with rfl | hz
      · rcases (hf k).1 hfz with h | h
        · exact h2 A (by simp) h
        · exact h2 B (by simp) h
      · exact h2 z (by simp [hz]) hfz
  have h0 := hk.own.ok 0 Cc rfl
  have hAB := hP _ h0.1
  rw [e] at hAB
  refine ⟨⟨hk.own.frm, hk.own.bd, fun i z hi => ?_, fun p q x y hpq hp hq k hx hy => ?_, hk.own.apart⟩, e ▸ hk.kn⟩
  · match i, hi with
    | 0, hi =>
      simp only [List.getElem?_cons_zero, Option.some.injEq] at hi
      subst hi
      exact ⟨hAB.1, fun k hk' => h0.2 k ((hf k).2 (.inl hk'))⟩
    | 1, hi =>
      simp only [List.getElem?_cons_succ, List.getElem?_cons_zero, Option.some.injEq] at hi
      subst hi
      exact ⟨hAB.2, fun k hk' => h0.2 k ((hf k).2 (.inr hk'))⟩
    | i + 2, hi =>
      have := hk.own.ok (i + 1) z (by simpa using hi)
      rwa [e] at this
  · have at_ : ∀ {q : Nat} {y : It}, (A :: B :: I)[q]? = some y → y.foot k → (q = 0 ∧ A.foot k) ∨ (q = 1 ∧ B.foot k) ∨ (∃ q', q = q' + 2 ∧ I[q']? = some y) := by
      intro q y hq hy
      match q, hq with
      | 0, hq => simp only [List.getElem?_cons_zero, Option.some.injEq] at hq; subst hq; exact .inl ⟨rfl, hy⟩
      | 1, hq => simp only [List.getElem?_cons_succ, List.getElem?_cons_zero, Option.some.injEq] at hq; subst hq; exact .inr (.inl ⟨rfl, hy⟩)
      | q + 2, hq => exact .inr (.inr ⟨q, rfl, by simpa using hq⟩)
    rcases at_ hp hx with ⟨rfl, h1⟩ | ⟨rfl, h1⟩ | ⟨p', rfl, h1⟩ <;> rcases at_ hq hy with ⟨rfl, h2⟩ | ⟨rfl, h2⟩ | ⟨q', rfl, h2⟩
    · exact hpq rfl
    · exact hd k ⟨h1, h2⟩
    · exact hk.own.dis 0 (q' + 1) Cc y (by omega) rfl (by simpa using h2) k ((hf k).2 (.inl h1)) hy
    · exact hd k ⟨h2, h1⟩
    · exact hpq rfl
    · exact hk.own.dis 0 (q' + 1) Cc y (by omega) rfl (by simpa using h2) k ((hf k).2 (.inr h1)) hy
    · exact hk.own.dis (p' + 1) 0 x Cc (by omega) (by simpa using h1) rfl k hx ((hf k).2 (.inl h2))
    · exact hk.own.dis (p' + 1) 0 x Cc (by omega) (by simpa using h1) rfl k hx ((hf k).2 (.inr h2))
    · exact hk.own.dis (p' + 1) (q' + 1) x y (by omega) (by simpa using h1) (by simpa using h2) k hx hy
theorem Own.permL (h : Own M w0 w I) (hp : I.Perm I') : Own M w0 w I' := by
  have hm : okM M I = okM M I' := okM_perm fun x => hp.mem_iff
  have hd : I.Pairwise (fun x y => ∀ k, x.foot k → ¬ y.foot k) := by
    rw [List.pairwise_iff_getElem]
    intro i j hi hj hij k hx
    exact h.dis i j _ _ (by omega) (List.getElem?_eq_getElem hi) (List.getElem?_eq_getElem hj) k hx
  have hd' := (hp.pairwise_iff (fun {x y} hxy k hy hx => hxy k hx hy)).1 hd
  rw [List.pairwise_iff_getElem] at hd'
  refine ⟨h.frm, h.bd, fun i it hi => ?_, fun i j x y hij hx hy k hfx hfy => ?_, h.apart⟩
  · obtain ⟨q, hq⟩ := List.mem_iff_getElem?.1 (hp.mem_iff.2 (List.mem_of_getElem? hi))
    have := h.ok q it hq
    rwa [hm] at this
  · obtain ⟨hi, rfl⟩ := List.getElem?_eq_some_iff.1 hx
    obtain ⟨hj, rfl⟩ := List.getElem?_eq_some_iff.1 hy
    rcases Nat.lt_or_gt_of_ne hij with hlt | hgt
    · exact hd' i j hi hj hlt k hfx hfy
    · exact hd' j i hj hi hgt k hfy hfx
theorem S.permL (hk : S M w0 a w n I σ Df) (hp : I.Perm I') : S M w0 a w n I' σ Df :=
  ⟨hk.own.permL hp, (okM_perm fun x => hp.mem_iff : okM M I = okM M I') ▸ hk.kn⟩
theorem S.dropMid {I1 I2 I3 : List It} (hk : S M w0 a w n (I1 ++ (I2 ++ I3)) σ Df) : S M w0 a w n (I1 ++ I3) σ Df := by
  refine S.dropL (I1 := I2) (hk.permL ?_)
  rw [← List.append_assoc, ← List.append_assoc]
  exact List.Perm.append_right _ List.perm_append_comm
/-- A closure is deferred. -/
theorem l_defer {t : TypeId} {nb b0 dn : Nat} {bs : List Nat} {F : FuncId} {f : Operand} {tys : Array TypeId} {I2 : List It} {js : List Nat} (hk : S M w0 a w n I σ (bs.map (dfI F))) (hp : FW.pick I js = blk nb t [.lit (.pointer (some ⟨b0, 0, none⟩))] :: boxesI t bs b0 dn :: I2)
    (hf : opvc σ [] f = some (.lit (.func (.func F) #[] #[.pointer (some ⟨nb, 0, none⟩)])))
    (h : ∀ a', S M w0 a' w n (boxesI t (nb :: bs) b0 (dn + 1) :: I2) σ ((nb :: bs).map (dfI F)) → wpList P ops K rest a' w) :
    wpList P ops K (⟨none, .defer { callee := .value f, args := #[], argTypes := tys }, ty, pos, aft, none⟩ :: rest) a w := by
  have hk1 := (hk.pick hp).merge (Cc := boxesI t (nb :: bs) b0 (dn + 1)) (fun k => by
      show k ∈ nb :: bs ↔ (k = nb ∨ k ∈ bs)
      exact List.mem_cons) (fun ok hd hA ⟨h1, h2, h3⟩ => ⟨by simp [h1], by
        rw [List.nodup_cons]
        exact ⟨fun hm => hd nb ⟨rfl, hm⟩, h2⟩, fun b hb => by
        rcases List.mem_cons.1 hb with rfl | hb
        · exact hA
        · exact h3 b hb⟩)
  unfold wpList
  rw [if_pos (by simp [Region.wanted])]
  left
  unfold Oper.wp
  have hr : (execOp a.eval ⟨none, .defer { callee := .value f, args := #[], argTypes := tys }, ty, pos, aft, none⟩).run P w = .ok (.defer (dfI F nb)) w := by
    simp [execOp, resolve, hk.kn.val (holds_nil a) hf, Deferred.ofValue, dfI]
  rw [hr, Oper.upon_defer]
  refine h _ ⟨hk1.own, ?_, hk1.kn.size, fun i c x hl => hk1.kn.ent i c x hl⟩
  show dfI F nb :: a.defers = _
  rw [hk1.kn.defers]; rfl
/-- A call out of a frame that goes. -/
theorem S.callD {f : FuncId} {I1 I2 : List It} {xs : List AV} {vs : Array Value} {Q : AV → List It → Prop} {u : FrameMode} (hk : S M w0 a w n (I1 ++ I2) σ Df) (hok : OkDH P f xs I1 Q) (hx : ∀ ok, RepL ok w xs vs.toList) :
    CallsD P f vs u w fun e u' w' => u' = u ∧ ∃ v y I3, e = .returned v ∧ Q y I3 ∧ S M w0 a w' n (I3 ++ I2) σ Df := by
  refine (hok u (fun k => M k ∨ footL I2 k) w vs hk.own.part (hx _)).mono ?_
  rintro e u' w' ⟨rfl, v, y, I3, rfl, hq, ho, hr⟩
  obtain ⟨ho', hgo⟩ := hk.own.join ho
  exact ⟨rfl, v, y, I3, rfl, hq, ho', hk.kn.go hgo⟩
/-- So many less. -/
def decrN : Nat → Int → Int
  | 0, x => x
  | k + 1, x => decrN k (IntKind.wrap .i64 (x - 1))
theorem leaves_boxes {fn fc : Func} {R : Ending → World → Prop} {t : TypeId} {b0 : Nat} {F : FuncId} {u : FrameMode} (hu : u ≠ .run) (hset : settle u = u) (Ob : Int → List It) (hf : P.funcs[F]? = some fc) (hb : fc.body.isSome = true) (hnm : (fc.name == "runtime.NumGoroutine") = false)
    (hF : ∀ x nb, OkDH P F [.lit (.pointer (some ⟨nb, 0, none⟩))] (blk nb t [.lit (.pointer (some ⟨b0, 0, none⟩))] :: Ob x) (fun y I => y = .tup [] ∧ I = blk nb t [.lit (.pointer (some ⟨b0, 0, none⟩))] :: Ob (IntKind.wrap .i64 (x - 1)))) :
    ∀ (bs : List Nat) (dn : Nat) (x : Int) (w : World) (I2 : List It), S M w0 a w n (boxesI t bs b0 dn :: (Ob x ++ I2)) σ Df → (∀ w' I2', S M w0 a w' n (Ob (decrN dn x) ++ (I2' ++ I2)) σ Df → Leaves P fn a.tmps R [] u w') → Leaves P fn a.tmps R (bs.map (dfI F)) u w
  | [], dn, x, w, I2, hk, h => by
    have hl : dn = 0 := by
      obtain ⟨h1, _⟩ := (hk.own.ok 0 _ rfl).1
      simpa using h1.symm
    subst hl
    exact h w [] (by simpa [decrN] using hk.drop 0)
  | nb :: bs, dn, x, w, I2, hk, h => by
    obtain ⟨h1, h2, h3⟩ := (hk.own.ok 0 _ rfl).1
    obtain ⟨dn', rfl⟩ : ∃ k, dn = k + 1 := ⟨bs.length, by simpa using h1.symm⟩
    rw [List.nodup_cons] at h2
    have hk1 := hk.split (A := boxesI t bs b0 dn') (B := blk nb t [.lit (.pointer (some ⟨b0, 0, none⟩))]) (fun k => by
        show k ∈ nb :: bs ↔ (k ∈ bs ∨ k = nb)
        rw [List.mem_cons]; exact Or.comm) (fun k ⟨ha, hb⟩ => by
        have hb : k = nb := hb
        subst hb
        exact h2.1 ha) (fun ok ⟨g1, g2, g3⟩ => ⟨⟨by simpa using g1, h2.2, fun b hb => g3 b (List.mem_cons_of_mem _ hb)⟩, g3 nb List.mem_cons_self⟩)
    have hk2 : S M w0 a w n ((blk nb t [.lit (.pointer (some ⟨b0, 0, none⟩))] :: Ob x) ++ (boxesI t bs b0 dn' :: I2)) σ Df := hk1.permL (List.perm_middle (l₁ := blk nb t [.lit (.pointer (some ⟨b0, 0, none⟩))] :: Ob x)).symm
    refine leaves_cons (f := F) (args := #[.pointer (some ⟨nb, 0, none⟩)]) hu ?_ ((hk2.callD (hF x nb) (vs := #[.pointer (some ⟨nb, 0, none⟩)]) (fun ok => repL_cons (rep_lit rfl) repL_nil)).mono ?_)
    · have hb' : ¬ fc.body = none := by cases h : fc.body <;> simp_all
      have hn' : ¬ fc.name = "runtime.NumGoroutine" := by simpa using hnm
      simp only [invoke]
      simp [callFunc, hf, hb', hn']
    · rintro e u' w' ⟨rfl, v, y, I3, rfl, ⟨_, rfl⟩, hk3⟩
      show Leaves P fn a.tmps R (bs.map (dfI F)) (settle u') w'
      rw [hset]
      refine leaves_boxes hu hset Ob hf hb hnm hF bs dn' (IntKind.wrap .i64 (x - 1)) w' (blk nb t [.lit (.pointer (some ⟨b0, 0, none⟩))] :: I2) (hk3.permL ?_) fun w2 I2' hk4 => ?_
      · refine (List.perm_middle (l₁ := blk nb t [.lit (.pointer (some ⟨b0, 0, none⟩))] :: Ob (IntKind.wrap .i64 (x - 1)))).trans (List.Perm.cons _ ?_)
        exact (List.perm_middle (l₁ := Ob (IntKind.wrap .i64 (x - 1)))).symm
      · refine h w2 (I2' ++ [blk nb t [.lit (.pointer (some ⟨b0, 0, none⟩))]]) ?_
        simpa [decrN] using hk4
theorem leave_ret {fn fc : Func} {t : TypeId} {b0 dn : Nat} {F : FuncId} {bs : List Nat} {x : Int} {I2 : List It} {js : List Nat} {A : AV → List It → Prop} {Q : Except Value AV → List It → Prop} (Ob : Int → List It) (hk : S M w0 a w n I σ (bs.map (dfI F))) (hp : FW.pick I js = boxesI t bs b0 dn :: (Ob x ++ I2))
    (hf : P.funcs[F]? = some fc) (hb : fc.body.isSome = true) (hnm : (fc.name == "runtime.NumGoroutine") = false)
    (hF : ∀ x nb, OkDH P F [.lit (.pointer (some ⟨nb, 0, none⟩))] (blk nb t [.lit (.pointer (some ⟨b0, 0, none⟩))] :: Ob x) (fun y I => y = .tup [] ∧ I = blk nb t [.lit (.pointer (some ⟨b0, 0, none⟩))] :: Ob (IntKind.wrap .i64 (x - 1))))
    (h : ∀ a w', S M w0 a w' n (Ob (decrN dn x) ++ I2) σ → bodyPost P fn (RetH M w0 A) .ret a w') (hq : ∀ y I, A y I → Q (.ok y) I) : bodyPostD P fn (RetX M w0 Q) .ret a w := by
  show Leaves P fn a.tmps _ a.defers .returning w
  rw [hk.kn.defers]
  refine leaves_boxes (by simp) rfl Ob hf hb hnm hF bs dn x w I2 (hk.pick hp) fun w' I2' hk' => ?_
  obtain ⟨_, v, hr, v', y, I', e, hA, ho, hrep⟩ := h _ w' hk'.bare.dropMid
  exact ⟨v, hr, .inl ⟨v', y, I', e, hq y I' hA, ho, hrep⟩⟩
theorem leave_pan {fn fc : Func} {t : TypeId} {b0 dn : Nat} {F : FuncId} {bs : List Nat} {x : Int} {I2 : List It} {js : List Nat} {pv : Value} {Q : Except Value AV → List It → Prop} (Ob : Int → List It) (hk : S M w0 a w n I σ (bs.map (dfI F))) (hp : FW.pick I js = boxesI t bs b0 dn :: (Ob x ++ I2))
    (hf : P.funcs[F]? = some fc) (hb : fc.body.isSome = true) (hnm : (fc.name == "runtime.NumGoroutine") = false)
    (hF : ∀ x nb, OkDH P F [.lit (.pointer (some ⟨nb, 0, none⟩))] (blk nb t [.lit (.pointer (some ⟨b0, 0, none⟩))] :: Ob x) (fun y I => y = .tup [] ∧ I = blk nb t [.lit (.pointer (some ⟨b0, 0, none⟩))] :: Ob (IntKind.wrap .i64 (x - 1))))
    (hq : Q (.error pv) (Ob (decrN dn x))) : bodyPostD P fn (RetX M w0 Q) (.panic [pe pv]) a w := by
  show Leaves P fn a.tmps _ a.defers (.panicking [pe pv]) w
  rw [hk.kn.defers]
  refine leaves_boxes (by simp) rfl Ob hf hb hnm hF bs dn x w I2 (hk.pick hp) fun w' I2' hk' => ?_
  exact .inr ⟨pv, _, rfl, hq, hk'.dropTail.own⟩
end
end Go.Proofs.Ytbjbgodcenopnaa.FW
