/- Calls with items under a guard. -/
import Derived.Test.YtaoffkhflmndhaaHv
namespace Go.Proofs.Ytaoffkhflmndhaa.FW
variable {Df : List Deferred}
open Go.RowKit
set_option linter.unusedVariables false
/-- A chain that is told by what is known. -/
def asmH (σ : St) : Ch → Prop
  | [] => True
  | (j, want) :: c => match look σ j with
    | some (c0, .lit (.bool b)) => b = want ∧ subc c0 c = true ∧ asmH σ c
    | _ => False
theorem asm_in {ok : Nat → Prop} {a : Act} {w : World} {n : Nat} {σ : St} (hk : Knows ok a w n σ Df) : ∀ {c : Ch}, asmH σ c → holds a c
  | [], _ => holds_nil a
  | (j, want) :: c, h => by
    unfold asmH at h
    split at h
    · rename_i c0 b hl
      obtain ⟨rfl, hs, h'⟩ := h
      have hc := asm_in hk h'
      have h1 := (hk.ent _ _ _ hl).1 (holds_sub hs hc)
      simp only [Rep] at h1
      intro p hp
      rcases List.mem_cons.1 hp with rfl | hp
      · exact h1
      · exact hc p hp
    · exact h.elim
theorem bndG2 {α β : Type} {p : Prop} [Decidable p] {x : Option β} {d : β} {F : β → Option α} {r : α} (h : (if p then x else some d).bind F = some r) : ∃ y, (p → x = some y) ∧ (¬ p → y = d) ∧ F y = some r := by
  by_cases hp : p
  · rw [if_pos hp] at h; obtain ⟨y, h1, h2⟩ := bnd h; exact ⟨y, fun _ => h1, fun h' => absurd hp h', h2⟩
  · rw [if_neg hp] at h; exact ⟨d, fun h' => absurd h' hp, fun _ => rfl, h⟩
/-- A pointer that may be nil, and what belongs to it. -/
def ptrO {α : Type} (o : Option α) (b : Nat) : AV := .lit (.pointer (o.map fun _ => ⟨b, 0, none⟩))
def optI {α : Type} (o : Option α) (F : α → List It) : List It := match o with
  | none => []
  | some x => F x
theorem isNone_ptrO {α : Type} (o : Option α) (b : Nat) : (o.map fun _ => (⟨b, 0, none⟩ : Addr)).isNone = o.isNone := by cases o <;> rfl
section
variable {P : Program} {M : Nat → Prop} {w0 : Bs} {w w' : World} {a : Act} {n : Nat} {I I' : List It} {σ : St} {it : It} {j : Nat}
variable {c : Ch} {dst : Option Tmp} {ty : TypeId} {pos : String} {aft : Array Edge} {ops : Array Oper} {K : Exit → Act → World → Prop} {rest : List Oper} {d : Nat}
theorem S.dropL : ∀ {I1 I2 : List It}, S M w0 a w n (I1 ++ I2) σ Df → S M w0 a w n I2 σ Df
  | [], _, h => h
  | _ :: I1, _, h => S.dropL (I1 := I1) (h.drop 0)
theorem S.dropL2 {I1 I2 I3 : List It} (h : S M w0 a w n ((I1 ++ I2) ++ I3) σ Df) : S M w0 a w n (I2 ++ I3) σ Df := S.dropL (I1 := I1) (by rwa [List.append_assoc] at h)
theorem mem_pick : ∀ {js : List Nat} {I : List It} {x : It}, x ∈ FW.pick I js → x ∈ I
  | [], I, x, h => h
  | j :: js, I, x, h => by
    unfold FW.pick at h
    cases hj : I[j]? with
    | none => rw [hj] at h; exact h
    | some it =>
      rw [hj] at h
      rcases List.mem_cons.1 (mem_pick h) with rfl | h
      · exact List.mem_of_getElem? hj
      · exact List.mem_of_mem_eraseIdx h
/-- A result that stands in a variable, ahead of letting the variable go. -/
theorem rres_keep {js : List Nat} {I1 I2 : List It} {r : ResultVar} {y : AV} (hp : FW.pick I js = I1 ++ I2) (h : RRes P (okM M I) a w r y) : RRes P (okM M I1) a w r y := by
  have hg : Goes (okM M I) (okM M I1) w w := by
    intro b hb hlt
    refine ⟨⟨hb.1, fun x hx => hb.2 x (mem_pick (js := js) (by rw [hp]; exact List.mem_append_left _ hx))⟩, rfl⟩
  cases h with
  | tmp h => exact .tmp (Rep.go hg _ _ h)
  | cell h => obtain ⟨v, h1, h2⟩ := h; exact .cell ⟨v, h1, Rep.go hg _ _ h2⟩
/-- A call that is handed the items in front, under a guard. -/
theorem l_callHG {f : Operand} {fid : FuncId} {ps : List Operand} {tys : Array TypeId} {fn : Func} {xs : List AV} {I1 I2 : List It} {Q : AV → List It → Prop} {js : List Nat} {j g : Nat} {want b : Bool} {c0 : Ch} (hk : S M w0 a w n I σ Df) (hp : FW.pick I js = I1 ++ I2)
    (hj : (ops[j]?).bind (·.dst) = some g) (hgn : Nat.blt g n = true) (hl : look σ g = some (c0, .lit (.bool b))) (hn : Nat.blt d n = true) (hf' : chFree σ d = true) (hcf : cFree ((g, want) :: c0) d = true)
    (hv : opvc σ [] f = some (.lit (.func (.func fid) #[] #[]))) (hx : argsA σ ((g, want) :: c0) ps = some xs)
    (hf : P.funcs[fid]? = some fn) (hb : fn.body.isSome = true) (hnm : (fn.name == "runtime.NumGoroutine") = false) (hok : holds a ((g, want) :: c0) → OkH P fid xs I1 Q)
    (hno : ¬ holds a ((g, want) :: c0) → ∃ y, Q y I1)
    (h : ∀ y I3, Q y I3 → ∀ a' w', S M w0 a' w' n (I3 ++ I2) ((d, (g, want) :: c0, y) :: σ) Df → wpList P ops K rest a' w') :
    wpList P ops K (⟨some d, .call { callee := .value f, args := ps.toArray, argTypes := tys }, ty, pos, aft, some (j, want)⟩ :: rest) a w := by
  have hk1 := hk.pick hp
  obtain ⟨hw1, hw2⟩ := wanted_iff (o := ⟨some d, .call { callee := .value f, args := ps.toArray, argTypes := tys }, ty, pos, aft, some (j, want)⟩) hk.kn rfl hj hgn hl
  unfold wpList
  by_cases hh : holds a ((g, want) :: c0)
  · rw [if_pos (hw1.2 hh)]
    left
    have hargs : RepL (okM (fun k => M k ∨ footL I2 k) I1) w xs (ps.map a.eval) := by
      rw [okM_part]; exact rep_args hk1.kn hh hx
    have hc := hok hh (fun k => M k ∨ footL I2 k) w (ps.map a.eval).toArray hk1.own.part (by simpa using hargs)
    unfold Oper.wp
    have hr0 : (execOp a.eval ⟨some d, .call { callee := .value f, args := ps.toArray, argTypes := tys }, ty, pos, aft, some (j, want)⟩).run P w = .ok (.enter fid (ps.map a.eval).toArray) w := run_call (f := f) (hk1.kn.val (holds_nil a) hv) (by simp) hf hb hnm
    rw [hr0, Oper.upon_enter]
    refine hc.mono ?_
    rintro e w' ⟨v, y, I3, rfl, hq, ho, hr⟩
    obtain ⟨ho', hgo⟩ := hk1.own.join ho
    rw [okM_part] at hr
    exact h y I3 hq _ w' ⟨ho', (hk1.kn.go hgo).put hn hf' hcf (fun _ => hr) (fun h' => absurd hh h')⟩
  · rw [if_neg (by rw [hw2 hh]; simp)]
    obtain ⟨y, hq⟩ := hno hh
    exact h y I1 hq _ _ ⟨hk1.own, hk1.kn.put hn hf' hcf (fun h' => absurd h' hh) (fun _ => rfl)⟩
end
end Go.Proofs.Ytaoffkhflmndhaa.FW
