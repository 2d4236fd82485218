/- (*dev.Dev).Flush: a range over a map, in whatever order. -/
import Derived.Test.YtimaibcaehagjaaDxP1
import Derived.Maps.RangeRun
namespace Go.Proofs.Ytimaibcaehagjaa
open Go.RowKit Go.MapKept
open Go.ChangeMaps (setBlock)
set_option linter.unusedVariables false
set_option linter.unusedSectionVars false
set_option maxRecDepth 20000
set_option maxHeartbeats 10000000
/-- Sectors over which others are laid, one behind the other. -/
def flushS (sure : List (List UInt8)) (m : List (Int × List UInt8)) : List (List UInt8) := m.foldl (fun s p => s.set p.1.toNat p.2) sure
def flushOk (sure : List (List UInt8)) (m : List (Int × List UInt8)) : Bool := m.all fun p => decide (0 ≤ p.1) && decide (p.1 < (sure.length : Int))
def dev_Dev_Flush.f (K : Nat) (v0 : ODevDev) : Option (Int × ODevDev) :=
  (Option.bind (dev_Dev_Off.f v0) fun t1 => (if t1 = true then some (7, v0) else (Option.bind (dev_Dev_step.f K v0) fun t2 => (if (!decide (t2.1 = 0)) = true then some (t2.1, t2.2) else (if flushOk t2.2.sure t2.2.cache = true then some (0, (⟨flushS t2.2.sure t2.2.cache, [], t2.2.steps, t2.2.falls, t2.2.off⟩ : ODevDev)) else none)))))
namespace FW
def kOf (e : MapEntry) : Int := match e.key with | .int _ n => n | _ => 0
def vOf (e : MapEntry) : List UInt8 := match e.val with | .string s => s.data.toList | _ => []
/-- The entries that were handed out, laid. -/
def laid (es : List MapEntry) (sure : List (List UInt8)) (p : MapEntry → Bool) : List (List UInt8) := (es.filter p).foldl (fun s e => s.set (kOf e).toNat (vOf e)) sure
theorem set_other (s : List (List UInt8)) (i j : Nat) (x y : List UInt8) (h : i ≠ j) : (s.set i x).set j y = (s.set j y).set i x := List.set_comm x y h
theorem laid_move : ∀ (es : List MapEntry) (sure : List (List UInt8)) (e : MapEntry) (p : MapEntry → Bool), (∀ x ∈ es, (kOf x).toNat ≠ (kOf e).toNat) → laid es (sure.set (kOf e).toNat (vOf e)) p = (laid es sure p).set (kOf e).toNat (vOf e)
  | [], sure, e, p, h => rfl
  | x :: es, sure, e, p, h => by
    have hx := h x List.mem_cons_self
    have ih := fun s => laid_move es s e p (fun y hy => h y (List.mem_cons_of_mem _ hy))
    unfold laid at ih ⊢
    rw [List.filter_cons]
    cases p x with
    | true =>
      simp only [if_true, List.foldl_cons]
      rw [set_other _ _ _ _ _ (Ne.symm hx)]
      exact ih _
    | false => simpa using ih sure
theorem laid_more : ∀ (es : List MapEntry) (sure : List (List UInt8)) (e : MapEntry) (p q : MapEntry → Bool), (es.map fun x => (kOf x).toNat).Nodup → e ∈ es → p e = false → q e = true → (∀ x ∈ es, x ≠ e → q x = p x) → laid es sure q = (laid es sure p).set (kOf e).toNat (vOf e)
  | [], sure, e, p, q, _, h, _, _, _ => by cases h
  | x :: es, sure, e, p, q, hn, he, hp, hq, hpq => by
    rw [List.map_cons, List.nodup_cons] at hn
    by_cases hx : x = e
    · subst hx
      have hne : ∀ y ∈ es, (kOf y).toNat ≠ (kOf x).toNat := fun y hy heq => hn.1 (by rw [← heq]; exact List.mem_map.2 ⟨y, hy, rfl⟩)
      have h1 : laid (x :: es) sure q = laid es (sure.set (kOf x).toNat (vOf x)) q := by unfold laid; rw [List.filter_cons, if_pos hq, List.foldl_cons]
      have h2 : laid (x :: es) sure p = laid es sure p := by unfold laid; rw [List.filter_cons, hp]; rfl
      rw [h1, h2, ← laid_move es sure x p hne]
      unfold laid
      rw [List.filter_congr fun y hy => hpq y (List.mem_cons_of_mem _ hy) fun hyx => hne y hy (by rw [hyx])]
    · have he' : e ∈ es := (List.mem_cons.1 he).resolve_left fun h => hx h.symm
      have hqx := hpq x List.mem_cons_self hx
      have ih := fun s => laid_more es s e p q hn.2 he' hp hq (fun y hy => hpq y (List.mem_cons_of_mem _ hy))
      unfold laid at ih ⊢
      rw [List.filter_cons, List.filter_cons, hqx]
      cases p x with
      | true => simp only [if_true, List.foldl_cons]; exact ih _
      | false => simpa using ih sure
theorem laid_len (es : List MapEntry) (sure : List (List UInt8)) (p : MapEntry → Bool) : (laid es sure p).length = sure.length := by
  unfold laid
  generalize es.filter p = l
  induction l generalizing sure with
  | nil => rfl
  | cons x l ih => rw [List.foldl_cons, ih, List.length_set]
/-- A map whose entries are told. -/
def mapE (r : Nat) (m : List (Int × List UInt8)) (es : Array MapEntry) (clock : Nat) : It where
  foot := fun k => k = r
  P := fun _ w => MapP (.int .i64) (Value.int .i64) evS r m w es clock
  stable := fun _ _ _ hb h => ⟨(hb r rfl).trans h.at_, h.stamped, h.ents, h.key⟩
/-- An iterator over a map. -/
def iterI (b r clock : Nat) (seen : Array Nat) : It where
  foot := fun k => k = b
  P := fun _ w => w.heap[b]? = some (.mapIter (some r) clock seen clock)
  stable := fun _ _ _ hb h => (hb b rfl).trans h
section
variable {P : Program} {M : Nat → Prop} {w0 : Bs} {w : World} {a : Act} {n : Nat} {I : List It} {σ : St} {ty : TypeId} {pos : String} {aft : Array Edge} {x : Operand} {ops : Array Oper} {Q : Exit → Act → World → Prop} {rest : List Oper} {d j i b r clock : Nat} {m : List (Int × List UInt8)} {es : Array MapEntry} {seen : Array Nat} {t : TypeId} {D : TypeDesc}
theorem S.openMap (hk : S M w0 a w n I σ) (hj : I[j]? = some (mapI (.int .i64) (Value.int .i64) evS r m)) : ∃ es clock, S M w0 a w n (I.set j (mapE r m es clock)) σ := by
  obtain ⟨es, clock, h⟩ := hk.own.get hj
  exact ⟨es, clock, hk.conv hj (fun _ _ _ => h) fun _ h => h⟩
theorem S.closeMap (hk : S M w0 a w n I σ) (hj : I[j]? = some (mapE r m es clock)) : S M w0 a w n (I.set j (mapI (.int .i64) (Value.int .i64) evS r m)) σ :=
  hk.conv hj (fun _ _ h => ⟨es, clock, h⟩) fun _ h => h
theorem l_range (hk : S M w0 a w n I σ) (hj : I[j]? = some (mapE r m es clock)) (hn : Nat.blt d n = true) (hf : chFree σ d = true) (hx : opvc σ [] x = some (.lit (.map (some r)))) {kt vt : TypeId} (ht : P.underlying t = some (.map kt vt))
    (h : ∀ b a' w', S M w0 a' w' n (iterI b r clock #[] :: I) ((d, [], .lit (.pointer (some ⟨b, 0, none⟩))) :: σ) → wpList P ops Q rest a' w') :
    wpList P ops Q (⟨some d, .range t x, ty, pos, aft, none⟩ :: rest) a w := by
  have hm := hk.own.get hj
  have hr : (execOp a.eval ⟨some d, .range t x, ty, pos, aft, none⟩).run P w = .ok (.value (.pointer (some ⟨w.heap.size, 0, none⟩))) (w.alloc (.mapIter (some r) clock #[] clock)) := by
    simp [execOp, hk.kn.val (holds_nil a) hx, Instr.range, run_underlying ht, MapKept.run_getObj_map hm.at_]
  have hfoot : ∀ k, (iterI w.heap.size r clock #[]).foot k → w.heap.size ≤ k ∧ k < (w.alloc (.mapIter (some r) clock #[] clock)).heap.size := by
    intro k hk'
    have hk' : k = w.heap.size := hk'
    subst hk'
    simp
  exact leff hk rfl rfl hn hf hr (hk.push (it' := iterI w.heap.size r clock #[]) (New.alloc w _) (heap_alloc_new w _) hfoot) (rep_lit rfl) (fun a' hk' => h _ _ _ hk')
/-- The next entry, whichever it is. -/
theorem l_next (hk : S M w0 a w n I σ) (hj : I[j]? = some (mapE r m es clock)) (hi : I[i]? = some (iterI b r clock seen)) (hn : Nat.blt d n = true) (hf : chFree σ d = true) (hx : opvc σ [] x = some (.lit (.pointer (some ⟨b, 0, none⟩))))
    (h0 : (leftOf es seen).size = 0 → ∀ a' w', S M w0 a' w' n I ((d, [], .tup [.lit (.bool false)]) :: σ) → wpList P ops Q rest a' w')
    (h1 : ∀ e ∈ (leftOf es seen).toList, ∀ a' w', S M w0 a' w' n (I.set i (iterI b r clock (seen.push e.born))) ((d, [], .tup [.lit (.bool true), .lit e.key, .lit e.val]) :: σ) → wpList P ops Q rest a' w') :
    wpList P ops Q (⟨some d, .next x false, ty, pos, aft, none⟩ :: rest) a w := by
  have hm := hk.own.get hj
  have hit : w.heap[b]? = some (.mapIter (some r) clock seen clock) := hk.own.get hi
  rcases run_next_at (P := P) w ty b r clock clock seen es clock hit hm.at_ hm.stamped.1 (Nat.le_refl _) with ⟨hs, hr⟩ | ⟨e, he, w1, hw1, hr⟩
  · have hr' : (execOp a.eval ⟨some d, .next x false, ty, pos, aft, none⟩).run P w = .ok (.value (.tuple #[.bool false])) w := by
      simp only [execOp, hk.kn.val (holds_nil a) hx, Sem.run_bind, hr, Result.andThen_ok, Sem.run_pure]
    exact leff hk rfl rfl hn hf hr' hk (by simp [Rep, RepL]) (fun a' hk' => h0 hs a' w hk')
  · have hr' : (execOp a.eval ⟨some d, .next x false, ty, pos, aft, none⟩).run P w = .ok (.value (.tuple #[.bool true, e.key, e.val])) (setBlock w1 b (.mapIter (some r) clock (seen.push e.born) clock)) := by
      simp only [execOp, hk.kn.val (holds_nil a) hx, Sem.run_bind, hr, Result.andThen_ok, Sem.run_pure]
    have hnew : New w w1 := by
      rcases hw1 with rfl | rfl
      · exact New.refl _
      · exact New.drewN w 1
    have hk1 := hk.fresh hnew
    have hit1 : w1.heap[b]? = some (.mapIter (some r) clock seen clock) := hk1.own.get hi
    have hfr : Frm (iterI b r clock seen).foot w1 (setBlock w1 b (.mapIter (some r) clock (seen.push e.born) clock)) := Frm.putObj w1 b _
    have hlt : b < w1.heap.size := heap_lt hit1
    have hk2 : S M w0 a (setBlock w1 b (.mapIter (some r) clock (seen.push e.born) clock)) n (I.set i (iterI b r clock (seen.push e.born))) σ :=
      hk1.upd hi hfr (heap_set hit1).1 fun k hk' => ⟨.inl hk', by
        have hk' : k = b := hk'
        subst hk'
        simpa [setBlock] using hlt⟩
    exact leff hk rfl rfl hn hf hr' hk2 (by simp [Rep, RepL]) (fun a' hk' => h1 e he a' _ hk')
theorem f_entry {g : Option (Nat × Bool)} {c : Ch} {dst : Option Tmp} {e : MapEntry} (hk : S M w0 a w n I σ) (hc : holds a c) (hj : I[j]? = some (mapE r m es clock)) (hi : I[i]? = some (iterI b r clock (seen.push e.born))) (he : e ∈ es.toList) (hx : opvc σ c x = some (.lit (.pointer (some ⟨b, 0, none⟩)))) :
    Fun P (okM M I) ⟨dst, .entry x, ty, pos, aft, g⟩ a w (.tup [.lit e.key, .lit e.val]) := by
  have hm := hk.own.get hj
  have hit : w.heap[b]? = some (.mapIter (some r) clock (seen.push e.born) clock) := hk.own.get hi
  refine .inl ⟨.tuple #[e.key, e.val], w, ?_, New.refl w, by simp [Rep, RepL]⟩
  simp only [execOp, hk.kn.val hc hx, Sem.run_bind, run_entry_at w b r clock seen es clock e hit hm.at_ he hm.stamped.2.1, Result.andThen_ok, Sem.run_pure]
theorem MapP.ent (h : MapP (.int .i64) (Value.int .i64) evS r m w es clock) {e : MapEntry} (he : e ∈ es.toList) : ∃ p ∈ m, e.key = .int .i64 p.1 ∧ e.val = .string (B p.2) ∧ kOf e = p.1 ∧ vOf e = p.2 := by
  have : (e.key, e.val) ∈ es.toList.map fun e => (e.key, e.val) := List.mem_map.2 ⟨e, he, rfl⟩
  rw [h.ents] at this
  obtain ⟨p, hp, hpe⟩ := List.mem_map.1 this
  injection hpe with h1 h2
  have h2' : e.val = .string (B p.2) := h2.symm
  exact ⟨p, hp, h1.symm, h2', by simp [kOf, ← h1], by simp [vOf, h2', B]⟩
theorem MapP.laidAll (h : MapP (.int .i64) (Value.int .i64) evS r m w es clock) (sure : List (List UInt8)) (p : MapEntry → Bool) (hp : ∀ e ∈ es.toList, p e = true) : laid es.toList sure p = flushS sure m := by
  unfold laid flushS
  rw [List.filter_eq_self.2 hp]
  have key : ∀ (l : List MapEntry) (m : List (Int × List UInt8)) (s : List (List UInt8)), (l.map fun e => (e.key, e.val)) = m.map (fun p => (Value.int .i64 p.1, evS p.2)) → l.foldl (fun s e => s.set (kOf e).toNat (vOf e)) s = m.foldl (fun s p => s.set p.1.toNat p.2) s := by
    intro l
    induction l with
    | nil => intro m s hm; cases m with | nil => rfl | cons => simp at hm
    | cons e l ih =>
      intro m s hm
      cases m with
      | nil => simp at hm
      | cons q m =>
        simp only [List.map_cons, List.cons.injEq, Prod.mk.injEq] at hm
        obtain ⟨⟨h1, h2⟩, h3⟩ := hm
        have e1 : kOf e = q.1 := by simp [kOf, h1]
        have e2 : vOf e = q.2 := by simp [vOf, h2, evS, B]
        rw [List.foldl_cons, List.foldl_cons, e1, e2]
        exact ih m _ h3
  exact key _ _ _ h.ents
theorem MapP.nodupN (h : MapP (.int .i64) (Value.int .i64) evS r m w es clock) (hpos : ∀ p ∈ m, 0 ≤ p.1) : (es.toList.map fun x => (kOf x).toNat).Nodup := by
  have h1 := h.nodup
  have h2 : (es.toList.map fun x => (kOf x).toNat) = (m.map (·.1)).map Int.toNat := by
    have := congrArg (List.map fun q : Value × Value => (match q.1 with | .int _ n => n | _ => (0 : Int)).toNat) h.ents
    simpa [Function.comp_def, kOf] using this
  rw [h2]
  refine List.pairwise_map.2 (h1.imp_of_mem ?_)
  intro x y hx hy hne he
  obtain ⟨p, hp, rfl⟩ := List.mem_map.1 hx
  obtain ⟨q, hq, rfl⟩ := List.mem_map.1 hy
  have := hpos p hp
  have := hpos q hq
  exact hne (by omega)
end
end FW
theorem flushOk_mem {sure : List (List UInt8)} {m : List (Int × List UInt8)} (h : flushOk sure m = true) {p : Int × List UInt8} (hp : p ∈ m) : 0 ≤ p.1 ∧ p.1 < (sure.length : Int) := by
  unfold flushOk at h
  rw [List.all_eq_true] at h
  simpa using h p hp
end Go.Proofs.Ytimaibcaehagjaa
