/- Rows of a call's own: slices that grow. -/
import Derived.Test.YtaoffkhflmndhaaAvMem
namespace Go.Proofs.Ytaoffkhflmndhaa.FW
variable {Df : List Deferred}
open Go.RowKit
set_option linter.unusedVariables false
set_option linter.unusedSimpArgs false

section
variable {P : Program} (w : World)
theorem run_append_src (t tx ty e : TypeId) (i : TypeInfo) (z : Value) (ht : P.underlying t = some (.slice e)) (hi : P.info? e = some i) (hz : i.zero = some z) (hzs : z.cells.size = i.size)
    (v : Value) (n : Nat) (xs : List Value) (hown : w.ownsRow 0 e i.size v n xs) (x : Value) (m : Nat) (news : List Value) (hs : Src P i.size tx x m news w)
    (h63 : n + m ≤ maxLen) (hbytes : (n + m) * i.bytes ≤ 140737488355328) :
    ∃ v' w', (Builtin.append_ #[t, tx] ty #[v, x]).run P w = .ok v' w' ∧ w'.ownsRow 0 e i.size v' (n + m) (xs ++ news) ∧ w.grownBy w' v.ownBlock ∧ (v'.ownBlock = v.ownBlock ∨ v'.ownBlock = some w.heap.size) := by
  have hsmall : n + m ≤ 9223372036854775807 := by simp only [maxLen] at h63; omega
  have hlen : (xs ++ news).length = (n + m) * i.size := by rw [List.length_append, hown.1, hs.newsLen, Nat.add_mul]
  have grown : ∀ (old : Nat), old < n + m → ∀ (row : Option Nat),
      (w.drew.alloc (.cells ((xs ++ news).toArray ++ Builtin.zeroCells z.cells (grownCap w (n + m) old e - (n + m))) e)).ownsRow 0 e i.size
        (.slice (some ⟨w.heap.size, 0, none⟩) (n + m) (grownCap w (n + m) old e)) (n + m) (xs ++ news) ∧
      w.grownBy (w.drew.alloc (.cells ((xs ++ news).toArray ++ Builtin.zeroCells z.cells (grownCap w (n + m) old e - (n + m))) e)) row := by
    intro old ho row
    have hge := grownCap_ge w (n + m) old e
    have hcm : grownCap w (n + m) old e ≤ maxLen := grownCap_le_maxLen w (n + m) old e h63
    refine ⟨⟨hlen, .inr ⟨w.heap.size, _, _, rfl, Nat.zero_le _, heap_alloc_new w.drew _, hge, hcm, ?_, ?_⟩⟩, ⟨rfl, rfl, rfl, by simp, fun k hk _ => Below.heap_alloc w.drew _ k hk⟩⟩
    · simp only [Array.size_append, List.size_toArray, size_zeroCells, hzs, hlen, ← Nat.add_mul]
      congr 1
      omega
    · simp only [Array.toList_append]
      rw [← hlen]
      exact List.take_left
  rcases hown.2 with ⟨rfl, rfl⟩ | ⟨g, cap, cur, rfl, hbg, hg, hnc, hcm, hcs, htake⟩
  · have hx : xs = [] := List.eq_nil_of_length_eq_zero (by simpa using hown.1)
    subst hx
    by_cases hm : m = 0
    · subst hm
      have hn : news = [] := List.eq_nil_of_length_eq_zero (by simpa using hs.newsLen)
      subst hn
      refine ⟨.slice none 0 0, w, ?_, World.ownsRow_nil w 0 e i.size, ⟨rfl, rfl, rfl, Nat.le_refl _, fun _ _ _ => rfl⟩, Or.inl rfl⟩
      have hc := hs.cells
      rcases hs.kind with ⟨e', hk⟩ | hk <;> simp [Builtin.append_, run_underlying ht, run_underlying hk, sizeOf, typeInfo, hi, hs.len, hc]
    · have hr := run_append_grow_src (P := P) w t tx ty e i z ht hi hz none 0 0 [] (run_firstCells_none w.drew i.size 0 0 0) x m news hs (by omega) (by omega) (by
        have hb := hbytes
        simp only [Nat.zero_add] at hb ⊢
        have : Builtin.nextslicecap m 0 = m := by unfold Builtin.nextslicecap; rw [if_pos (by omega)]
        rw [this]; omega)
      have hgr := grown 0 (by omega) (Value.ownBlock (.slice none 0 0))
      exact ⟨_, _, hr, hgr.1, hgr.2, Or.inr rfl⟩
  · by_cases hroom : n + m ≤ cap
    · have hfit : 0 + n * i.size + news.length ≤ cur.size := by rw [hs.newsLen, hcs, Nat.zero_add, ← Nat.add_mul]; exact Nat.mul_le_mul_right _ hroom
      have hst := run_storeCells_at (P := P) g (n * i.size) e news 0 cur w hg (by omega) hs.one
      simp only [Nat.add_zero] at hst
      have hr : (Builtin.append_ #[t, tx] ty #[.slice (some ⟨g, 0, none⟩) n cap, x]).run P w = .ok (.slice (some ⟨g, 0, none⟩) (n + m) cap) (w.setRow g (cur.toList.take (n * i.size) ++ news ++ cur.toList.drop (n * i.size + news.length)).toArray) := by
        have hc := hs.cells
        have hadd : ((⟨g, 0, none⟩ : Addr).add (n * i.size)) = ⟨g, n * i.size, none⟩ := by rw [add_addr]; simp
        rcases hs.kind with ⟨e', hk⟩ | hk <;> simp [Builtin.append_, run_underlying ht, run_underlying hk, sizeOf, typeInfo, hi, hs.len, hroom, hc, hadd] <;> simpa using congrArg (fun r => r.andThen fun _ w' => Result.ok (Value.slice (some ⟨g, 0, none⟩) (n + m) cap) w') hst
      refine ⟨_, _, hr, ⟨hlen, .inr ⟨g, cap, _, rfl, hbg, setRow_heap w g cur _ e _ hg, hroom, hcm, ?_, ?_⟩⟩, ⟨rfl, rfl, rfl, by simp, fun k _ hk => setRow_other w g k _ (fun e => hk (by simp [Value.ownBlock, e]))⟩, Or.inl rfl⟩
      · simp only [List.size_toArray, List.length_append, List.length_take, List.length_drop, Array.length_toList]
        omega
      · rw [htake, ← hlen]
        exact List.take_left
    · have holds : ∀ j u, xs[j]? = some u → w.cell? ((⟨g, 0, none⟩ : Addr).add j) = some u := hown.cells (g := g) rfl
      have hr := run_append_grow_src (P := P) w t tx ty e i z ht hi hz (some ⟨g, 0, none⟩) n cap xs (run_firstCells_some w.drew i.size n _ n cap xs hown.1 (by simpa using holds)) x m news hs (by omega) (by omega) (growslice_fits (by omega) hbytes)
      have hgr := grown cap (by omega) (Value.ownBlock (.slice (some ⟨g, 0, none⟩) n cap))
      exact ⟨_, _, hr, hgr.1, hgr.2, Or.inr rfl⟩
end

/-- Elements' cells, just these. -/
theorem repR_all {ok : Nat → Prop} {w : World} {sz : Nat} : ∀ {xs : List (List AV)} {vs : List Value}, RepR ok w xs vs → (∀ x ∈ xs, x.length = sz) → vs.length = xs.length * sz → RepL ok w xs.flatten vs
  | [], vs, h, hs, hl => by
    have : vs = [] := List.eq_nil_of_length_eq_zero (by simpa using hl)
    subst this; simpa using repL_nil
  | x :: xs, vs, h, hs, hl => by
    simp only [RepR] at h
    obtain ⟨h1, h2⟩ := h.1.toL
    have hx := hs x List.mem_cons_self
    have h3 := repR_all h.2 (fun y hy => hs y (List.mem_cons_of_mem _ hy)) (by
      rw [List.length_drop, hl, hx, List.length_cons, Nat.succ_mul]; omega)
    rw [List.flatten_cons, ← List.take_append_drop x.length vs]
    exact h1.append h3
theorem repR_of {ok : Nat → Prop} {w : World} : ∀ {xs : List (List AV)} {vs : List Value} (us : List Value), RepL ok w xs.flatten vs → RepR ok w xs (vs ++ us)
  | [], vs, us, h => by simp [RepR]
  | x :: xs, vs, us, h => by
    rw [List.flatten_cons] at h
    have hl := h.length
    simp only [List.length_append] at hl
    simp only [RepR]
    have h1 := h.take x.length
    have h2 := h.drop x.length
    rw [List.take_append_of_le_length (Nat.le_refl _), List.take_of_length_le (Nat.le_refl _)] at h1
    rw [List.drop_append_of_le_length (Nat.le_refl _), List.drop_of_length_le (Nat.le_refl _), List.nil_append] at h2
    refine ⟨?_, ?_⟩
    · have := h1.toP (vs.drop x.length ++ us)
      rwa [← List.append_assoc, List.take_append_drop] at this
    · rw [List.drop_append_of_le_length (by omega)]
      exact repR_of us h2

/-- A row of the call's own: its address, how many elements it has room for, the type of an element and its cells. -/
def orow {α : Type} (ad : Option Addr) (cap : Nat) (e : TypeId) (sz : Nat) (f : α → List AV) (l : List α) : It where
  foot := fun k => Value.ownBlock (.slice ad l.length cap) = some k
  P := fun ok w => (∀ x, (f x).length = sz) ∧ ∃ vals, w.ownsRow 0 e sz (.slice ad l.length cap) l.length vals ∧ RepL ok w (l.map f).flatten vals
  stable := by
    intro ok ok' w w' hg hs hf hb ⟨hsz, vals, h1, h2⟩
    refine ⟨hsz, vals, ⟨h1.1, ?_⟩, RepL.go hg _ _ h2⟩
    rcases h1.2 with h | ⟨g, cp, cur, hv, hbg, hh, hr⟩
    · exact .inl h
    · refine .inr ⟨g, cp, cur, hv, hbg, ?_, hr⟩
      rw [hb g (by rw [hv]; rfl)]
      exact hh

section
variable {P : Program} {M : Nat → Prop} {w0 : Bs} {w : World} {a : Act} {n : Nat} {I : List It} {σ : St} {c : Ch} {dst : Option Tmp} {ty : TypeId} {pos : String} {aft : Array Edge} {g : Option (Nat × Bool)} {x y : Operand} {u : AV} {ops : Array Oper} {Q : Exit → Act → World → Prop} {rest : List Oper} {d j : Nat}
  {α : Type} {f : α → List AV} {l : List α} {ad : Option Addr} {cap : Nat} {e : TypeId} {sz : Nat}

/-- A nil slice is a row of the call's own. -/
theorem S.nilRow (hk : S M w0 a w n I σ Df) (e : TypeId) (sz : Nat) (f : α → List AV) (hsz : ∀ x, (f x).length = sz) : S M w0 a w n (orow none 0 e sz f ([] : List α) :: I) σ Df :=
  hk.push (New.refl w) ⟨hsz, [], World.ownsRow_nil w 0 e sz, by simpa using repL_nil⟩ fun k hk' => by
    have h : Value.ownBlock (.slice none 0 0) = some k := hk'
    simp [Value.ownBlock] at h

theorem orow_rep {ok : Nat → Prop} (h : (orow ad cap e sz f l).P ok w) (hok : ∀ k, (orow ad cap e sz f l).foot k → ok k) : Rep ok w (.row (l.map f)) (.slice ad l.length cap) := by
  obtain ⟨hsz, vals, h1, h2⟩ := h
  simp only [Rep]
  refine ⟨ad, cap, by simp, ?_, ?_⟩
  · rcases h1.2 with ⟨hv, hn⟩ | ⟨g, cp, cur, hv, _, _, hle, _⟩
    · rw [List.length_map, hn]; omega
    · injection hv with _ _ h3; subst h3; simpa using hle
  · rcases h1.2 with ⟨hv, hn⟩ | ⟨g, cp, cur, hv, _, hh, hle, _, hcs, ht⟩
    · left
      have : l = [] := List.eq_nil_of_length_eq_zero hn
      subst this; rfl
    · right
      injection hv with h3 h4 h5
      subst h3
      refine ⟨g, 0, cur, e, (0, 0), rfl, hok g rfl, hh, ?_⟩
      have := repR_of (cur.toList.drop (l.length * sz)) h2
      rw [← ht, List.take_append_drop] at this
      simpa using this

/-- A row that is let go is read alone from there on. -/
theorem S.freeze (hk : S M w0 a w n I σ Df) (hj : I[j]? = some (orow ad cap e sz f l)) : ∀ v, Rep (okM M (I.eraseIdx j)) w (.lit (.slice ad l.length cap)) v → Rep (okM M (I.eraseIdx j)) w (.row (l.map f)) v := by
  intro v hv
  simp only [Rep] at hv
  subst hv
  have h := (orow ad cap e sz f l).stable (Goes.drop w I j (M := M)) (Nat.le_refl _) (fun k hk' => (hk.own.lt hj hk').2) (fun _ _ => rfl) (hk.own.get hj)
  refine orow_rep h fun k hk' => ⟨?_, ?_⟩
  · intro hM
    have h1 := hk.own.bd k hM
    have h2 := (hk.own.lt hj hk').1
    exact h2.elim (by omega) (hk.own.apart k hM)
  · intro it hit hf
    obtain ⟨i, hi⟩ := List.mem_iff_getElem?.1 hit
    rw [List.getElem?_eraseIdx] at hi
    split at hi
    · exact hk.own.dis i j it _ (by omega) hi hj k hf hk'
    · exact hk.own.dis (i + 1) j it _ (by omega) hi hj k hf hk'
theorem S.freezeSlot {t : Nat} (hk : S M w0 a w n I σ Df) (hj : I[j]? = some (orow ad cap e sz f l)) (hl : look σ t = some ([], .lit (.slice ad l.length cap))) : S M w0 a w n (I.eraseIdx j) ((t, [], .row (l.map f)) :: σ) Df :=
  (hk.drop j).as hl (hk.freeze hj)

/-- What an append lays behind a row. -/
theorem row_src {ok : Nat → Prop} {v : Value} {t e' : TypeId} (h : Rep ok w (.row (l.map f)) v) (hsz : ∀ x, (f x).length = sz) (h1 : ∀ x, (f x).all oneA = true) (hu : P.underlying t = some (.slice e')) :
    ∃ news, Src P sz t v l.length news w ∧ RepL ok w (l.map f).flatten news := by
  simp only [Rep] at h
  obtain ⟨a', cp, hv, hle, hx⟩ := h
  rw [List.length_map] at hv hle
  by_cases hl : l = []
  · subst hl
    subst hv
    cases a' with
    | none => exact ⟨[], Src.ofNil w hu cp, by simpa using repL_nil⟩
    | some a'' => exact ⟨[], Src.ofSlice w hu a'' 0 cp [] (by simp) (by simp) (by simp), by simpa using repL_nil⟩
  · have hne : ¬ l.map f = [] := by simpa using hl
    obtain ⟨b, off, cs, e2, fr, rfl, hb, hh, hR⟩ := hx.resolve_left hne
    have hsz' : ∀ x ∈ l.map f, x.length = sz := by
      intro x hx
      obtain ⟨y, _, rfl⟩ := List.mem_map.1 hx
      exact hsz y
    -- the cells that are read
    have key : ∀ (xs : List (List AV)) (vs : List Value), (∀ x ∈ xs, x.length = sz) → RepR ok w xs vs → xs.length * sz ≤ vs.length ∧ RepL ok w xs.flatten (vs.take (xs.length * sz)) := by
      intro xs
      induction xs with
      | nil => intro vs _ _; simp [RepL]
      | cons x xs ih =>
        intro vs hs hR
        simp only [RepR] at hR
        have hx := hs x List.mem_cons_self
        obtain ⟨h2, h3⟩ := hR.1.toL
        obtain ⟨h4, h5⟩ := ih _ (fun y hy => hs y (List.mem_cons_of_mem _ hy)) hR.2
        rw [List.length_drop] at h4
        have e0 : (xs.length + 1) * sz = sz + xs.length * sz := by rw [Nat.succ_mul]; omega
        refine ⟨by rw [List.length_cons, e0]; omega, ?_⟩
        rw [List.flatten_cons, List.length_cons, e0]
        have e1 : vs.take (sz + xs.length * sz) = vs.take x.length ++ (vs.drop x.length).take (xs.length * sz) := by
          rw [hx, List.take_add]
        rw [e1]
        exact h2.append h5
    obtain ⟨hlen, hL⟩ := key _ _ hsz' hR
    rw [List.length_map] at hlen hL
    have hone : ((l.map f).flatten).all oneA = true := by
      rw [List.all_eq_true]
      intro y hy
      obtain ⟨z, hz, hyz⟩ := List.mem_flatten.1 hy
      obtain ⟨q, _, rfl⟩ := List.mem_map.1 hz
      have := h1 q
      rw [List.all_eq_true] at this
      exact this y hyz
    refine ⟨(cs.toList.drop off).take (l.length * sz), ?_, hL⟩
    subst hv
    refine Src.ofSlice w hu ⟨b, off, none⟩ l.length cp _ (by rw [List.length_take]; omega) ?_ (repL_one hL hone)
    intro k v' hk'
    rw [add_addr, cell_of_row w b (off + k) cs e2 fr hh]
    rw [List.getElem?_take] at hk'
    split at hk'
    · rw [List.getElem?_drop] at hk'; simpa using hk'
    · cases hk'
theorem lit_src {s : List UInt8} {t : TypeId} (hu : P.underlying t = some .string) : Src P 1 t (.string (B s)) s.length (byteCells (B s)) w := Src.ofString w hu (B s)

/-- A row of the call's own grows by what is read elsewhere. -/
theorem l_append {t tx : TypeId} {l2 l3 : List α} {I' : Option Addr → Nat → List It} {by_ : Nat} (hk : S M w0 a w n I σ Df) (hj : I[j]? = some (orow ad cap e sz f l)) (hn : Nat.blt d n = true) (hf : chFree σ d = true)
    (hx : opvc σ [] x = some (.lit (.slice ad l.length cap))) (hy : ∃ news, Src P sz tx (a.eval y) l2.length news w ∧ RepL (okM M I) w (l2.map f).flatten news)
    (ht : P.underlying t = some (.slice e)) (hi : (P.info? e).map (fun i => (i.zero.map (fun z => z.cells.size), i.size, i.bytes)) = some (some sz, sz, by_)) (hb : (l.length + l2.length) * by_ ≤ 140737488355328 ∧ l.length + l2.length ≤ 140737488355328)
    (hl3 : l ++ l2 = l3) (hI : ∀ ad' cap', I.set j (orow ad' cap' e sz f l3) = I' ad' cap')
    (h : ∀ ad' cap' a' w', S M w0 a' w' n (I' ad' cap') ((d, [], .lit (.slice ad' (l3.length) cap')) :: σ) Df → wpList P ops Q rest a' w') :
    wpList P ops Q (⟨some d, .call { callee := .builtin .append, args := #[x, y], argTypes := #[t, tx] }, ty, pos, aft, none⟩ :: rest) a w := by
  obtain ⟨hsz, vals, hown, hL⟩ := hk.own.get hj
  obtain ⟨news, hsrc, hnews⟩ := hy
  obtain ⟨i, hinf, hi'⟩ := Option.map_eq_some_iff.1 hi
  simp only [Prod.mk.injEq] at hi'
  obtain ⟨hz0, his, hib⟩ := hi'
  obtain ⟨z, hz, hzs⟩ := Option.map_eq_some_iff.1 hz0
  subst his; subst hib; subst hl3
  obtain ⟨v', w', hr, hown', hgrow, hat⟩ := run_append_src (P := P) w t tx ty e i z ht hinf hz hzs _ _ vals hown _ _ news hsrc (by unfold maxLen; omega) hb.1
  obtain ⟨ad', cap', rfl⟩ : ∃ ad' cap', v' = .slice ad' (l ++ l2).length cap' := by
    rw [List.length_append]
    rcases hown'.2 with ⟨hv, h0⟩ | ⟨g, cp, cur, hv, _⟩
    · exact ⟨none, 0, by rw [hv, h0]⟩
    · exact ⟨_, _, hv⟩
  have hrun : (execOp a.eval ⟨some d, .call { callee := .builtin .append, args := #[x, y], argTypes := #[t, tx] }, ty, pos, aft, none⟩).run P w = .ok (.value (.slice ad' (l ++ l2).length cap')) w' := by
    simp only [execOp, resolve, invoke, builtin, Sem.run_bind, Sem.run_pure, Result.andThen_ok, List.map_toArray, List.map_cons, List.map_nil, hk.kn.val (holds_nil a) hx, hr]
  have hfoot : ∀ k, (orow ad' cap' e i.size f (l ++ l2)).foot k → ((orow ad cap e i.size f l).foot k ∨ w.heap.size ≤ k) ∧ k < w'.heap.size := by
    intro k hk'
    have hk0 : Value.ownBlock (.slice ad' (l ++ l2).length cap') = some k := hk'
    have hlt := (hown'.lt k hk0).2
    rcases hat with h | h
    · exact ⟨.inl (by rw [h] at hk0; exact hk0), hlt⟩
    · rw [h] at hk0
      injection hk0 with hk0
      exact ⟨.inr (by omega), hlt⟩
  have hfr : Frm (orow ad cap e i.size f l).foot w w' := Frm.of_grown hgrow
  have hgo : Goes (okM M I) (okM M (I.set j (orow ad' cap' e i.size f (l ++ l2)))) w w' := Goes.upd hk.own hj hfr hfoot
  have hk2 : S M w0 a w' n (I.set j (orow ad' cap' e i.size f (l ++ l2))) σ Df := by
    refine hk.upd hj hfr ⟨hsz, vals ++ news, by rw [List.length_append]; rw [List.length_append] at hown'; exact hown', ?_⟩ hfoot
    rw [List.map_append, List.flatten_append]
    exact (RepL.go hgo _ _ hL).append (RepL.go hgo _ _ hnews)
  rw [hI] at hk2
  exact leff hk rfl rfl hn hf hrun hk2 (rep_lit rfl) fun a' hk3 => h ad' cap' a' w' hk3

/-- A literal's elements, one behind the other. -/
def partsOk (sz : Nat) : Nat → List (Nat × AV) → Bool
  | _, [] => true
  | k, (i, x) :: r => Nat.beq i k && Nat.beq (cellsA x).length sz && wholeA x && partsOk sz (k + 1) r
theorem fill_parts {ok : Nat → Prop} {sz N : Nat} : ∀ {parts : List (Nat × AV)} {vals : List (Nat × Value)} {k : Nat} {cells : Array Value}, RepParts ok w parts vals → partsOk sz k parts = true → (k + parts.length) * sz = N → cells.size = N →
    ∃ arr, Instr.fill (fun i => some (i * sz, sz)) cells vals = some arr ∧ arr.size = N ∧ ∃ us, arr.toList = cells.toList.take (k * sz) ++ us ∧ RepL ok w (parts.map fun p => cellsA p.2).flatten us ∧ ∀ u ∈ us, u.oneCell' = true
  | [], _, k, cells, hp, hb, hN, hc => by
    cases hp
    refine ⟨cells, rfl, hc, [], ?_, by simpa using repL_nil, by simp⟩
    rw [List.append_nil, List.take_of_length_le]
    simp only [List.length_nil, Nat.add_zero] at hN
    simp [hc, hN]
  | (i, x) :: r, _, k, cells, hp, hb, hN, hc => by
    cases hp with
    | cons hx ht =>
    rename_i v vs
    simp only [partsOk, Bool.and_eq_true] at hb
    obtain ⟨⟨⟨h1, h2⟩, h3⟩, h4⟩ := hb
    have h1 : i = k := Nat.eq_of_beq_eq_true h1
    have h2 : (cellsA x).length = sz := Nat.eq_of_beq_eq_true h2
    subst h1
    obtain ⟨hL, h1c⟩ := rep_cells hx h3
    have hvl : v.cells.size = sz := by rw [← h2, ← hL.length]; simp
    have hle : i * sz + sz ≤ cells.size := by
      rw [hc, ← hN, List.length_cons, ← Nat.succ_mul]
      exact Nat.mul_le_mul_right _ (by omega)
    have hput : ((v.cells.zipIdx.foldl (fun cs (p : Value × Nat) => cs.setIfInBounds (i * sz + p.2) p.1) cells)).toList = cells.toList.take (i * sz) ++ v.cells.toList ++ cells.toList.drop (i * sz + v.cells.toList.length) := by
      have h0 := foldl_put v.cells.toList 0 (i * sz) cells (by simp; omega)
      rw [← Array.foldl_toList, Array.toList_zipIdx]
      simpa using h0
    have hsize : (v.cells.zipIdx.foldl (fun cs (p : Value × Nat) => cs.setIfInBounds (i * sz + p.2) p.1) cells).size = N := by
      rw [← Array.length_toList, hput]
      simp
      omega
    obtain ⟨arr, ha, has, us, hus, hR, hone⟩ := fill_parts (sz := sz) (N := N) (k := i + 1) ht h4 (by rw [← hN, List.length_cons]; congr 1; omega) hsize
    refine ⟨arr, ?_, has, v.cells.toList ++ us, ?_, ?_, ?_⟩
    · rw [Instr.fill]
      simp only
      rw [if_neg]
      · exact ha
      · simp [hvl]; omega
    · rw [hus, hput, ← List.append_assoc]
      congr 1
      have hlen : (List.take (i * sz) cells.toList ++ v.cells.toList).length = (i + 1) * sz := by
        rw [List.length_append, List.length_take, Array.length_toList, Array.length_toList, hvl, Nat.succ_mul]; omega
      rw [← hlen, List.take_left]
    · rw [List.map_cons, List.flatten_cons]
      exact hL.append hR
    · intro u hu
      rcases List.mem_append.1 hu with hu | hu
      · exact h1c u hu
      · exact hone u hu
/-- A literal of a slice. -/
theorem l_buildSlice {t : TypeId} {ps : List (Nat × Operand)} {xs : List (Nat × AV)} {N : Nat} (hk : S M w0 a w n I σ Df) (hn : Nat.blt d n = true) (hf : chFree σ d = true) (hx : partsA σ [] ps = some xs) (ht : P.underlying t = some (.slice e))
    (hi : (P.info? e).map (fun i => (i.zero.isSome, i.size)) = some (true, sz)) (hb : partsOk sz 0 xs = true) (hN : Nat.beq xs.length N = true) (hsm : (Nat.blt 0 (N * sz) && Nat.ble (N * sz) 16777216 && Nat.ble N 16777216) = true)
    (hsz : ∀ x, (f x).length = sz) (hl : (xs.map fun p => cellsA p.2) = l.map f)
    (h : ∀ b a' w', S M w0 a' w' n (orow (some ⟨b, 0, none⟩) N e sz f l :: I) ((d, [], .lit (.slice (some ⟨b, 0, none⟩) l.length N)) :: σ) Df → wpList P ops Q rest a' w') :
    wpList P ops Q (⟨some d, .buildSlice t N ps.toArray, ty, pos, aft, none⟩ :: rest) a w := by
  have hlN : l.length = N := by
    have := congrArg List.length hl
    simp only [List.length_map] at this
    rw [← this]
    exact Nat.eq_of_beq_eq_true hN
  obtain ⟨i, hinf, hi'⟩ := Option.map_eq_some_iff.1 hi
  simp only [Prod.mk.injEq] at hi'
  obtain ⟨hz0, his⟩ := hi'
  obtain ⟨z, hz⟩ := Option.isSome_iff_exists.1 hz0
  subst his
  simp only [Bool.and_eq_true] at hsm
  obtain ⟨⟨hpos, hsm⟩, hsm2⟩ := hsm
  have hpos : 0 < N * i.size := Nat.le_of_ble_eq_true hpos
  have hsm : N * i.size ≤ 16777216 := Nat.le_of_ble_eq_true hsm
  have hsm2 : N ≤ 16777216 := Nat.le_of_ble_eq_true hsm2
  have hxl : xs.length = N := Nat.eq_of_beq_eq_true hN
  obtain ⟨arr, harr, hars, us, hus, hR, hone⟩ := fill_parts (w := w) (sz := i.size) (N := N * i.size) (k := 0) (cells := (Array.range (N * i.size)).map (z.cells[· % z.cells.size]!)) (rep_parts hk.kn (holds_nil a) hx) hb (by rw [hxl, Nat.zero_add]) (by simp)
  simp only [Nat.zero_mul, List.take_zero, List.nil_append] at hus
  have hr : (execOp a.eval ⟨some d, .buildSlice t N ps.toArray, ty, pos, aft, none⟩).run P w = .ok (.value (.slice (some ⟨w.heap.size, 0, none⟩) l.length N)) (w.alloc (.cells arr e)) := by
    simp only [execOp, Sem.run_bind]
    rw [run_buildSlice w t e N _ arr i z ht hinf hz (by omega) (by omega) (by simpa using harr)]
    simp [hlN]
  have hlen : us.length = l.length * i.size := by
    rw [← hus, Array.length_toList, hars, hlN]
  refine leff hk rfl rfl hn hf hr ?_ (rep_lit rfl) (fun a' hk' => h w.heap.size a' _ hk')
  refine hk.push (New.alloc w _) ⟨hsz, us, ⟨hlen, .inr ⟨w.heap.size, N, arr, rfl, Nat.zero_le _, heap_alloc_new w _, by omega, by unfold maxLen; omega, hars, by rw [hus, ← hlen, List.take_length]⟩⟩, ?_⟩ ?_
  · rw [← hl]
    exact RepL.go (Goes.push (New.alloc w _) (fun k hk' => by
      have hk0 : Value.ownBlock (.slice (some ⟨w.heap.size, 0, none⟩) l.length N) = some k := hk'
      simp only [Value.ownBlock, Option.some.injEq] at hk0
      subst hk0; simp)) _ _ hR
  · intro k hk'
    have hk0 : Value.ownBlock (.slice (some ⟨w.heap.size, 0, none⟩) l.length N) = some k := hk'
    simp only [Value.ownBlock, Option.some.injEq] at hk0
    subst hk0; simp
theorem l_buildSlice0 {t : TypeId} (hk : S M w0 a w n I σ Df) (hn : Nat.blt d n = true) (hf : chFree σ d = true) (ht : P.underlying t = some (.slice e)) (hi : (P.info? e).map (fun i => i.size) = some sz) (hsz : ∀ x : α, (f x).length = sz)
    (h : ∀ b a' w', S M w0 a' w' n (orow (some ⟨b, 0, none⟩) 0 e sz f ([] : List α) :: I) ((d, [], .lit (.slice (some ⟨b, 0, none⟩) ([] : List α).length 0)) :: σ) Df → wpList P ops Q rest a' w') :
    wpList P ops Q (⟨some d, .buildSlice t 0 #[], ty, pos, aft, none⟩ :: rest) a w := by
  obtain ⟨i, hinf, his⟩ := Option.map_eq_some_iff.1 hi
  subst his
  have hr : (execOp a.eval ⟨some d, .buildSlice t 0 #[], ty, pos, aft, none⟩).run P w = .ok (.value (.slice (some ⟨w.heap.size, 0, none⟩) 0 0)) (w.alloc (.cells #[] e)) := by
    simp [execOp, Instr.buildSlice, run_underlying ht, sizeOf, typeInfo, hinf, Instr.fill, newRow]
    congr 2
    apply Array.ext'
    simp
  refine leff hk rfl rfl hn hf hr ?_ (rep_lit rfl) (fun a' hk' => h w.heap.size a' _ hk')
  refine hk.push (New.alloc w _) ⟨hsz, [], ⟨by simp, .inr ⟨w.heap.size, 0, #[], rfl, Nat.zero_le _, heap_alloc_new w _, by simp, by unfold maxLen; omega, by simp, by simp⟩⟩, by simpa using repL_nil⟩ ?_
  intro k hk'
  have hk0 : Value.ownBlock (.slice (some ⟨w.heap.size, 0, none⟩) 0 0) = some k := hk'
  simp only [Value.ownBlock, Option.some.injEq] at hk0
  subst hk0; simp
theorem conv_bytes {ok : Nat → Prop} {l : List Int} {v : Value} {s t e : TypeId} (h : Rep ok w (.row (l.map fun x => [.lit (.int .u8 x)])) v) (hs : P.underlying s = some (.slice e)) (he : P.underlying e = some (.int .u8)) (ht : P.underlying t = some .string) :
    (convert s t v).run P w = .ok (.string (B (toB l))) w := by
  simp only [Rep] at h
  obtain ⟨a', cp, hv, hle, hx⟩ := h
  rw [List.length_map] at hv hle
  have e1 : (strOfNums l) = B (toB l) := by
    apply ByteArray.ext
    apply Array.ext'
    rw [strOfNums_data]; simp [B, toB]
  have hcells : ∀ b off cs el fr, w.heap[b]? = some (.cells cs el fr) → RepR ok w (l.map fun x => [.lit (.int .u8 x)]) (cs.toList.drop off) → ∀ i, i < l.length → w.cell? ⟨b, off + i, none⟩ = some (.int .u8 (l.getD i 0)) := by
    intro b off cs el fr hh hR i hi
    have hg : (l.map fun x => [AV.lit (.int .u8 x)])[i]? = some [.lit (.int .u8 (l.getD i 0))] := by simp [hi, List.getD_eq_getElem?_getD]
    have h2 := RepR.at hR (sz := 1) (by intro x hx; obtain ⟨y, _, rfl⟩ := List.mem_map.1 hx; rfl) hg
    simp only [RepP] at h2
    obtain ⟨v', r, h3, h4, _⟩ := h2
    simp only [Rep] at h4
    subst h4
    rw [cell_of_row w b (off + i) cs el fr hh]
    have : (cs.toList.drop off).drop (i * 1) = .int .u8 (l.getD i 0) :: r := h3
    rw [List.drop_drop, Nat.mul_one] at this
    have h5 : (cs.toList.drop (off + i))[0]? = some (.int .u8 (l.getD i 0)) := by rw [this]; rfl
    simpa using h5
  by_cases hl : l = []
  · subst hl
    subst hv
    cases a' with
    | none => rw [run_convert_bytes_nil w s e hs he _ _ t ht]; rfl
    | some a'' =>
      obtain ⟨b, off, spot⟩ := a''
      rw [run_convert_bytes_string w s t e _ _ _ hs he ht]
      have h0 : (loadCells ⟨b, off, spot⟩ 0).run P w = .ok #[] w := by simp [loadCells, loadCellsFrom]
      have := run_bytesToString (P := P) w ⟨b, off, spot⟩ 0 cp [] (by simpa using h0)
      exact this
  · have hne : ¬ (l.map fun x => [AV.lit (.int .u8 x)]) = [] := by simpa using hl
    obtain ⟨b, off, cs, e2, fr, rfl, hb, hh, hR⟩ := hx.resolve_left hne
    subst hv
    rw [run_convert_bytes_arg w s e hs he b off l.length cp l rfl (hcells b off cs e2 fr hh hR) t ht, e1]
theorem f_toB {s t : TypeId} {l : List Int} (hk : S M w0 a w n I σ Df) (hc : holds a c) (hx : opvc σ c x = some (.row (l.map fun x => [.lit (.int .u8 x)]))) (hs : P.underlying s = some (.slice e)) (he : P.underlying e = some (.int .u8)) (ht : P.underlying t = some .string) :
    Fun P (okM M I) ⟨dst, .convert s t x, ty, pos, aft, g⟩ a w (.lit (.string (B (toB l)))) :=
  .inl ⟨_, w, by simp only [execOp, Sem.run_bind, conv_bytes (hk.kn.rep hc hx) hs he ht, Result.andThen_ok, Sem.run_pure], New.refl w, rep_lit rfl⟩
theorem f_toBown {s t : TypeId} {l : List Int} {ad : Option Addr} {cap : Nat} {f : Int → List AV} (hf : f = fun x => [.lit (.int .u8 x)]) (hk : S M w0 a w n I σ Df) (hc : holds a c) (hj : I[j]? = some (orow ad cap e sz f l)) (hx : opvc σ c x = some (.lit (.slice ad l.length cap))) (hs : P.underlying s = some (.slice e)) (he : P.underlying e = some (.int .u8)) (ht : P.underlying t = some .string) :
    Fun P (okM M I) ⟨dst, .convert s t x, ty, pos, aft, g⟩ a w (.lit (.string (B (toB l)))) := by
  subst hf
  have hr : Rep (fun _ => True) w (.row (l.map fun x => [.lit (.int .u8 x)])) (.slice ad l.length cap) := by
    refine orow_rep ((orow ad cap e sz (fun x => [.lit (.int .u8 x)]) l).stable (ok := okM M I) (ok' := fun _ => True) (w := w) (fun b _ _ => ⟨trivial, rfl⟩) (Nat.le_refl _) (fun k hk' => (hk.own.lt hj hk').2) (fun _ _ => rfl) (hk.own.get hj)) (fun _ _ => trivial)
  exact .inl ⟨_, w, by simp only [execOp, hk.kn.val hc hx, Sem.run_bind, conv_bytes hr hs he ht, Result.andThen_ok, Sem.run_pure], New.refl w, rep_lit rfl⟩

theorem S.dropI {I' : List It} (hk : S M w0 a w n I σ Df) (j : Nat) (h : I.eraseIdx j = I') : S M w0 a w n I' σ Df := h ▸ hk.drop j
theorem S.freezeI {t : Nat} {I' : List It} (hk : S M w0 a w n I σ Df) (hj : I[j]? = some (orow ad cap e sz f l)) (hl : look σ t = some ([], .lit (.slice ad l.length cap))) (h : I.eraseIdx j = I') : S M w0 a w n I' ((t, [], .row (l.map f)) :: σ) Df := h ▸ hk.freezeSlot hj hl
theorem imm_src {R : List α → List (List AV)} {t e' : TypeId} (hk : S M w0 a w n I σ Df) (hR : ∀ l, R l = l.map f) (hy : opvc σ [] y = some (.row (R l))) (hsz : ∀ x, (f x).length = sz) (h1 : ∀ x, (f x).all oneA = true) (hu : P.underlying t = some (.slice e')) :
    ∃ news, Src P sz t (a.eval y) l.length news w ∧ RepL (okM M I) w (l.map f).flatten news := by
  rw [hR] at hy
  exact row_src (hk.kn.rep (holds_nil a) hy) hsz h1 hu
theorem own_src {t e' : TypeId} (hk : S M w0 a w n I σ Df) (hj : I[j]? = some (orow ad cap e sz f l)) (hy : opvc σ [] y = some (.lit (.slice ad l.length cap))) (h1 : ∀ x, (f x).all oneA = true) (hu : P.underlying t = some (.slice e')) :
    ∃ news, Src P sz t (a.eval y) l.length news w ∧ RepL (okM M I) w (l.map f).flatten news := by
  obtain ⟨hsz, vals, hown, hL⟩ := hk.own.get hj
  rw [hk.kn.val (holds_nil a) hy]
  have hone : ((l.map f).flatten).all oneA = true := by
    rw [List.all_eq_true]
    intro y hy
    obtain ⟨z, hz, hyz⟩ := List.mem_flatten.1 hy
    obtain ⟨q, _, rfl⟩ := List.mem_map.1 hz
    have := h1 q
    rw [List.all_eq_true] at this
    exact this y hyz
  rcases hown.2 with ⟨hv, hn⟩ | ⟨g, cp, cur, hv, _⟩
  · have hl0 : l = [] := List.eq_nil_of_length_eq_zero hn
    subst hl0
    have hv' : vals = [] := List.eq_nil_of_length_eq_zero (by simpa using hown.1)
    subst hv'
    rw [hv]
    exact ⟨[], Src.ofNil w hu 0, by simpa using repL_nil⟩
  · refine ⟨vals, ?_, hL⟩
    have hc := hown.cells (g := g) (by rw [hv]; rfl)
    injection hv with h3 h4 h5
    subst h3
    exact Src.ofSlice w hu ⟨g, 0, none⟩ l.length cap vals hown.1 hc (repL_one hL hone)
theorem bytes_flat {ok : Nat → Prop} : ∀ (s : List UInt8), RepL ok w ((bytesI s).map fun x => [AV.lit (.int .u8 x)]).flatten (s.map fun b => Value.int .u8 b.toNat)
  | [] => by simpa [bytesI] using repL_nil
  | b :: s => by
    simp only [bytesI, List.map_cons, List.flatten_cons, List.singleton_append]
    exact repL_cons (rep_lit rfl) (by simpa [bytesI] using bytes_flat s)
theorem str_src {s : List UInt8} {t : TypeId} {f : Int → List AV} (hf : f = fun x => [.lit (.int .u8 x)]) (hk : S M w0 a w n I σ Df) (hy : opvc σ [] y = some (.lit (.string (B s)))) (hu : P.underlying t = some .string) :
    ∃ news, Src P 1 t (a.eval y) (bytesI s).length news w ∧ RepL (okM M I) w ((bytesI s).map f).flatten news := by
  subst hf
  rw [hk.kn.val (holds_nil a) hy]
  refine ⟨byteCells (B s), ?_, by simpa [byteCells, B] using bytes_flat s⟩
  have := lit_src (P := P) (w := w) (s := s) hu
  simpa [bytesI] using this
end
end Go.Proofs.Ytaoffkhflmndhaa.FW
