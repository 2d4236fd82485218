/- Contracts of strings.Builder's methods, the builder an item of a call's own memory. -/
import Derived.Test.YtbjbgodcenopnaaAvRow
import Derived.Test.YtbjbgodcenopnaaProg
import Derived.Test.YtbjbgodcenopnaaShelf
import Derived.WalkKit
import Derived.Lib.Builder
import Derived.Lib.AppendStr
import Derived.Lib.UnsafeStr
import Derived.Laws.Externs
import Derived.KernelRfl
import Derived.Lib.Hide
namespace Go.Proofs.Ytbjbgodcenopnaa
variable {Df : List Deferred}
open Go.RowKit
set_option linter.unusedSimpArgs false
set_option linter.unusedVariables false

section
variable {P : Program} (w : World)
theorem run_append_string_at (base : Nat) (t u ty e : TypeId) (i : TypeInfo) (ht : P.underlying t = some (.slice e)) (hu : P.underlying u = some .string) (hi : P.info? e = some i) (hz : i.zero = some (.int .u8 0))
    (hsize : i.size = 1) (hby : i.bytes = 1)
    (v : Value) (n : Nat) (xs : List Value) (hown : w.ownsRow base e 1 v n xs) (s : ByteArray)
    (h63 : n + s.size ≤ maxLen) (hbytes : n + s.size ≤ 140737488355328) (hbase : base ≤ w.heap.size) :
    ∃ v' w', (Builtin.append_ #[t, u] ty #[v, .string s]).run P w = .ok v' w' ∧ w'.ownsRow base e 1 v' (n + s.size) (xs ++ Lib.strCells s) ∧ w.grownBy w' v.ownBlock ∧
      (v'.ownBlock = v.ownBlock ∨ v'.ownBlock = some w.heap.size) := by
  have hsmall : n + s.size ≤ 9223372036854775807 := by simp only [maxLen] at h63; omega
  have hxl : xs.length = n := by simpa using hown.1
  have hlen : (xs ++ Lib.strCells s).length = (n + s.size) * 1 := by rw [List.length_append, hxl, Lib.strCells_length, Nat.mul_one]
  have grown : ∀ (old : Nat), old < n + s.size → ∀ (row : Option Nat),
      (w.drew.alloc (.cells (xs.toArray ++ (Lib.strCells s).toArray ++ Builtin.zeroCells (Value.int .u8 0).cells (grownCap w (n + s.size) old e - (n + s.size))) e)).ownsRow base e 1
        (.slice (some ⟨w.heap.size, 0, none⟩) (n + s.size) (grownCap w (n + s.size) old e)) (n + s.size) (xs ++ Lib.strCells s) ∧
      w.grownBy (w.drew.alloc (.cells (xs.toArray ++ (Lib.strCells s).toArray ++ Builtin.zeroCells (Value.int .u8 0).cells (grownCap w (n + s.size) old e - (n + s.size))) e)) row := by
    intro old ho row
    have hge := grownCap_ge w (n + s.size) old e
    have hcm : grownCap w (n + s.size) old e ≤ maxLen := grownCap_le_maxLen w (n + s.size) old e h63
    refine ⟨⟨hlen, .inr ⟨w.heap.size, _, _, rfl, hbase, heap_alloc_new w.drew _, hge, hcm, ?_, ?_⟩⟩, ⟨rfl, rfl, rfl, by simp, fun k hk _ => Lib.alloc_old w.drew _ k hk⟩⟩
    · have hz1 : (Value.int IntKind.u8 0).cells.size = 1 := rfl
      simp only [Array.size_append, List.size_toArray, size_zeroCells, hz1, hxl, Lib.strCells_length]
      omega
    · simp only [Array.toList_append, List.append_assoc]
      rw [← List.append_assoc, ← hlen]
      exact List.take_left
  rcases hown.2 with ⟨rfl, rfl⟩ | ⟨g, cap, cur, rfl, hbg, hg, hnc, hcm, hcs, htake⟩
  · have hx : xs = [] := List.eq_nil_of_length_eq_zero hxl
    subst hx
    by_cases hm : s.size = 0
    · have hn : Lib.strCells s = [] := List.eq_nil_of_length_eq_zero (by rw [Lib.strCells_length]; exact hm)
      refine ⟨.slice none 0 0, w, ?_, by rw [hm, hn]; exact World.ownsRow_nil w base e 1, ⟨rfl, rfl, rfl, Nat.le_refl _, fun _ _ _ => rfl⟩, Or.inl rfl⟩
      have hf := Lib.run_firstCells_string (P := P) w 1 s
      rw [hm] at hf
      simp [Builtin.append_, run_underlying ht, run_underlying hu, sizeOf, typeInfo, hi, hsize, Builtin.lenOf, hm, hf]
    · have hr := run_append_nil_string (P := P) w t u ty e i (.int .u8 0) ht hu hi hz s (by omega) (by omega) (by rw [hby]; omega)
      have hgr := grown 0 (by omega) (Value.ownBlock (.slice none 0 0))
      simp only [Nat.zero_add, List.nil_append, Array.empty_append] at hgr ⊢
      have e1 : (s.data.map fun b => Value.int .u8 b.toNat) = (Lib.strCells s).toArray := by
        apply Array.ext'
        simp [Lib.strCells]
      rw [e1] at hr
      exact ⟨_, _, hr, hgr.1, hgr.2, Or.inr rfl⟩
  · by_cases hroom : n + s.size ≤ cap
    · have hcs' : cur.size = cap := by simpa using hcs
      have hr := Lib.run_append_room_string (P := P) w t u ty e i ht hu hi hsize g n cap cur hg s hroom (by omega)
      refine ⟨_, _, hr, ⟨hlen, .inr ⟨g, cap, _, rfl, hbg, setRow_heap w g cur _ e _ hg, hroom, hcm, ?_, ?_⟩⟩, ⟨rfl, rfl, rfl, by simp, fun k _ hk => setRow_other w g k _ (fun e => hk (by simp [Value.ownBlock, e]))⟩, Or.inl rfl⟩
      · simp only [List.size_toArray, List.length_append, List.length_take, List.length_drop, Array.length_toList, Lib.strCells_length]
        omega
      · have ht' : cur.toList.take n = xs := by simpa using htake
        rw [ht', ← hlen]
        exact List.take_left
    · have holds : ∀ j u, xs[j]? = some u → w.cell? ((⟨g, 0, none⟩ : Addr).add j) = some u := hown.cells (g := g) rfl
      have hr := Lib.run_append_grow_string (P := P) w t u ty e i (.int .u8 0) ht hu hi hz ⟨g, 0, none⟩ n cap xs (by rw [hsize]; simpa using hxl) holds s (by omega) (by omega) (by rw [hby]; exact growslice_fits (by omega) (by omega))
      have hgr := grown cap (by omega) (Value.ownBlock (.slice (some ⟨g, 0, none⟩) n cap))
      exact ⟨_, _, hr, hgr.1, hgr.2, Or.inr rfl⟩

end

theorem bld_info : (Try.prog.info? 106).map (fun i => i.size) = some 2 := by kernel_rfl
theorem bld_lies : liesAt Try.prog Try.prog.depth 106 (2 / Try.prog.cellsOf 106) 0 106 1 = true := by kernel_rfl
theorem u8_info : (Try.prog.info? 5).map (fun i => (i.zero, i.size, i.bytes)) = some (some (.int .u8 0), 1, 1) := by kernel_rfl

set_option maxHeartbeats 1000000 in
set_option maxRecDepth 100000 in
theorem bld_copyCheck_used (b : Nat) (w : World) (h0 : w.cell? ⟨b, 0, none⟩ = some (.pointer (some ⟨b, 0, none⟩))) :
    Calls Try.prog 84 #[.pointer (some ⟨b, 0, none⟩)] w fun e w' => e = .returned (.tuple #[]) ∧ w' = w := by
  obtain ⟨j, hj, _⟩ := Option.map_eq_some_iff.1 bld_info
  go_enter Try.func84, Try.ntmps84
  go_wp2
  rw [Lib.run_neq_ptr_same w _ Try.underlying104 hj]
  go_wp2
  go_end0
  exact ⟨rfl, rfl⟩

set_option maxHeartbeats 1000000 in
set_option maxRecDepth 100000 in
theorem bld_copyCheck_fresh (b : Nat) (w : World) (h0 : w.cell? ⟨b, 0, none⟩ = some (.pointer none)) (hsh : w.shape? b = some (106, 2)) (hfz : w.frozen? ⟨b, 0, none⟩ = false) :
    Calls Try.prog 84 #[.pointer (some ⟨b, 0, none⟩)] w fun e w' => e = .returned (.tuple #[]) ∧ w' = w.setCell ⟨b, 0, none⟩ (.pointer (some ⟨b, 0, none⟩)) := by
  obtain ⟨j, hj, hjs⟩ := Option.map_eq_some_iff.1 bld_info
  go_enter Try.func84, Try.ntmps84
  go_wp2
  rw [Lib.run_to_unsafe w ⟨b, 0, none⟩ Try.underlying104 Try.underlying164 hj (by rw [hjs]; decide) hsh (Nat.zero_lt_succ 1)]
  simp only [Result.andThen]
  rw [Oper.upon_value]
  go_wp2
  rw [run_callFunc_extern Try.func114 (by kernel_rfl) (by kernel_rfl) (by kernel_rfl) (e := Extern.AbiNoEscape.same) (by kernel_rfl)]
  rw [Lib.run_noEscape]
  simp only [Result.andThen]
  rw [Oper.upon_value]
  go_wp2
  rw [Lib.run_from_unsafe w ⟨b, 0, none⟩ Try.underlying164 Try.underlying104 hj hsh bld_lies]
  simp only [Result.andThen]
  rw [Oper.upon_value]
  go_wp2
  go_end0
  exact ⟨rfl, rfl⟩

/-- A builder in block b, its buffer v, that holds these bytes. -/
def BldP (Bz b : Nat) (v : Value) (l : List UInt8) (w : World) : Prop :=
  ∃ p, (p = Option.none ∨ p = some (⟨b, 0, none⟩ : Addr)) ∧ w.heap[b]? = some (.cells #[.pointer p, v] 106 (0, 0)) ∧ w.ownsRow Bz 5 1 v l.length (Lib.byteCells l) ∧ v.ownBlock ≠ some b
theorem stable_row (B : Nat) (e : TypeId) (size : Nat) (v : Value) (n : Nat) (xs : List Value) (w w' : World) (h3 : ∀ k, v.ownBlock = some k → w'.heap[k]? = w.heap[k]?) (h : w.ownsRow B e size v n xs) : w'.ownsRow B e size v n xs := by
  obtain ⟨h4, h5⟩ := h
  refine ⟨h4, ?_⟩
  rcases h5 with h5 | ⟨g, cap, cur, hv, hb, hh, hr⟩
  · exact .inl h5
  · refine .inr ⟨g, cap, cur, hv, hb, ?_, hr⟩
    rw [h3 g (by rw [hv]; rfl)]
    exact hh
def bldI (Bz b : Nat) (v : Value) (l : List UInt8) : FW.It where
  foot := fun k => k = b ∨ v.ownBlock = some k
  P := fun _ w => BldP Bz b v l w ∧ Bz ≤ b
  stable := by
    rintro ok ok' w w' _ h1 h2 h3 ⟨⟨p, hp, hb, ho, hne⟩, hBz⟩
    refine ⟨?_, hBz⟩
    exact ⟨p, hp, (h3 b (.inl rfl)).trans hb, stable_row Bz 5 1 v l.length (Lib.byteCells l) w w' (fun k hk => h3 k (.inr hk)) ho, hne⟩

theorem bld_copyCheckO (b : Nat) (p : Option Addr) (v : Value) (w : World) (hp : p = Option.none ∨ p = some ⟨b, 0, none⟩) (hb : w.heap[b]? = some (.cells #[.pointer p, v] 106 (0, 0))) :
    Calls Try.prog 84 #[.pointer (some ⟨b, 0, none⟩)] w fun e w' => e = .returned (.tuple #[]) ∧ (w'.heap[b]? = some (.cells #[.pointer (some ⟨b, 0, none⟩), v] 106 (0, 0)) ∧ FW.Frm (fun k => k = b) w w') := by
  have c0 : w.cell? ⟨b, 0, none⟩ = some (.pointer p) := by rw [Lib.cell_of_heap hb]; rfl
  rcases hp with rfl | rfl
  · refine (bld_copyCheck_fresh b w c0 (by simp [World.shape?, hb]) (by simp [World.frozen?, hb])).mono ?_
    rintro e w' ⟨rfl, rfl⟩
    refine ⟨rfl, ?_, FW.Frm.setCell w ⟨b, 0, none⟩ _⟩
    simp [World.setCell, Array.getElem?_modify, hb]
  · refine (bld_copyCheck_used b w c0).mono ?_
    rintro e w' ⟨rfl, rfl⟩
    exact ⟨rfl, hb, FW.Frm.refl _ _⟩

/-- What a write leaves. -/
def Wrote (Bz b : Nat) (v : Value) (l : List UInt8) (w w' : World) : Prop :=
  ∃ v', BldP Bz b v' l w' ∧ FW.Frm (fun k => k = b ∨ v.ownBlock = some k) w w' ∧ ∀ k, v'.ownBlock = some k → (v.ownBlock = some k ∨ w.heap.size ≤ k) ∧ k < w'.heap.size
theorem Wrote.own {M : Nat → Prop} {Bz b n : Nat} {v : Value} {l l' : List UInt8} {w0 : FW.Bs} {w w' : World} {a : Act} {σ : FW.St} {I : List FW.It} {j : Nat} (h : Wrote Bz b v l' w w') (hk : FW.S M w0 a w n I σ Df) (hj : I[j]? = some (bldI Bz b v l)) : ∃ v', FW.S M w0 a w' n (I.set j (bldI Bz b v' l')) σ Df := by
  obtain ⟨v', h1, h2, h3⟩ := h
  refine ⟨v', hk.upd hj h2 ⟨h1, (hk.own.get hj).2⟩ ?_⟩
  rintro k (rfl | hk')
  · exact ⟨.inl (.inl rfl), Nat.lt_of_lt_of_le (hk.own.lt hj (.inl rfl)).2 h2.size⟩
  · exact ⟨(h3 k hk').1.imp .inr id, (h3 k hk').2⟩

theorem put_bld {Bz b : Nat} {v v' : Value} {l : List UInt8} {w2 : World} (hb : w2.heap[b]? = some (.cells #[.pointer (some ⟨b, 0, none⟩), v] 106 (0, 0))) (ho : w2.ownsRow Bz 5 1 v' l.length (Lib.byteCells l)) :
    BldP Bz b v' l (w2.setCell ⟨b, 1, none⟩ v') := by
  have hne := Lib.ownBlock_ne ho hb (by decide)
  refine ⟨some ⟨b, 0, none⟩, .inr rfl, ?_, ?_, hne⟩
  · simp [World.setCell, Array.getElem?_modify, hb]
  · exact ho.kept (row := some b) ⟨rfl, rfl, rfl, by simp [World.setCell], fun k _ hk => Below.heap_setCell _ _ _ _ (fun e => hk (by simp [e]))⟩ (Or.inr hne)

set_option maxHeartbeats 2000000 in
set_option maxRecDepth 100000 in
theorem bld_WriteByteW (Bz b : Nat) (v : Value) (l : List UInt8) (c : UInt8) (w : World) (h : BldP Bz b v l w) (hlen : l.length + 1 ≤ 140737488355328) (hBw : Bz ≤ w.heap.size) :
    Calls Try.prog 59 #[.pointer (some ⟨b, 0, none⟩), .int .u8 (c.toNat : Int)] w fun e w' => e = .returned .nilIface ∧ Wrote Bz b v (l ++ [c]) w w' := by
  obtain ⟨i0, hi, hz0, hz1, hz2⟩ := info_parts u8_info
  obtain ⟨p, hp, hbk, hown, hne⟩ := h
  have hblt : b < w.heap.size := by
    rcases Nat.lt_or_ge b w.heap.size with h' | h'
    · exact h'
    · simp [Array.getElem?_eq_none h'] at hbk
  go_enter Try.func59, Try.ntmps59
  go_wp2_with (go_at_call 84; refine (bld_copyCheckO b p v _ hp hbk).mono ?_)
  rintro e w1 ⟨rfl, hb1, hf1⟩
  have hown1 : w1.ownsRow Bz 5 1 v l.length (Lib.byteCells l) := stable_row Bz 5 1 v l.length (Lib.byteCells l) w w1 (fun k hk => hf1.block k (hown.lt k hk).2 (fun e => hne (by rw [hk, e]))) hown
  have c0 : w1.cell? ⟨b, 0, none⟩ = some (.pointer (some ⟨b, 0, none⟩)) := by rw [Lib.cell_of_heap hb1]; rfl
  have c1 : w1.cell? ⟨b, 1, none⟩ = some v := by rw [Lib.cell_of_heap hb1]; rfl
  have hsz := hf1.size
  go_wp2_with (at_builtin; refine wpList_append_own_at _ rfl _ _ 75 rfl Bz 5 i0 (.int .u8 0) 1 1 Try.underlying75 hi hz0 hz1 hz2 rfl (by decide) _ _ _ rfl (hown1.alloc _) ⟨w1.heap.size, 0, none⟩ 1 1 [.int .u8 (c.toNat : Int)] rfl rfl ?c1 ?c2 ?c3 ?c4 ?c5 ?_)
  case c1 =>
    intro j u hj
    match j, hj with
    | 0, hj => simp at hj; subst hj; simp [Addr.add]
  case c2 => intro u hu; simp at hu; subst hu; rfl
  case c3 => unfold maxLen; omega
  case c4 => omega
  case c5 => simp; omega
  intro v' w2 hown' hgrow _ hat
  have hb2 : w2.heap[b]? = some (.cells #[.pointer (some ⟨b, 0, none⟩), v] 106 (0, 0)) := by
    rw [hgrow.block b (by simp; omega) (fun e => hne e.symm), Lib.alloc_old w1 _ b (by omega)]
    exact hb1
  have d0 : w2.cell? ⟨b, 0, none⟩ = some (.pointer (some ⟨b, 0, none⟩)) := by rw [Lib.cell_of_heap hb2]; rfl
  have d1 : w2.cell? ⟨b, 1, none⟩ = some v := by rw [Lib.cell_of_heap hb2]; rfl
  have f1 : w2.frozen? ⟨b, 1, none⟩ = false := Lib.frozen_of_heap hb2 1
  have hlt2 := hown'.lt
  have hgs := hgrow.size
  have hfr : FW.Frm (fun k => k = b ∨ v.ownBlock = some k) w (w2.setCell ⟨b, 1, none⟩ v') :=
    FW.Frm.trans (FW.Frm.trans (FW.Frm.trans (N := fun k => k = b) hf1 (FW.New.alloc w1 _) (fun _ h => h) (fun _ _ h => h.elim)) (N := fun k => k = b ∨ v.ownBlock = some k) (FW.Frm.of_grown hgrow) (fun _ h => .inl h) (fun _ _ h => .inr h)) (FW.Frm.setCell w2 ⟨b, 1, none⟩ v') (fun _ h => h) (fun _ _ h => .inl h)
  have hv' : ∀ k, v'.ownBlock = some k → (v.ownBlock = some k ∨ w.heap.size ≤ k) ∧ k < (w2.setCell ⟨b, 1, none⟩ v').heap.size := by
    intro k hk
    refine ⟨?_, by have := (hlt2 k hk).2; simpa [World.setCell] using this⟩
    rcases hat with e | e
    · exact .inl (by rw [← e]; exact hk)
    · rw [e] at hk
      injection hk with hk
      right; have := hsz; have hs2 : (w1.alloc (.cells #[Value.int .u8 (c.toNat : Int)] 5)).heap.size = w1.heap.size + 1 := by simp
      omega
  have hout : BldP Bz b v' (l ++ [c]) (w2.setCell ⟨b, 1, none⟩ v') := put_bld hb2 (by simpa [Lib.byteCells] using hown')
  clear hgrow hat hlt2 hgs hown1 hown hf1 hsz hbk
  obtain ⟨g, cap, rfl⟩ : ∃ g cap, v' = .slice (some ⟨g, 0, none⟩) (l.length + 1) cap := by
    rcases hown'.2 with ⟨_, h0⟩ | ⟨g, cap, cur, hv, _⟩
    · omega
    · exact ⟨g, cap, hv⟩
  have HO := Lib.hid hout
  have HF := Lib.hid hfr
  have HV := Lib.hid hv'
  clear hout hfr hv' hown'
  go_wp2
  go_ret
  exact ⟨rfl, _, HO.out, HF.out, HV.out⟩

section
variable {P : Program} {w : World}
theorem wpList_append_string_at {ops : Array Oper} {rest : List Oper} {o : Oper} {a : Act} {Q : Exit → Act → World → Prop} (hgd : o.guard = none) (sl x : Operand) (t u : TypeId)
    (ho : o.op = .call { callee := .builtin .append, args := #[sl, x], argTypes := #[t, u] })
    (base : Nat) (e : TypeId) (i : TypeInfo) (ht : P.underlying t = some (.slice e)) (hu : P.underlying u = some .string) (hi : P.info? e = some i) (hz : i.zero = some (.int .u8 0))
    (hsize : i.size = 1) (hby : i.bytes = 1)
    (v : Value) (n : Nat) (xs : List Value) (hs : a.eval sl = v) (hown : w.ownsRow base e 1 v n xs) (s : ByteArray) (hx : a.eval x = .string s)
    (h63 : n + s.size ≤ maxLen) (hbytes : n + s.size ≤ 140737488355328) (hbase : base ≤ w.heap.size)
    (h : ∀ v' w', w'.ownsRow base e 1 v' (n + s.size) (xs ++ Lib.strCells s) → w.grownBy w' v.ownBlock → (v'.ownBlock = v.ownBlock ∨ v'.ownBlock = some w.heap.size) → wpList P ops Q rest (a.put o.dst v') w') : wpList P ops Q (o :: rest) a w := by
  refine wpList_plain hgd fun K hK => ?_
  obtain ⟨v', w', hr, h2, h3, h4⟩ := run_append_string_at (P := P) w base t u o.type e i ht hu hi hz hsize hby v n xs hown s h63 hbytes hbase
  unfold Oper.wp execOp
  simp only [ho, resolve, invoke, builtin, Sem.run_bind, Sem.run_pure, Result.andThen_ok, List.map_toArray, List.map_cons, List.map_nil, hs, hx, hr]
  exact hK _ _ (h v' w' h2 h3 h4)
end

set_option maxHeartbeats 2000000 in
set_option maxRecDepth 100000 in
theorem bld_WriteStringW (Bz b : Nat) (v : Value) (l : List UInt8) (s : List UInt8) (w : World) (h : BldP Bz b v l w) (hlen : l.length + s.length ≤ 140737488355328) (hBw : Bz ≤ w.heap.size) :
    Calls Try.prog 60 #[.pointer (some ⟨b, 0, none⟩), .string (FW.B s)] w fun e w' => e = .returned (.tuple #[.int .i64 (s.length : Int), .nilIface]) ∧ Wrote Bz b v (l ++ s) w w' := by
  obtain ⟨i0, hi, hz0, hz1, hz2⟩ := info_parts u8_info
  obtain ⟨p, hp, hbk, hown, hne⟩ := h
  have hblt : b < w.heap.size := by
    rcases Nat.lt_or_ge b w.heap.size with h' | h'
    · exact h'
    · simp [Array.getElem?_eq_none h'] at hbk
  go_enter Try.func60, Try.ntmps60
  go_wp2_with (go_at_call 84; refine (bld_copyCheckO b p v _ hp hbk).mono ?_)
  rintro e w1 ⟨rfl, hb1, hf1⟩
  have hown1 : w1.ownsRow Bz 5 1 v l.length (Lib.byteCells l) := stable_row Bz 5 1 v l.length (Lib.byteCells l) w w1 (fun k hk => hf1.block k (hown.lt k hk).2 (fun e => hne (by rw [hk, e]))) hown
  have c0 : w1.cell? ⟨b, 0, none⟩ = some (.pointer (some ⟨b, 0, none⟩)) := by rw [Lib.cell_of_heap hb1]; rfl
  have c1 : w1.cell? ⟨b, 1, none⟩ = some v := by rw [Lib.cell_of_heap hb1]; rfl
  have hsz := hf1.size
  go_wp2_with (at_builtin; refine wpList_append_string_at rfl _ _ 75 9 rfl Bz 5 i0 Try.underlying75 Try.underlying9 hi hz0 hz1 hz2 _ _ _ rfl hown1 (FW.B s) rfl ?c3 ?c4 ?c5 ?_)
  case c3 => rw [FW.B_size]; unfold maxLen; omega
  case c4 => rw [FW.B_size]; omega
  case c5 => omega
  intro v' w2 hown' hgrow hat
  have hb2 : w2.heap[b]? = some (.cells #[.pointer (some ⟨b, 0, none⟩), v] 106 (0, 0)) := by
    rw [hgrow.block b (by omega) (fun e => hne e.symm)]
    exact hb1
  have d0 : w2.cell? ⟨b, 0, none⟩ = some (.pointer (some ⟨b, 0, none⟩)) := by rw [Lib.cell_of_heap hb2]; rfl
  have d1 : w2.cell? ⟨b, 1, none⟩ = some v := by rw [Lib.cell_of_heap hb2]; rfl
  have f1 : w2.frozen? ⟨b, 1, none⟩ = false := Lib.frozen_of_heap hb2 1
  have hlt2 := hown'.lt
  have hgs := hgrow.size
  have hfr : FW.Frm (fun k => k = b ∨ v.ownBlock = some k) w (w2.setCell ⟨b, 1, none⟩ v') :=
    FW.Frm.trans (FW.Frm.trans hf1 (N := fun k => k = b ∨ v.ownBlock = some k) (FW.Frm.of_grown hgrow) (fun _ h => .inl h) (fun _ _ h => .inr h)) (FW.Frm.setCell w2 ⟨b, 1, none⟩ v') (fun _ h => h) (fun _ _ h => .inl h)
  have hv' : ∀ k, v'.ownBlock = some k → (v.ownBlock = some k ∨ w.heap.size ≤ k) ∧ k < (w2.setCell ⟨b, 1, none⟩ v').heap.size := by
    intro k hk
    refine ⟨?_, by have := (hlt2 k hk).2; simpa [World.setCell] using this⟩
    rcases hat with e | e
    · exact .inl (by rw [← e]; exact hk)
    · rw [e] at hk
      injection hk with hk
      right; omega
  have hout : BldP Bz b v' (l ++ s) (w2.setCell ⟨b, 1, none⟩ v') := put_bld hb2 (by simpa [Lib.byteCells, Lib.strCells, FW.B_size] using hown')
  clear hgrow hat hlt2 hgs hown1 hown hf1 hsz hbk
  obtain ⟨ao, n', cap, rfl⟩ : ∃ ao n' cap, v' = .slice ao n' cap := by
    rcases hown'.2 with ⟨hv, _⟩ | ⟨g, cap, cur, hv, _⟩
    · exact ⟨_, _, _, hv⟩
    · exact ⟨_, _, _, hv⟩
  have HO := Lib.hid hout
  have HF := Lib.hid hfr
  have HV := Lib.hid hv'
  clear hout hfr hv' hown'
  go_wp2
  go_ret2
  exact ⟨rfl, _, HO.out, HF.out, HV.out⟩

/-- The builder's string; the builder is let go. -/
theorem bld_StringW (Bz b : Nat) (v : Value) (l : List UInt8) (w : World) (h : BldP Bz b v l w) (hb : Bz ≤ b) (hBw : Bz ≤ w.heap.size) :
    Calls Try.prog 61 #[.pointer (some ⟨b, 0, none⟩)] w fun e w' => e = .returned (.string (FW.B l)) ∧ Below Bz w w' := by
  obtain ⟨p, hp, hbk, hown, hne⟩ := h
  refine Try.Builder_String_any Bz b l w ?_ hBw
  have hx : Lib.BuilderAt 106 5 Bz b (.pointer p) (Lib.byteCells l) w := ⟨hb, v, hbk, by rw [Lib.byteCells_length]; exact hown, hne⟩
  rcases hp with rfl | rfl
  · exact .inl hx
  · exact .inr hx
section
open FW
variable {M : Nat → Prop} {w0 : FW.Bs} {w : World} {a : Act} {n : Nat} {I : List It} {σ : St} {ty : TypeId} {pos : String} {aft : Array Edge} {x y : Operand} {ops : Array Oper} {Q : Exit → Act → World → Prop} {rest : List Oper} {d j b : Nat} {v : Value} {l : List UInt8} {tys : Array TypeId}

theorem l_bldNew (hk : S M w0 a w n I σ Df) (hn : Nat.blt d n = true) (hf : chFree σ d = true)
    (h : ∀ b a' w', S M w0 a' w' n (bldI w0.heap.size b (.slice none 0 0) [] :: I) ((d, [], .lit (.pointer (some ⟨b, 0, none⟩))) :: σ) Df → wpList Try.prog ops Q rest a' w') :
    wpList Try.prog ops Q (⟨some d, .alloc 106, ty, pos, aft, none⟩ :: rest) a w := by
  have hz : (Try.prog.info? 106).bind (·.zero) = some (.agg #[.pointer none, .slice none 0 0]) := by kernel_rfl
  obtain ⟨inf, hi, hz'⟩ := Option.bind_eq_some_iff.1 hz
  have hr : (execOp a.eval ⟨some d, .alloc 106, ty, pos, aft, none⟩).run Try.prog w = .ok (.value (.pointer (some ⟨w.heap.size, 0, none⟩))) (w.alloc (.cells #[.pointer none, .slice none 0 0] 106)) := by
    simp [execOp, Instr.alloc, zeroValue, typeInfo, hi, hz', newVar, newRow, Value.cells]
  refine leff hk rfl rfl hn hf hr ?_ (rep_lit rfl) (fun a' hk' => h _ _ _ hk')
  refine hk.push (New.alloc w _) ⟨⟨Option.none, .inl rfl, heap_alloc_new w _, World.ownsRow_nil _ _ _ _, by simp [Value.ownBlock]⟩, hk.own.frm.size⟩ ?_
  rintro k (rfl | hk')
  · simp
  · simp [Value.ownBlock] at hk'
theorem l_bldByte {c : Int} {I' : Value → List It} (hk : S M w0 a w n I σ Df) (hj : I[j]? = some (bldI w0.heap.size b v l)) (hn : Nat.blt d n = true) (hf : chFree σ d = true) (hx : opvc σ [] x = some (.lit (.pointer (some ⟨b, 0, none⟩)))) (hy : opvc σ [] y = some (.lit (.int .u8 c)))
    (hc : (0 ≤ c ∧ c < 256) ∧ l.length + 1 ≤ 140737488355328) (hI : ∀ v', I.set j (bldI w0.heap.size b v' (l ++ [UInt8.ofNat c.toNat])) = I' v')
    (h : ∀ v' a' w', S M w0 a' w' n (I' v') ((d, [], .lit .nilIface) :: σ) Df → wpList Try.prog ops Q rest a' w') :
    wpList Try.prog ops Q (⟨some d, .call { callee := .value (.func 59), args := #[x, y], argTypes := tys }, ty, pos, aft, none⟩ :: rest) a w := by
  have e1 : c = ((UInt8.ofNat c.toNat).toNat : Int) := by
    rw [UInt8.toNat_ofNat']
    omega
  have hc1 := bld_WriteByteW w0.heap.size b v l (UInt8.ofNat c.toNat) w (hk.own.get hj).1 hc.2 hk.own.frm.size
  rw [← e1] at hc1
  refine leffcall (R := fun u w' => u = .nilIface ∧ Wrote w0.heap.size b v (l ++ [UInt8.ofNat c.toNat]) w w') hk rfl rfl hn hf (run_call (f := .func 59) rfl (by simp [hk.kn.val (holds_nil a) hx, hk.kn.val (holds_nil a) hy]) Try.func59 rfl (by kernel_rfl)) (hc1.mono fun e w' ⟨he, hw⟩ => ⟨_, he, rfl, hw⟩) ?_
  rintro u w' ⟨rfl, hw⟩
  obtain ⟨v', hk'⟩ := Wrote.own hw hk hj
  rw [hI] at hk'
  exact ⟨_, .lit .nilIface, hk', rep_lit rfl, fun a' h' => h v' a' w' h'⟩
theorem l_bldStr {s : List UInt8} {I' : Value → List It} (hk : S M w0 a w n I σ Df) (hj : I[j]? = some (bldI w0.heap.size b v l)) (hn : Nat.blt d n = true) (hf : chFree σ d = true) (hx : opvc σ [] x = some (.lit (.pointer (some ⟨b, 0, none⟩)))) (hy : opvc σ [] y = some (.lit (.string (B s))))
    (hc : l.length + s.length ≤ 140737488355328) (hI : ∀ v', I.set j (bldI w0.heap.size b v' (l ++ s)) = I' v')
    (h : ∀ v' a' w', S M w0 a' w' n (I' v') ((d, [], .tup [.lit (.int .i64 (s.length : Int)), .lit .nilIface]) :: σ) Df → wpList Try.prog ops Q rest a' w') :
    wpList Try.prog ops Q (⟨some d, .call { callee := .value (.func 60), args := #[x, y], argTypes := tys }, ty, pos, aft, none⟩ :: rest) a w := by
  have hc1 := bld_WriteStringW w0.heap.size b v l s w (hk.own.get hj).1 hc hk.own.frm.size
  refine leffcall (R := fun u w' => u = .tuple #[.int .i64 (s.length : Int), .nilIface] ∧ Wrote w0.heap.size b v (l ++ s) w w') hk rfl rfl hn hf (run_call (f := .func 60) rfl (by simp [hk.kn.val (holds_nil a) hx, hk.kn.val (holds_nil a) hy]) Try.func60 rfl (by kernel_rfl)) (hc1.mono fun e w' ⟨he, hw⟩ => ⟨_, he, rfl, hw⟩) ?_
  rintro u w' ⟨rfl, hw⟩
  obtain ⟨v', hk'⟩ := Wrote.own hw hk hj
  rw [hI] at hk'
  exact ⟨_, .tup [.lit (.int .i64 (s.length : Int)), .lit .nilIface], hk', by simp [Rep, RepL], fun a' h' => h v' a' w' h'⟩
/-- What is known whatever the memory is. -/
def isLit : AV → Bool
  | .lit _ => true
  | _ => false
/-- The builder's text; of the memory of its own nothing is known behind that. -/
theorem l_bldString {σ' : St} (hk : S M w0 a w n I σ Df) (hj : I[j]? = some (bldI w0.heap.size b v l)) (hn : Nat.blt d n = true) (hf : chFree σ' d = true) (hx : opvc σ [] x = some (.lit (.pointer (some ⟨b, 0, none⟩)))) (hs : Among σ σ') (hl : (σ'.all fun e => isLit e.2.2) = true)
    (h : ∀ a' w', S M w0 a' w' n [] ((d, [], .lit (.string (B l))) :: σ') Df → wpList Try.prog ops Q rest a' w') :
    wpList Try.prog ops Q (⟨some d, .call { callee := .value (.func 61), args := #[x], argTypes := tys }, ty, pos, aft, none⟩ :: rest) a w := by
  have hc1 := bld_StringW w0.heap.size b v l w (hk.own.get hj).1 (hk.own.get hj).2 hk.own.frm.size
  unfold wpList
  rw [if_pos (by simp [Region.wanted])]
  left
  unfold Oper.wp
  rw [run_call (f := .func 61) (vs := #[.pointer (some ⟨b, 0, none⟩)]) rfl (by simp [hk.kn.val (holds_nil a) hx]) Try.func61 rfl (by kernel_rfl), Oper.upon_enter]
  refine hc1.mono ?_
  rintro e w' ⟨rfl, hb⟩
  refine h _ _ ⟨⟨hk.own.frm.trans_below hb, hk.own.bd, fun i it hi => by simp at hi, fun i j x y _ hi => by simp at hi, hk.own.apart⟩, ?_⟩
  have hkn : Knows (okM M []) a w' n σ' Df := by
    refine ⟨hk.kn.defers, hk.kn.size, fun i c x hlk => ?_⟩
    have h0 := hk.kn.ent i c x (hs.look hlk)
    refine ⟨fun hh => ?_, h0.2⟩
    have hm := look_mem hlk
    rw [List.all_eq_true] at hl
    have := hl _ hm
    cases x with
    | lit u => simpa [Rep] using h0.1 hh
    | row _ => simp [isLit] at this
    | agg _ => simp [isLit] at this
    | tup _ => simp [isLit] at this
    | ref _ => simp [isLit] at this
  exact hkn.put hn hf rfl (fun _ => rep_lit rfl) (fun hh => absurd (holds_nil a) hh)
end
end Go.Proofs.Ytbjbgodcenopnaa
