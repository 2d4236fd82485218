/- Operations upon memory: conversions, variables, rows and builders of a call's own. -/
import Derived.Test.YtaoffkhflmndhaaAvFun
import Derived.Laws.Externs
import Derived.Laws.BytesString
import Derived.Laws.BytesArg
import Derived.Lib.ConvBytes
import Derived.Lib.AppendStr
import Derived.Maps.AppendAt
import Derived.Laws.OwnMore
import Derived.Deep.AppendSrc
import Derived.Great.BuildSlice
namespace Go.Proofs.Ytaoffkhflmndhaa.FW
variable {Df : List Deferred}
open Go.RowKit
set_option linter.unusedVariables false

theorem Own.okNew {M : Nat → Prop} {w0 : Bs} {w : World} {I : List It} (h : Own M w0 w I) : okM M I w.heap.size := by
  false_or_by_contra
  rename_i hn
  exact absurd (h.bound _ hn) (Nat.lt_irrefl _)
theorem new_bytesWorld (w : World) (e : TypeId) (s : ByteArray) : New w (Lib.bytesWorld w e s) := by
  refine ⟨?_, ?_, ?_, by rw [Lib.bytesWorld_size]; omega, fun k hk _ => Lib.bytesWorld_at_old w e s k hk⟩ <;>
  · unfold Lib.bytesWorld World.freeze
    rw [if_neg (by omega)]
    rfl
theorem repR_one {ok : Nat → Prop} {w : World} {α : Type} (f : α → Value) : ∀ (l : List α) (r : List Value), RepR ok w (l.map fun x => [.lit (f x)]) (l.map f ++ r)
  | [], r => by simp [RepR]
  | x :: l, r => by
    simp only [List.map_cons, RepR]
    exact ⟨by simp only [RepP, List.cons_append]; exact ⟨f x, _, rfl, rep_lit rfl, trivial⟩, by simpa using repR_one f l r⟩

section
variable {P : Program} {M : Nat → Prop} {w0 : Bs} {w : World} {a : Act} {n : Nat} {I : List It} {σ : St} {c : Ch} {dst : Option Tmp} {ty : TypeId} {pos : String} {aft : Array Edge} {g : Option (Nat × Bool)} {x y : Operand} {u : AV}

theorem f_bytes {src d e : TypeId} {l : List UInt8} {D : TypeDesc} (hk : S M w0 a w n I σ Df) (hc : holds a c) (hs : P.underlying src = some D) (hd : P.underlying d = some (.slice e)) (he : P.underlying e = some (.int .u8)) (hx : opvc σ c x = some (.lit (.string (B l)))) :
    Fun P (okM M I) ⟨dst, .convert src d x, ty, pos, aft, g⟩ a w (.row ((bytesI l).map fun x => [.lit (.int .u8 x)])) := by
  refine .inl ⟨.slice (some ⟨w.heap.size, 0, none⟩) l.length (grownCap w l.length 0 e), Lib.bytesWorld w e (B l), ?_, new_bytesWorld w e (B l), ?_⟩
  · simp only [execOp, hk.kn.val hc hx, Sem.run_bind, Lib.run_convert_string_bytes w src d e (B l) hs hd he, Result.andThen_ok, Sem.run_pure]
    rfl
  · simp only [Rep]
    refine ⟨some ⟨w.heap.size, 0, none⟩, grownCap w l.length 0 e, by simp [bytesI], by simpa [bytesI] using grownCap_ge w l.length 0 e, .inr ⟨w.heap.size, 0, _, e, _, rfl, hk.own.okNew, Lib.bytesWorld_at_new w e (B l), ?_⟩⟩
    have h := repR_one (ok := okM M I) (w := Lib.bytesWorld w e (B l)) (fun x => Value.int .u8 x) (bytesI l) (Array.replicate (grownCap w (B l).size 0 e - (B l).size) (Value.int .u8 0)).toList
    have e1 : (Lib.bytesCells w e (B l)).toList.drop 0 = (bytesI l).map (fun x => Value.int .u8 x) ++ (Array.replicate (grownCap w (B l).size 0 e - (B l).size) (Value.int .u8 0)).toList := by
      simp [Lib.bytesCells, bytesI, B]
    rw [e1]
    exact h
theorem f_assignNil : Fun P (okM M I) ⟨dst, .assign (.const (.slice none 0 0)), ty, pos, aft, g⟩ a w (.row []) := .inl ⟨.slice none 0 0, w, by simp [execOp, Act.eval], New.refl w, by simp only [Rep]; exact ⟨none, 0, rfl, Nat.le_refl _, .inl trivial⟩⟩
theorem f_moveNil : Fun P (okM M I) ⟨dst, .move (.const (.slice none 0 0)), ty, pos, aft, g⟩ a w (.row []) := .inl ⟨.slice none 0 0, w, by simp [execOp, Act.eval], New.refl w, by simp only [Rep]; exact ⟨none, 0, rfl, Nat.le_refl _, .inl trivial⟩⟩
/-- math.Float64bits, math.Float64frombits. -/
theorem run_ext {f : Operand} {fid : FuncId} {args : Array Operand} {tys : Array TypeId} {vs : Array Value} {fn : Func} {e : Array Value → Sem Value} {v : Value}
    (hv : a.eval f = .func (.func fid) #[] #[]) (ha : args.map a.eval = vs) (hf : P.funcs[fid]? = some fn) (hname : (fn.name == "runtime.NumGoroutine") = false) (hb : fn.body.isNone = true) (hn : Extern.findNext fn = none) (he : Extern.find fn = some e) (hr : (e vs).run P w = .ok v w) :
    (execOp a.eval ⟨dst, .call { callee := .value f, args := args, argTypes := tys }, ty, pos, aft, g⟩).run P w = .ok (.value v) w := by
  simp only [execOp, resolve, hv, ha, Deferred.ofValue, invoke]
  have h := run_callFunc_extern hf hname hb hn he vs w
  rw [hr] at h
  simpa using h
theorem f_bits {f : Operand} {fid : FuncId} {tys : Array TypeId} {fn : Func} {p : Nat} (hk : S M w0 a w n I σ Df) (hc : holds a c) (hv : opvc σ c f = some (.lit (.func (.func fid) #[] #[]))) (hx : opvc σ c x = some (.lit (.float .f64 p))) (hf : P.funcs[fid]? = some fn)
    (hname : (fn.name == "runtime.NumGoroutine") = false) (hb : fn.body.isNone = true) (hn : Extern.findNext fn = none) (he : Extern.find fn = some Extern.MathFloatBits.float64bits) :
    Fun P (okM M I) ⟨dst, .call { callee := .value f, args := #[x], argTypes := tys }, ty, pos, aft, g⟩ a w (.lit (.int .u64 (p : Int))) :=
  .inl ⟨_, w, run_ext (hk.kn.val hc hv) rfl hf hname hb hn he (by simp only [List.map_toArray, List.map_cons, List.map_nil, hk.kn.val hc hx]; rfl), New.refl w, rep_lit rfl⟩
theorem f_frombits {f : Operand} {fid : FuncId} {tys : Array TypeId} {fn : Func} {p : Int} (hk : S M w0 a w n I σ Df) (hc : holds a c) (hv : opvc σ c f = some (.lit (.func (.func fid) #[] #[]))) (hx : opvc σ c x = some (.lit (.int .u64 p))) (hf : P.funcs[fid]? = some fn)
    (hname : (fn.name == "runtime.NumGoroutine") = false) (hb : fn.body.isNone = true) (hn : Extern.findNext fn = none) (he : Extern.find fn = some Extern.MathFloatBits.float64frombits) :
    Fun P (okM M I) ⟨dst, .call { callee := .value f, args := #[x], argTypes := tys }, ty, pos, aft, g⟩ a w (.lit (.float .f64 p.toNat)) :=
  .inl ⟨_, w, run_ext (hk.kn.val hc hv) rfl hf hname hb hn he (by simp only [List.map_toArray, List.map_cons, List.map_nil, hk.kn.val hc hx]; rfl), New.refl w, rep_lit rfl⟩
end

/-! ### A variable of the call's own -/
def blk (b : Nat) (t : TypeId) (cs : List AV) : It where
  foot := fun k => k = b
  P := fun ok w => ∃ arr, w.heap[b]? = some (.cells arr t (0, 0)) ∧ RepL ok w cs arr.toList
  stable := fun hg _ _ hb ⟨arr, h1, h2⟩ => ⟨arr, (hb b rfl).trans h1, RepL.go hg cs _ h2⟩

/-- Zero cells: what is a nil slice is told as a row without elements, but where it is to be kept. -/
def zeroA (keep : List Nat) (vs : List Value) : List AV := vs.zipIdx.map fun p => match p.1 with
  | .slice none 0 0 => bif keep.any (Nat.beq p.2) then .lit (.slice none 0 0) else .row []
  | v => .lit v
theorem rep_nil {ok : Nat → Prop} {w : World} : Rep ok w (.row []) (.slice none 0 0) := by simp only [Rep]; exact ⟨none, 0, rfl, Nat.le_refl _, .inl trivial⟩
theorem rep_zero {ok : Nat → Prop} {w : World} {keep : List Nat} : ∀ (vs : List Value) (k : Nat), RepL ok w ((vs.zipIdx k).map fun p => match p.1 with
    | .slice none 0 0 => bif keep.any (Nat.beq p.2) then .lit (.slice none 0 0) else .row []
    | v => .lit v) vs
  | [], k => by simp [RepL]
  | v :: vs, k => by
    rw [List.zipIdx_cons, List.map_cons]
    refine repL_cons ?_ (rep_zero vs (k + 1))
    split
    · rename_i h
      have h' : v = .slice none 0 0 := h
      subst h'
      cases keep.any (Nat.beq k) with
      | true => exact rep_lit rfl
      | false => exact rep_nil
    · exact rep_lit rfl
theorem repL_zeroA {ok : Nat → Prop} {w : World} (keep : List Nat) (vs : List Value) : RepL ok w (zeroA keep vs) vs := rep_zero vs 0

section
variable {P : Program} {M : Nat → Prop} {w0 : Bs} {w : World} {a : Act} {n : Nat} {I : List It} {σ : St} {c : Ch} {dst : Option Tmp} {ty : TypeId} {pos : String} {aft : Array Edge} {g : Option (Nat × Bool)} {x y : Operand} {u : AV} {ops : Array Oper} {Q : Exit → Act → World → Prop} {rest : List Oper} {d j b off : Nat} {t0 : TypeId} {cs : List AV}

theorem l_alloc {t : TypeId} {z : Value} {zs : List AV} (keep : List Nat) (hk : S M w0 a w n I σ Df) (hn : Nat.blt d n = true) (hf : chFree σ d = true) (hz : (P.info? t).bind (·.zero) = some z) (hzs : zeroA keep z.cells.toList = zs)
    (h : ∀ b a' w', S M w0 a' w' n (blk b t zs :: I) ((d, [], .lit (.pointer (some ⟨b, 0, none⟩))) :: σ) Df → wpList P ops Q rest a' w') :
    wpList P ops Q (⟨some d, .alloc t, ty, pos, aft, none⟩ :: rest) a w := by
  obtain ⟨inf, hi, hz'⟩ := Option.bind_eq_some_iff.1 hz
  subst hzs
  have hr : (execOp a.eval ⟨some d, .alloc t, ty, pos, aft, none⟩).run P w = .ok (.value (.pointer (some ⟨w.heap.size, 0, none⟩))) (w.alloc (.cells z.cells t)) := by
    simp [execOp, Instr.alloc, zeroValue, typeInfo, hi, hz', newVar, newRow]
  refine leff hk rfl rfl hn hf hr ?_ (rep_lit rfl) (fun a' hk' => h _ _ _ hk')
  refine hk.push (New.alloc w _) ⟨z.cells, heap_alloc_new w _, repL_zeroA _ _⟩ fun k hk => ?_
  have hk' : k = w.heap.size := hk
  subst hk'
  simp
theorem f_fieldPtr {t : TypeId} {fs : Array Field} {k o' : Nat} {f : Field} (hk : S M w0 a w n I σ Df) (hc : holds a c) (hx : opvc σ c x = some (.lit (.pointer (some ⟨b, off, none⟩)))) (hu : P.underlying t = some (.struct fs)) (hf : fs[k]? = some f)
    (hs : ((P.info? f.type).map fun i => Nat.beq i.size 0) = some false) (ho : off + f.offset = o') : Fun P (okM M I) ⟨dst, .fieldAddr t x k, ty, pos, aft, g⟩ a w (.lit (.pointer (some ⟨b, o', none⟩))) := by
  subst ho
  obtain ⟨inf, hinf, hs'⟩ := Option.map_eq_some_iff.1 hs
  have hs0 : ¬ inf.size = 0 := by intro e; rw [e] at hs'; simp at hs'
  refine .inl ⟨_, w, ?_, New.refl w, rep_lit rfl⟩
  simp [execOp, hk.kn.val hc hx, Instr.fieldAt, run_underlying hu, hf, Instr.sureAddr, fieldPlace, sizeOf, typeInfo, hinf, hs0, add_addr]
theorem f_loadBlk1 {t : TypeId} {D : TypeDesc} (hk : S M w0 a w n I σ Df) (hc : holds a c) (hj : I[j]? = some (blk b t0 cs)) (hx : opvc σ c x = some (.lit (.pointer (some ⟨b, off, none⟩)))) (hu : P.underlying t = some D) (hd : isAggD D = false) (hy : cs[off]? = some u) :
    Fun P (okM M I) ⟨dst, .load t x, ty, pos, aft, g⟩ a w u := by
  obtain ⟨arr, hh, hL⟩ := hk.own.get hj
  obtain ⟨v, hv', hr⟩ := hL.get hy
  have hcell : w.cell? ⟨b, off, none⟩ = some v := by
    rw [cell_of_row w b off arr t0 (0, 0) hh]; simpa using hv'
  refine .inl ⟨v, w, ?_, New.refl w, hr⟩
  have : (isAgg t).run P w = .ok false w := by
    simp only [isAgg, Sem.run_bind, run_underlying hu, Result.andThen_ok]
    cases D <;> simp_all [isAggD]
  simp only [execOp, hk.kn.val hc hx, Instr.loadAt, Instr.sureAddr, Sem.run_bind, Sem.run_pure, Result.andThen_ok, loadVar, this]
  simp [load, Sem.run, hcell]
theorem load_at {t : TypeId} {D : TypeDesc} {sz : Nat} {arr : Array Value} {e : TypeId} {fr : Nat × Nat} (hh : w.heap[b]? = some (.cells arr e fr)) (hu : P.underlying t = some D) (hd : isAggD D = true) (hs : (P.info? t).map (·.size) = some sz) (hl : off + sz ≤ arr.size) :
    (loadVar t ⟨b, off, none⟩).run P w = .ok (.agg ((arr.toList.drop off).take sz).toArray) w := by
  obtain ⟨inf, hinf, hs'⟩ := Option.map_eq_some_iff.1 hs
  have hlen' : ((arr.toList.drop off).take sz).length = sz := by
    rw [List.length_take, List.length_drop, Array.length_toList]; omega
  have hagg : (isAgg t).run P w = .ok true w := by
    simp only [isAgg, Sem.run_bind, run_underlying hu, Result.andThen_ok]
    cases D <;> simp_all [isAggD]
  have hld := loadCells_at (P := P) w b off arr e fr ((arr.toList.drop off).take sz) hh (fun j v hj => by
    rw [List.getElem?_take] at hj
    split at hj
    · rw [List.getElem?_drop] at hj; simpa using hj
    · cases hj)
  rw [hlen'] at hld
  simp only [loadVar, Sem.run_bind, hagg, Result.andThen_ok, if_true]
  simp [sizeOf, typeInfo, hinf, hs', hld]
theorem f_loadBlk {t : TypeId} {D : TypeDesc} {sz : Nat} {ys : List AV} (hk : S M w0 a w n I σ Df) (hc : holds a c) (hj : I[j]? = some (blk b t0 cs)) (hx : opvc σ c x = some (.lit (.pointer (some ⟨b, off, none⟩)))) (hu : P.underlying t = some D) (hd : isAggD D = true)
    (hs : (P.info? t).map (·.size) = some sz) (hy : (cs.drop off).take sz = ys) (hl : Nat.ble (off + sz) cs.length = true) : Fun P (okM M I) ⟨dst, .load t x, ty, pos, aft, g⟩ a w (.agg ys) := by
  obtain ⟨arr, hh, hL⟩ := hk.own.get hj
  have hle := Nat.le_of_ble_eq_true hl
  have hal : arr.size = cs.length := by rw [← hL.length]; simp
  subst hy
  refine .inl ⟨.agg ((arr.toList.drop off).take sz).toArray, w, ?_, New.refl w, ?_⟩
  · have hld := load_at (P := P) (off := off) (sz := sz) hh hu hd hs (by omega)
    simp only [execOp, hk.kn.val hc hx, Instr.loadAt, Instr.sureAddr, Sem.run_bind, Sem.run_pure, Result.andThen_ok, hld]
  · simp only [Rep]
    exact ⟨_, rfl, by simpa using (hL.drop off).take sz⟩
theorem l_storeV {t : TypeId} {cs' : List AV} {I' : List It} (hk : S M w0 a w n I σ Df) (hj : I[j]? = some (blk b t0 cs)) (hx : opvc σ [] x = some (.lit (.pointer (some ⟨b, off, none⟩)))) (hy : Rep (okM M I) w u (a.eval y)) (hw : wholeA u = true)
    (hl : Nat.ble (off + (cellsA u).length) cs.length = true) (hs : (P.info? t).map (·.size) = some (cellsA u).length) (hcs : putA off (cellsA u) cs = cs') (hI : I.set j (blk b t0 cs') = I')
    (h : ∀ w', S M w0 a w' n I' σ Df → wpList P ops Q rest a w') : wpList P ops Q (⟨none, .store t x y, ty, pos, aft, none⟩ :: rest) a w := by
  obtain ⟨arr, hh, hL⟩ := hk.own.get hj
  have hle := Nat.le_of_ble_eq_true hl
  have hal : arr.size = cs.length := by rw [← hL.length]; simp
  obtain ⟨inf, hinf, hs'⟩ := Option.map_eq_some_iff.1 hs
  obtain ⟨hv, h1⟩ := rep_cells hy hw
  have hvl : (a.eval y).cells.toList.length = (cellsA u).length := hv.length
  have hst := run_storeCells_at (P := P) b off t0 (a.eval y).cells.toList 0 arr w hh (by omega) h1
  simp only [Nat.add_zero] at hst
  have hr : (execOp a.eval ⟨none, .store t x y, ty, pos, aft, none⟩).run P w = .ok .skip (w.setRow b (arr.toList.take off ++ (a.eval y).cells.toList ++ arr.toList.drop (off + (a.eval y).cells.toList.length)).toArray) := by
    have hsz : (a.eval y).cells.size = inf.size := by rw [hs', ← hvl]; simp
    simp only [execOp, hk.kn.val (holds_nil a) hx, Instr.storeAt, Instr.sureAddr, storeVar]
    have hso : (sizeOf t).run P w = .ok inf.size w := by simp [sizeOf, typeInfo, hinf]
    simp only [Sem.run_bind, Sem.run_pure, Result.andThen_ok, hso]
    simp [hsz]
    have hst' := hst
    simp [hsz] at hst'
    rw [hst']
    rfl
  subst hcs; subst hI
  refine lskip hk rfl rfl hr ?_ (fun hk' => h _ hk')
  refine hk.upd hj (Frm.setRow w b _) ⟨_, setRow_heap w b arr _ t0 (0, 0) hh, ?_⟩ fun k hk' => ⟨.inl hk', ?_⟩
  · have hgo : Goes (okM M I) (okM M (I.set j (blk b t0 (putA off (cellsA u) cs)))) w (w.setRow b (arr.toList.take off ++ (a.eval y).cells.toList ++ arr.toList.drop (off + (a.eval y).cells.toList.length)).toArray) :=
      Goes.upd hk.own hj (Frm.setRow w b _) fun k hk' => ⟨.inl hk', by
        have : k < w.heap.size := (hk.own.lt hj (k := k) hk').2
        simpa [World.setRow] using this⟩
    refine RepL.go hgo _ _ ?_
    unfold putA
    rw [← hvl]
    exact ((hL.take off).append hv).append (hL.drop _)
  · have : k < w.heap.size := (hk.own.lt hj (k := k) hk').2
    simpa [World.setRow] using this

theorem l_store {t : TypeId} {cs' : List AV} {I' : List It} (hk : S M w0 a w n I σ Df) (hj : I[j]? = some (blk b t0 cs)) (hx : opvc σ [] x = some (.lit (.pointer (some ⟨b, off, none⟩)))) (hy : opvc σ [] y = some u) (hw : wholeA u = true)
    (hl : Nat.ble (off + (cellsA u).length) cs.length = true) (hs : (P.info? t).map (·.size) = some (cellsA u).length) (hcs : putA off (cellsA u) cs = cs') (hI : I.set j (blk b t0 cs') = I')
    (h : ∀ w', S M w0 a w' n I' σ Df → wpList P ops Q rest a w') : wpList P ops Q (⟨none, .store t x y, ty, pos, aft, none⟩ :: rest) a w :=
  l_storeV hk hj hx (hk.kn.rep (holds_nil a) hy) hw hl hs hcs hI h
/-- A nil slice, told as a row without elements. -/
theorem rep_nilc {y : Operand} (hk : S M w0 a w n I σ Df) (hy : opvc σ [] y = some (.lit (.slice none 0 0))) : Rep (okM M I) w (.row []) (a.eval y) := by
  rw [hk.kn.val (holds_nil a) hy]; exact rep_nil
/-- A result that lies in a variable. -/
theorem res_cell {fn : Func} {tt : Nat} {t : TypeId} {D : TypeDesc} (hk : S M w0 a w n I σ Df) (hl : look σ tt = some ([], .lit (.pointer (some ⟨b, 0, none⟩)))) (hj : I[j]? = some (blk b t0 cs)) (hu : P.underlying t = some D) (hd : isAggD D = true)
    (hs : (P.info? t).map (·.size) = some cs.length) : ∃ v, (do loadVar t (← asAddr (a.tmps.getD tt undef)) : Sem Value).run P w = .ok v w ∧ Rep (okM M I) w (.agg cs) v := by
  obtain ⟨arr, hh, hL⟩ := hk.own.get hj
  have hal : arr.size = cs.length := by rw [← hL.length]; simp
  have hp : a.tmps.getD tt undef = .pointer (some ⟨b, 0, none⟩) := by simpa [Rep] using hk.kn.get hl
  refine ⟨.agg arr, ?_, ?_⟩
  · have h1 := load_at (P := P) (off := 0) hh hu hd hs (by omega)
    have e1 : ((arr.toList.drop 0).take cs.length).toArray = arr := by
      rw [List.drop_zero, List.take_of_length_le (by simp; omega)]
    rw [e1] at h1
    rw [hp]
    simp [asAddr, h1]
  · have := hL
    simp only [Rep]
    exact ⟨arr, rfl, this⟩
theorem res_cell1 {fn : Func} {tt : Nat} {t : TypeId} {D : TypeDesc} (hk : S M w0 a w n I σ Df) (hl : look σ tt = some ([], .lit (.pointer (some ⟨b, 0, none⟩)))) (hj : I[j]? = some (blk b t0 [u])) (hu : P.underlying t = some D) (hd : isAggD D = false) :
    ∃ v, (do loadVar t (← asAddr (a.tmps.getD tt undef)) : Sem Value).run P w = .ok v w ∧ Rep (okM M I) w u v := by
  obtain ⟨arr, hh, hL⟩ := hk.own.get hj
  obtain ⟨v, hv, hr⟩ := hL.get (i := 0) rfl
  have hp : a.tmps.getD tt undef = .pointer (some ⟨b, 0, none⟩) := by simpa [Rep] using hk.kn.get hl
  have hcell : w.cell? ⟨b, 0, none⟩ = some v := by
    rw [cell_of_row w b 0 arr t0 (0, 0) hh]; simpa using hv
  refine ⟨v, ?_, hr⟩
  have : (isAgg t).run P w = .ok false w := by
    simp only [isAgg, Sem.run_bind, run_underlying hu, Result.andThen_ok]
    cases D <;> simp_all [isAggD]
  rw [hp]
  simp [asAddr, loadVar, this, load, Sem.run, hcell]
/-- The results, whether they lie in slots or in variables. -/
inductive RRes (P : Program) (ok : Nat → Prop) (a : Act) (w : World) : ResultVar → AV → Prop where
  | tmp {t : Nat} {y : AV} (h : Rep ok w y (a.tmps.getD t undef)) : RRes P ok a w (.tmp t) y
  | cell {tt : Nat} {t : TypeId} {y : AV} (h : ∃ v, (do loadVar t (← asAddr (a.tmps.getD tt undef)) : Sem Value).run P w = .ok v w ∧ Rep ok w y v) : RRes P ok a w (.cell tt t) y
theorem rtmp {t : Nat} {y : AV} (hk : S M w0 a w n I σ Df) (hl : look σ t = some ([], y)) : RRes P (okM M I) a w (.tmp t) y := .tmp (hk.kn.get hl)
theorem rcell {tt : Nat} {t : TypeId} {D : TypeDesc} (hk : S M w0 a w n I σ Df) (hl : look σ tt = some ([], .lit (.pointer (some ⟨b, 0, none⟩)))) (hj : I[j]? = some (blk b t0 cs)) (hu : P.underlying t = some D) (hd : isAggD D = true)
    (hs : (P.info? t).map (·.size) = some cs.length) : RRes P (okM M I) a w (.cell tt t) (.agg cs) := .cell (res_cell (fn := default) hk hl hj hu hd hs)
theorem rcell1 {tt : Nat} {t : TypeId} {D : TypeDesc} (hk : S M w0 a w n I σ Df) (hl : look σ tt = some ([], .lit (.pointer (some ⟨b, 0, none⟩)))) (hj : I[j]? = some (blk b t0 [u])) (hu : P.underlying t = some D) (hd : isAggD D = false) : RRes P (okM M I) a w (.cell tt t) u :=
  .cell (res_cell1 (fn := default) hk hl hj hu hd)
def resOf (tmps : Array Value) : ResultVar → Sem Value
  | .tmp t => pure (tmps.getD t undef)
  | .cell a t => do loadVar t (← asAddr (tmps.getD a undef))
theorem results_eq (fn : Func) (tmps : Array Value) : results fn tmps = (do let vs ← fn.results.mapM (resOf tmps); pure (if h : vs.size = 1 then vs[0] else .tuple vs)) := rfl
theorem run_res {ok : Nat → Prop} {r : ResultVar} {y : AV} (h : RRes P ok a w r y) : ∃ v, (resOf a.tmps r).run P w = .ok v w ∧ Rep ok w y v := by
  cases h with
  | tmp h => exact ⟨_, by simp only [resOf, Sem.run_pure], h⟩
  | cell h => exact h

theorem fretR1 {fn : Func} {r1 : ResultVar} {y1 : AV} (hk : S M w0 a w n I σ) (hr : fn.results = #[r1]) (h1 : RRes P (okM M I) a w r1 y1) : bodyPost P fn (RetB M w0 y1) .ret a w := by
  obtain ⟨v1, e1, p1⟩ := run_res h1
  replace p1 := Rep.go (okM_le M I w) _ _ p1
  refine bodyPost_ret (v := v1) ?_ hk.kn.defers ⟨_, rfl, hk.own.frm, p1⟩
  rw [results_eq, hr]
  simp [e1]
theorem fretR2 {fn : Func} {r1 r2 : ResultVar} {y1 y2 : AV} (hk : S M w0 a w n I σ) (hr : fn.results = #[r1, r2]) (h1 : RRes P (okM M I) a w r1 y1) (h2 : RRes P (okM M I) a w r2 y2) : bodyPost P fn (RetB M w0 (.tup [y1, y2])) .ret a w := by
  obtain ⟨v1, e1, p1⟩ := run_res h1
  replace p1 := Rep.go (okM_le M I w) _ _ p1
  obtain ⟨v2, e2, p2⟩ := run_res h2
  replace p2 := Rep.go (okM_le M I w) _ _ p2
  refine bodyPost_ret (v := .tuple #[v1, v2]) ?_ hk.kn.defers ⟨_, rfl, hk.own.frm, by simp only [Rep]; exact ⟨_, rfl, repL_cons p1 (repL_cons p2 repL_nil)⟩⟩
  rw [results_eq, hr]
  simp [e1, e2]
theorem fretR3 {fn : Func} {r1 r2 r3 : ResultVar} {y1 y2 y3 : AV} (hk : S M w0 a w n I σ) (hr : fn.results = #[r1, r2, r3]) (h1 : RRes P (okM M I) a w r1 y1) (h2 : RRes P (okM M I) a w r2 y2) (h3 : RRes P (okM M I) a w r3 y3) : bodyPost P fn (RetB M w0 (.tup [y1, y2, y3])) .ret a w := by
  obtain ⟨v1, e1, p1⟩ := run_res h1
  replace p1 := Rep.go (okM_le M I w) _ _ p1
  obtain ⟨v2, e2, p2⟩ := run_res h2
  replace p2 := Rep.go (okM_le M I w) _ _ p2
  obtain ⟨v3, e3, p3⟩ := run_res h3
  replace p3 := Rep.go (okM_le M I w) _ _ p3
  refine bodyPost_ret (v := .tuple #[v1, v2, v3]) ?_ hk.kn.defers ⟨_, rfl, hk.own.frm, by simp only [Rep]; exact ⟨_, rfl, repL_cons p1 (repL_cons p2 (repL_cons p3 repL_nil))⟩⟩
  rw [results_eq, hr]
  simp [e1, e2, e3]
theorem fretH0 {fn : Func} {Q : AV → List It → Prop} (hk : S M w0 a w n I σ) (hr : fn.results = #[]) (hq : Q (.tup []) I) : bodyPost P fn (RetH M w0 Q) .ret a w :=
  bodyPost_ret (results_none hr _ _ _) hk.kn.defers ⟨_, _, _, rfl, hq, hk.own, by simp [Rep, RepL]⟩
theorem fretH1 {fn : Func} {Q : AV → List It → Prop} {r1 : ResultVar} {y1 : AV} (hk : S M w0 a w n I σ) (hr : fn.results = #[r1]) (h1 : RRes P (okM M I) a w r1 y1) (hq : Q y1 I) : bodyPost P fn (RetH M w0 Q) .ret a w := by
  obtain ⟨v1, e1, p1⟩ := run_res h1
  refine bodyPost_ret (v := v1) ?_ hk.kn.defers ⟨_, _, _, rfl, hq, hk.own, p1⟩
  rw [results_eq, hr]
  simp [e1]
theorem fretH2 {fn : Func} {Q : AV → List It → Prop} {r1 r2 : ResultVar} {y1 y2 : AV} (hk : S M w0 a w n I σ) (hr : fn.results = #[r1, r2]) (h1 : RRes P (okM M I) a w r1 y1) (h2 : RRes P (okM M I) a w r2 y2) (hq : Q (.tup [y1, y2]) I) : bodyPost P fn (RetH M w0 Q) .ret a w := by
  obtain ⟨v1, e1, p1⟩ := run_res h1
  obtain ⟨v2, e2, p2⟩ := run_res h2
  refine bodyPost_ret (v := .tuple #[v1, v2]) ?_ hk.kn.defers ⟨_, _, _, rfl, hq, hk.own, by simp only [Rep]; exact ⟨_, rfl, repL_cons p1 (repL_cons p2 repL_nil)⟩⟩
  rw [results_eq, hr]
  simp [e1, e2]
theorem fretH3 {fn : Func} {Q : AV → List It → Prop} {r1 r2 r3 : ResultVar} {y1 y2 y3 : AV} (hk : S M w0 a w n I σ) (hr : fn.results = #[r1, r2, r3]) (h1 : RRes P (okM M I) a w r1 y1) (h2 : RRes P (okM M I) a w r2 y2) (h3 : RRes P (okM M I) a w r3 y3) (hq : Q (.tup [y1, y2, y3]) I) : bodyPost P fn (RetH M w0 Q) .ret a w := by
  obtain ⟨v1, e1, p1⟩ := run_res h1
  obtain ⟨v2, e2, p2⟩ := run_res h2
  obtain ⟨v3, e3, p3⟩ := run_res h3
  refine bodyPost_ret (v := .tuple #[v1, v2, v3]) ?_ hk.kn.defers ⟨_, _, _, rfl, hq, hk.own, by simp only [Rep]; exact ⟨_, rfl, repL_cons p1 (repL_cons p2 (repL_cons p3 repL_nil))⟩⟩
  rw [results_eq, hr]
  simp [e1, e2, e3]
end
/-! Contracts out of the shelf's. -/
theorem repL_lits_eq {ok : Nat → Prop} {w : World} : ∀ {us vs : List Value}, RepL ok w (us.map .lit) vs → vs = us
  | [], vs, h => by simpa [RepL] using h
  | u :: us, vs, h => by
    simp only [List.map_cons, RepL] at h
    obtain ⟨v, r, rfl, h1, h2⟩ := h
    simp only [Rep] at h1
    rw [h1, repL_lits_eq h2]
theorem ok_lit {P : Program} {f : FuncId} {us : List Value} {y : AV} {v : Value} (h : ∀ w, Calls P f us.toArray w fun e w' => e = .returned v ∧ w' = w) (hy : ∀ ok w, Rep ok w y v) : Ok P f (us.map .lit) y := by
  intro M w vs hM hL
  have e := repL_lits_eq hL
  have e' : vs = us.toArray := by rw [← e]
  rw [e']
  refine (h w).mono ?_
  rintro e w' ⟨rfl, rfl⟩
  exact ⟨v, rfl, New.refl _, hy _ _⟩
end Go.Proofs.Ytaoffkhflmndhaa.FW
