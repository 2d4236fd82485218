/- The operations that only reckon, over what is known of the slots. -/
import Derived.Test.YtaoffkhflmndhaaAv
namespace Go.Proofs.Ytaoffkhflmndhaa.FW
variable {Df : List Deferred}
set_option linter.unusedSimpArgs false
set_option linter.unusedVariables false
open Go.RowKit

abbrev B (l : List UInt8) : ByteArray := ⟨l.toArray⟩
theorem B_size (l : List UInt8) : (B l).size = l.length := rfl
/-- The byte at a place. -/
def bt (l : List UInt8) (i : Int) : Int := ((l.getD i.toNat 0).toNat : Int)
theorem bt_lo (l : List UInt8) (i : Int) : 0 ≤ bt l i := by unfold bt; omega
theorem bt_hi (l : List UInt8) (i : Int) : bt l i < 256 := by unfold bt; have := (l.getD i.toNat 0).toNat_lt; omega

/-- The bytes of a text, as numbers. -/
def bytesI (l : List UInt8) : List Int := l.map fun b => (b.toNat : Int)
/-- Bytes become a text. -/
def toB (l : List Int) : List UInt8 := l.map fun x => UInt8.ofNat x.toNat
/-- An operation that only reckons. -/
def PureOp (P : Program) (a : Act) (o : Oper) (v : Value) : Prop := ∀ w, (execOp a.eval o).run P w = .ok (.value v) w

section
variable {P : Program} {ok : Nat → Prop} {a : Act} {wk : World} {n : Nat} {σ : St} {c : Ch} {dst : Option Tmp} {ty : TypeId} {pos : String} {aft : Array Edge} {g : Option (Nat × Bool)}

theorem p_move {x : Operand} {v : Value} (hk : Knows ok a wk n σ Df) (hc : holds a c) (hx : opvc σ c x = some (.lit v)) : PureOp P a ⟨dst, .move x, ty, pos, aft, g⟩ v := by
  intro w; simp [execOp, hk.val hc hx]
theorem p_assign {x : Operand} {v : Value} (hk : Knows ok a wk n σ Df) (hc : holds a c) (hx : opvc σ c x = some (.lit v)) : PureOp P a ⟨dst, .assign x, ty, pos, aft, g⟩ v := by
  intro w; simp [execOp, hk.val hc hx]

theorem p_pick_and {s : Nat} {x : Operand} {b y : Bool} (hk : Knows ok a wk n σ Df) (hc : holds a c) (hs : opvc σ c (.tmp s) = some (.lit (.bool b))) (hx : opvc σ ((s, true) :: c) x = some (.lit (.bool y))) :
    PureOp P a ⟨dst, .pick (.tmp s) x (.const (.bool false)), ty, pos, aft, g⟩ (.bool (b && y)) := by
  intro w
  have h1 := hk.val hc hs
  cases b with
  | false => simp [execOp, h1, asBool, show a.eval (.const (.bool false)) = .bool false from rfl]
  | true =>
    have hc' : holds a ((s, true) :: c) := by
      intro p hp
      rcases List.mem_cons.1 hp with rfl | hp
      · exact h1
      · exact hc p hp
    simp [execOp, h1, asBool, hk.val hc' hx]
theorem p_pick_or {s : Nat} {x : Operand} {b y : Bool} (hk : Knows ok a wk n σ Df) (hc : holds a c) (hs : opvc σ c (.tmp s) = some (.lit (.bool b))) (hx : opvc σ ((s, false) :: c) x = some (.lit (.bool y))) :
    PureOp P a ⟨dst, .pick (.tmp s) (.const (.bool true)) x, ty, pos, aft, g⟩ (.bool (b || y)) := by
  intro w
  have h1 := hk.val hc hs
  cases b with
  | true => simp [execOp, h1, asBool, show a.eval (.const (.bool true)) = .bool true from rfl]
  | false =>
    have hc' : holds a ((s, false) :: c) := by
      intro p hp
      rcases List.mem_cons.1 hp with rfl | hp
      · exact h1
      · exact hc p hp
    simp [execOp, h1, asBool, hk.val hc' hx]

theorem eqGuard_int (op : BinOp) (t : TypeId) (x y : Operand) (k k' : IntKind) (p q : Int) (w : World) : (eqGuard op t x y (.int k p) (.int k' q)).run P w = .ok () w := by
  unfold eqGuard; cases op <;> simp
theorem eqGuard_bool (op : BinOp) (t : TypeId) (x y : Operand) (p q : Bool) (w : World) : (eqGuard op t x y (.bool p) (.bool q)).run P w = .ok () w := by
  unfold eqGuard; cases op <;> simp
theorem eqGuard_str (op : BinOp) (t : TypeId) (x y : Operand) (p q : ByteArray) (w : World) : (eqGuard op t x y (.string p) (.string q)).run P w = .ok () w := by
  unfold eqGuard; cases op <;> simp
theorem eqGuard_float (op : BinOp) (t : TypeId) (x y : Operand) (k k' : FloatKind) (p q : Nat) (w : World) : (eqGuard op t x y (.float k p) (.float k' q)).run P w = .ok () w := by
  unfold eqGuard; cases op <;> simp

section ints
variable {t t' : TypeId} {x y : Operand} {k : IntKind} {p q : Int}
theorem p_add (hk : Knows ok a wk n σ Df) (hc : holds a c) (hx : opvc σ c x = some (.lit (.int k p))) (hy : opvc σ c y = some (.lit (.int k q))) :
    PureOp P a ⟨dst, .binOp .add t x y t', ty, pos, aft, g⟩ (.int k (k.wrap (p + q))) := by
  intro w; simp [execOp, hk.val hc hx, hk.val hc hy, eqGuard_int, binOp, Op.intArith]
theorem p_sub (hk : Knows ok a wk n σ Df) (hc : holds a c) (hx : opvc σ c x = some (.lit (.int k p))) (hy : opvc σ c y = some (.lit (.int k q))) :
    PureOp P a ⟨dst, .binOp .sub t x y t', ty, pos, aft, g⟩ (.int k (k.wrap (p - q))) := by
  intro w; simp [execOp, hk.val hc hx, hk.val hc hy, eqGuard_int, binOp, Op.intArith]
theorem p_mul (hk : Knows ok a wk n σ Df) (hc : holds a c) (hx : opvc σ c x = some (.lit (.int k p))) (hy : opvc σ c y = some (.lit (.int k q))) :
    PureOp P a ⟨dst, .binOp .mul t x y t', ty, pos, aft, g⟩ (.int k (k.wrap (p * q))) := by
  intro w; simp [execOp, hk.val hc hx, hk.val hc hy, eqGuard_int, binOp, Op.intArith]
theorem p_lss (hk : Knows ok a wk n σ Df) (hc : holds a c) (hx : opvc σ c x = some (.lit (.int k p))) (hy : opvc σ c y = some (.lit (.int k q))) :
    PureOp P a ⟨dst, .binOp .lss t x y t', ty, pos, aft, g⟩ (.bool (decide (p < q))) := by
  intro w; simp [execOp, hk.val hc hx, hk.val hc hy, eqGuard_int, binOp, Op.intCmp]
theorem p_leq (hk : Knows ok a wk n σ Df) (hc : holds a c) (hx : opvc σ c x = some (.lit (.int k p))) (hy : opvc σ c y = some (.lit (.int k q))) :
    PureOp P a ⟨dst, .binOp .leq t x y t', ty, pos, aft, g⟩ (.bool (decide (p ≤ q))) := by
  intro w; simp [execOp, hk.val hc hx, hk.val hc hy, eqGuard_int, binOp, Op.intCmp]
theorem p_gtr (hk : Knows ok a wk n σ Df) (hc : holds a c) (hx : opvc σ c x = some (.lit (.int k p))) (hy : opvc σ c y = some (.lit (.int k q))) :
    PureOp P a ⟨dst, .binOp .gtr t x y t', ty, pos, aft, g⟩ (.bool (decide (q < p))) := by
  intro w; simp [execOp, hk.val hc hx, hk.val hc hy, eqGuard_int, binOp, Op.intCmp]
theorem p_geq (hk : Knows ok a wk n σ Df) (hc : holds a c) (hx : opvc σ c x = some (.lit (.int k p))) (hy : opvc σ c y = some (.lit (.int k q))) :
    PureOp P a ⟨dst, .binOp .geq t x y t', ty, pos, aft, g⟩ (.bool (decide (q ≤ p))) := by
  intro w; simp [execOp, hk.val hc hx, hk.val hc hy, eqGuard_int, binOp, Op.intCmp]
theorem p_eql (hk : Knows ok a wk n σ Df) (hc : holds a c) (hx : opvc σ c x = some (.lit (.int k p))) (hy : opvc σ c y = some (.lit (.int k q))) :
    PureOp P a ⟨dst, .binOp .eql t x y t', ty, pos, aft, g⟩ (.bool (decide (p = q))) := by
  intro w; simp [execOp, hk.val hc hx, hk.val hc hy, eqGuard_int, binOp, Op.intCmp]; rfl
theorem p_neq (hk : Knows ok a wk n σ Df) (hc : holds a c) (hx : opvc σ c x = some (.lit (.int k p))) (hy : opvc σ c y = some (.lit (.int k q))) :
    PureOp P a ⟨dst, .binOp .neq t x y t', ty, pos, aft, g⟩ (.bool (!decide (p = q))) := by
  intro w; simp [execOp, hk.val hc hx, hk.val hc hy, eqGuard_int, binOp, Op.intCmp]; rfl
theorem p_quo (hk : Knows ok a wk n σ Df) (hc : holds a c) (hx : opvc σ c x = some (.lit (.int k p))) (hy : opvc σ c y = some (.lit (.int k q))) (h : asmP σ c (¬ q = 0)) :
    PureOp P a ⟨dst, .binOp .quo t x y t', ty, pos, aft, g⟩ (.int k (k.wrap (p.tdiv q))) := by
  intro w; simp [execOp, hk.val hc hx, hk.val hc hy, eqGuard_int, binOp, Op.intDiv, asm_out hk hc h]
theorem p_rem (hk : Knows ok a wk n σ Df) (hc : holds a c) (hx : opvc σ c x = some (.lit (.int k p))) (hy : opvc σ c y = some (.lit (.int k q))) (h : asmP σ c (¬ q = 0)) :
    PureOp P a ⟨dst, .binOp .rem t x y t', ty, pos, aft, g⟩ (.int k (p.tmod q)) := by
  intro w; simp [execOp, hk.val hc hx, hk.val hc hy, eqGuard_int, binOp, Op.intDiv, asm_out hk hc h]
def shlI (k : IntKind) (p q : Int) : Int := k.wrap (p * 2 ^ (min q.toNat k.bits))
def shrI (k : IntKind) (p q : Int) : Int := p.fdiv (2 ^ (min q.toNat k.bits))
theorem p_shl {k' : IntKind} (hk : Knows ok a wk n σ Df) (hc : holds a c) (hx : opvc σ c x = some (.lit (.int k p))) (hy : opvc σ c y = some (.lit (.int k' q))) (h : asmP σ c (0 ≤ q)) :
    PureOp P a ⟨dst, .binOp .shl t x y t', ty, pos, aft, g⟩ (.int k (shlI k p q)) := by
  intro w
  have h0 := asm_out hk hc h
  simp [execOp, hk.val hc hx, hk.val hc hy, eqGuard_int, binOp, Op.shift, shlI, shrI, show ¬ q < 0 from by omega]
theorem p_shr {k' : IntKind} (hk : Knows ok a wk n σ Df) (hc : holds a c) (hx : opvc σ c x = some (.lit (.int k p))) (hy : opvc σ c y = some (.lit (.int k' q))) (h : asmP σ c (0 ≤ q)) :
    PureOp P a ⟨dst, .binOp .shr t x y t', ty, pos, aft, g⟩ (.int k (shrI k p q)) := by
  intro w
  have h0 := asm_out hk hc h
  simp [execOp, hk.val hc hx, hk.val hc hy, eqGuard_int, binOp, Op.shift, shlI, shrI, show ¬ q < 0 from by omega]
def andNotI (k : IntKind) (p q : Int) : Int := k.wrap ((BitVec.ofInt k.bits p &&& ~~~BitVec.ofInt k.bits q).toNat)
def notI (k : IntKind) (p : Int) : Int := k.wrap ((BitVec.ofInt k.bits (if k.signed then -1 else k.max) ^^^ BitVec.ofInt k.bits p).toNat)
theorem p_andNot (hk : Knows ok a wk n σ Df) (hc : holds a c) (hx : opvc σ c x = some (.lit (.int k p))) (hy : opvc σ c y = some (.lit (.int k q))) :
    PureOp P a ⟨dst, .binOp .andNot t x y t', ty, pos, aft, g⟩ (.int k (andNotI k p q)) := by
  intro w; simp [execOp, hk.val hc hx, hk.val hc hy, eqGuard_int, binOp, Op.intBits, andNotI]
theorem p_compl (hk : Knows ok a wk n σ Df) (hc : holds a c) (hx : opvc σ c x = some (.lit (.int k p))) :
    PureOp P a ⟨dst, .unOp .xor t x, ty, pos, aft, g⟩ (.int k (notI k p)) := by
  intro w; simp [execOp, hk.val hc hx, Op.unary, Op.intBits, notI]
def orI (k : IntKind) (p q : Int) : Int := k.wrap ((BitVec.ofInt k.bits p ||| BitVec.ofInt k.bits q).toNat)
def andI (k : IntKind) (p q : Int) : Int := k.wrap ((BitVec.ofInt k.bits p &&& BitVec.ofInt k.bits q).toNat)
def xorI (k : IntKind) (p q : Int) : Int := k.wrap ((BitVec.ofInt k.bits p ^^^ BitVec.ofInt k.bits q).toNat)
theorem p_or (hk : Knows ok a wk n σ Df) (hc : holds a c) (hx : opvc σ c x = some (.lit (.int k p))) (hy : opvc σ c y = some (.lit (.int k q))) :
    PureOp P a ⟨dst, .binOp .or t x y t', ty, pos, aft, g⟩ (.int k (orI k p q)) := by
  intro w; simp [execOp, hk.val hc hx, hk.val hc hy, eqGuard_int, binOp, Op.intBits, orI]
theorem p_and (hk : Knows ok a wk n σ Df) (hc : holds a c) (hx : opvc σ c x = some (.lit (.int k p))) (hy : opvc σ c y = some (.lit (.int k q))) :
    PureOp P a ⟨dst, .binOp .and t x y t', ty, pos, aft, g⟩ (.int k (andI k p q)) := by
  intro w; simp [execOp, hk.val hc hx, hk.val hc hy, eqGuard_int, binOp, Op.intBits, andI]
theorem p_xor (hk : Knows ok a wk n σ Df) (hc : holds a c) (hx : opvc σ c x = some (.lit (.int k p))) (hy : opvc σ c y = some (.lit (.int k q))) :
    PureOp P a ⟨dst, .binOp .xor t x y t', ty, pos, aft, g⟩ (.int k (xorI k p q)) := by
  intro w; simp [execOp, hk.val hc hx, hk.val hc hy, eqGuard_int, binOp, Op.intBits, xorI]
theorem p_neg (hk : Knows ok a wk n σ Df) (hc : holds a c) (hx : opvc σ c x = some (.lit (.int k p))) :
    PureOp P a ⟨dst, .unOp .neg t x, ty, pos, aft, g⟩ (.int k (k.wrap (0 - p))) := by
  intro w; simp [execOp, hk.val hc hx, Op.unary, Op.intArith]
theorem p_conv {s d : TypeId} {k' : IntKind} {D : TypeDesc} (hs : P.underlying s = some D) (hd : P.underlying d = some (.int k')) (hk : Knows ok a wk n σ Df) (hc : holds a c) (hx : opvc σ c x = some (.lit (.int k p))) :
    PureOp P a ⟨dst, .convert s d x, ty, pos, aft, g⟩ (.int k' (k'.wrap p)) := by
  intro w; simp [execOp, hk.val hc hx, convert, run_underlying hs, run_underlying hd, Conv.intToInt]
end ints

section bools
variable {t t' : TypeId} {x y : Operand} {p q : Bool}
theorem p_not (hk : Knows ok a wk n σ Df) (hc : holds a c) (hx : opvc σ c x = some (.lit (.bool p))) :
    PureOp P a ⟨dst, .unOp .not t x, ty, pos, aft, g⟩ (.bool (!p)) := by
  intro w; simp [execOp, hk.val hc hx, Op.unary]
theorem p_beql (hu : P.underlying t = some .bool) (hk : Knows ok a wk n σ Df) (hc : holds a c) (hx : opvc σ c x = some (.lit (.bool p))) (hy : opvc σ c y = some (.lit (.bool q))) :
    PureOp P a ⟨dst, .binOp .eql t x y t', ty, pos, aft, g⟩ (.bool (p == q)) := by
  intro w; simp [execOp, hk.val hc hx, hk.val hc hy, eqGuard_bool, run_eql_bool w t p q hu]
theorem p_bneq (hu : P.underlying t = some .bool) (hk : Knows ok a wk n σ Df) (hc : holds a c) (hx : opvc σ c x = some (.lit (.bool p))) (hy : opvc σ c y = some (.lit (.bool q))) :
    PureOp P a ⟨dst, .binOp .neq t x y t', ty, pos, aft, g⟩ (.bool (!(p == q))) := by
  intro w; simp [execOp, hk.val hc hx, hk.val hc hy, eqGuard_bool, run_neq_bool w t p q hu]
end bools

section strs
variable {t t' : TypeId} {x y : Operand} {l m : List UInt8}
theorem beq_dec (l m : List UInt8) : (l == m) = decide (l = m) := by rw [Bool.eq_iff_iff]; simp
theorem p_seql (hk : Knows ok a wk n σ Df) (hc : holds a c) (hx : opvc σ c x = some (.lit (.string (B l)))) (hy : opvc σ c y = some (.lit (.string (B m)))) :
    PureOp P a ⟨dst, .binOp .eql t x y t', ty, pos, aft, g⟩ (.bool (decide (l = m))) := by
  intro w; simp [execOp, hk.val hc hx, hk.val hc hy, eqGuard_str, binOp, Op.stringOp, Lib.toList_data, B, beq_dec]
theorem p_sneq (hk : Knows ok a wk n σ Df) (hc : holds a c) (hx : opvc σ c x = some (.lit (.string (B l)))) (hy : opvc σ c y = some (.lit (.string (B m)))) :
    PureOp P a ⟨dst, .binOp .neq t x y t', ty, pos, aft, g⟩ (.bool (!decide (l = m))) := by
  intro w; simp [execOp, hk.val hc hx, hk.val hc hy, eqGuard_str, binOp, Op.stringOp, Lib.toList_data, B, beq_dec]
theorem p_slss (hk : Knows ok a wk n σ Df) (hc : holds a c) (hx : opvc σ c x = some (.lit (.string (B l)))) (hy : opvc σ c y = some (.lit (.string (B m)))) :
    PureOp P a ⟨dst, .binOp .lss t x y t', ty, pos, aft, g⟩ (.bool (Op.bytesLess l m)) := by
  intro w; simp [execOp, hk.val hc hx, hk.val hc hy, eqGuard_str, binOp, Op.stringOp, Lib.toList_data, B]
def sgtr (l m : List UInt8) : Bool := !Op.bytesLess l m && !(l == m)
def sleq (l m : List UInt8) : Bool := Op.bytesLess l m || l == m
def sgeq (l m : List UInt8) : Bool := !Op.bytesLess l m
theorem p_sgtr (hk : Knows ok a wk n σ Df) (hc : holds a c) (hx : opvc σ c x = some (.lit (.string (B l)))) (hy : opvc σ c y = some (.lit (.string (B m)))) :
    PureOp P a ⟨dst, .binOp .gtr t x y t', ty, pos, aft, g⟩ (.bool (sgtr l m)) := by
  intro w; simp [execOp, hk.val hc hx, hk.val hc hy, eqGuard_str, binOp, Op.stringOp, Lib.toList_data, B, sgtr]
theorem p_sleq (hk : Knows ok a wk n σ Df) (hc : holds a c) (hx : opvc σ c x = some (.lit (.string (B l)))) (hy : opvc σ c y = some (.lit (.string (B m)))) :
    PureOp P a ⟨dst, .binOp .leq t x y t', ty, pos, aft, g⟩ (.bool (sleq l m)) := by
  intro w; simp [execOp, hk.val hc hx, hk.val hc hy, eqGuard_str, binOp, Op.stringOp, Lib.toList_data, B, sleq]
theorem p_sgeq (hk : Knows ok a wk n σ Df) (hc : holds a c) (hx : opvc σ c x = some (.lit (.string (B l)))) (hy : opvc σ c y = some (.lit (.string (B m)))) :
    PureOp P a ⟨dst, .binOp .geq t x y t', ty, pos, aft, g⟩ (.bool (sgeq l m)) := by
  intro w; simp [execOp, hk.val hc hx, hk.val hc hy, eqGuard_str, binOp, Op.stringOp, Lib.toList_data, B, sgeq]
theorem p_sadd (hk : Knows ok a wk n σ Df) (hc : holds a c) (hx : opvc σ c x = some (.lit (.string (B l)))) (hy : opvc σ c y = some (.lit (.string (B m)))) (h : asmP σ c ((l.length : Int) + m.length ≤ 9223372036854775807)) :
    PureOp P a ⟨dst, .binOp .add t x y t', ty, pos, aft, g⟩ (.string (B (l ++ m))) := by
  intro w
  have h0 := asm_out hk hc h
  have e : (B l ++ B m : ByteArray) = B (l ++ m) := by
    apply ByteArray.ext
    simp [B]
  have hle : ¬ (((B l).size + (B m).size : Nat) : Int) > IntKind.i64.max := by
    have : IntKind.i64.max = 9223372036854775807 := by decide
    rw [this]
    rw [B_size, B_size]
    omega
  simp only [execOp, hk.val hc hx, hk.val hc hy, binOp, Op.stringOp]
  simp only [Sem.run_bind, eqGuard_str, Result.andThen_ok]
  rw [if_neg hle, e]
  simp
theorem p_slen {ts : TypeId} (hu : P.underlying ts = some .string) (hk : Knows ok a wk n σ Df) (hc : holds a c) (hx : opvc σ c x = some (.lit (.string (B l)))) :
    PureOp P a ⟨dst, .call { callee := .builtin .len, args := #[x], argTypes := #[ts] }, ty, pos, aft, g⟩ (.int .i64 (l.length : Int)) := by
  intro w; simp [execOp, resolve, invoke, builtin, hk.val hc hx, Builtin.len_, run_underlying hu, goInt, B_size]
theorem p_index {ts : TypeId} {k : IntKind} {i : Int} (hu : P.underlying ts = some .string) (hk : Knows ok a wk n σ Df) (hc : holds a c) (hx : opvc σ c x = some (.lit (.string (B l)))) (hy : opvc σ c y = some (.lit (.int k i))) (h : asmP σ c (0 ≤ i ∧ i < l.length)) :
    PureOp P a ⟨dst, .index ts x y, ty, pos, aft, g⟩ (.int .u8 (bt l i)) := by
  intro w
  obtain ⟨h0, h1⟩ := asm_out hk hc h
  have hlt : i.toNat < l.length := by omega
  have hs : (B l)[i.toNat]? = some (l[i.toNat]) := by
    simp only [B, getElem?_def]
    rw [dif_pos (by show i.toNat < l.length; exact hlt)]
    rfl
  have hb : bt l i = (l[i.toNat].toNat : Int) := by
    unfold bt
    rw [List.getD_eq_getElem?_getD, List.getElem?_eq_getElem hlt]; rfl
  rw [hb]
  simp [execOp, hk.val hc hx, hk.val hc hy, Instr.index, asIntOf, run_underlying hu, h0, hs]
theorem ext_B (l : List UInt8) (i j : Nat) : (B l).extract i j = B ((l.drop i).take (j - i)) := by
  apply ByteArray.ext
  simp [B, ByteArray.data_extract, List.extract_eq_take_drop]
theorem p_slice {ts : TypeId} {lo hi : Option Operand} {p q : Int} {k k' : IntKind} (hu : P.underlying ts = some .string) (hk : Knows ok a wk n σ Df) (hc : holds a c) (hx : opvc σ c x = some (.lit (.string (B l))))
    (hp : lo.map (opvc σ c) = some (some (.lit (.int k p)))) (hq : hi.map (opvc σ c) = some (some (.lit (.int k' q)))) (h : asmP σ c (0 ≤ p ∧ p ≤ q ∧ q ≤ l.length)) :
    PureOp P a ⟨dst, .slice ts x lo hi none, ty, pos, aft, g⟩ (.string (B ((l.drop p.toNat).take (q.toNat - p.toNat)))) := by
  intro w
  obtain ⟨h0, h1, h2⟩ := asm_out hk hc h
  obtain ⟨lo', rfl, hlo⟩ := Option.map_eq_some_iff.1 hp
  obtain ⟨hi', rfl, hhi⟩ := Option.map_eq_some_iff.1 hq
  have hsz : (B l).size = l.length := B_size l
  rw [← ext_B]
  simp only [execOp, Option.map_some, Option.map_none, hk.val hc hx, hk.val hc hlo, hk.val hc hhi]
  simp only [Instr.sliceAt, Instr.slice]
  simp [run_underlying hu, Instr.sliceBounds, Instr.sliceBound, asIntOf, hsz, show 0 ≤ q from by omega, h0, h2]
  intro hh; omega
theorem p_slice_lo {ts : TypeId} {lo : Option Operand} {p : Int} {k : IntKind} (hu : P.underlying ts = some .string) (hk : Knows ok a wk n σ Df) (hc : holds a c) (hx : opvc σ c x = some (.lit (.string (B l))))
    (hp : lo.map (opvc σ c) = some (some (.lit (.int k p)))) (h : asmP σ c (0 ≤ p ∧ p ≤ l.length)) :
    PureOp P a ⟨dst, .slice ts x lo none none, ty, pos, aft, g⟩ (.string (B (l.drop p.toNat))) := by
  intro w
  obtain ⟨h0, h1⟩ := asm_out hk hc h
  obtain ⟨lo', rfl, hlo⟩ := Option.map_eq_some_iff.1 hp
  have hsz : (B l).size = l.length := B_size l
  have e : (B l).extract p.toNat l.length = B (l.drop p.toNat) := by
    rw [ext_B]
    congr 1
    rw [List.take_of_length_le (by simp)]
  rw [← e]
  simp only [execOp, Option.map_some, Option.map_none, hk.val hc hx, hk.val hc hlo]
  simp only [Instr.sliceAt, Instr.slice]
  simp [run_underlying hu, Instr.sliceBounds, Instr.sliceBound, asIntOf, hsz, h0, h1]
theorem p_slice_hi {ts : TypeId} {hi : Option Operand} {q : Int} {k : IntKind} (hu : P.underlying ts = some .string) (hk : Knows ok a wk n σ Df) (hc : holds a c) (hx : opvc σ c x = some (.lit (.string (B l))))
    (hq : hi.map (opvc σ c) = some (some (.lit (.int k q)))) (h : asmP σ c (0 ≤ q ∧ q ≤ l.length)) :
    PureOp P a ⟨dst, .slice ts x none hi none, ty, pos, aft, g⟩ (.string (B (l.take q.toNat))) := by
  intro w
  obtain ⟨h0, h1⟩ := asm_out hk hc h
  obtain ⟨hi', rfl, hhi⟩ := Option.map_eq_some_iff.1 hq
  have hsz : (B l).size = l.length := B_size l
  have e : (B l).extract 0 q.toNat = B (l.take q.toNat) := by
    rw [ext_B]; simp
  rw [← e]
  simp only [execOp, Option.map_some, Option.map_none, hk.val hc hx, hk.val hc hhi]
  simp only [Instr.sliceAt, Instr.slice]
  simp [run_underlying hu, Instr.sliceBounds, Instr.sliceBound, asIntOf, hsz, h0, h1]
end strs

section floats
variable {t t' : TypeId} {x y : Operand} {p q : Nat}
def feql (p q : Nat) : Bool := (Ieee.double.order p q == some .eq)
theorem p_feql (hk : Knows ok a wk n σ Df) (hc : holds a c) (hx : opvc σ c x = some (.lit (.float .f64 p))) (hy : opvc σ c y = some (.lit (.float .f64 q))) :
    PureOp P a ⟨dst, .binOp .eql t x y t', ty, pos, aft, g⟩ (.bool (feql p q)) := by
  intro w; simp [execOp, hk.val hc hx, hk.val hc hy, eqGuard_float, binOp, Op.floatCmp, feql]; rfl
def fneq (p q : Nat) : Bool := (Ieee.double.order p q != some .eq)
theorem p_fneq (hk : Knows ok a wk n σ Df) (hc : holds a c) (hx : opvc σ c x = some (.lit (.float .f64 p))) (hy : opvc σ c y = some (.lit (.float .f64 q))) :
    PureOp P a ⟨dst, .binOp .neq t x y t', ty, pos, aft, g⟩ (.bool (fneq p q)) := by
  intro w; simp [execOp, hk.val hc hx, hk.val hc hy, eqGuard_float, binOp, Op.floatCmp, fneq]; rfl
def flss (p q : Nat) : Bool := (Ieee.double.order p q == some .lt)
theorem p_flss (hk : Knows ok a wk n σ Df) (hc : holds a c) (hx : opvc σ c x = some (.lit (.float .f64 p))) (hy : opvc σ c y = some (.lit (.float .f64 q))) :
    PureOp P a ⟨dst, .binOp .lss t x y t', ty, pos, aft, g⟩ (.bool (flss p q)) := by
  intro w; simp [execOp, hk.val hc hx, hk.val hc hy, eqGuard_float, binOp, Op.floatCmp, flss]; rfl
def fleq (p q : Nat) : Bool := (Ieee.double.order p q == some .lt || Ieee.double.order p q == some .eq)
theorem p_fleq (hk : Knows ok a wk n σ Df) (hc : holds a c) (hx : opvc σ c x = some (.lit (.float .f64 p))) (hy : opvc σ c y = some (.lit (.float .f64 q))) :
    PureOp P a ⟨dst, .binOp .leq t x y t', ty, pos, aft, g⟩ (.bool (fleq p q)) := by
  intro w; simp [execOp, hk.val hc hx, hk.val hc hy, eqGuard_float, binOp, Op.floatCmp, fleq]; rfl
def fgtr (p q : Nat) : Bool := (Ieee.double.order p q == some .gt)
theorem p_fgtr (hk : Knows ok a wk n σ Df) (hc : holds a c) (hx : opvc σ c x = some (.lit (.float .f64 p))) (hy : opvc σ c y = some (.lit (.float .f64 q))) :
    PureOp P a ⟨dst, .binOp .gtr t x y t', ty, pos, aft, g⟩ (.bool (fgtr p q)) := by
  intro w; simp [execOp, hk.val hc hx, hk.val hc hy, eqGuard_float, binOp, Op.floatCmp, fgtr]; rfl
def fgeq (p q : Nat) : Bool := (Ieee.double.order p q == some .gt || Ieee.double.order p q == some .eq)
theorem p_fgeq (hk : Knows ok a wk n σ Df) (hc : holds a c) (hx : opvc σ c x = some (.lit (.float .f64 p))) (hy : opvc σ c y = some (.lit (.float .f64 q))) :
    PureOp P a ⟨dst, .binOp .geq t x y t', ty, pos, aft, g⟩ (.bool (fgeq p q)) := by
  intro w; simp [execOp, hk.val hc hx, hk.val hc hy, eqGuard_float, binOp, Op.floatCmp, fgeq]; rfl
end floats

section others
variable {t t' : TypeId} {x y : Operand}
theorem p_extract {vs : Array Value} {i : Nat} {v : Value} (hk : Knows ok a wk n σ Df) (hc : holds a c) (hx : opvc σ c x = some (.lit (.tuple vs))) (hi : vs[i]? = some v) :
    PureOp P a ⟨dst, .extract x i, ty, pos, aft, g⟩ v := by
  intro w; simp [execOp, hk.val hc hx, Instr.extract, hi]
theorem p_len {A : Option Addr} {m cp : Nat} {ts e : TypeId} (hu : P.underlying ts = some (.slice e)) (hk : Knows ok a wk n σ Df) (hc : holds a c) (hx : opvc σ c x = some (.lit (.slice A m cp))) :
    PureOp P a ⟨dst, .call { callee := .builtin .len, args := #[x], argTypes := #[ts] }, ty, pos, aft, g⟩ (.int .i64 (m : Int)) := by
  intro w; simp [execOp, resolve, invoke, builtin, hk.val hc hx, Builtin.len_, run_underlying hu, goInt]
theorem p_nilCheck {A : Addr} (hk : Knows ok a wk n σ Df) (hc : holds a c) (hx : opvc σ c x = some (.lit (.pointer (some A)))) :
    PureOp P a ⟨dst, .nilCheck x, ty, pos, aft, g⟩ (.pointer (some A)) := by
  intro w; simp [execOp, hk.val hc hx]
end others
end
end Go.Proofs.Ytaoffkhflmndhaa.FW
