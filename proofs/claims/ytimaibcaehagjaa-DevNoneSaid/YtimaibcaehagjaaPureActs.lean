/- Plain law of devices: a device and the document's go side by side, whatever is done. -/
import Derived.Test.YtimaibcaehagjaaPureDx
namespace Go.Proofs.Ytimaibcaehagjaa
set_option linter.unusedVariables false
set_option maxHeartbeats 1000000
/-! ### Bits -/
theorem andI_par (x : Int) : FW.andI .u64 x 1 = x % 2 := by
  unfold FW.andI
  have e : (BitVec.ofInt IntKind.u64.bits x &&& BitVec.ofInt IntKind.u64.bits 1).toNat = (x % 2).toNat := by
    have e1 : (BitVec.ofInt IntKind.u64.bits 1).toNat = 1 := by decide
    rw [BitVec.toNat_and, e1, Nat.and_one_is_mod, BitVec.toNat_ofInt]
    show (x % ((2 ^ 64 : Nat) : Int)).toNat % 2 = _
    omega
  rw [e, IntKind.wrap_u64]
  omega
theorem tmod_par (x : Int) : Int.tmod x 2 = 0 ↔ x % 2 = 0 := by
  rw [Int.tmod_eq_emod]
  split <;> omega
theorem andI_15 (x : Int) : 0 ≤ FW.andI .i64 x 15 ∧ FW.andI .i64 x 15 ≤ 15 := by
  unfold FW.andI
  have e : (BitVec.ofInt IntKind.i64.bits x &&& BitVec.ofInt IntKind.i64.bits 15).toNat ≤ 15 := by
    have e1 : (BitVec.ofInt IntKind.i64.bits 15).toNat = 15 := by decide
    rw [BitVec.toNat_and, e1]
    exact Nat.and_le_right
  rw [W_in (by omega) (by omega)]
  omega
/-! ### Lists by their places -/
abbrev Lo := Offshootref03Loose
def SortedL (l : List Lo) : Prop := l.Pairwise fun a b => a.At < b.At
theorem sorted_eq : ∀ {l l' : List Int}, l.Pairwise (· < ·) → l'.Pairwise (· < ·) → (∀ x, x ∈ l ↔ x ∈ l') → l = l'
  | [], [], _, _, _ => rfl
  | [], y :: l', _, _, h => by have := (h y).2 List.mem_cons_self; cases this
  | x :: l, [], _, _, h => by have := (h x).1 List.mem_cons_self; cases this
  | x :: l, y :: l', h1, h2, h => by
    rw [List.pairwise_cons] at h1 h2
    have hxy : x = y := by
      rcases List.mem_cons.1 ((h x).1 List.mem_cons_self) with e | e
      · exact e
      · rcases List.mem_cons.1 ((h y).2 List.mem_cons_self) with e' | e'
        · exact e'.symm
        · have := h2.1 x e; have := h1.1 y e'; omega
    subst hxy
    congr 1
    refine sorted_eq h1.2 h2.2 fun z => ?_
    constructor
    · intro hz
      rcases List.mem_cons.1 ((h z).1 (List.mem_cons_of_mem _ hz)) with e | e
      · subst e; have := h1.1 z hz; omega
      · exact e
    · intro hz
      rcases List.mem_cons.1 ((h z).2 (List.mem_cons_of_mem _ hz)) with e | e
      · subst e; have := h2.1 z hz; omega
      · exact e
/-- A sector put into a list by its place. -/
def insL (at_ : Int) (s : Sec) : Bool → List Lo → List Lo
  | true, [] => []
  | false, [] => [⟨at_, s⟩]
  | b, x :: r => (if (!b && decide (at_ ≤ x.At)) = true then [⟨at_, s⟩] else []) ++ ((if x.At = at_ then [] else [x]) ++ insL at_ s (b || decide (at_ ≤ x.At)) r)
theorem insL_true (at_ : Int) (s : Sec) : ∀ l, insL at_ s true l = l.filter fun x => !decide (x.At = at_)
  | [] => rfl
  | x :: r => by
    have ih := insL_true at_ s r
    simp only [insL, Bool.not_true, Bool.false_and, Bool.false_eq_true, if_false, List.nil_append, Bool.true_or]
    rw [ih, List.filter_cons]
    by_cases h : x.At = at_ <;> simp [h]
theorem insL_mem (at_ : Int) (s : Sec) (y : Lo) : ∀ l, SortedL l → (y ∈ insL at_ s false l ↔ y = ⟨at_, s⟩ ∨ (y ∈ l ∧ y.At ≠ at_))
  | [], _ => by simp [insL]
  | x :: r, h => by
    unfold SortedL at h
    rw [List.pairwise_cons] at h
    have ih := insL_mem at_ s y r h.2
    by_cases hx : at_ ≤ x.At
    · simp only [insL, hx, decide_true, Bool.not_false, Bool.and_self, if_true, Bool.or_true, insL_true]
      by_cases hxe : x.At = at_
      · simp only [hxe, if_true, List.nil_append, List.singleton_append, List.mem_cons, List.mem_filter]
        constructor
        · rintro (h1 | ⟨h1, h2⟩)
          · exact .inl h1
          · exact .inr ⟨.inr h1, by simpa using h2⟩
        · rintro (h1 | ⟨h1 | h1, h2⟩)
          · exact .inl h1
          · subst h1; exact absurd hxe h2
          · exact .inr ⟨h1, by simpa using h2⟩
      · simp only [hxe, if_false, List.singleton_append, List.mem_cons, List.mem_filter]
        constructor
        · rintro (h1 | h1 | ⟨h1, h2⟩)
          · exact .inl h1
          · subst h1; exact .inr ⟨.inl rfl, hxe⟩
          · exact .inr ⟨.inr h1, by simpa using h2⟩
        · rintro (h1 | ⟨h1 | h1, h2⟩)
          · exact .inl h1
          · exact .inr (.inl h1)
          · exact .inr (.inr ⟨h1, by simpa using h2⟩)
    · have hxe : ¬ x.At = at_ := by omega
      simp only [insL, hx, decide_false, Bool.and_false, Bool.false_eq_true, if_false, List.nil_append, Bool.or_false, hxe, List.singleton_append, List.mem_cons, ih]
      constructor
      · rintro (h1 | h1 | ⟨h1, h2⟩)
        · subst h1; exact .inr ⟨.inl rfl, hxe⟩
        · exact .inl h1
        · exact .inr ⟨.inr h1, h2⟩
      · rintro (h1 | ⟨h1 | h1, h2⟩)
        · exact .inr (.inl h1)
        · exact .inl h1
        · exact .inr (.inr ⟨h1, h2⟩)
theorem insL_sorted (at_ : Int) (s : Sec) : ∀ l, SortedL l → SortedL (insL at_ s false l)
  | [], _ => by simp [insL, SortedL]
  | x :: r, h => by
    have h0 := h
    unfold SortedL at h
    rw [List.pairwise_cons] at h
    have ih := insL_sorted at_ s r h.2
    by_cases hx : at_ ≤ x.At
    · simp only [insL, hx, decide_true, Bool.not_false, Bool.and_self, if_true, Bool.or_true, insL_true]
      have hf : SortedL (r.filter fun y => !decide (y.At = at_)) := List.Pairwise.sublist List.filter_sublist h.2
      by_cases hxe : x.At = at_
      · simp only [hxe, if_true, List.nil_append, List.singleton_append]
        unfold SortedL
        rw [List.pairwise_cons]
        refine ⟨fun y hy => ?_, hf⟩
        have := h.1 y (List.mem_filter.1 hy).1
        show at_ < y.At
        omega
      · simp only [hxe, if_false, List.singleton_append]
        unfold SortedL
        rw [List.pairwise_cons, List.pairwise_cons]
        refine ⟨fun y hy => ?_, fun y hy => h.1 y (List.mem_filter.1 hy).1, hf⟩
        show at_ < y.At
        rcases List.mem_cons.1 hy with rfl | hy
        · omega
        · have := h.1 y (List.mem_filter.1 hy).1; omega
    · have hxe : ¬ x.At = at_ := by omega
      simp only [insL, hx, decide_false, Bool.and_false, Bool.false_eq_true, if_false, List.nil_append, Bool.or_false, hxe, List.singleton_append]
      unfold SortedL
      rw [List.pairwise_cons]
      refine ⟨fun y hy => ?_, ih⟩
      rcases (insL_mem at_ s y r h.2).1 hy with rfl | ⟨h1, _⟩
      · show x.At < at_; omega
      · exact h.1 y h1
/-! ### A device and the document's -/
structure Rel (n : Nat) (d : ODevDev) (m : Offshootref03Dev) : Prop where
  sure : m.Sure = d.sure
  steps : m.Steps = d.steps
  falls : m.Falls = d.falls
  off : m.Off = d.off
  dv : Dv n d.sure d.cache
  f1 : d.falls.length ≤ 1
  srt : SortedL m.Loose
  mem : ∀ x, x ∈ m.Loose ↔ (x.At, x.S) ∈ d.cache
section
variable {n : Nat} {d : ODevDev} {m : Offshootref03Dev}
theorem Rel.keys (h : Rel n d m) : FW.sortK d.cache = m.Loose.map (·.At) := by
  refine sorted_eq ?_ ?_ fun x => ?_
  · have h1 : (FW.sortK d.cache).Pairwise (fun a b => decide (a ≤ b) = true) := by
      unfold FW.sortK
      exact List.pairwise_mergeSort (by intro a b c; simp only [decide_eq_true_eq]; omega) (by intro a b; simp only [Bool.or_eq_true, decide_eq_true_eq]; omega) _
    have h2 : (FW.sortK d.cache).Nodup := by
      unfold FW.sortK
      exact ((List.mergeSort_perm _ _).nodup_iff).2 h.dv.nd
    refine (List.Pairwise.and h1 h2).imp fun {a b} hab => ?_
    have h3 : a ≤ b := by simpa using hab.1
    have h4 : a ≠ b := hab.2
    omega
  · rw [List.pairwise_map]; exact h.srt
  · rw [sortK_mem, List.mem_map]
    constructor
    · rintro ⟨p, hp, rfl⟩; exact ⟨⟨p.1, p.2⟩, (h.mem _).2 hp, rfl⟩
    · rintro ⟨y, hy, rfl⟩; exact ⟨(y.At, y.S), (h.mem y).1 hy, rfl⟩
theorem Rel.len (h : Rel n d m) : m.Loose.length = d.cache.length := by
  have := congrArg List.length h.keys
  simp only [List.length_map] at this
  rw [← this]; simp [FW.sortK]
theorem Rel.at_ (h : Rel n d m) {x : Lo} (hx : x ∈ m.Loose) : FW.mget d.cache x.At = some x.S := (mget_iff h.dv.nd).2 ((h.mem x).1 hx)
theorem Rel.in_ (h : Rel n d m) {x : Lo} (hx : x ∈ m.Loose) : 0 ≤ x.At ∧ x.At < (n : Int) ∧ x.S.length = 128 := h.dv.keys _ ((h.mem x).1 hx)
end
/-! ### A loss of power -/
def clipT (torn : Int) : Int := if (128 : Int) < (if torn < 0 then 0 else torn) then 128 else (if torn < 0 then 0 else torn)
theorem clipT_in (torn : Int) : 0 ≤ clipT torn ∧ clipT torn ≤ 128 := by
  unfold clipT
  split <;> split <;> omega
theorem crash_both (K : Nat) (n : Nat) (hn : n ≤ 65536) (d : ODevDev) (keep : Int) (y : Offshootref03Dev) (hL : y.Loose.length ≤ 2000) (hx : ∀ x ∈ y.Loose, 0 ≤ x.At ∧ x.At < (n : Int) ∧ x.S.length = 128 ∧ FW.mget d.cache x.At = some x.S) (st : Int) (off : Bool) :
    ∀ (k : Nat) (i : Nat) (sure : List Sec) (torn : Int), sure.length = n → (∀ s ∈ sure, s.length = 128) → i ≤ y.Loose.length → y.Loose.length - i < k →
      ∃ S : List Sec, S.length = n ∧ (∀ s ∈ S, s.length = 128) ∧ dev_Dev_Crash.l1 K d k st off sure keep torn (y.Loose.map (·.At)) (y.Loose.length : Int) (i : Int) = some ⟨S, [], st, d.falls, true⟩ ∧
        offshootref03_Dev_Crash.l1 K k ⟨sure, y.Loose, y.Steps, y.Falls, y.Off⟩ keep (clipT torn) (i : Int) = some ⟨S, [], y.Steps, y.Falls, true⟩ := by
  intro k
  induction k with
  | zero => intro i sure torn h0 h1 h2 h3; omega
  | succ k ih =>
    intro i sure torn h0 h1 h2 h3
    by_cases hi : i < y.Loose.length
    · obtain ⟨x, hxd⟩ : ∃ x, y.Loose[i] = x := ⟨_, rfl⟩
      have hx0 := hx _ (List.getElem_mem hi)
      rw [hxd] at hx0
      have e1 : (y.Loose.map (·.At)).getD i default = x.At := by simp [List.getD_eq_getElem?_getD, hi, hxd]
      have e2 : y.Loose.getD i default = x := by simp [List.getD_eq_getElem?_getD, hi, hxd]
      obtain ⟨x0, x1, x2, x3⟩ := hx0
      obtain ⟨b, hb⟩ : ∃ b, b = (if (63 : Int) < (i : Int) then 63 else (i : Int)) := ⟨_, rfl⟩
      have hb0 : 0 ≤ b ∧ b ≤ 63 := by rw [hb]; split <;> omega
      obtain ⟨c0, c1⟩ := clipT_in torn
      have hcl : (if ((128 : Nat) : Int) < (if torn < 0 then 0 else torn) then ((128 : Nat) : Int) else (if torn < 0 then 0 else torn)) = clipT torn := rfl
      have hin : sure.getD x.At.toNat default ∈ sure := by
        have hl : x.At.toNat < sure.length := by omega
        rw [List.getD_eq_getElem?_getD, List.getElem?_eq_getElem hl]
        exact List.getElem_mem hl
      have hl := h1 _ hin
      have hR : dev_Dev_Crash.l1 K d (k + 1) st off sure keep torn (y.Loose.map (·.At)) (y.Loose.length : Int) (i : Int) =
          if FW.andI .u64 (FW.shrI .u64 keep b) 1 = 0 then dev_Dev_Crash.j1 (dev_Dev_Crash.l1 K d k) K sure d st off keep 0 x.At (List.take (clipT torn).toNat x.S ++ List.drop (clipT torn).toNat (sure.getD x.At.toNat default)) (y.Loose.map (·.At)) (y.Loose.length : Int) (i : Int)
          else dev_Dev_Crash.j1 (dev_Dev_Crash.l1 K d k) K sure d st off keep torn x.At x.S (y.Loose.map (·.At)) (y.Loose.length : Int) (i : Int) := by
        rw [dev_Dev_Crash.l1, if_pos (by simp; omega), if_pos ⟨by omega, by simp; omega⟩, if_pos (by split <;> omega), Int.toNat_natCast, e1]
        simp only [x3, Option.getD_some, x2]
        rw [hcl, ← hb]
        by_cases hp : FW.andI .u64 (FW.shrI .u64 keep b) 1 = 0
        · rw [if_pos (by simpa using hp), if_pos ⟨c0, by omega⟩, if_pos ⟨x0, by omega⟩, if_pos ⟨c0, by omega⟩, if_pos (by simp only [List.length_take, List.length_drop, x2, hl]; omega), if_pos hp]
        · rw [if_neg (by simpa using hp), if_neg hp]
      have hM : offshootref03_Dev_Crash.l1 K (k + 1) ⟨sure, y.Loose, y.Steps, y.Falls, y.Off⟩ keep (clipT torn) (i : Int) = 
          offshootref03_Dev_Crash.j3 (offshootref03_Dev_Crash.l1 K k) K ⟨sure, y.Loose, y.Steps, y.Falls, y.Off⟩ keep (clipT torn) (i : Int) b := by
        rw [offshootref03_Dev_Crash.l1, if_pos (by simp; omega)]
        by_cases h63 : (63 : Int) < (i : Int)
        · rw [if_pos (by simpa using h63), hb, if_pos h63]
        · rw [if_neg (by simpa using h63), hb, if_neg h63]
      have hM3 : offshootref03_Dev_Crash.j3 (offshootref03_Dev_Crash.l1 K k) K ⟨sure, y.Loose, y.Steps, y.Falls, y.Off⟩ keep (clipT torn) (i : Int) b =
          if FW.andI .u64 (FW.shrI .u64 keep b) 1 = 0 then offshootref03_Dev_Crash.j4 (offshootref03_Dev_Crash.l1 K k) K ⟨sure, y.Loose, y.Steps, y.Falls, y.Off⟩ keep 0 (i : Int) x.At (List.take (clipT torn).toNat x.S ++ List.drop (clipT torn).toNat (sure.getD x.At.toNat default))
          else offshootref03_Dev_Crash.j4 (offshootref03_Dev_Crash.l1 K k) K ⟨sure, y.Loose, y.Steps, y.Falls, y.Off⟩ keep (clipT torn) (i : Int) x.At x.S := by
        unfold offshootref03_Dev_Crash.j3
        simp only [Int.toNat_natCast]
        rw [if_pos (show (0 : Int) ≤ (i : Int) ∧ (i : Int) < (y.Loose.length : Int) from ⟨by omega, by omega⟩), if_pos (show (0 : Int) ≤ (i : Int) ∧ (i : Int) < (y.Loose.length : Int) from ⟨by omega, by omega⟩)]
        have hw : IntKind.wrap .u64 b = b := by rw [IntKind.wrap_u64]; omega
        rw [hw, if_pos hb0.1]
        have hpar : (Int.tmod (FW.shrI .u64 keep b) 2 = 0) ↔ FW.andI .u64 (FW.shrI .u64 keep b) 1 = 0 := by rw [tmod_par, andI_par]
        simp only [e2, x2]
        by_cases hp : FW.andI .u64 (FW.shrI .u64 keep b) 1 = 0
        · rw [if_pos (by simpa using hpar.2 hp), if_pos ⟨c0, by omega⟩, if_pos ⟨x0, by omega⟩, if_pos ⟨c0, by omega⟩, if_pos (by simp only [List.length_take, List.length_drop, x2, hl]; omega), if_pos hp]
        · rw [if_neg (by simpa using fun h => hp (hpar.1 h)), if_neg hp]
      -- the sector that is laid
      have fin : ∀ (s : Sec) (torn : Int), s.length = 128 → ∃ S : List Sec, S.length = n ∧ (∀ s ∈ S, s.length = 128) ∧
          dev_Dev_Crash.j1 (dev_Dev_Crash.l1 K d k) K sure d st off keep torn x.At s (y.Loose.map (·.At)) (y.Loose.length : Int) (i : Int) = some ⟨S, [], st, d.falls, true⟩ ∧
          offshootref03_Dev_Crash.j4 (offshootref03_Dev_Crash.l1 K k) K ⟨sure, y.Loose, y.Steps, y.Falls, y.Off⟩ keep (clipT torn) (i : Int) x.At s = some ⟨S, [], y.Steps, y.Falls, true⟩ := by
        intro s torn hs
        obtain ⟨S, s1, s2, s3, s4⟩ := ih (i + 1) (sure.set x.At.toNat s) torn (by simpa using h0) (fun z hz => by
          rcases List.mem_or_eq_of_mem_set hz with hz | rfl
          · exact h1 z hz
          · exact hs) (by omega) (by omega)
        refine ⟨S, s1, s2, ?_, ?_⟩
        · unfold dev_Dev_Crash.j1
          rw [if_pos ⟨x0, by omega⟩, W_in (by omega) (by omega), show ((i : Int) + 1) = ((i + 1 : Nat) : Int) by omega]
          exact s3
        · unfold offshootref03_Dev_Crash.j4 offshootref03_laid.f
          rw [if_pos (by simp [h0]; omega), if_pos ⟨x0, by simp [h0]; omega⟩]
          simp only [List.nil_append, Option.bind_some]
          rw [W_in (by omega) (by omega), show ((i : Int) + 1) = ((i + 1 : Nat) : Int) by omega]
          exact s4
      rw [hR, hM, hM3]
      by_cases hp : FW.andI .u64 (FW.shrI .u64 keep b) 1 = 0
      · rw [if_pos hp, if_pos hp]
        exact fin _ 0 (by simp only [List.length_append, List.length_take, List.length_drop, x2, hl]; omega)
      · rw [if_neg hp, if_neg hp]
        exact fin x.S torn x2
    · have : i = y.Loose.length := by omega
      subst this
      refine ⟨sure, h0, h1, ?_, ?_⟩
      · rw [dev_Dev_Crash.l1, if_neg (by simp)]
      · rw [offshootref03_Dev_Crash.l1, if_neg (by simp)]
section
variable {K n : Nat} {d : ODevDev} {m : Offshootref03Dev}
theorem off_eq (d : ODevDev) : dev_Dev_Off.f d = some d.off := rfl
theorem clip_ref (torn : Int) (y : Offshootref03Dev) (keep : Int) : (if (decide (torn < 0)) = true then offshootref03_Dev_Crash.j1 K y keep 0 else offshootref03_Dev_Crash.j1 K y keep torn) = offshootref03_Dev_Crash.l1 K K y keep (clipT torn) 0 := by
  unfold offshootref03_Dev_Crash.j1 offshootref03_Dev_Crash.j2 clipT
  by_cases h : torn < 0
  · simp [h]
  · by_cases h' : 128 < torn <;> simp [h, h']
theorem crash_rel (hK : 3000 < K) (hn : n ≤ 65536) (h : Rel n d m) (hl : d.cache.length ≤ 1000) (keep torn : Int) :
    ∃ d' m', dev_Dev_Crash.f K d keep torn = some d' ∧ offshootref03_Dev_Crash.f K m keep torn = some m' ∧ Rel n d' m' ∧ d'.cache.length ≤ d.cache.length ∧ d'.falls = d.falls ∧ (d.off = false → d'.off = true) := by
  unfold dev_Dev_Crash.f offshootref03_Dev_Crash.f
  rw [off_eq, h.off]
  simp only [Option.bind_some]
  by_cases ho : d.off = true
  · rw [if_pos ho, if_pos ho]
    exact ⟨d, m, rfl, rfl, h, Nat.le_refl _, rfl, fun e => by rw [ho] at e; cases e⟩
  · rw [if_neg ho, if_neg ho]
    have hok : FW.keysOk d.cache = true := by
      unfold FW.keysOk
      rw [Bool.and_eq_true, List.all_eq_true]
      refine ⟨fun p hp => ?_, by simp; omega⟩
      obtain ⟨p0, p1, _⟩ := h.dv.keys p hp
      simp [FW.in64]; omega
    rw [if_pos hok, clip_ref, h.keys, List.length_map]
    have hll := h.len
    obtain ⟨S, s1, s2, s3, s4⟩ := crash_both K n hn d keep m (by omega) (fun x hx => ⟨(h.in_ hx).1, (h.in_ hx).2.1, (h.in_ hx).2.2, h.at_ hx⟩) d.steps d.off K 0 d.sure torn h.dv.len h.dv.secs (by omega) (by omega)
    have hm : m = ⟨d.sure, m.Loose, m.Steps, m.Falls, m.Off⟩ := by rw [← h.sure]
    refine ⟨_, ⟨S, [], m.Steps, m.Falls, true⟩, s3, ?_, ⟨rfl, h.steps, h.falls, rfl, ⟨s1, s2, by simp, by simp⟩, h.f1, by simp [SortedL], by simp⟩, Nat.zero_le _, rfl, fun _ => rfl⟩
    have s4' := s4
    rw [← hm] at s4'
    exact s4'
/-! ### Steps -/
theorem idx_eq (hK : 3 ≤ K) (hf : d.falls.length ≤ 1) : slices_IndexFunc_api_Fall_api_Fall_of_dev_Dev_step_1.f K ⟨⟩ d = some (if (d.falls.head?.map fun f => decide (f.At = d.steps)) = some true then 0 else -1) := by
  obtain ⟨k, rfl⟩ : ∃ k, K = k + 2 := ⟨K - 2, by omega⟩
  unfold slices_IndexFunc_api_Fall_api_Fall_of_dev_Dev_step_1.f
  obtain ⟨sure, cache, steps, falls, off⟩ := d
  match falls, hf with
  | [], _ => rw [slices_IndexFunc_api_Fall_api_Fall_of_dev_Dev_step_1.l1]; simp
  | [f], _ =>
    rw [slices_IndexFunc_api_Fall_api_Fall_of_dev_Dev_step_1.l1]
    by_cases h : f.At = steps
    · simp [dev_Dev_step_1.f, h]
    · rw [if_pos (by simp), if_pos (by simp)]
      simp only [dev_Dev_step_1.f, Option.bind_some]
      rw [if_neg (by simp [h]), slices_IndexFunc_api_Fall_api_Fall_of_dev_Dev_step_1.l1, W_in (by omega) (by omega), if_neg (by simp), if_neg (by simp [h])]
theorem step_rel (hK : 3000 < K) (hn : n ≤ 65536) (h : Rel n d m) (hl : d.cache.length ≤ 1000) :
    ∃ e d' m', dev_Dev_step.f K d = some (e, d') ∧ offshootref03_Dev_step.f K m = some (m', e) ∧ Rel n d' m' ∧ d'.cache.length ≤ d.cache.length ∧ (e = 0 ∨ e = 7) ∧ (e = 0 → d'.off = d.off) := by
  obtain ⟨k, rfl⟩ : ∃ k, K = k + 2 := ⟨K - 2, by omega⟩
  unfold dev_Dev_step.f offshootref03_Dev_step.f
  rw [idx_eq (by omega) h.f1]
  simp only [Option.bind_some]
  have hf := h.falls
  have go : (d.falls.head?.map fun f => decide (f.At = d.steps)) ≠ some true → offshootref03_Dev_step.l1 (k + 2) (k + 2) m 0 = some (⟨m.Sure, m.Loose, IntKind.wrap .i64 (m.Steps + 1), m.Falls, m.Off⟩, 0) := by
    intro hne
    rw [offshootref03_Dev_step.l1, hf]
    match hfl : d.falls, h.f1 with
    | [], _ => simp
    | [f], _ =>
      have hn : ¬ f.At = d.steps := by
        intro e; apply hne; rw [hfl]; simp [e]
      rw [if_pos (by simp), if_pos (by simp), if_neg (by simp [h.steps, hn]), W_in (by omega) (by omega), offshootref03_Dev_step.l1, if_neg (by simp [hf, hfl]), hf, hfl]
  by_cases hc : (d.falls.head?.map fun f => decide (f.At = d.steps)) = some true
  · rw [if_pos hc]
    match hfl : d.falls, h.f1 with
    | [], _ => rw [hfl] at hc; simp at hc
    | [f], _ =>
      have hat : f.At = d.steps := by rw [hfl] at hc; simpa using hc
      have hr : Rel n ⟨d.sure, d.cache, d.steps, [], d.off⟩ ⟨m.Sure, m.Loose, m.Steps, [], m.Off⟩ := ⟨h.sure, h.steps, rfl, h.off, h.dv, by simp, h.srt, h.mem⟩
      obtain ⟨d', m', h1, h2, h3, h4, h5, h6⟩ := crash_rel hK hn hr hl f.Keep f.Torn
      refine ⟨7, d', m', ?_, ?_, h3, h4, .inr rfl, fun e => by cases e⟩
      · rw [if_neg (by simp), if_pos (by simp), if_pos ⟨by simp, rfl, by rw [W_in (by omega) (by omega)]; rfl⟩]
        simp only [Int.toNat_zero, List.getD_cons_zero]
        rw [h1]; rfl
      · rw [offshootref03_Dev_step.l1, hf, hfl]
        rw [if_pos (by simp), if_pos (by simp), if_pos (by simp [h.steps, hat]), if_pos (by simp), if_pos (by simp), W_in (by omega) (by omega), if_pos (by simp), if_pos (by simp)]
        simp only [Int.toNat_zero, List.getD_cons_zero]
        have e : (([] : List ApiFall) ++ List.take (0 - 0) (List.drop 0 [f]) ++ List.take (Int.toNat ((List.length [f] : Nat) : Int) - Int.toNat (0 + 1)) (List.drop (Int.toNat (0 + 1)) [f])) = [] := by simp
        rw [e, h2]; rfl
  · rw [if_neg hc, go hc, if_pos (by simp)]
    exact ⟨0, _, _, rfl, rfl, ⟨h.sure, by rw [h.steps], h.falls, h.off, h.dv, h.f1, h.srt, h.mem⟩, Nat.le_refl _, .inl rfl, fun _ => rfl⟩
/-! ### What is done -/
theorem refw_l1 (K : Nat) (y : Offshootref03Dev) (at_ : Int) (s : Sec) (hl : y.Loose.length ≤ 2000) : ∀ (k : Nat) (i : Nat) (out : List Lo) (b : Bool), i ≤ y.Loose.length → y.Loose.length - i < k → out.length ≤ 2 * i + 1 →
    offshootref03_Dev_Write.l1 K k out y at_ s b (i : Int) = some (⟨y.Sure, out ++ insL at_ s b (y.Loose.drop i), y.Steps, y.Falls, y.Off⟩, 0) := by
  intro k
  induction k with
  | zero => intro i out b h1 h2; omega
  | succ k ih =>
    intro i out b h1 h2 h3
    rw [offshootref03_Dev_Write.l1]
    by_cases hi : i < y.Loose.length
    · have e2 : y.Loose.getD i default = y.Loose[i] := by simp [List.getD_eq_getElem?_getD, hi]
      have ed : y.Loose.drop i = y.Loose[i] :: y.Loose.drop (i + 1) := List.drop_eq_getElem_cons hi
      rw [if_pos (by simp; omega), if_pos ⟨by omega, by omega⟩, ed, Int.toNat_natCast, e2]
      generalize y.Loose[i] = x at *
      have j2 : ∀ (out : List Lo) (b : Bool), out.length ≤ 2 * i + 2 → offshootref03_Dev_Write.j2 (offshootref03_Dev_Write.l1 K k) K (i : Int) y out at_ s b (i : Int) = some (⟨y.Sure, out ++ ((if x.At = at_ then [] else [x]) ++ insL at_ s b (y.Loose.drop (i + 1))), y.Steps, y.Falls, y.Off⟩, 0) := by
        intro out b ho
        unfold offshootref03_Dev_Write.j2 offshootref03_Dev_Write.j1
        rw [Int.toNat_natCast, e2, W_in (by omega) (by omega), show ((i : Int) + 1) = ((i + 1 : Nat) : Int) by omega]
        by_cases hx : x.At = at_
        · rw [if_neg (by simp [hx]), ih (i + 1) out b (by omega) (by omega) (by omega), if_pos hx]; rfl
        · rw [if_pos (by simp [hx]), if_pos (by simp; omega), ih (i + 1) _ b (by omega) (by omega) (by simp; omega), if_neg hx]; simp
      by_cases hb : (!b && decide (at_ ≤ x.At)) = true
      · rw [if_pos hb, if_pos (by simp; omega), j2 _ _ (by simp; omega)]
        have hbb : (b || decide (at_ ≤ x.At)) = true := by
          rw [Bool.and_eq_true] at hb; rw [hb.2]; simp
        simp only [insL, hb, if_true, hbb]
        simp
      · rw [if_neg hb, j2 _ _ (by omega)]
        have hbb : (b || decide (at_ ≤ x.At)) = b := by
          cases b with
          | true => rfl
          | false => simpa using hb
        cases b with
        | true => simp only [insL, hb, hbb]; simp
        | false => simp only [insL, hb, hbb]; simp
    · have : i = y.Loose.length := by omega
      subst this
      rw [if_neg (by simp), List.drop_length]
      unfold offshootref03_Dev_Write.j3
      cases b with
      | true => rw [if_neg (by simp)]; simp [insL]
      | false => rw [if_pos (by simp), if_pos (by simp; omega)]; simp [insL]
theorem write_rel (hK : 3000 < K) (hn : n ≤ 65536) (h : Rel n d m) (hl : d.cache.length ≤ 1000) (i : Int) (s : Sec) :
    ∃ e d' m', dev_Dev_Write.f K d i s = some (e, d') ∧ offshootref03_Dev_Write.f K m i s = some (m', e) ∧ Rel n d' m' ∧ d'.cache.length ≤ d.cache.length + 1 := by
  unfold dev_Dev_Write.f offshootref03_Dev_Write.f
  rw [off_eq, h.off, h.sure]
  simp only [Option.bind_some]
  by_cases ho : d.off = true
  · rw [if_pos ho, if_pos ho]; exact ⟨7, d, m, rfl, rfl, h, by omega⟩
  · rw [if_neg ho, if_neg ho]
    by_cases hb : (decide (i < 0) || decide ((List.length d.sure : Int) ≤ i) || !decide ((List.length s : Int) = 128)) = true
    · rw [if_pos hb, if_pos hb]; exact ⟨1, d, m, rfl, rfl, h, by omega⟩
    · rw [if_neg hb, if_neg hb]
      obtain ⟨e, d', m', h1, h2, h3, h4, h5, h6⟩ := step_rel hK hn h hl
      rw [h1, h2]
      simp only [Option.bind_some]
      simp only [Bool.or_eq_true, decide_eq_true_eq, Bool.not_eq_true', decide_eq_false_iff_not, not_or, Classical.not_not] at hb
      rcases h5 with rfl | rfl
      · rw [if_neg (by simp), if_neg (by simp)]
        have hll := h3.len
        have := refw_l1 K m' i s (by omega) K 0 [] false (by omega) (by omega) (by simp)
        rw [show ((0 : Nat) : Int) = 0 from rfl, List.drop_zero, List.nil_append] at this
        rw [this]
        refine ⟨0, _, _, rfl, rfl, ⟨h3.sure, h3.steps, h3.falls, h3.off, ?_, h3.f1, insL_sorted i s _ h3.srt, fun x => ?_⟩, ?_⟩
        · have hd := h.dv.len
          have hd' := h3.dv.len
          exact dv_put h3.dv (by omega) (by omega) (by omega)
        · show x ∈ insL i s false m'.Loose ↔ _
          rw [insL_mem i s x _ h3.srt, mput_iff, h3.mem]
          constructor
          · rintro (rfl | h)
            · exact .inl rfl
            · exact .inr h
          · rintro (h | h)
            · injection h with ha hs
              left; cases x; simp_all
            · exact .inr h
        · have := mput_len d'.cache i s
          show (FW.mput d'.cache i s).length ≤ _
          omega
      · rw [if_pos (by simp), if_pos (by simp)]
        exact ⟨7, _, _, rfl, rfl, h3, by omega⟩
/-- Laid one behind the other, by their places. -/
theorem flush_perm (sure : List Sec) (c : List (Int × Sec)) (c' : List (Int × Sec)) (hn : (c.map (·.1)).Nodup) (hn' : (c'.map (·.1)).Nodup) (hm : ∀ p, p ∈ c ↔ p ∈ c') (hr : ∀ p ∈ c, 0 ≤ p.1 ∧ p.1 < (sure.length : Int)) : flushS sure c = flushS sure c' := by
  refine List.ext_getElem? fun j => ?_
  by_cases hj : ∃ p ∈ c, p.1.toNat = j
  · obtain ⟨p, hp, rfl⟩ := hj
    have h0 := hr p hp
    rw [flushS_at c p.1 p.2 h0.1 sure hn (fun q hq => (hr q hq).1) hp (by omega), flushS_at c' p.1 p.2 h0.1 sure hn' (fun q hq => (hr q ((hm q).2 hq)).1) ((hm p).1 hp) (by omega)]
  · rw [flushS_other c j sure fun p hp e => hj ⟨p, hp, e⟩, flushS_other c' j sure fun p hp e => hj ⟨p, (hm p).2 hp, e⟩]
theorem reff_l1 (K : Nat) (L : List Lo) (n : Nat) (hn : n ≤ 65536) (hx : ∀ x ∈ L, 0 ≤ x.At ∧ x.At < (n : Int)) (hl : L.length ≤ 2000) : ∀ (k : Nat) (i : Nat) (y : Offshootref03Dev), y.Loose = L → y.Sure.length = n → i ≤ L.length → L.length - i < k →
    offshootref03_Dev_Flush.l1 K k y (i : Int) = some (⟨flushS y.Sure ((L.drop i).map fun x => (x.At, x.S)), [], y.Steps, y.Falls, y.Off⟩, 0) := by
  intro k
  induction k with
  | zero => intro i y h0 h1 h2 h3; omega
  | succ k ih =>
    intro i y h0 h1 h2 h3
    rw [offshootref03_Dev_Flush.l1, h0]
    by_cases hi : i < L.length
    · have e2 : L.getD i default = L[i] := by simp [List.getD_eq_getElem?_getD, hi]
      have ed : L.drop i = L[i] :: L.drop (i + 1) := List.drop_eq_getElem_cons hi
      have hx0 := hx _ (List.getElem_mem hi)
      rw [if_pos (by simp; omega), if_pos ⟨by omega, by omega⟩, if_pos ⟨by omega, by omega⟩, ed, Int.toNat_natCast, e2]
      generalize L[i] = x at *
      unfold offshootref03_laid.f
      rw [if_pos (by simp [h1]; omega), if_pos ⟨hx0.1, by simp [h1]; omega⟩]
      simp only [List.nil_append, Option.bind_some]
      rw [W_in (by omega) (by omega), show ((i : Int) + 1) = ((i + 1 : Nat) : Int) by omega]
      rw [ih (i + 1) _ rfl (by simpa using h1) (by omega) (by omega)]
      rfl
    · have : i = L.length := by omega
      subst this
      rw [if_neg (by simp), List.drop_length]
      rfl
theorem flush_rel (hK : 3000 < K) (hn : n ≤ 65536) (h : Rel n d m) (hl : d.cache.length ≤ 1000) :
    ∃ e d' m', dev_Dev_Flush.f K d = some (e, d') ∧ offshootref03_Dev_Flush.f K m = some (m', e) ∧ Rel n d' m' ∧ d'.cache.length ≤ d.cache.length := by
  unfold dev_Dev_Flush.f offshootref03_Dev_Flush.f
  rw [off_eq, h.off]
  simp only [Option.bind_some]
  by_cases ho : d.off = true
  · rw [if_pos ho, if_pos ho]; exact ⟨7, d, m, rfl, rfl, h, by omega⟩
  · rw [if_neg ho, if_neg ho]
    obtain ⟨e, d', m', h1, h2, h3, h4, h5, h6⟩ := step_rel hK hn h hl
    rw [h1, h2]
    simp only [Option.bind_some]
    rcases h5 with rfl | rfl
    · simp only [decide_true, Bool.not_true, Bool.false_eq_true, if_false]
      have hok : flushOk d'.sure d'.cache = true := by
        unfold flushOk
        rw [List.all_eq_true]
        intro p hp
        have := h3.dv.keys p hp
        have := h3.dv.len
        simp; omega
      have hll := h3.len
      have := reff_l1 K m'.Loose n hn (fun x hx => ⟨(h3.in_ hx).1, (h3.in_ hx).2.1⟩) (by omega) K 0 m' rfl (by rw [h3.sure]; exact h3.dv.len) (by omega) (by omega)
      rw [show ((0 : Nat) : Int) = 0 from rfl, List.drop_zero] at this
      rw [if_pos hok, this, h3.sure]
      have hfl : flushS d'.sure (m'.Loose.map fun x => (x.At, x.S)) = flushS d'.sure d'.cache := by
        refine (flush_perm _ _ _ h3.dv.nd ?_ (fun p => ?_) (fun p hp => ?_)).symm
        · rw [List.map_map]
          have : (m'.Loose.map ((fun p : Int × Sec => p.1) ∘ fun x : Lo => (x.At, x.S))).Pairwise (· < ·) := by
            rw [List.pairwise_map]; exact h3.srt
          exact this.imp fun {a b} hab => by omega
        · rw [List.mem_map]
          constructor
          · intro hp; exact ⟨⟨p.1, p.2⟩, (h3.mem _).2 hp, rfl⟩
          · rintro ⟨x, hx, rfl⟩; exact (h3.mem x).1 hx
        · have := h3.dv.keys p hp
          have := h3.dv.len
          exact ⟨by omega, by omega⟩
      rw [hfl]
      exact ⟨0, _, _, rfl, rfl, ⟨rfl, h3.steps, h3.falls, h3.off, dv_flush h3.dv, h3.f1, by simp [SortedL], by simp⟩, Nat.zero_le _⟩
    · rw [if_pos (by simp), if_pos (by simp)]
      exact ⟨7, _, _, rfl, rfl, h3, by omega⟩
theorem do_rel (hK : 3000 < K) (hn : n ≤ 65536) (h : Rel n d m) (hl : d.cache.length ≤ 1000) (a : Offshootlaw03Act) :
    ∃ d' m', offshootlaw03_both_do.f K ⟨m⟩ d a = some (⟨m'⟩, true, d') ∧ Rel n d' m' ∧ d'.cache.length ≤ d.cache.length + 1 := by
  unfold offshootlaw03_both_do.f
  by_cases k3 : a.Kind = 3
  · rw [if_pos (by simpa using k3)]
    obtain ⟨e, d', m', h1, h2, h3, h4⟩ := flush_rel hK hn h hl
    rw [h1]; simp only [Option.bind_some]; rw [h2]; simp only [Option.bind_some, offshootlaw03_both_do.j1, decide_true]
    exact ⟨d', m', rfl, h3, by omega⟩
  · rw [if_neg (by simpa using k3)]
    by_cases k4 : a.Kind = 4
    · rw [if_pos (by simpa using k4)]
      obtain ⟨d', m', h1, h2, h3, h4, _⟩ := crash_rel hK hn h hl a.Fall.Keep a.Fall.Torn
      rw [h1]; simp only [Option.bind_some]; rw [h2]; simp only [Option.bind_some, offshootlaw03_both_do.j1, decide_true]
      exact ⟨d', m', rfl, h3, by omega⟩
    · rw [if_neg (by simpa using k4)]
      by_cases k5 : a.Kind = 5
      · rw [if_pos (by simpa using k5)]
        unfold dev_Dev_Up.f
        cases ho : d.off with
        | true =>
          rw [if_neg (by simp)]
          simp only [Option.bind_some, h.off, ho, BEq.rfl]
          exact ⟨_, _, rfl, ⟨h.sure, h.steps, h.falls, rfl, h.dv, h.f1, h.srt, h.mem⟩, Nat.le_succ _⟩
        | false =>
          rw [if_pos (by simp)]
          simp only [Option.bind_some, h.off, ho, BEq.rfl]
          exact ⟨_, _, rfl, ⟨h.sure, h.steps, h.falls, ho.symm, h.dv, h.f1, h.srt, h.mem⟩, Nat.le_succ _⟩
      · rw [if_neg (by simpa using k5)]
        by_cases k6 : a.Kind = 6
        · rw [if_pos (by simpa using k6)]
          have plan : ∀ f : ApiFall, ∃ d' m', offshootlaw03_both_do.j2 K d f m 0 0 = some (⟨m'⟩, true, d') ∧ Rel n d' m' ∧ d'.cache.length ≤ d.cache.length + 1 := by
            intro f
            unfold offshootlaw03_both_do.j2 dev_Dev_Plan.f
            rw [if_pos (by simp)]
            simp only [Option.bind_some, offshootlaw03_both_do.j1, decide_true]
            exact ⟨_, _, rfl, ⟨h.sure, h.steps, rfl, h.off, h.dv, by simp, h.srt, h.mem⟩, by simp⟩
          split <;> exact plan _
        · rw [if_neg (by simpa using k6), sector_eq K (by omega)]
          simp only [Option.bind_some]
          have wr : ∀ s : Sec, ∃ d' m', offshootlaw03_both_do.j3 K d a m s = some (⟨m'⟩, true, d') ∧ Rel n d' m' ∧ d'.cache.length ≤ d.cache.length + 1 := by
            intro s
            obtain ⟨e, d', m', h1, h2, h3, h4⟩ := write_rel hK hn h hl a.At s
            unfold offshootlaw03_both_do.j3
            rw [h1]; simp only [Option.bind_some]; rw [h2]; simp only [Option.bind_some, offshootlaw03_both_do.j1, decide_true]
            exact ⟨d', m', rfl, h3, by omega⟩
          split
          · rw [if_pos (by simp [sec_len])]; exact wr _
          · exact wr _
/-! ### The same -/
theorem refr_l1 (K : Nat) (y : Offshootref03Dev) (at_ : Int) (v : Sec) (hl : y.Loose.length ≤ 2000) (h : match y.Loose.find? (fun x => decide (x.At = at_)) with | some x => x.S = v | none => 0 ≤ at_ ∧ at_ < (y.Sure.length : Int) ∧ y.Sure.getD at_.toNat default = v) :
    ∀ (k : Nat) (i : Nat), i ≤ y.Loose.length → y.Loose.length - i < k → y.Loose.find? (fun x => decide (x.At = at_)) = (y.Loose.drop i).find? (fun x => decide (x.At = at_)) → offshootref03_Dev_Read.l1 K k y at_ (i : Int) = some (v, 0) := by
  intro k
  induction k with
  | zero => intro i h1 h2; omega
  | succ k ih =>
    intro i h1 h2 h3
    rw [offshootref03_Dev_Read.l1]
    by_cases hi : i < y.Loose.length
    · have e2 : y.Loose.getD i default = y.Loose[i] := by simp [List.getD_eq_getElem?_getD, hi]
      have ed : y.Loose.drop i = y.Loose[i] :: y.Loose.drop (i + 1) := List.drop_eq_getElem_cons hi
      rw [if_pos (by simp; omega), if_pos ⟨by omega, by omega⟩, Int.toNat_natCast, e2]
      rw [ed, List.find?_cons] at h3
      by_cases hx : y.Loose[i].At = at_
      · rw [if_pos (by simpa using hx), if_pos ⟨by omega, by omega⟩]
        rw [hx] at h3
        simp only [decide_true] at h3
        rw [h3] at h
        rw [← h]
      · rw [if_neg (by simpa using hx), W_in (by omega) (by omega), show ((i : Int) + 1) = ((i + 1 : Nat) : Int) by omega]
        refine ih (i + 1) (by omega) (by omega) ?_
        rw [h3]
        simp [hx]
    · have : i = y.Loose.length := by omega
      subst this
      rw [List.drop_length] at h3
      rw [h3] at h
      simp only [List.find?_nil] at h
      rw [if_neg (by simp), if_pos ⟨h.1, h.2.1⟩, h.2.2]
theorem read_rel (hK : 3000 < K) (h : Rel n d m) (hl : d.cache.length ≤ 1000) (i : Int) : ∃ r, dev_Dev_Read.f d i = some r ∧ offshootref03_Dev_Read.f K m i = some r := by
  unfold dev_Dev_Read.f offshootref03_Dev_Read.f
  rw [off_eq, h.off, h.sure]
  simp only [Option.bind_some]
  by_cases ho : d.off = true
  · rw [if_pos ho, if_pos ho]; exact ⟨_, rfl, rfl⟩
  · rw [if_neg ho, if_neg ho]
    by_cases hb : (decide (i < 0) || decide ((List.length d.sure : Int) ≤ i)) = true
    · rw [if_pos hb, if_pos hb]; exact ⟨_, rfl, rfl⟩
    · rw [if_neg hb, if_neg hb]
      simp only [Bool.or_eq_true, decide_eq_true_eq, not_or] at hb
      have hll := h.len
      cases hf : m.Loose.find? (fun x => decide (x.At = i)) with
      | some x =>
        have hx := List.mem_of_find?_eq_some hf
        have hxi : x.At = i := by simpa using List.find?_some hf
        have hg := h.at_ hx
        rw [hxi] at hg
        rw [if_pos (by simp [hg])]
        refine ⟨_, rfl, ?_⟩
        have := refr_l1 K m i x.S (by omega) (by rw [hf]) K 0 (by omega) (by omega) (by rw [List.drop_zero])
        rw [show ((0 : Nat) : Int) = 0 from rfl] at this
        rw [this, hg]; rfl
      | none =>
        have hg : FW.mget d.cache i = none := mget_none fun p hp e => by
          rw [List.find?_eq_none] at hf
          have := hf ⟨p.1, p.2⟩ ((h.mem _).2 hp)
          simp [e] at this
        rw [if_neg (by simp [hg]), if_pos ⟨by omega, by omega⟩]
        refine ⟨_, rfl, ?_⟩
        have := refr_l1 K m i (d.sure.getD i.toNat default) (by omega) (by rw [hf]; exact ⟨by omega, by rw [h.sure]; omega, by rw [h.sure]⟩) K 0 (by omega) (by omega) (by rw [List.drop_zero])
        rw [show ((0 : Nat) : Int) = 0 from rfl] at this
        exact this
theorem same_l1 (hK : 3000 < K) (hn : n ≤ 1000) (h : Rel n d m) (hl : d.cache.length ≤ 1000) : ∀ (k : Nat) (i : Int), -1 ≤ i → i ≤ n + 1 → (n + 1 - i).toNat < k → offshootlaw03_both_same.l1 K d k m i = some true := by
  intro k
  induction k with
  | zero => intro i h0 h1 h2; omega
  | succ k ih =>
    intro i h0 h1 h2
    have hsl : m.Sure.length = n := by rw [h.sure]; exact h.dv.len
    rw [offshootlaw03_both_same.l1, hsl]
    by_cases hi : i ≤ n
    · obtain ⟨r, r1, r2⟩ := read_rel hK h hl i
      rw [if_pos (by simpa using hi), r1]
      simp only [Option.bind_some]
      rw [r2]
      simp only [Option.bind_some]
      rw [if_neg (by simp), W_in (by omega) (by omega)]
      exact ih (i + 1) (by omega) (by omega) (by omega)
    · rw [if_neg (by simpa using hi)]
theorem same_rel (hK : 3000 < K) (hn : n ≤ 1000) (h : Rel n d m) (hl : d.cache.length ≤ 1000) : offshootlaw03_both_same.f K ⟨m⟩ d = some true := by
  unfold offshootlaw03_both_same.f
  have hll := h.len
  simp only [off_eq, h.off, h.steps, h.sure, hll, dev_Dev_Steps.f, dev_Dev_Loose.f, dev_Dev_Len.f, Option.bind_some, BEq.rfl, Bool.not_true, decide_true, Bool.or_self, if_true, Bool.false_eq_true, if_false]
  exact same_l1 hK hn h hl K (-1) (by omega) (by omega) (by omega)
end
/-! ### New ones -/
def zeroS : Sec := List.replicate 128 0
theorem new_l1 (K : Nat) (n : Nat) : ∀ (k : Nat) (i : Nat) (l : List Sec), l.length = n → i ≤ n → n ≤ 65536 → l.take i = List.replicate i zeroS → n - i < k →
    dev_New.l1 K k 0 false l (n : Int) (i : Int) = some (⟨List.replicate n zeroS, [], 0, [], false⟩, 0) := by
  intro k
  induction k with
  | zero => intro i l h0 h1 h2 h3 h4; omega
  | succ k ih =>
    intro i l h0 h1 h2 h3 h4
    rw [dev_New.l1]
    by_cases hi : i < n
    · have hrep : strings_Repeat.f ([0] : List UInt8) 128 = some zeroS := by
        unfold strings_Repeat.f
        rw [if_pos (by simp)]; decide +kernel
      rw [if_pos (by simp; omega), hrep]
      simp only [Option.bind_some]
      rw [h0, if_pos ⟨by omega, by omega⟩, W_in (by omega) (by omega), Int.toNat_natCast, show ((i : Int) + 1) = ((i + 1 : Nat) : Int) by omega]
      refine ih (i + 1) _ (by simpa using h0) (by omega) h2 ?_ (by omega)
      rw [List.take_add_one, List.take_set_of_le (by omega), List.getElem?_set_self (by omega), h3]
      simp [List.replicate_succ']
    · have : i = n := by omega
      subst this
      rw [if_neg (by simp), ← h3, List.take_of_length_le (by omega)]
theorem new_eq (K : Nat) (n : Nat) (hn : n ≤ 65536) (hK : n < K) : dev_New.f K (n : Int) = some (⟨List.replicate n zeroS, [], 0, [], false⟩, 0) := by
  unfold dev_New.f
  rw [if_neg (by simp; omega), if_pos (by omega), Int.toNat_natCast, List.length_replicate]
  exact new_l1 K n K 0 _ (by simp) (by omega) hn (by simp) (by omega)
theorem refnew_l1 (K : Nat) (n : Nat) (hn : n ≤ 65536) : ∀ (k : Nat) (i : Nat) (l : List Sec), l = List.replicate i zeroS → i ≤ n → n - i < k →
    offshootref03_New.l1 K k l [] 0 [] false (n : Int) (i : Int) = some ⟨List.replicate n zeroS, [], 0, [], false⟩ := by
  intro k
  induction k with
  | zero => intro i l h0 h1 h2; omega
  | succ k ih =>
    intro i l h0 h1 h2
    rw [offshootref03_New.l1]
    by_cases hi : i < n
    · rw [if_pos (by simp; omega), if_pos (by omega), if_pos (by simp [h0]; omega), W_in (by omega) (by omega), show ((i : Int) + 1) = ((i + 1 : Nat) : Int) by omega]
      refine ih (i + 1) _ ?_ (by omega) (by omega)
      have : FW.toB (List.replicate (Int.toNat 128) (0 : Int)) = zeroS := by decide +kernel
      rw [this, h0, List.replicate_succ']
    · have : i = n := by omega
      subst this
      rw [if_neg (by simp), h0]
theorem refnew_eq (K : Nat) (n : Nat) (hn : n ≤ 65536) (hK : n < K) : offshootref03_New.f K (n : Int) = some ⟨List.replicate n zeroS, [], 0, [], false⟩ := by
  unfold offshootref03_New.f
  exact refnew_l1 K n hn K 0 [] rfl (by omega) (by omega)
theorem new_rel (n : Nat) : Rel n ⟨List.replicate n zeroS, [], 0, [], false⟩ ⟨List.replicate n zeroS, [], 0, [], false⟩ :=
  ⟨rfl, rfl, rfl, rfl, ⟨by simp, fun s hs => by rw [(List.mem_replicate.1 hs).2]; decide +kernel, by simp, by simp⟩, by simp, by simp [SortedL], by simp⟩
theorem awake3 : offshootlaw03_awake.f KD = some true := by decide +kernel
theorem acts_l1 (K n : Nat) (hK : 3000 < K) (hn : n ≤ 1000) (l : List Offshootlaw03Act) : ∀ (k : Nat) (i : Nat) (d : ODevDev) (m : Offshootref03Dev), Rel n d m → d.cache.length ≤ i → i ≤ 50 → 50 - i < k →
    offshootlaw03_DevActs.l1 K k m d.steps d.off d.sure d.cache d.falls l (i : Int) = some true := by
  intro k
  induction k with
  | zero => intro i d m h0 h1 h2 h3; omega
  | succ k ih =>
    intro i d m h0 h1 h2 h3
    rw [offshootlaw03_DevActs.l1]
    by_cases hi : i < l.length ∧ i < 50
    · rw [if_pos (by simp; omega), if_pos ⟨by omega, by omega⟩]
      obtain ⟨d', m', h4, h5, h6⟩ := do_rel hK (by omega) h0 (by omega) (l.getD (Int.toNat (i : Int)) default)
      have hd : (⟨d.sure, d.cache, d.steps, d.falls, d.off⟩ : ODevDev) = d := rfl
      rw [hd, h4]
      simp only [Option.bind_some]
      unfold offshootlaw03_DevActs.j1
      have hd' : (⟨d'.sure, d'.cache, d'.steps, d'.falls, d'.off⟩ : ODevDev) = d' := rfl
      rw [hd', same_rel hK hn h5 (by omega)]
      simp only [Bool.not_true, if_true, Option.bind_some, Bool.or_self, Bool.false_eq_true, if_false]
      rw [W_in (by omega) (by omega), show ((i : Int) + 1) = ((i + 1 : Nat) : Int) by omega]
      exact ih (i + 1) d' m' h5 (by omega) (by omega) (by omega)
    · rw [if_neg (by simp; omega)]
theorem acts_true (v0 : Int) (l : List Offshootlaw03Act) : ∃ K, offshootlaw03_DevActs.f K v0 l = some true := by
  refine ⟨KD, ?_⟩
  obtain ⟨n0, n1⟩ := andI_15 v0
  unfold offshootlaw03_DevActs.f
  obtain ⟨n, hn⟩ : ∃ n : Nat, FW.andI .i64 v0 15 = (n : Int) := ⟨(FW.andI .i64 v0 15).toNat, by omega⟩
  rw [hn, new_eq KD n (by omega) (by unfold KD; omega), refnew_eq KD n (by omega) (by unfold KD; omega), awake3]
  simp only [Option.bind_some, Bool.not_true, decide_true, Bool.or_self, Bool.false_eq_true, if_false]
  have := acts_l1 KD n (by unfold KD; omega) (by omega) l KD 0 _ _ (new_rel n) (by simp) (by omega) (by unfold KD; omega)
  exact this
theorem many_l1 (K n : Nat) (hK : 3000 < K) (hn : n ≤ 1000) (keep torn : Int) : ∀ (k : Nat) (i : Int) (d : ODevDev) (m : Offshootref03Dev), Rel n d m → (d.cache.length : Int) ≤ 100 - i → -1 ≤ i → i ≤ 100 → (i + 1).toNat < k →
    offshootlaw03_DevMany.l1 K k m d.steps d.off d.sure d.cache d.falls keep torn i = some true := by
  intro k
  induction k with
  | zero => intro i d m h0 h1 h2 h3; omega
  | succ k ih =>
    intro i d m h0 h1 h2 h3 h4
    rw [offshootlaw03_DevMany.l1]
    have hd : (⟨d.sure, d.cache, d.steps, d.falls, d.off⟩ : ODevDev) = d := rfl
    by_cases hi : 0 ≤ i
    · rw [if_pos (by simpa using hi), hd]
      obtain ⟨d', m', h5, h6, h7⟩ := do_rel hK (by omega) h0 (by omega) (⟨0, i, (IntKind.wrap .u8 (IntKind.wrap .i64 (i + 1))), false, (⟨0, 0, 0⟩ : ApiFall)⟩ : Offshootlaw03Act)
      rw [h5]
      simp only [Option.bind_some, Bool.not_true, Bool.false_eq_true, if_false]
      rw [W_in (by omega) (by omega)]
      exact ih (i - 1) d' m' h6 (by omega) (by omega) (by omega) (by omega)
    · rw [if_neg (by simpa using hi), hd]
      obtain ⟨d', m', h5, h6, h7⟩ := do_rel hK (by omega) h0 (by omega) (⟨4, 0, 0, false, (⟨0, keep, torn⟩ : ApiFall)⟩ : Offshootlaw03Act)
      rw [h5]
      simp only [Option.bind_some]
      obtain ⟨d2, m2, h8, h9, h10⟩ := do_rel hK (by omega) h6 (by omega) (⟨5, 0, 0, false, (⟨0, 0, 0⟩ : ApiFall)⟩ : Offshootlaw03Act)
      rw [h8]
      simp only [Option.bind_some, Bool.and_self, if_true]
      rw [same_rel hK hn h9 (by omega)]
      rfl
theorem many_n (n : Nat) (hn : n ≤ 1000) (keep torn : Int) (d : ODevDev) (m : Offshootref03Dev) (e1 : dev_New.f KD 70 = some (d, 0)) (e2 : offshootref03_New.f KD 70 = some m) (h : Rel n d m) (hc : d.cache.length = 0) : offshootlaw03_DevMany.f KD keep torn = some true := by
  unfold offshootlaw03_DevMany.f
  rw [e1, e2, awake3]
  simp only [Option.bind_some, Bool.not_true, decide_true, Bool.or_self, Bool.false_eq_true, if_false]
  exact many_l1 KD n (by unfold KD; omega) hn keep torn KD 69 _ _ h (by omega) (by omega) (by omega) (by unfold KD; omega)
theorem many_true (keep torn : Int) : ∃ K, offshootlaw03_DevMany.f K keep torn = some true :=
  ⟨KD, many_n 70 (by omega) keep torn _ _ (new_eq KD 70 (by omega) (by unfold KD; omega)) (refnew_eq KD 70 (by omega) (by unfold KD; omega)) (new_rel 70) rfl⟩
end Go.Proofs.Ytimaibcaehagjaa
