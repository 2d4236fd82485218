/- Plain law of LogForged and LogFalls: what is read behind a loss of power. -/
import Derived.Test.YtimaibcaehagjaaPureLoRead
namespace Go.Proofs.Ytimaibcaehagjaa
set_option linter.unusedVariables false
set_option maxHeartbeats 2000000
theorem lsame_l1 (L : List (List UInt8)) (hL : L.length ≤ 1000) : ∀ (k : Nat) (j : Nat), j ≤ L.length → L.length - j < k → offshootlaw04_same.l1 KD k L L (j : Int) = some true := by
  intro k
  induction k with
  | zero => intro j h0 h1; omega
  | succ k ih =>
    intro j h0 h1
    refine Sat.get ?_
    rw [offshootlaw04_same.l1]
    refine Sat.ite (fun hi => ?_) (fun hi => Sat.some rfl)
    simp only [decide_eq_true_eq] at hi
    refine Sat.chk ⟨by omega, hi⟩ ?_
    refine Sat.chk ⟨by omega, hi⟩ ?_
    refine Sat.ite (fun hh => by simp at hh) (fun _ => ?_)
    rw [W_in (by omega) (by omega), show ((j : Int) + 1) = ((j + 1 : Nat) : Int) by omega]
    exact Sat.eq (ih (j + 1) (by omega) (by omega)) rfl
theorem lsame_eq (L : List (List UInt8)) (hL : L.length ≤ 1000) : offshootlaw04_same.f KD L L = some true := by
  unfold offshootlaw04_same.f
  rw [if_neg (by simp)]
  exact lsame_l1 L hL KD 0 (by omega) (by unfold KD; omega)
theorem Term.mono {V : List Sec} {tO q num num' : Nat} (h : Term V tO q num) (hn : num ≤ num') : Term V tO q num' := by
  rcases h with h | ⟨x, m, h1, h2, h3, h4⟩
  · exact .inl h
  · exact .inr ⟨x, m, h1, h2, h3, by omega⟩
theorem Term.keep {V V' : List Sec} {tO q num : Nat} (h : Term V tO q num) (he : V'[q]? = V[q]?) : Term V' tO q num := by
  rcases h with h | ⟨x, m, h1, h2, h3, h4⟩
  · exact .inl h
  · exact .inr ⟨x, m, by rw [he]; exact h1, h2, h3, h4⟩
theorem term_head {V : List Sec} {tO q num : Nat} {s : List UInt8} (h : V[q]? = some (headS num s)) : Term V tO q (num + 1) := .inr ⟨_, num, h, headS_len num s, head_last num s, by omega⟩
section
variable {N tO at' num first b : Nat} {V : List Sec} {hv : List (List UInt8)} {s : List UInt8} {d' : ODevDev}
/-- Behind an entry that was added. -/
theorem after_add (hs : s.length ≤ 1090) (hE : Ents V tO 0 first hv) (h0 : Term V tO 0 (first + hv.length)) (hl : V.length = N) (hend : endOf 0 hv + secsN s.length ≤ tO) (hto : tO ≤ N) :
    Ents (added tO V (endOf 0 hv) (first + hv.length) s) tO 0 first (hv ++ [s]) ∧ Term (added tO V (endOf 0 hv) (first + hv.length) s) tO (endOf 0 (hv ++ [s])) (first + (hv ++ [s]).length) ∧
      Term (added tO V (endOf 0 hv) (first + hv.length) s) tO 0 (first + (hv ++ [s]).length) := by
  have hk := secsN_pos s.length
  have e : first + (hv ++ [s]).length = first + hv.length + 1 := by simp; omega
  rw [e, endOf_snoc]
  refine ⟨Ents.snoc hs (hE.keep fun q hq => added_below q hq) hend fun j hj => added_in hl hend hto j hj, added_term hl hend hto, ?_⟩
  by_cases hz : endOf 0 hv = 0
  · have := added_in (num := first + hv.length) hl hend hto 0 hk
    rw [hz] at this ⊢
    exact term_head this
  · exact (h0.keep (added_below 0 (by omega))).mono (by omega)
/-- Behind a loss of power while an entry was added. -/
theorem recover (hs : s.length ≤ 1090) (hE : Ents V tO 0 first hv) (hT : Term V tO (endOf 0 hv) (first + hv.length)) (h0 : Term V tO 0 (first + hv.length)) (hl : V.length = N) (hend : endOf 0 hv + secsN s.length ≤ tO) (hto : tO ≤ N) (hn : first + hv.length < 256)
    (hL : Lc N d' V (endOf 0 hv) b) (hc : d'.sure[endOf 0 hv]? = V[endOf 0 hv]? ∨
        ∃ t, t ≤ 128 ∧ d'.sure[endOf 0 hv]? = some ((headS (first + hv.length) s).take t ++ (V.getD (endOf 0 hv) []).drop t) ∧ ∀ q, q ≠ endOf 0 hv → d'.sure[q]? = (added tO V (endOf 0 hv) (first + hv.length) s)[q]?) :
    ∃ more, (more = hv ∨ more = hv ++ [s]) ∧ Ents d'.sure tO 0 first more ∧ Term d'.sure tO (endOf 0 more) (first + more.length) ∧ Term d'.sure tO 0 (first + more.length) ∧ endOf 0 more ≤ tO := by
  have hk := secsN_pos s.length
  have hE' : Ents d'.sure tO 0 first hv := hE.keep hL.low
  have same : Term d'.sure tO (endOf 0 hv) (first + hv.length) → ∃ more, (more = hv ∨ more = hv ++ [s]) ∧ Ents d'.sure tO 0 first more ∧ Term d'.sure tO (endOf 0 more) (first + more.length) ∧ Term d'.sure tO 0 (first + more.length) ∧ endOf 0 more ≤ tO := by
    intro hT'
    refine ⟨hv, .inl rfl, hE', hT', ?_, by omega⟩
    by_cases hz : endOf 0 hv = 0
    · rw [hz] at hT'; exact hT'
    · exact h0.keep (hL.low 0 (by omega))
  rcases hc with hc | ⟨t, t1, t2, t3⟩
  · exact same (hT.keep hc)
  · rcases hT with hT | ⟨x, m, hx, hx2, hx3, hm⟩
    · omega
    rw [getD_of hx] at t2
    rcases torn_tail (s := s) hx2 hx3 hm hn t1 with ht | ⟨ht1, ht2⟩
    · rw [ht] at t2
      have hall : d'.sure = added tO V (endOf 0 hv) (first + hv.length) s := by
        apply List.ext_getElem?
        intro q
        by_cases hq : q = endOf 0 hv
        · subst hq
          have := added_in (num := first + hv.length) hl hend hto 0 hk
          rw [Nat.add_zero] at this
          rw [t2, this]; rfl
        · exact t3 q hq
      obtain ⟨a1, a2, a3⟩ := after_add hs hE h0 hl hend hto
      rw [hall]
      exact ⟨hv ++ [s], .inr rfl, a1, a2, a3, by rw [endOf_snoc]; exact hend⟩
    · exact same (.inr ⟨_, m, t2, ht1, ht2, hm⟩)
/-- A device that gets power again. -/
theorem Lc.up {lo : Nat} (h : Lc N d' V lo b) : ∃ S, S ≤ b ∧ Is N [] ⟨d'.sure, d'.cache, d'.steps, [], false⟩ d'.sure d'.sure 0 0 S := by
  obtain ⟨S, h1, h2⟩ := h.st
  refine ⟨S, h2, rfl, ?_, rfl, ?_, ?_, ?_, rfl, h1⟩
  · show Dv N d'.sure d'.cache
    rw [h.c0]; exact h.dv
  · show flushS d'.sure d'.cache = d'.sure
    rw [h.c0]; rfl
  · show d'.cache.length ≤ 0
    rw [h.c0]; simp
  · show ∀ p ∈ d'.cache, _
    rw [h.c0]; simp
end
theorem andU_mask (x : Int) : ∃ k : Nat, k ≤ 7 ∧ FW.andI .u64 x 7 = (k : Int) := by
  unfold FW.andI
  have h : (BitVec.ofInt IntKind.u64.bits x &&& BitVec.ofInt IntKind.u64.bits 7).toNat ≤ 7 := by
    rw [BitVec.toNat_and]
    exact Nat.and_le_right
  exact ⟨_, h, WU_in (by omega) (by omega)⟩
theorem Ents.one {V : List Sec} {tO num : Nat} (s : List UInt8) (hs : s.length ≤ 1090) (h1 : secsN s.length ≤ tO) (h : ∀ j, j < secsN s.length → V[0 + j]? = (laidS num s)[j]?) : Ents V tO 0 num [s] := ⟨hs, by omega, h, trivial⟩
def shortT : List UInt8 := [115, 104, 111, 114, 116]
def lostT : List UInt8 := [108, 111, 115, 116]
theorem forged_end (k i : Nat) (v0 : List (List UInt8)) (v1 v2 : Int) (hi : ¬ ((i : Int) < (v0.length : Int) ∧ (i : Int) < 3)) (x : List UInt8) (hx : x.length ≤ 1080) {d : ODevDev} {V : List Sec} (h : Is 40 [] d V V 0 0 0) :
    offshootlaw04_LogForged.l1 KD (k + 1) 0 40 0 1 d.steps d.off d.sure d.cache d.falls v0 v1 v2 x (i : Int) = some true := by
  refine Sat.get ?_
  rw [offshootlaw04_LogForged.l1]
  refine Sat.ite (fun hh => by rw [Bool.and_eq_true, decide_eq_true_eq, decide_eq_true_eq] at hh; exact absurd hh hi) (fun _ => ?_)
  have hk := secsN_few (n := x.length) (by omega)
  refine Sat.bind (add_x (N := 40) (tO := 40) (at' := 0) (num := 1) (f := 0) (s := x) (by omega) (by omega) (by omega) (by omega) (by omega) (by simp) (by omega) h) fun t7 h7 => ?_
  rcases h7 with ⟨a1, a2, T, aT, a3, a4⟩ | ⟨_, a2, _⟩
  rotate_left
  · exact absurd rfl a2
  rw [a2]
  refine Sat.bindE (r := ((⟨0, 40, 0, 2⟩ : OLogLog), t7.2.2)) rfl ?_
  have hT1 : (tailS 40 (0 + secsN x.length)).length ≤ 1 := by unfold tailS; split <;> simp
  have hs5 : secsN shortT.length = 1 := rfl
  have hs4 : secsN lostT.length = 1 := rfl
  refine Sat.bind (add_x (N := 40) (tO := 40) (at' := 0) (num := 2) (f := 0) (s := shortT) (by decide) (by rw [hs5]; omega) (by omega) (by omega) (by omega) (by simp) (by omega) a3) fun t9 h9 => ?_
  rcases h9 with ⟨b1, b2, T2, bT, b3, b4⟩ | ⟨_, b2, _⟩
  rotate_left
  · exact absurd rfl b2
  have hV1 := a3.len
  have hT2 : (tailS 40 (0 + 1)).length ≤ 1 := by decide
  rw [hs5] at bT
  obtain ⟨V2, hV2⟩ : ∃ V2, V2 = added 40 (added 40 V 0 1 x) 0 2 shortT := ⟨_, rfl⟩
  rw [← hV2] at b3
  refine Sat.bindE (r := t9.2.2.steps) rfl ?_
  have hst := b3.st
  refine Sat.bindE (r := ⟨t9.2.2.sure, t9.2.2.cache, t9.2.2.steps, [⟨((T2 + 3 : Nat) : Int), 0, v2⟩], t9.2.2.off⟩) ?_ ?_
  · unfold dev_Dev_Plan.f
    rw [if_pos ⟨by simp, by simp⟩, hst, W_in (by omega) (by omega)]
    rfl
  have hI : Is 40 [⟨((T2 + 3 : Nat) : Int), 0, v2⟩] ⟨t9.2.2.sure, t9.2.2.cache, t9.2.2.steps, [⟨((T2 + 3 : Nat) : Int), 0, v2⟩], t9.2.2.off⟩ V2 V2 0 0 T2 := ⟨b3.off, b3.dv, b3.sure0, b3.view, b3.few, b3.keys, rfl, b3.st⟩
  rw [b2]
  refine Sat.bind (add_x (N := 40) (tO := 40) (at' := 1) (num := 3) (f := 0) (s := lostT) (by decide) (by rw [hs4]; omega) (by omega) (by omega) (by omega) (by simp) (by omega) hI) fun t12 h12 => ?_
  have e0 : V2[0]? = some (headS 2 shortT) := by
    have := added_in (at' := 0) (num := 2) (s := shortT) (tO := 40) hV1 (by rw [hs5]; omega) (by omega) 0 (by rw [hs5]; omega)
    rw [hV2]; exact this
  have e1 : V2[1]? = some (zeros 128) := by
    have := added_zero (at' := 0) (num := 2) (s := shortT) (tO := 40) hV1 (by rw [hs5]; omega) (by omega)
    rw [hV2]; exact this
  have hV2l := b3.len
  have hE : Ents V2 40 0 2 [shortT] := Ents.one shortT (by decide) (by rw [hs5]; omega) fun j hj => by
    rw [hs5] at hj
    have : j = 0 := by omega
    subst this
    exact e0
  have he1 : endOf 0 [shortT] = 1 := rfl
  rcases h12 with ⟨c1, _, T3, cT, c3, c4⟩ | ⟨c1, _, c3, c4⟩
  · have h5 := c4 ⟨((T2 + 3 : Nat) : Int), 0, v2⟩ (by simp)
    have hl : (tailS 40 (1 + secsN lostT.length)).length = 1 := rfl
    rw [hl, hs4] at cT
    dsimp only at h5
    omega
  obtain ⟨more, m1, m2, m3, m4, m5⟩ := recover (N := 40) (tO := 40) (first := 2) (hv := [shortT]) (s := lostT) (d' := t12.2.2) (by decide) hE (by rw [he1]; exact term_zero e1 (by simp)) (term_head e0) hV2l (by rw [he1, hs4]; omega) (by omega) (by simp) (by rw [he1]; exact c3) (by rw [he1]; exact c4)
  obtain ⟨S', hS', hU⟩ := c3.up
  refine Sat.bindE (r := (true, ⟨t12.2.2.sure, t12.2.2.cache, t12.2.2.steps, t12.2.2.falls, false⟩)) ?_ ?_
  · unfold dev_Dev_Up.f
    rw [if_neg (by simp [c3.off])]
  rw [c3.f0]
  have hml : more.length ≤ 2 := by rcases m1 with rfl | rfl <;> simp
  have hop := open_eq (N := 40) (tO := 40) (by omega) (by omega) hU more 0 2 m2 m3 (by omega) (by omega) (by omega) (by omega)
  refine Sat.bindE hop ?_
  dsimp only
  rw [a1, b1, c1]
  rcases m1 with rfl | rfl
  · exact Sat.eq (r := true) rfl rfl
  · exact Sat.eq (r := true) rfl rfl
theorem toB_104 : FW.toB (List.replicate (Int.toNat 104) (0 : Int)) = zeros 104 := by
  rw [toB_rep]; rfl
theorem getD_laid (num : Nat) (s : List UInt8) : (laidS num s).getD (Int.toNat 0) default = headS num s := rfl
theorem forged_l1 (v0 : List (List UInt8)) (v1 v2 : Int) {d : ODevDev} {V : List Sec} (h : Is 40 [] d V V 0 0 0) : ∀ (k i : Nat) (x : List UInt8), i ≤ 3 → x.length ≤ 360 * i → 3 - i < k →
    offshootlaw04_LogForged.l1 KD k 0 40 0 1 d.steps d.off d.sure d.cache d.falls v0 v1 v2 x (i : Int) = some true := by
  intro k
  induction k with
  | zero => intro i x h0 h1 h2; omega
  | succ k ih =>
    intro i x h0 h1 h2
    by_cases hi : (i : Int) < (v0.length : Int) ∧ (i : Int) < 3
    rotate_left
    · exact forged_end k i v0 v1 v2 hi x (by omega) h
    refine Sat.get ?_
    rw [offshootlaw04_LogForged.l1]
    refine Sat.ite (fun _ => ?_) (fun hh => by rw [Bool.and_eq_false_iff, decide_eq_false_iff_not, decide_eq_false_iff_not] at hh; omega)
    refine Sat.chk ⟨by omega, hi.1⟩ ?_
    refine Sat.bindE (few_eq _) ?_
    generalize (v0.getD (Int.toNat (i : Int)) default) = y
    have hy : (y.take 500).length ≤ 1090 := by rw [List.length_take]; omega
    obtain ⟨m, hm, em⟩ := andU_mask v1
    have e1 : IntKind.wrap .u64 (FW.andI .u64 v1 7 + IntKind.wrap .u64 (i : Int)) = ((m + i : Nat) : Int) := by
      rw [em, WU_in (x := (i : Int)) (by omega) (by omega), WU_in (by omega) (by omega)]; omega
    rw [e1]
    have e2 : IntKind.wrap .u64 (((m + i : Nat) : Int) + 1) = ((m + i + 1 : Nat) : Int) := by
      rw [WU_in (by omega) (by omega)]; omega
    rw [e2]
    refine Sat.bindE (laid_eq _ (m + i) hy (by omega)) ?_
    refine Sat.chk ⟨by omega, by omega⟩ ?_
    refine Sat.chk ⟨by omega, by rw [laidS_len]; have := secsN_pos (y.take 500).length; omega⟩ ?_
    rw [toB_104, getD_laid]
    have hz : (zeros 104).length = 104 := by simp [zeros]
    have hh1 := headS_len (m + i) (y.take 500)
    refine Sat.chk (by omega) ?_
    refine Sat.bindE (laid_eq [102, 111, 114, 103, 101, 100] (m + i + 1) (by decide) (by omega)) ?_
    refine Sat.chk ⟨by omega, by rw [laidS_len]; exact by decide⟩ ?_
    rw [getD_laid]
    have hh2 := headS_len (m + i + 1) [102, 111, 114, 103, 101, 100]
    refine Sat.chk (by rw [List.length_append]; omega) ?_
    refine Sat.chk (by rw [List.length_append, List.length_append]; omega) ?_
    rw [W_in (by omega) (by omega), show ((i : Int) + 1) = ((i + 1 : Nat) : Int) by omega]
    refine Sat.eq (ih (i + 1) _ (by omega) ?_ (by omega)) rfl
    rw [List.length_append, List.length_append, List.length_append]; omega
theorem forged_true (v0 : List (List UInt8)) (v1 v2 : Int) : ∃ K, offshootlaw04_LogForged.f K v0 v1 v2 = some true := by
  refine ⟨KD, Sat.get ?_⟩
  unfold offshootlaw04_LogForged.f
  obtain ⟨d, e1, h⟩ := new_is KD 40 (by omega) (by unfold KD; omega)
  refine Sat.bindE e1 ?_
  have hop := open_eq (N := 40) (tO := 40) (by omega) (by omega) h [] 0 1 trivial (term_zero (by simp [endOf]) (by simp)) (by omega) (by omega) (by simp) (by simp)
  refine Sat.bindE hop ?_
  refine Sat.bindE awake04 ?_
  rw [if_neg (by simp)]
  exact Sat.eq (forged_l1 v0 v1 v2 h KD 0 [] (by omega) (by simp) (by unfold KD; omega)) rfl
end Go.Proofs.Ytimaibcaehagjaa
