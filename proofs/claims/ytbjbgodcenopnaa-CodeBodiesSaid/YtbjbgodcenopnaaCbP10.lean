/- Written by a program of this session (gen.py): the contracts of functions of the program. -/
import Derived.Test.YtbjbgodcenopnaaCbP9
namespace Go.Proofs.Ytbjbgodcenopnaa
set_option linter.unusedVariables false
set_option maxRecDepth 20000
set_option maxHeartbeats 10000000
theorem check_forms.ok  (v0 : List UInt8) (r : List (List UInt8)) (h : check_forms.f v0 = some r) :
  FW.Ok Try.prog 94 [.lit (.string (FW.B v0))] (FW.nrow (r_c_str r)) := by
 refine FW.enter (xs := [.lit (.string (FW.B v0))]) Try.func94 rfl Try.ntmps94 rfl ?_
 intro M w0 a hk
 unfold check_forms.f at h
 refine FW.wreg fun _ q1 => ?_
 refine FW.sA hk fun a w hk => ?_
 refine FW.lend (q1 _ _ ?_)
 refine FW.wseq fun _ q2 => ?_
 refine FW.wreg fun _ q3 => ?_
 refine FW.sM hk fun a w hk => ?_
 refine FW.lend (q3 _ _ ?_)
 refine wp_block ?_
 refine FW.wseqJ (fun a w => ∃ (v3 : List UInt8) (v4 : Bool), FW.S M w0 a w 98 [] [(3, [], .lit (.string (FW.B v3))), (4, [], .lit (.bool v4))] ∧ check_forms.j1 v3 v4 = some r) ?_ ?_
 ·clear hk h
  rintro a w ⟨v3, v4, hk, h⟩
  unfold check_forms.j1 at h
  refine FW.wcondF (b := v4) hk h rfl (fun h hb => ?_) (fun h hb => ?_)
  ·skip
   refine FW.wreg fun _ q5 => ?_
   refine FW.l_buildSlice (f := c_str) (l := ([([105, 42] : List UInt8)] : List (List UInt8))) hk rfl rfl rfl Try.underlying56 rfl rfl rfl rfl (fun _ => rfl) rfl ?_; clear hk; intro bx1 a w hk
   replace hk := (FW.S.freezeR (I' := []) r_c_str_eq hk (j := 0) rfl (t := 8) rfl rfl).squash
   refine FW.sA hk fun a w hk => ?_
   refine FW.lend (q5 _ _ ?_)
   refine wp_ret ?_
   (repeat first | refine FW.then_ret ?_ | refine FW.block_ret ?_)
   obtain rfl := Option.some.inj h
   exact FW.fret1 hk rfl rfl
  refine FW.wreg fun _ q6 => ?_
  refine FW.sSe hk fun a w hk => ?_
  refine FW.sA hk fun a w hk => ?_
  refine FW.lend (q6 _ _ ?_)
  refine FW.wcondF (b := (decide (v3 = ([105, 110, 106, 101, 99, 116] : List UInt8)))) hk h rfl (fun h hb => ?_) (fun h hb => ?_)
  ·skip
   refine FW.wreg fun _ q7 => ?_
   refine FW.l_buildSlice (f := c_str) (l := ([([118, 42] : List UInt8)] : List (List UInt8))) hk rfl rfl rfl Try.underlying56 rfl rfl rfl rfl (fun _ => rfl) rfl ?_; clear hk; intro bx2 a w hk
   replace hk := (FW.S.freezeR (I' := []) r_c_str_eq hk (j := 0) rfl (t := 11) rfl rfl).squash
   refine FW.sA hk fun a w hk => ?_
   refine FW.lend (q7 _ _ ?_)
   refine wp_ret ?_
   (repeat first | refine FW.then_ret ?_ | refine FW.block_ret ?_)
   obtain rfl := Option.some.inj h
   exact FW.fret1 hk rfl rfl
  refine FW.wseqJ (fun a w => ∃ (v3 : List UInt8) (v12 : Bool), FW.S M w0 a w 98 [] [(3, [], .lit (.string (FW.B v3))), (12, [], .lit (.bool v12))] ∧ check_forms.j2 v3 v12 = some r) ?_ ?_
  ·clear hk h
   rintro a w ⟨v3, v12, hk, h⟩
   unfold check_forms.j2 at h
   refine FW.wcondF (b := v12) hk h rfl (fun h hb => ?_) (fun h hb => ?_)
   ·skip
    refine FW.wreg fun _ q9 => ?_
    refine FW.l_buildSlice (f := c_str) (l := ([([110] : List UInt8)] : List (List UInt8))) hk rfl rfl rfl Try.underlying56 rfl rfl rfl rfl (fun _ => rfl) rfl ?_; clear hk; intro bx3 a w hk
    replace hk := (FW.S.freezeR (I' := []) r_c_str_eq hk (j := 0) rfl (t := 18) rfl rfl).squash
    refine FW.sA hk fun a w hk => ?_
    refine FW.lend (q9 _ _ ?_)
    refine wp_ret ?_
    (repeat first | refine FW.then_ret ?_ | refine FW.block_ret ?_)
    obtain rfl := Option.some.inj h
    exact FW.fret1 hk rfl rfl
   refine FW.wreg fun _ q10 => ?_
   refine FW.sSe hk fun a w hk => ?_
   refine FW.sA hk fun a w hk => ?_
   refine FW.lend (q10 _ _ ?_)
   refine FW.wcondF (b := (decide (v3 = ([104, 97, 115] : List UInt8)))) hk h rfl (fun h hb => ?_) (fun h hb => ?_)
   ·skip
    refine FW.wreg fun _ q11 => ?_
    refine FW.l_buildSlice (f := c_str) (l := ([([110] : List UInt8), ([110, 113] : List UInt8)] : List (List UInt8))) hk rfl rfl rfl Try.underlying56 rfl rfl rfl rfl (fun _ => rfl) rfl ?_; clear hk; intro bx4 a w hk
    replace hk := (FW.S.freezeR (I' := []) r_c_str_eq hk (j := 0) rfl (t := 21) rfl rfl).squash
    refine FW.sA hk fun a w hk => ?_
    refine FW.lend (q11 _ _ ?_)
    refine wp_ret ?_
    (repeat first | refine FW.then_ret ?_ | refine FW.block_ret ?_)
    obtain rfl := Option.some.inj h
    exact FW.fret1 hk rfl rfl
   refine FW.wseqJ (fun a w => ∃ (v3 : List UInt8) (v22 : Bool), FW.S M w0 a w 98 [] [(3, [], .lit (.string (FW.B v3))), (22, [], .lit (.bool v22))] ∧ check_forms.j3 v3 v22 = some r) ?_ ?_
   ·clear hk h
    rintro a w ⟨v3, v22, hk, h⟩
    unfold check_forms.j3 at h
    refine FW.wcondF (b := v22) hk h rfl (fun h hb => ?_) (fun h hb => ?_)
    ·skip
     refine FW.wreg fun _ q13 => ?_
     refine FW.l_buildSlice (f := c_str) (l := ([([110, 42] : List UInt8)] : List (List UInt8))) hk rfl rfl rfl Try.underlying56 rfl rfl rfl rfl (fun _ => rfl) rfl ?_; clear hk; intro bx5 a w hk
     replace hk := (FW.S.freezeR (I' := []) r_c_str_eq hk (j := 0) rfl (t := 31) rfl rfl).squash
     refine FW.sA hk fun a w hk => ?_
     refine FW.lend (q13 _ _ ?_)
     refine wp_ret ?_
     (repeat first | refine FW.then_ret ?_ | refine FW.block_ret ?_)
     obtain rfl := Option.some.inj h
     exact FW.fret1 hk rfl rfl
    refine FW.wreg fun _ q14 => ?_
    refine FW.sSe hk fun a w hk => ?_
    refine FW.sA hk fun a w hk => ?_
    refine FW.lend (q14 _ _ ?_)
    refine FW.wcondF (b := (decide (v3 = ([105, 115] : List UInt8)))) hk h rfl (fun h hb => ?_) (fun h hb => ?_)
    ·skip
     refine FW.wreg fun _ q15 => ?_
     refine FW.l_buildSlice (f := c_str) (l := ([([113] : List UInt8)] : List (List UInt8))) hk rfl rfl rfl Try.underlying56 rfl rfl rfl rfl (fun _ => rfl) rfl ?_; clear hk; intro bx6 a w hk
     replace hk := (FW.S.freezeR (I' := []) r_c_str_eq hk (j := 0) rfl (t := 34) rfl rfl).squash
     refine FW.sA hk fun a w hk => ?_
     refine FW.lend (q15 _ _ ?_)
     refine wp_ret ?_
     (repeat first | refine FW.then_ret ?_ | refine FW.block_ret ?_)
     obtain rfl := Option.some.inj h
     exact FW.fret1 hk rfl rfl
    refine FW.wseqJ (fun a w => ∃ (v3 : List UInt8) (v35 : Bool), FW.S M w0 a w 98 [] [(3, [], .lit (.string (FW.B v3))), (35, [], .lit (.bool v35))] ∧ check_forms.j4 v3 v35 = some r) ?_ ?_
    ·clear hk h
     rintro a w ⟨v3, v35, hk, h⟩
     unfold check_forms.j4 at h
     refine FW.wcondF (b := v35) hk h rfl (fun h hb => ?_) (fun h hb => ?_)
     ·skip
      refine FW.wreg fun _ q17 => ?_
      refine FW.l_buildSlice (f := c_str) (l := ([([116] : List UInt8)] : List (List UInt8))) hk rfl rfl rfl Try.underlying56 rfl rfl rfl rfl (fun _ => rfl) rfl ?_; clear hk; intro bx7 a w hk
      replace hk := (FW.S.freezeR (I' := []) r_c_str_eq hk (j := 0) rfl (t := 44) rfl rfl).squash
      refine FW.sA hk fun a w hk => ?_
      refine FW.lend (q17 _ _ ?_)
      refine wp_ret ?_
      (repeat first | refine FW.then_ret ?_ | refine FW.block_ret ?_)
      obtain rfl := Option.some.inj h
      exact FW.fret1 hk rfl rfl
     refine FW.wseqJ (fun a w => ∃ (v3 : List UInt8) (v45 : Bool), FW.S M w0 a w 98 [] [(3, [], .lit (.string (FW.B v3))), (45, [], .lit (.bool v45))] ∧ check_forms.j5 v3 v45 = some r) ?_ ?_
     ·clear hk h
      rintro a w ⟨v3, v45, hk, h⟩
      unfold check_forms.j5 at h
      refine FW.wcondF (b := v45) hk h rfl (fun h hb => ?_) (fun h hb => ?_)
      ·skip
       refine FW.wreg fun _ q19 => ?_
       refine FW.l_buildSlice (f := c_str) (l := ([([116, 42] : List UInt8)] : List (List UInt8))) hk rfl rfl rfl Try.underlying56 rfl rfl rfl rfl (fun _ => rfl) rfl ?_; clear hk; intro bx8 a w hk
       replace hk := (FW.S.freezeR (I' := []) r_c_str_eq hk (j := 0) rfl (t := 50) rfl rfl).squash
       refine FW.sA hk fun a w hk => ?_
       refine FW.lend (q19 _ _ ?_)
       refine wp_ret ?_
       (repeat first | refine FW.then_ret ?_ | refine FW.block_ret ?_)
       obtain rfl := Option.some.inj h
       exact FW.fret1 hk rfl rfl
      refine FW.wreg fun _ q20 => ?_
      refine FW.sSe hk fun a w hk => ?_
      refine FW.sA hk fun a w hk => ?_
      refine FW.lend (q20 _ _ ?_)
      refine FW.wcondF (b := (decide (v3 = ([99, 104, 111, 111, 115, 101] : List UInt8)))) hk h rfl (fun h hb => ?_) (fun h hb => ?_)
      ·skip
       refine FW.wreg fun _ q21 => ?_
       refine FW.l_buildSlice (f := c_str) (l := ([([116, 116, 116] : List UInt8)] : List (List UInt8))) hk rfl rfl rfl Try.underlying56 rfl rfl rfl rfl (fun _ => rfl) rfl ?_; clear hk; intro bx9 a w hk
       replace hk := (FW.S.freezeR (I' := []) r_c_str_eq hk (j := 0) rfl (t := 53) rfl rfl).squash
       refine FW.sA hk fun a w hk => ?_
       refine FW.lend (q21 _ _ ?_)
       refine wp_ret ?_
       (repeat first | refine FW.then_ret ?_ | refine FW.block_ret ?_)
       obtain rfl := Option.some.inj h
       exact FW.fret1 hk rfl rfl
      refine FW.wseqJ (fun a w => ∃ (v3 : List UInt8) (v54 : Bool), FW.S M w0 a w 98 [] [(3, [], .lit (.string (FW.B v3))), (54, [], .lit (.bool v54))] ∧ check_forms.j6 v3 v54 = some r) ?_ ?_
      ·clear hk h
       rintro a w ⟨v3, v54, hk, h⟩
       unfold check_forms.j6 at h
       refine FW.wcondF (b := v54) hk h rfl (fun h hb => ?_) (fun h hb => ?_)
       ·skip
        refine FW.wreg fun _ q23 => ?_
        refine FW.l_buildSlice (f := c_str) (l := ([([107] : List UInt8)] : List (List UInt8))) hk rfl rfl rfl Try.underlying56 rfl rfl rfl rfl (fun _ => rfl) rfl ?_; clear hk; intro bx10 a w hk
        replace hk := (FW.S.freezeR (I' := []) r_c_str_eq hk (j := 0) rfl (t := 59) rfl rfl).squash
        refine FW.sA hk fun a w hk => ?_
        refine FW.lend (q23 _ _ ?_)
        refine wp_ret ?_
        (repeat first | refine FW.then_ret ?_ | refine FW.block_ret ?_)
        obtain rfl := Option.some.inj h
        exact FW.fret1 hk rfl rfl
       refine FW.wreg fun _ q24 => ?_
       refine FW.sSe hk fun a w hk => ?_
       refine FW.sA hk fun a w hk => ?_
       refine FW.lend (q24 _ _ ?_)
       refine FW.wcondF (b := (decide (v3 = ([114, 97, 110, 103, 101] : List UInt8)))) hk h rfl (fun h hb => ?_) (fun h hb => ?_)
       ·skip
        refine FW.wreg fun _ q25 => ?_
        refine FW.l_buildSlice (f := c_str) (l := ([([107, 107] : List UInt8)] : List (List UInt8))) hk rfl rfl rfl Try.underlying56 rfl rfl rfl rfl (fun _ => rfl) rfl ?_; clear hk; intro bx11 a w hk
        replace hk := (FW.S.freezeR (I' := []) r_c_str_eq hk (j := 0) rfl (t := 62) rfl rfl).squash
        refine FW.sA hk fun a w hk => ?_
        refine FW.lend (q25 _ _ ?_)
        refine wp_ret ?_
        (repeat first | refine FW.then_ret ?_ | refine FW.block_ret ?_)
        obtain rfl := Option.some.inj h
        exact FW.fret1 hk rfl rfl
       refine FW.wseqJ (fun a w => ∃ (v3 : List UInt8) (v63 : Bool), FW.S M w0 a w 98 [] [(3, [], .lit (.string (FW.B v3))), (63, [], .lit (.bool v63))] ∧ check_forms.j7 v3 v63 = some r) ?_ ?_
       ·clear hk h
        rintro a w ⟨v3, v63, hk, h⟩
        unfold check_forms.j7 at h
        refine FW.wcondF (b := v63) hk h rfl (fun h hb => ?_) (fun h hb => ?_)
        ·skip
         refine FW.wreg fun _ q27 => ?_
         refine FW.l_buildSlice (f := c_str) (l := ([([118] : List UInt8)] : List (List UInt8))) hk rfl rfl rfl Try.underlying56 rfl rfl rfl rfl (fun _ => rfl) rfl ?_; clear hk; intro bx12 a w hk
         replace hk := (FW.S.freezeR (I' := []) r_c_str_eq hk (j := 0) rfl (t := 67) rfl rfl).squash
         refine FW.sA hk fun a w hk => ?_
         refine FW.lend (q27 _ _ ?_)
         refine wp_ret ?_
         (repeat first | refine FW.then_ret ?_ | refine FW.block_ret ?_)
         obtain rfl := Option.some.inj h
         exact FW.fret1 hk rfl rfl
        refine FW.wreg fun _ q28 => ?_
        refine FW.sSe hk fun a w hk => ?_
        refine FW.sA hk fun a w hk => ?_
        refine FW.lend (q28 _ _ ?_)
        refine FW.wcondF (b := (decide (v3 = ([112, 114, 111, 112, 101, 114, 116, 121] : List UInt8)))) hk h rfl (fun h hb => ?_) (fun h hb => ?_)
        ·skip
         refine FW.wreg fun _ q29 => ?_
         refine FW.l_buildSlice (f := c_str) (l := ([([110, 118] : List UInt8), ([119, 110, 118] : List UInt8)] : List (List UInt8))) hk rfl rfl rfl Try.underlying56 rfl rfl rfl rfl (fun _ => rfl) rfl ?_; clear hk; intro bx13 a w hk
         replace hk := (FW.S.freezeR (I' := []) r_c_str_eq hk (j := 0) rfl (t := 70) rfl rfl).squash
         refine FW.sA hk fun a w hk => ?_
         refine FW.lend (q29 _ _ ?_)
         refine wp_ret ?_
         (repeat first | refine FW.then_ret ?_ | refine FW.block_ret ?_)
         obtain rfl := Option.some.inj h
         exact FW.fret1 hk rfl rfl
        refine FW.wreg fun _ q30 => ?_
        refine FW.sSe hk fun a w hk => ?_
        refine FW.sA hk fun a w hk => ?_
        refine FW.lend (q30 _ _ ?_)
        refine FW.wcondF (b := (decide (v3 = ([98, 121] : List UInt8)))) hk h rfl (fun h hb => ?_) (fun h hb => ?_)
        ·skip
         refine FW.wreg fun _ q31 => ?_
         refine FW.l_buildSlice (f := c_str) (l := ([([] : List UInt8), ([98] : List UInt8), ([119] : List UInt8), ([98, 119] : List UInt8)] : List (List UInt8))) hk rfl rfl rfl Try.underlying56 rfl rfl rfl rfl (fun _ => rfl) rfl ?_; clear hk; intro bx14 a w hk
         replace hk := (FW.S.freezeR (I' := []) r_c_str_eq hk (j := 0) rfl (t := 73) rfl rfl).squash
         refine FW.sA hk fun a w hk => ?_
         refine FW.lend (q31 _ _ ?_)
         refine wp_ret ?_
         (repeat first | refine FW.then_ret ?_ | refine FW.block_ret ?_)
         obtain rfl := Option.some.inj h
         exact FW.fret1 hk rfl rfl
        refine FW.wseqJ (fun a w => ∃ (v74 : Bool), FW.S M w0 a w 98 [] [(74, [], .lit (.bool v74))] ∧ check_forms.j8 v74 = some r) ?_ ?_
        ·clear hk h
         rintro a w ⟨v74, hk, h⟩
         unfold check_forms.j8 at h
         refine FW.wcondF (b := v74) hk h rfl (fun h hb => ?_) (fun h hb => ?_)
         ·skip
          refine FW.wreg fun _ q33 => ?_
          refine FW.l_buildSlice (f := c_str) (l := ([([] : List UInt8)] : List (List UInt8))) hk rfl rfl rfl Try.underlying56 rfl rfl rfl rfl (fun _ => rfl) rfl ?_; clear hk; intro bx15 a w hk
          replace hk := (FW.S.freezeR (I' := []) r_c_str_eq hk (j := 0) rfl (t := 97) rfl rfl).squash
          refine FW.sA hk fun a w hk => ?_
          refine FW.lend (q33 _ _ ?_)
          refine wp_ret ?_
          (repeat first | refine FW.then_ret ?_ | refine FW.block_ret ?_)
          obtain rfl := Option.some.inj h
          exact FW.fret1 hk rfl rfl
         refine wp_skip ?_
         (repeat first | refine FW.tn ?_ | refine FW.bn ?_); refine q2 _ _ ?_
         refine FW.wreg fun _ q34 => ?_
         refine FW.sA hk fun a w hk => ?_
         refine FW.lend (q34 _ _ ?_)
         refine wp_ret ?_
         (repeat first | refine FW.then_ret ?_ | refine FW.block_ret ?_)
         obtain rfl := Option.some.inj h
         exact FW.fret1 hk rfl rfl
        ·intro K' q32
         refine FW.wreg fun _ q35 => ?_
         refine FW.sSe hk fun a w hk => ?_
         refine FW.sA hk fun a w hk => ?_
         refine FW.lend (q35 _ _ ?_)
         refine FW.wcondF (b := (decide (v3 = ([100, 101, 100, 117, 112] : List UInt8)))) hk h rfl (fun h hb => ?_) (fun h hb => ?_)
         ·skip
          refine wp_skip ?_
          (repeat first | refine FW.tn ?_ | refine FW.bn ?_); exact q32 _ _ ⟨(decide (v3 = ([100, 101, 100, 117, 112] : List UInt8))), hk.sub ⟨rfl, trivial⟩, h⟩
         refine FW.wreg fun _ q36 => ?_
         refine FW.sSe hk fun a w hk => ?_
         refine FW.sA hk fun a w hk => ?_
         refine FW.lend (q36 _ _ ?_)
         refine FW.wcondF (b := (decide (v3 = ([115, 105, 109, 112, 108, 101, 80, 97, 116, 104] : List UInt8)))) hk h rfl (fun h hb => ?_) (fun h hb => ?_)
         ·skip
          refine wp_skip ?_
          (repeat first | refine FW.tn ?_ | refine FW.bn ?_); exact q32 _ _ ⟨(decide (v3 = ([115, 105, 109, 112, 108, 101, 80, 97, 116, 104] : List UInt8))), hk.sub ⟨rfl, trivial⟩, h⟩
         refine FW.wreg fun _ q37 => ?_
         refine FW.sSe hk fun a w hk => ?_
         refine FW.sA hk fun a w hk => ?_
         refine FW.lend (q37 _ _ ?_)
         refine FW.wcondF (b := (decide (v3 = ([111, 117, 116, 86] : List UInt8)))) hk h rfl (fun h hb => ?_) (fun h hb => ?_)
         ·skip
          refine wp_skip ?_
          (repeat first | refine FW.tn ?_ | refine FW.bn ?_); exact q32 _ _ ⟨(decide (v3 = ([111, 117, 116, 86] : List UInt8))), hk.sub ⟨rfl, trivial⟩, h⟩
         refine FW.wreg fun _ q38 => ?_
         refine FW.sSe hk fun a w hk => ?_
         refine FW.sA hk fun a w hk => ?_
         refine FW.lend (q38 _ _ ?_)
         refine FW.wcondF (b := (decide (v3 = ([105, 110, 86] : List UInt8)))) hk h rfl (fun h hb => ?_) (fun h hb => ?_)
         ·skip
          refine wp_skip ?_
          (repeat first | refine FW.tn ?_ | refine FW.bn ?_); exact q32 _ _ ⟨(decide (v3 = ([105, 110, 86] : List UInt8))), hk.sub ⟨rfl, trivial⟩, h⟩
         refine FW.wreg fun _ q39 => ?_
         refine FW.sSe hk fun a w hk => ?_
         refine FW.sA hk fun a w hk => ?_
         refine FW.lend (q39 _ _ ?_)
         refine FW.wcondF (b := (decide (v3 = ([98, 111, 116, 104, 86] : List UInt8)))) hk h rfl (fun h hb => ?_) (fun h hb => ?_)
         ·skip
          refine wp_skip ?_
          (repeat first | refine FW.tn ?_ | refine FW.bn ?_); exact q32 _ _ ⟨(decide (v3 = ([98, 111, 116, 104, 86] : List UInt8))), hk.sub ⟨rfl, trivial⟩, h⟩
         refine FW.wreg fun _ q40 => ?_
         refine FW.sSe hk fun a w hk => ?_
         refine FW.sA hk fun a w hk => ?_
         refine FW.lend (q40 _ _ ?_)
         refine FW.wcondF (b := (decide (v3 = ([105, 100] : List UInt8)))) hk h rfl (fun h hb => ?_) (fun h hb => ?_)
         ·skip
          refine wp_skip ?_
          (repeat first | refine FW.tn ?_ | refine FW.bn ?_); exact q32 _ _ ⟨(decide (v3 = ([105, 100] : List UInt8))), hk.sub ⟨rfl, trivial⟩, h⟩
         refine FW.wreg fun _ q41 => ?_
         refine FW.sSe hk fun a w hk => ?_
         refine FW.sA hk fun a w hk => ?_
         refine FW.lend (q41 _ _ ?_)
         refine FW.wcondF (b := (decide (v3 = ([108, 97, 98, 101, 108] : List UInt8)))) hk h rfl (fun h hb => ?_) (fun h hb => ?_)
         ·skip
          refine wp_skip ?_
          (repeat first | refine FW.tn ?_ | refine FW.bn ?_); exact q32 _ _ ⟨(decide (v3 = ([108, 97, 98, 101, 108] : List UInt8))), hk.sub ⟨rfl, trivial⟩, h⟩
         refine FW.wreg fun _ q42 => ?_
         refine FW.sSe hk fun a w hk => ?_
         refine FW.sA hk fun a w hk => ?_
         refine FW.lend (q42 _ _ ?_)
         refine FW.wcondF (b := (decide (v3 = ([105, 100, 101, 110, 116, 105, 116, 121] : List UInt8)))) hk h rfl (fun h hb => ?_) (fun h hb => ?_)
         ·skip
          refine wp_skip ?_
          (repeat first | refine FW.tn ?_ | refine FW.bn ?_); exact q32 _ _ ⟨(decide (v3 = ([105, 100, 101, 110, 116, 105, 116, 121] : List UInt8))), hk.sub ⟨rfl, trivial⟩, h⟩
         refine FW.wreg fun _ q43 => ?_
         refine FW.sSe hk fun a w hk => ?_
         refine FW.sA hk fun a w hk => ?_
         refine FW.lend (q43 _ _ ?_)
         refine FW.wcondF (b := (decide (v3 = ([112, 97, 116, 104] : List UInt8)))) hk h rfl (fun h hb => ?_) (fun h hb => ?_)
         ·skip
          refine wp_skip ?_
          (repeat first | refine FW.tn ?_ | refine FW.bn ?_); exact q32 _ _ ⟨(decide (v3 = ([112, 97, 116, 104] : List UInt8))), hk.sub ⟨rfl, trivial⟩, h⟩
         refine FW.wreg fun _ q44 => ?_
         refine FW.sSe hk fun a w hk => ?_
         refine FW.sA hk fun a w hk => ?_
         refine FW.lend (q44 _ _ ?_)
         refine FW.wcondF (b := (decide (v3 = ([102, 111, 108, 100] : List UInt8)))) hk h rfl (fun h hb => ?_) (fun h hb => ?_)
         ·skip
          refine wp_skip ?_
          (repeat first | refine FW.tn ?_ | refine FW.bn ?_); exact q32 _ _ ⟨(decide (v3 = ([102, 111, 108, 100] : List UInt8))), hk.sub ⟨rfl, trivial⟩, h⟩
         refine FW.wreg fun _ q45 => ?_
         refine FW.sSe hk fun a w hk => ?_
         refine FW.sA hk fun a w hk => ?_
         refine FW.lend (q45 _ _ ?_)
         refine FW.wcondF (b := (decide (v3 = ([117, 110, 102, 111, 108, 100] : List UInt8)))) hk h rfl (fun h hb => ?_) (fun h hb => ?_)
         ·skip
          refine wp_skip ?_
          (repeat first | refine FW.tn ?_ | refine FW.bn ?_); exact q32 _ _ ⟨(decide (v3 = ([117, 110, 102, 111, 108, 100] : List UInt8))), hk.sub ⟨rfl, trivial⟩, h⟩
         refine FW.wreg fun _ q46 => ?_
         refine FW.sSe hk fun a w hk => ?_
         refine FW.sA hk fun a w hk => ?_
         refine FW.lend (q46 _ _ ?_)
         refine FW.wcondF (b := (decide (v3 = ([99, 111, 117, 110, 116] : List UInt8)))) hk h rfl (fun h hb => ?_) (fun h hb => ?_)
         ·skip
          refine wp_skip ?_
          (repeat first | refine FW.tn ?_ | refine FW.bn ?_); exact q32 _ _ ⟨(decide (v3 = ([99, 111, 117, 110, 116] : List UInt8))), hk.sub ⟨rfl, trivial⟩, h⟩
         refine FW.wreg fun _ q47 => ?_
         refine FW.sSe hk fun a w hk => ?_
         refine FW.sA hk fun a w hk => ?_
         refine FW.lend (q47 _ _ ?_)
         refine FW.wcondF (b := (decide (v3 = ([115, 117, 109] : List UInt8)))) hk h rfl (fun h hb => ?_) (fun h hb => ?_)
         ·skip
          refine wp_skip ?_
          (repeat first | refine FW.tn ?_ | refine FW.bn ?_); exact q32 _ _ ⟨(decide (v3 = ([115, 117, 109] : List UInt8))), hk.sub ⟨rfl, trivial⟩, h⟩
         refine FW.wreg fun _ q48 => ?_
         refine FW.sSe hk fun a w hk => ?_
         refine FW.sA hk fun a w hk => ?_
         refine FW.lend (q48 _ _ ?_)
         refine FW.wcondF (b := (decide (v3 = ([109, 105, 110] : List UInt8)))) hk h rfl (fun h hb => ?_) (fun h hb => ?_)
         ·skip
          refine wp_skip ?_
          (repeat first | refine FW.tn ?_ | refine FW.bn ?_); exact q32 _ _ ⟨(decide (v3 = ([109, 105, 110] : List UInt8))), hk.sub ⟨rfl, trivial⟩, h⟩
         refine FW.wreg fun _ q49 => ?_
         refine FW.sSe hk fun a w hk => ?_
         refine FW.sA hk fun a w hk => ?_
         refine FW.lend (q49 _ _ ?_)
         refine FW.wcondF (b := (decide (v3 = ([109, 97, 120] : List UInt8)))) hk h rfl (fun h hb => ?_) (fun h hb => ?_)
         ·skip
          refine wp_skip ?_
          (repeat first | refine FW.tn ?_ | refine FW.bn ?_); exact q32 _ _ ⟨(decide (v3 = ([109, 97, 120] : List UInt8))), hk.sub ⟨rfl, trivial⟩, h⟩
         refine FW.wreg fun _ q50 => ?_
         refine FW.sSe hk fun a w hk => ?_
         refine FW.sA hk fun a w hk => ?_
         refine FW.lend (q50 _ _ ?_)
         refine FW.wcondF (b := (decide (v3 = ([109, 101, 97, 110] : List UInt8)))) hk h rfl (fun h hb => ?_) (fun h hb => ?_)
         ·skip
          refine wp_skip ?_
          (repeat first | refine FW.tn ?_ | refine FW.bn ?_); exact q32 _ _ ⟨(decide (v3 = ([109, 101, 97, 110] : List UInt8))), hk.sub ⟨rfl, trivial⟩, h⟩
         refine FW.wreg fun _ q51 => ?_
         refine FW.sSe hk fun a w hk => ?_
         refine FW.sA hk fun a w hk => ?_
         refine FW.lend (q51 _ _ ?_)
         refine FW.wcondF (b := (decide (v3 = ([103, 114, 111, 117, 112] : List UInt8)))) hk h rfl (fun h hb => ?_) (fun h hb => ?_)
         ·skip
          refine wp_skip ?_
          (repeat first | refine FW.tn ?_ | refine FW.bn ?_); exact q32 _ _ ⟨(decide (v3 = ([103, 114, 111, 117, 112] : List UInt8))), hk.sub ⟨rfl, trivial⟩, h⟩
         refine FW.wreg fun _ q52 => ?_
         refine FW.sSe hk fun a w hk => ?_
         refine FW.sA hk fun a w hk => ?_
         refine FW.lend (q52 _ _ ?_)
         refine FW.wcondF (b := (decide (v3 = ([103, 114, 111, 117, 112, 67, 111, 117, 110, 116] : List UInt8)))) hk h rfl (fun h hb => ?_) (fun h hb => ?_)
         ·skip
          refine wp_skip ?_
          (repeat first | refine FW.tn ?_ | refine FW.bn ?_); exact q32 _ _ ⟨(decide (v3 = ([103, 114, 111, 117, 112, 67, 111, 117, 110, 116] : List UInt8))), hk.sub ⟨rfl, trivial⟩, h⟩
         refine FW.wreg fun _ q53 => ?_
         refine FW.sSe hk fun a w hk => ?_
         refine FW.sA hk fun a w hk => ?_
         refine FW.lend (q53 _ _ ?_)
         refine FW.wcondF (b := (decide (v3 = ([111, 114, 100, 101, 114] : List UInt8)))) hk h rfl (fun h hb => ?_) (fun h hb => ?_)
         ·skip
          refine wp_skip ?_
          (repeat first | refine FW.tn ?_ | refine FW.bn ?_); exact q32 _ _ ⟨(decide (v3 = ([111, 114, 100, 101, 114] : List UInt8))), hk.sub ⟨rfl, trivial⟩, h⟩
         refine FW.wreg fun _ q54 => ?_
         refine FW.sSe hk fun a w hk => ?_
         refine FW.sA hk fun a w hk => ?_
         refine FW.lend (q54 _ _ ?_)
         refine FW.wcondF (b := (decide (v3 = ([98, 97, 114, 114, 105, 101, 114] : List UInt8)))) hk h rfl (fun h hb => ?_) (fun h hb => ?_)
         ·skip
          refine wp_skip ?_
          (repeat first | refine FW.tn ?_ | refine FW.bn ?_); exact q32 _ _ ⟨(decide (v3 = ([98, 97, 114, 114, 105, 101, 114] : List UInt8))), hk.sub ⟨rfl, trivial⟩, h⟩
         refine FW.wreg fun _ q55 => ?_
         refine FW.sSe hk fun a w hk => ?_
         refine FW.sA hk fun a w hk => ?_
         refine FW.lend (q55 _ _ ?_)
         refine FW.wcondF (b := (decide (v3 = ([101, 109, 105, 116] : List UInt8)))) hk h rfl (fun h hb => ?_) (fun h hb => ?_)
         ·skip
          refine wp_skip ?_
          (repeat first | refine FW.tn ?_ | refine FW.bn ?_); exact q32 _ _ ⟨(decide (v3 = ([101, 109, 105, 116] : List UInt8))), hk.sub ⟨rfl, trivial⟩, h⟩
         refine FW.wreg1 ?_
         refine FW.sSe hk fun a w hk => ?_
         refine FW.sA hk fun a w hk => ?_
         refine wpList_nil ?_
         (repeat first | refine FW.tn ?_ | refine FW.bn ?_); exact q32 _ _ ⟨(decide (v3 = ([100, 114, 111, 112] : List UInt8))), hk.sub ⟨rfl, trivial⟩, h⟩
       ·intro K' q26
        refine FW.wreg fun _ q57 => ?_
        refine FW.sSe hk fun a w hk => ?_
        refine FW.sA hk fun a w hk => ?_
        refine FW.lend (q57 _ _ ?_)
        refine FW.wcondF (b := (decide (v3 = ([99, 111, 110, 115, 116, 97, 110, 116] : List UInt8)))) hk h rfl (fun h hb => ?_) (fun h hb => ?_)
        ·skip
         refine wp_skip ?_
         (repeat first | refine FW.tn ?_ | refine FW.bn ?_); exact q26 _ _ ⟨v3, (decide (v3 = ([99, 111, 110, 115, 116, 97, 110, 116] : List UInt8))), hk.sub ⟨rfl, rfl, trivial⟩, h⟩
        refine FW.wreg fun _ q58 => ?_
        refine FW.sSe hk fun a w hk => ?_
        refine FW.sA hk fun a w hk => ?_
        refine FW.lend (q58 _ _ ?_)
        refine FW.wcondF (b := (decide (v3 = ([97, 100, 100] : List UInt8)))) hk h rfl (fun h hb => ?_) (fun h hb => ?_)
        ·skip
         refine wp_skip ?_
         (repeat first | refine FW.tn ?_ | refine FW.bn ?_); exact q26 _ _ ⟨v3, (decide (v3 = ([97, 100, 100] : List UInt8))), hk.sub ⟨rfl, rfl, trivial⟩, h⟩
        refine FW.wreg1 ?_
        refine FW.sSe hk fun a w hk => ?_
        refine FW.sA hk fun a w hk => ?_
        refine wpList_nil ?_
        (repeat first | refine FW.tn ?_ | refine FW.bn ?_); exact q26 _ _ ⟨v3, (decide (v3 = ([109, 117, 108] : List UInt8))), hk.sub ⟨rfl, rfl, trivial⟩, h⟩
      ·intro K' q22
       refine FW.wreg fun _ q60 => ?_
       refine FW.sSe hk fun a w hk => ?_
       refine FW.sA hk fun a w hk => ?_
       refine FW.lend (q60 _ _ ?_)
       refine FW.wcondF (b := (decide (v3 = ([108, 105, 109, 105, 116] : List UInt8)))) hk h rfl (fun h hb => ?_) (fun h hb => ?_)
       ·skip
        refine wp_skip ?_
        (repeat first | refine FW.tn ?_ | refine FW.bn ?_); exact q22 _ _ ⟨v3, (decide (v3 = ([108, 105, 109, 105, 116] : List UInt8))), hk.sub ⟨rfl, rfl, trivial⟩, h⟩
       refine FW.wreg fun _ q61 => ?_
       refine FW.sSe hk fun a w hk => ?_
       refine FW.sA hk fun a w hk => ?_
       refine FW.lend (q61 _ _ ?_)
       refine FW.wcondF (b := (decide (v3 = ([115, 107, 105, 112] : List UInt8)))) hk h rfl (fun h hb => ?_) (fun h hb => ?_)
       ·skip
        refine wp_skip ?_
        (repeat first | refine FW.tn ?_ | refine FW.bn ?_); exact q22 _ _ ⟨v3, (decide (v3 = ([115, 107, 105, 112] : List UInt8))), hk.sub ⟨rfl, rfl, trivial⟩, h⟩
       refine FW.wreg fun _ q62 => ?_
       refine FW.sSe hk fun a w hk => ?_
       refine FW.sA hk fun a w hk => ?_
       refine FW.lend (q62 _ _ ?_)
       refine FW.wcondF (b := (decide (v3 = ([116, 97, 105, 108] : List UInt8)))) hk h rfl (fun h hb => ?_) (fun h hb => ?_)
       ·skip
        refine wp_skip ?_
        (repeat first | refine FW.tn ?_ | refine FW.bn ?_); exact q22 _ _ ⟨v3, (decide (v3 = ([116, 97, 105, 108] : List UInt8))), hk.sub ⟨rfl, rfl, trivial⟩, h⟩
       refine FW.wreg1 ?_
       refine FW.sSe hk fun a w hk => ?_
       refine FW.sA hk fun a w hk => ?_
       refine wpList_nil ?_
       (repeat first | refine FW.tn ?_ | refine FW.bn ?_); exact q22 _ _ ⟨v3, (decide (v3 = ([116, 105, 109, 101, 115] : List UInt8))), hk.sub ⟨rfl, rfl, trivial⟩, h⟩
     ·intro K' q18
      refine FW.wreg fun _ q64 => ?_
      refine FW.sSe hk fun a w hk => ?_
      refine FW.sA hk fun a w hk => ?_
      refine FW.lend (q64 _ _ ?_)
      refine FW.wcondF (b := (decide (v3 = ([97, 110, 100] : List UInt8)))) hk h rfl (fun h hb => ?_) (fun h hb => ?_)
      ·skip
       refine wp_skip ?_
       (repeat first | refine FW.tn ?_ | refine FW.bn ?_); exact q18 _ _ ⟨v3, (decide (v3 = ([97, 110, 100] : List UInt8))), hk.sub ⟨rfl, rfl, trivial⟩, h⟩
      refine FW.wreg fun _ q65 => ?_
      refine FW.sSe hk fun a w hk => ?_
      refine FW.sA hk fun a w hk => ?_
      refine FW.lend (q65 _ _ ?_)
      refine FW.wcondF (b := (decide (v3 = ([111, 114] : List UInt8)))) hk h rfl (fun h hb => ?_) (fun h hb => ?_)
      ·skip
       refine wp_skip ?_
       (repeat first | refine FW.tn ?_ | refine FW.bn ?_); exact q18 _ _ ⟨v3, (decide (v3 = ([111, 114] : List UInt8))), hk.sub ⟨rfl, rfl, trivial⟩, h⟩
      refine FW.wreg fun _ q66 => ?_
      refine FW.sSe hk fun a w hk => ?_
      refine FW.sA hk fun a w hk => ?_
      refine FW.lend (q66 _ _ ?_)
      refine FW.wcondF (b := (decide (v3 = ([117, 110, 105, 111, 110] : List UInt8)))) hk h rfl (fun h hb => ?_) (fun h hb => ?_)
      ·skip
       refine wp_skip ?_
       (repeat first | refine FW.tn ?_ | refine FW.bn ?_); exact q18 _ _ ⟨v3, (decide (v3 = ([117, 110, 105, 111, 110] : List UInt8))), hk.sub ⟨rfl, rfl, trivial⟩, h⟩
      refine FW.wreg1 ?_
      refine FW.sSe hk fun a w hk => ?_
      refine FW.sA hk fun a w hk => ?_
      refine wpList_nil ?_
      (repeat first | refine FW.tn ?_ | refine FW.bn ?_); exact q18 _ _ ⟨v3, (decide (v3 = ([99, 111, 97, 108, 101, 115, 99, 101] : List UInt8))), hk.sub ⟨rfl, rfl, trivial⟩, h⟩
    ·intro K' q16
     refine FW.wreg fun _ q68 => ?_
     refine FW.sSe hk fun a w hk => ?_
     refine FW.sA hk fun a w hk => ?_
     refine FW.lend (q68 _ _ ?_)
     refine FW.wcondF (b := (decide (v3 = ([119, 104, 101, 114, 101] : List UInt8)))) hk h rfl (fun h hb => ?_) (fun h hb => ?_)
     ·skip
      refine wp_skip ?_
      (repeat first | refine FW.tn ?_ | refine FW.bn ?_); exact q16 _ _ ⟨v3, (decide (v3 = ([119, 104, 101, 114, 101] : List UInt8))), hk.sub ⟨rfl, rfl, trivial⟩, h⟩
     refine FW.wreg fun _ q69 => ?_
     refine FW.sSe hk fun a w hk => ?_
     refine FW.sA hk fun a w hk => ?_
     refine FW.lend (q69 _ _ ?_)
     refine FW.wcondF (b := (decide (v3 = ([110, 111, 116] : List UInt8)))) hk h rfl (fun h hb => ?_) (fun h hb => ?_)
     ·skip
      refine wp_skip ?_
      (repeat first | refine FW.tn ?_ | refine FW.bn ?_); exact q16 _ _ ⟨v3, (decide (v3 = ([110, 111, 116] : List UInt8))), hk.sub ⟨rfl, rfl, trivial⟩, h⟩
     refine FW.wreg fun _ q70 => ?_
     refine FW.sSe hk fun a w hk => ?_
     refine FW.sA hk fun a w hk => ?_
     refine FW.lend (q70 _ _ ?_)
     refine FW.wcondF (b := (decide (v3 = ([111, 112, 116, 105, 111, 110, 97, 108] : List UInt8)))) hk h rfl (fun h hb => ?_) (fun h hb => ?_)
     ·skip
      refine wp_skip ?_
      (repeat first | refine FW.tn ?_ | refine FW.bn ?_); exact q16 _ _ ⟨v3, (decide (v3 = ([111, 112, 116, 105, 111, 110, 97, 108] : List UInt8))), hk.sub ⟨rfl, rfl, trivial⟩, h⟩
     refine FW.wreg fun _ q71 => ?_
     refine FW.sSe hk fun a w hk => ?_
     refine FW.sA hk fun a w hk => ?_
     refine FW.lend (q71 _ _ ?_)
     refine FW.wcondF (b := (decide (v3 = ([114, 101, 112, 101, 97, 116] : List UInt8)))) hk h rfl (fun h hb => ?_) (fun h hb => ?_)
     ·skip
      refine wp_skip ?_
      (repeat first | refine FW.tn ?_ | refine FW.bn ?_); exact q16 _ _ ⟨v3, (decide (v3 = ([114, 101, 112, 101, 97, 116] : List UInt8))), hk.sub ⟨rfl, rfl, trivial⟩, h⟩
     refine FW.wreg fun _ q72 => ?_
     refine FW.sSe hk fun a w hk => ?_
     refine FW.sA hk fun a w hk => ?_
     refine FW.lend (q72 _ _ ?_)
     refine FW.wcondF (b := (decide (v3 = ([108, 111, 99, 97, 108] : List UInt8)))) hk h rfl (fun h hb => ?_) (fun h hb => ?_)
     ·skip
      refine wp_skip ?_
      (repeat first | refine FW.tn ?_ | refine FW.bn ?_); exact q16 _ _ ⟨v3, (decide (v3 = ([108, 111, 99, 97, 108] : List UInt8))), hk.sub ⟨rfl, rfl, trivial⟩, h⟩
     refine FW.wreg fun _ q73 => ?_
     refine FW.sSe hk fun a w hk => ?_
     refine FW.sA hk fun a w hk => ?_
     refine FW.lend (q73 _ _ ?_)
     refine FW.wcondF (b := (decide (v3 = ([117, 110, 116, 105, 108] : List UInt8)))) hk h rfl (fun h hb => ?_) (fun h hb => ?_)
     ·skip
      refine wp_skip ?_
      (repeat first | refine FW.tn ?_ | refine FW.bn ?_); exact q16 _ _ ⟨v3, (decide (v3 = ([117, 110, 116, 105, 108] : List UInt8))), hk.sub ⟨rfl, rfl, trivial⟩, h⟩
     refine FW.wreg fun _ q74 => ?_
     refine FW.sSe hk fun a w hk => ?_
     refine FW.sA hk fun a w hk => ?_
     refine FW.lend (q74 _ _ ?_)
     refine FW.wcondF (b := (decide (v3 = ([116, 111] : List UInt8)))) hk h rfl (fun h hb => ?_) (fun h hb => ?_)
     ·skip
      refine wp_skip ?_
      (repeat first | refine FW.tn ?_ | refine FW.bn ?_); exact q16 _ _ ⟨v3, (decide (v3 = ([116, 111] : List UInt8))), hk.sub ⟨rfl, rfl, trivial⟩, h⟩
     refine FW.wreg1 ?_
     refine FW.sSe hk fun a w hk => ?_
     refine FW.sA hk fun a w hk => ?_
     refine wpList_nil ?_
     (repeat first | refine FW.tn ?_ | refine FW.bn ?_); exact q16 _ _ ⟨v3, (decide (v3 = ([102, 114, 111, 109] : List UInt8))), hk.sub ⟨rfl, rfl, trivial⟩, h⟩
   ·intro K' q12
    refine FW.wreg fun _ q76 => ?_
    refine FW.sSe hk fun a w hk => ?_
    refine FW.sA hk fun a w hk => ?_
    refine FW.lend (q76 _ _ ?_)
    refine FW.wcondF (b := (decide (v3 = ([104, 97, 115, 76, 97, 98, 101, 108] : List UInt8)))) hk h rfl (fun h hb => ?_) (fun h hb => ?_)
    ·skip
     refine wp_skip ?_
     (repeat first | refine FW.tn ?_ | refine FW.bn ?_); exact q12 _ _ ⟨v3, (decide (v3 = ([104, 97, 115, 76, 97, 98, 101, 108] : List UInt8))), hk.sub ⟨rfl, rfl, trivial⟩, h⟩
    refine FW.wreg fun _ q77 => ?_
    refine FW.sSe hk fun a w hk => ?_
    refine FW.sA hk fun a w hk => ?_
    refine FW.lend (q77 _ _ ?_)
    refine FW.wcondF (b := (decide (v3 = ([111, 117, 116] : List UInt8)))) hk h rfl (fun h hb => ?_) (fun h hb => ?_)
    ·skip
     refine wp_skip ?_
     (repeat first | refine FW.tn ?_ | refine FW.bn ?_); exact q12 _ _ ⟨v3, (decide (v3 = ([111, 117, 116] : List UInt8))), hk.sub ⟨rfl, rfl, trivial⟩, h⟩
    refine FW.wreg fun _ q78 => ?_
    refine FW.sSe hk fun a w hk => ?_
    refine FW.sA hk fun a w hk => ?_
    refine FW.lend (q78 _ _ ?_)
    refine FW.wcondF (b := (decide (v3 = ([105, 110] : List UInt8)))) hk h rfl (fun h hb => ?_) (fun h hb => ?_)
    ·skip
     refine wp_skip ?_
     (repeat first | refine FW.tn ?_ | refine FW.bn ?_); exact q12 _ _ ⟨v3, (decide (v3 = ([105, 110] : List UInt8))), hk.sub ⟨rfl, rfl, trivial⟩, h⟩
    refine FW.wreg fun _ q79 => ?_
    refine FW.sSe hk fun a w hk => ?_
    refine FW.sA hk fun a w hk => ?_
    refine FW.lend (q79 _ _ ?_)
    refine FW.wcondF (b := (decide (v3 = ([98, 111, 116, 104] : List UInt8)))) hk h rfl (fun h hb => ?_) (fun h hb => ?_)
    ·skip
     refine wp_skip ?_
     (repeat first | refine FW.tn ?_ | refine FW.bn ?_); exact q12 _ _ ⟨v3, (decide (v3 = ([98, 111, 116, 104] : List UInt8))), hk.sub ⟨rfl, rfl, trivial⟩, h⟩
    refine FW.wreg fun _ q80 => ?_
    refine FW.sSe hk fun a w hk => ?_
    refine FW.sA hk fun a w hk => ?_
    refine FW.lend (q80 _ _ ?_)
    refine FW.wcondF (b := (decide (v3 = ([111, 117, 116, 69] : List UInt8)))) hk h rfl (fun h hb => ?_) (fun h hb => ?_)
    ·skip
     refine wp_skip ?_
     (repeat first | refine FW.tn ?_ | refine FW.bn ?_); exact q12 _ _ ⟨v3, (decide (v3 = ([111, 117, 116, 69] : List UInt8))), hk.sub ⟨rfl, rfl, trivial⟩, h⟩
    refine FW.wreg fun _ q81 => ?_
    refine FW.sSe hk fun a w hk => ?_
    refine FW.sA hk fun a w hk => ?_
    refine FW.lend (q81 _ _ ?_)
    refine FW.wcondF (b := (decide (v3 = ([105, 110, 69] : List UInt8)))) hk h rfl (fun h hb => ?_) (fun h hb => ?_)
    ·skip
     refine wp_skip ?_
     (repeat first | refine FW.tn ?_ | refine FW.bn ?_); exact q12 _ _ ⟨v3, (decide (v3 = ([105, 110, 69] : List UInt8))), hk.sub ⟨rfl, rfl, trivial⟩, h⟩
    refine FW.wreg fun _ q82 => ?_
    refine FW.sSe hk fun a w hk => ?_
    refine FW.sA hk fun a w hk => ?_
    refine FW.lend (q82 _ _ ?_)
    refine FW.wcondF (b := (decide (v3 = ([98, 111, 116, 104, 69] : List UInt8)))) hk h rfl (fun h hb => ?_) (fun h hb => ?_)
    ·skip
     refine wp_skip ?_
     (repeat first | refine FW.tn ?_ | refine FW.bn ?_); exact q12 _ _ ⟨v3, (decide (v3 = ([98, 111, 116, 104, 69] : List UInt8))), hk.sub ⟨rfl, rfl, trivial⟩, h⟩
    refine FW.wreg1 ?_
    refine FW.sSe hk fun a w hk => ?_
    refine FW.sA hk fun a w hk => ?_
    refine wpList_nil ?_
    (repeat first | refine FW.tn ?_ | refine FW.bn ?_); exact q12 _ _ ⟨v3, (decide (v3 = ([118, 97, 108, 117, 101, 115] : List UInt8))), hk.sub ⟨rfl, rfl, trivial⟩, h⟩
  ·intro K' q8
   refine FW.wreg fun _ q84 => ?_
   refine FW.sSe hk fun a w hk => ?_
   refine FW.sA hk fun a w hk => ?_
   refine FW.lend (q84 _ _ ?_)
   refine FW.wcondF (b := (decide (v3 = ([97, 100, 100, 86] : List UInt8)))) hk h rfl (fun h hb => ?_) (fun h hb => ?_)
   ·skip
    refine wp_skip ?_
    (repeat first | refine FW.tn ?_ | refine FW.bn ?_); exact q8 _ _ ⟨v3, (decide (v3 = ([97, 100, 100, 86] : List UInt8))), hk.sub ⟨rfl, rfl, trivial⟩, h⟩
   refine FW.wreg fun _ q85 => ?_
   refine FW.sSe hk fun a w hk => ?_
   refine FW.sA hk fun a w hk => ?_
   refine FW.lend (q85 _ _ ?_)
   refine FW.wcondF (b := (decide (v3 = ([97, 100, 100, 69] : List UInt8)))) hk h rfl (fun h hb => ?_) (fun h hb => ?_)
   ·skip
    refine wp_skip ?_
    (repeat first | refine FW.tn ?_ | refine FW.bn ?_); exact q8 _ _ ⟨v3, (decide (v3 = ([97, 100, 100, 69] : List UInt8))), hk.sub ⟨rfl, rfl, trivial⟩, h⟩
   refine FW.wreg fun _ q86 => ?_
   refine FW.sSe hk fun a w hk => ?_
   refine FW.sA hk fun a w hk => ?_
   refine FW.lend (q86 _ _ ?_)
   refine FW.wcondF (b := (decide (v3 = ([104, 97, 115, 78, 111, 116] : List UInt8)))) hk h rfl (fun h hb => ?_) (fun h hb => ?_)
   ·skip
    refine wp_skip ?_
    (repeat first | refine FW.tn ?_ | refine FW.bn ?_); exact q8 _ _ ⟨v3, (decide (v3 = ([104, 97, 115, 78, 111, 116] : List UInt8))), hk.sub ⟨rfl, rfl, trivial⟩, h⟩
   refine FW.wreg fun _ q87 => ?_
   refine FW.sSe hk fun a w hk => ?_
   refine FW.sA hk fun a w hk => ?_
   refine FW.lend (q87 _ _ ?_)
   refine FW.wcondF (b := (decide (v3 = ([97, 115] : List UInt8)))) hk h rfl (fun h hb => ?_) (fun h hb => ?_)
   ·skip
    refine wp_skip ?_
    (repeat first | refine FW.tn ?_ | refine FW.bn ?_); exact q8 _ _ ⟨v3, (decide (v3 = ([97, 115] : List UInt8))), hk.sub ⟨rfl, rfl, trivial⟩, h⟩
   refine FW.wreg1 ?_
   refine FW.sSe hk fun a w hk => ?_
   refine FW.sA hk fun a w hk => ?_
   refine wpList_nil ?_
   (repeat first | refine FW.tn ?_ | refine FW.bn ?_); exact q8 _ _ ⟨v3, (decide (v3 = ([115, 101, 108, 101, 99, 116] : List UInt8))), hk.sub ⟨rfl, rfl, trivial⟩, h⟩
 ·intro K' q4
  refine FW.wreg fun _ q89 => ?_
  refine FW.sSe hk fun a w hk => ?_
  refine FW.sA hk fun a w hk => ?_
  refine FW.lend (q89 _ _ ?_)
  refine FW.wcondF (b := (decide (v0 = ([86] : List UInt8)))) hk h rfl (fun h hb => ?_) (fun h hb => ?_)
  ·skip
   refine wp_skip ?_
   (repeat first | refine FW.tn ?_ | refine FW.bn ?_); exact q4 _ _ ⟨v0, (decide (v0 = ([86] : List UInt8))), hk.sub ⟨rfl, rfl, trivial⟩, h⟩
  refine FW.wreg fun _ q90 => ?_
  refine FW.sSe hk fun a w hk => ?_
  refine FW.sA hk fun a w hk => ?_
  refine FW.lend (q90 _ _ ?_)
  refine FW.wcondF (b := (decide (v0 = ([69] : List UInt8)))) hk h rfl (fun h hb => ?_) (fun h hb => ?_)
  ·skip
   refine wp_skip ?_
   (repeat first | refine FW.tn ?_ | refine FW.bn ?_); exact q4 _ _ ⟨v0, (decide (v0 = ([69] : List UInt8))), hk.sub ⟨rfl, rfl, trivial⟩, h⟩
  refine FW.wreg1 ?_
  refine FW.sSe hk fun a w hk => ?_
  refine FW.sA hk fun a w hk => ?_
  refine wpList_nil ?_
  (repeat first | refine FW.tn ?_ | refine FW.bn ?_); exact q4 _ _ ⟨v0, (decide (v0 = ([104, 97, 115, 73, 100] : List UInt8))), hk.sub ⟨rfl, rfl, trivial⟩, h⟩
end Go.Proofs.Ytbjbgodcenopnaa
