/- Written by a program of this session (gen.py): the contracts of functions of the program. -/
import Derived.KernelRfl
import Derived.Test.YtbjbgodcenopnaaProg
import Derived.Test.YtbjbgodcenopnaaAvFun
import Derived.Test.YtbjbgodcenopnaaAvMan
import Derived.Test.YtbjbgodcenopnaaAvMore
import Derived.Test.YtbjbgodcenopnaaAvDraw2
import Derived.Test.YtbjbgodcenopnaaAvRow
import Derived.Test.YtbjbgodcenopnaaHrd
import Derived.Test.YtbjbgodcenopnaaPaD
import Derived.Test.YtbjbgodcenopnaaPaP5
namespace Go.Proofs.Ytbjbgodcenopnaa
set_option linter.unusedVariables false
set_option maxRecDepth 20000
set_option maxHeartbeats 10000000
theorem parse_parser_all.ok (K : Nat) (v0 : OParseParser) (r : Except (Int × Int) (List ApiStep × Int × Int)) (h : parse_parser_all.f K v0 = some r) :
    ∀ (b0 : Nat), FW.OkH Go.Proofs.Try.prog 45 [.lit (.pointer (some ⟨b0, 0, none⟩))] (OParseParser.items b0 v0) (fun y I => ∃  (o0 : OParseParser), y = .tup [.row (r_ApiStep_cells ((FW.caught r).1)), .lit (.int .i64 ((FW.caught r).2.1)), .lit (.int .i64 ((FW.caught r).2.2))] ∧ I = OParseParser.items b0 o0) := by
  intro b0
  refine FW.enterR (xs := [.lit (.pointer (some ⟨b0, 0, none⟩))]) Go.Proofs.Try.func45 rfl Go.Proofs.Try.ntmps45 rfl ?_
  intro M w0 a hk
  replace hk : FW.S M w0 a w0.toWorld 33 [FW.blk b0 87 ([.row (r_ApiWord_cells v0.l), .lit (.int .i64 v0.i), .lit (.int .i64 v0.deep), .lit (.int .i64 v0.steps)])] [(0, [], .lit (.pointer (some ⟨b0, 0, none⟩)))] := hk
  unfold parse_parser_all.f at h
  refine FW.wreg ?_; intro K' hK1
  refine FW.l_alloc (zs := [.row (r_ApiStep_cells [])]) [] hk rfl rfl rfl rfl ?_; clear hk; intro bx1 a w hk
  refine FW.l_alloc (zs := [.lit (.int .i64 0)]) [] hk rfl rfl rfl rfl ?_; clear hk; intro bx2 a w hk
  refine FW.l_alloc (zs := [.lit (.int .i64 0)]) [] hk rfl rfl rfl rfl ?_; clear hk; intro bx3 a w hk
  refine FW.lend (hK1 _ _ ?_); clear hK1 K'
  refine FW.wreg ?_; intro K' hK2
  refine FW.lfun (y := .lit (.func (.func 63) #[] #[.pointer (some ⟨bx1, 0, none⟩), .pointer (some ⟨bx2, 0, none⟩), .pointer (some ⟨bx3, 0, none⟩)])) hk rfl rfl rfl rfl (FW.f_makeFunc hk (FW.holds_nil _) rfl) ?_; clear hk; intro a w hk
  refine FW.l_deferR (F := 63) (cp := [.pointer (some ⟨bx1, 0, none⟩), .pointer (some ⟨bx2, 0, none⟩), .pointer (some ⟨bx3, 0, none⟩)]) hk rfl ?_; clear hk; intro a hk
  refine FW.lend (hK2 _ _ ?_); clear hK2 K'
  refine FW.wseqJ (fun a w => ∃ (y1_0 : List ApiWord) (y1_1 : Int) (y1_2 : Int) (y1_3 : Int) (y4 : Int) (y3 : Int) (y2 : List ApiStep), FW.S M w0 a w 33 [FW.blk b0 87 ([.row (r_ApiWord_cells y1_0), .lit (.int .i64 y1_1), .lit (.int .i64 y1_2), .lit (.int .i64 y1_3)]), FW.blk bx3 23 ([.lit (.int .i64 y4)]), FW.blk bx2 3 ([.lit (.int .i64 y3)]), FW.blk bx1 22 ([.row (r_ApiStep_cells y2)])] [(0, [], .lit (.pointer (some ⟨b0, 0, none⟩))), (2, [], .lit (.pointer (some ⟨bx1, 0, none⟩))), (3, [], .lit (.pointer (some ⟨bx2, 0, none⟩))), (4, [], .lit (.pointer (some ⟨bx3, 0, none⟩)))] [FW.dfC 63 [.pointer (some ⟨bx1, 0, none⟩), .pointer (some ⟨bx2, 0, none⟩), .pointer (some ⟨bx3, 0, none⟩)]] ∧ parse_parser_all.j1 K y1_0 y1_1 y1_2 y1_3 y4 y3 y2 = some r) ?_ ?_
  · clear hk h
    rintro a w ⟨y1_0, y1_1, y1_2, y1_3, y4, y3, y2, hk, h⟩
    unfold parse_parser_all.j1 at h
    refine FW.wreg ?_; intro K' hK4
    refine FW.lfun (y := .lit (.pointer (some ⟨b0, 0, none⟩))) hk rfl rfl rfl rfl (FW.f_move hk (FW.holds_nil _) rfl) ?_; clear hk; intro a w hk
    rcases FW.bndX h with ⟨e_t1, hr_t1, rfl⟩ | ⟨t1, hr_t1, h⟩
    · skip
      refine FW.l_callXE (I1 := (OParseParser.items b0 (⟨y1_0, y1_1, y1_2, y1_3⟩ : OParseParser))) (I2 := [FW.blk bx3 23 ([.lit (.int .i64 y4)]), FW.blk bx2 3 ([.lit (.int .i64 y3)]), FW.blk bx1 22 ([.row (r_ApiStep_cells y2)])]) (js := [0]) hk rfl rfl rfl Go.Proofs.Try.func66 rfl (by kernel_rfl) (parse_parser_must.ok (⟨y1_0, y1_1, y1_2, y1_3⟩ : OParseParser) ([46] : List UInt8) _ hr_t1 b0) ?_; clear hk
      rintro _ _ ⟨vE1, rfl, rfl⟩ w hk
      refine FW.leaveR_pan (fn := Go.Proofs.Try.f45) (I1 := (OVarcsApiStepcells_22.items bx1 (⟨y2⟩ : OVarcsApiStepcells_22)) ++ (OVarci64_3.items bx2 (⟨y3⟩ : OVarci64_3)) ++ (OVarci64_23.items bx3 (⟨y4⟩ : OVarci64_23))) (I2 := [FW.blk b0 87 ([.row (r_ApiWord_cells vE1.l), .lit (.int .i64 vE1.i), .lit (.int .i64 vE1.deep), .lit (.int .i64 vE1.steps)])]) (js := [1, 2, 3]) hk rfl Go.Proofs.Try.func63 rfl (by kernel_rfl) (parse_parser_all_1_pan.ok e_t1 (⟨y2⟩ : OVarcsApiStepcells_22) (⟨y3⟩ : OVarci64_3) (⟨y4⟩ : OVarci64_23) _ rfl bx1 bx2 bx3) ?_; clear hk
      rintro _ _ ⟨rfl, rfl⟩ a w hk
      have hr_0 := FW.rres_keep (I1 := [FW.blk b0 87 ([.row (r_ApiWord_cells vE1.l), .lit (.int .i64 vE1.i), .lit (.int .i64 vE1.deep), .lit (.int .i64 vE1.steps)])]) (I2 := [FW.blk bx1 22 ([.row (r_ApiStep_cells [])]), FW.blk bx2 3 ([.lit (.int .i64 e_t1.1)]), FW.blk bx3 23 ([.lit (.int .i64 e_t1.2)])]) (js := [3]) rfl (FW.rcell1 (tt := 2) hk rfl (j := 0) rfl Go.Proofs.Try.underlying22 rfl)
      have hr_1 := FW.rres_keep (I1 := [FW.blk b0 87 ([.row (r_ApiWord_cells vE1.l), .lit (.int .i64 vE1.i), .lit (.int .i64 vE1.deep), .lit (.int .i64 vE1.steps)])]) (I2 := [FW.blk bx1 22 ([.row (r_ApiStep_cells [])]), FW.blk bx2 3 ([.lit (.int .i64 e_t1.1)]), FW.blk bx3 23 ([.lit (.int .i64 e_t1.2)])]) (js := [3]) rfl (FW.rcell1 (tt := 3) hk rfl (j := 1) rfl Go.Proofs.Try.underlying3 rfl)
      have hr_2 := FW.rres_keep (I1 := [FW.blk b0 87 ([.row (r_ApiWord_cells vE1.l), .lit (.int .i64 vE1.i), .lit (.int .i64 vE1.deep), .lit (.int .i64 vE1.steps)])]) (I2 := [FW.blk bx1 22 ([.row (r_ApiStep_cells [])]), FW.blk bx2 3 ([.lit (.int .i64 e_t1.1)]), FW.blk bx3 23 ([.lit (.int .i64 e_t1.2)])]) (js := [3]) rfl (FW.rcell1 (tt := 4) hk rfl (j := 2) rfl Go.Proofs.Try.underlying23 rfl)
      replace hk := FW.S.keep (I1 := [FW.blk b0 87 ([.row (r_ApiWord_cells vE1.l), .lit (.int .i64 vE1.i), .lit (.int .i64 vE1.deep), .lit (.int .i64 vE1.steps)])]) (I2 := [FW.blk bx1 22 ([.row (r_ApiStep_cells [])]), FW.blk bx2 3 ([.lit (.int .i64 e_t1.1)]), FW.blk bx3 23 ([.lit (.int .i64 e_t1.2)])]) (js := [3]) hk rfl
      exact FW.fretH3 hk rfl hr_0 hr_1 hr_2 ⟨vE1, rfl, rfl⟩
    refine FW.l_callH (I1 := (OParseParser.items b0 (⟨y1_0, y1_1, y1_2, y1_3⟩ : OParseParser))) (I2 := [FW.blk bx3 23 ([.lit (.int .i64 y4)]), FW.blk bx2 3 ([.lit (.int .i64 y3)]), FW.blk bx1 22 ([.row (r_ApiStep_cells y2)])]) (js := [0]) hk rfl rfl rfl rfl rfl Go.Proofs.Try.func66 rfl (by kernel_rfl) (FW.OkX.toH (parse_parser_must.ok (⟨y1_0, y1_1, y1_2, y1_3⟩ : OParseParser) ([46] : List UInt8) _ hr_t1 b0)) ?_; clear hk
    rintro _ _ ⟨rfl, rfl⟩ a w hk
    refine FW.lend (hK4 _ _ ?_); clear hK4 K'
    refine FW.wreg ?_; intro K' hK5
    refine FW.lfun (y := .lit (.pointer (some ⟨b0, 0, none⟩))) hk rfl rfl rfl rfl (FW.f_move hk (FW.holds_nil _) rfl) ?_; clear hk; intro a w hk
    rcases FW.bndX h with ⟨e_t2, hr_t2, rfl⟩ | ⟨t2, hr_t2, h⟩
    · skip
      refine FW.l_callXE (I1 := (OParseParser.items b0 t1)) (I2 := [FW.blk bx3 23 ([.lit (.int .i64 y4)]), FW.blk bx2 3 ([.lit (.int .i64 y3)]), FW.blk bx1 22 ([.row (r_ApiStep_cells y2)])]) (js := [0]) hk rfl rfl rfl Go.Proofs.Try.func67 rfl (by kernel_rfl) (parse_parser_chain.ok K t1 _ hr_t2 b0) ?_; clear hk
      rintro _ _ ⟨vE2, rfl, rfl⟩ w hk
      refine FW.leaveR_pan (fn := Go.Proofs.Try.f45) (I1 := (OVarcsApiStepcells_22.items bx1 (⟨y2⟩ : OVarcsApiStepcells_22)) ++ (OVarci64_3.items bx2 (⟨y3⟩ : OVarci64_3)) ++ (OVarci64_23.items bx3 (⟨y4⟩ : OVarci64_23))) (I2 := [FW.blk b0 87 ([.row (r_ApiWord_cells vE2.l), .lit (.int .i64 vE2.i), .lit (.int .i64 vE2.deep), .lit (.int .i64 vE2.steps)])]) (js := [1, 2, 3]) hk rfl Go.Proofs.Try.func63 rfl (by kernel_rfl) (parse_parser_all_1_pan.ok e_t2 (⟨y2⟩ : OVarcsApiStepcells_22) (⟨y3⟩ : OVarci64_3) (⟨y4⟩ : OVarci64_23) _ rfl bx1 bx2 bx3) ?_; clear hk
      rintro _ _ ⟨rfl, rfl⟩ a w hk
      have hr_0 := FW.rres_keep (I1 := [FW.blk b0 87 ([.row (r_ApiWord_cells vE2.l), .lit (.int .i64 vE2.i), .lit (.int .i64 vE2.deep), .lit (.int .i64 vE2.steps)])]) (I2 := [FW.blk bx1 22 ([.row (r_ApiStep_cells [])]), FW.blk bx2 3 ([.lit (.int .i64 e_t2.1)]), FW.blk bx3 23 ([.lit (.int .i64 e_t2.2)])]) (js := [3]) rfl (FW.rcell1 (tt := 2) hk rfl (j := 0) rfl Go.Proofs.Try.underlying22 rfl)
      have hr_1 := FW.rres_keep (I1 := [FW.blk b0 87 ([.row (r_ApiWord_cells vE2.l), .lit (.int .i64 vE2.i), .lit (.int .i64 vE2.deep), .lit (.int .i64 vE2.steps)])]) (I2 := [FW.blk bx1 22 ([.row (r_ApiStep_cells [])]), FW.blk bx2 3 ([.lit (.int .i64 e_t2.1)]), FW.blk bx3 23 ([.lit (.int .i64 e_t2.2)])]) (js := [3]) rfl (FW.rcell1 (tt := 3) hk rfl (j := 1) rfl Go.Proofs.Try.underlying3 rfl)
      have hr_2 := FW.rres_keep (I1 := [FW.blk b0 87 ([.row (r_ApiWord_cells vE2.l), .lit (.int .i64 vE2.i), .lit (.int .i64 vE2.deep), .lit (.int .i64 vE2.steps)])]) (I2 := [FW.blk bx1 22 ([.row (r_ApiStep_cells [])]), FW.blk bx2 3 ([.lit (.int .i64 e_t2.1)]), FW.blk bx3 23 ([.lit (.int .i64 e_t2.2)])]) (js := [3]) rfl (FW.rcell1 (tt := 4) hk rfl (j := 2) rfl Go.Proofs.Try.underlying23 rfl)
      replace hk := FW.S.keep (I1 := [FW.blk b0 87 ([.row (r_ApiWord_cells vE2.l), .lit (.int .i64 vE2.i), .lit (.int .i64 vE2.deep), .lit (.int .i64 vE2.steps)])]) (I2 := [FW.blk bx1 22 ([.row (r_ApiStep_cells [])]), FW.blk bx2 3 ([.lit (.int .i64 e_t2.1)]), FW.blk bx3 23 ([.lit (.int .i64 e_t2.2)])]) (js := [3]) hk rfl
      exact FW.fretH3 hk rfl hr_0 hr_1 hr_2 ⟨vE2, rfl, rfl⟩
    refine FW.l_callH (I1 := (OParseParser.items b0 t1)) (I2 := [FW.blk bx3 23 ([.lit (.int .i64 y4)]), FW.blk bx2 3 ([.lit (.int .i64 y3)]), FW.blk bx1 22 ([.row (r_ApiStep_cells y2)])]) (js := [0]) hk rfl rfl rfl rfl rfl Go.Proofs.Try.func67 rfl (by kernel_rfl) (FW.OkX.toH (parse_parser_chain.ok K t1 _ hr_t2 b0)) ?_; clear hk
    rintro _ _ ⟨rfl, rfl⟩ a w hk
    refine FW.l_store (I' := [FW.blk b0 87 ([.row (r_ApiWord_cells t2.2.l), .lit (.int .i64 t2.2.i), .lit (.int .i64 t2.2.deep), .lit (.int .i64 t2.2.steps)]), FW.blk bx3 23 ([.lit (.int .i64 y4)]), FW.blk bx2 3 ([.lit (.int .i64 y3)]), FW.blk bx1 22 ([.row (r_ApiStep_cells t2.1)])]) (cs' := [.row (r_ApiStep_cells t2.1)]) (j := 3) hk rfl rfl rfl rfl rfl (by kernel_rfl) rfl rfl ?_; clear hk; intro w hk
    refine FW.lend (hK5 _ _ ?_); clear hK5 K'
    refine FW.wseqJ (fun a w => ∃ (y1_0 : List ApiWord) (y1_1 : Int) (y1_2 : Int) (y1_3 : Int) (y4 : Int) (y3 : Int) (y2 : List ApiStep), FW.S M w0 a w 33 [FW.blk b0 87 ([.row (r_ApiWord_cells y1_0), .lit (.int .i64 y1_1), .lit (.int .i64 y1_2), .lit (.int .i64 y1_3)]), FW.blk bx3 23 ([.lit (.int .i64 y4)]), FW.blk bx2 3 ([.lit (.int .i64 y3)]), FW.blk bx1 22 ([.row (r_ApiStep_cells y2)])] [(2, [], .lit (.pointer (some ⟨bx1, 0, none⟩))), (3, [], .lit (.pointer (some ⟨bx2, 0, none⟩))), (4, [], .lit (.pointer (some ⟨bx3, 0, none⟩)))] [FW.dfC 63 [.pointer (some ⟨bx1, 0, none⟩), .pointer (some ⟨bx2, 0, none⟩), .pointer (some ⟨bx3, 0, none⟩)]] ∧ parse_parser_all.j2 K y1_0 y1_1 y1_2 y1_3 y4 y3 y2 = some r) ?_ ?_
    · clear hk h
      rintro a w ⟨y1_0, y1_1, y1_2, y1_3, y4, y3, y2, hk, h⟩
      unfold parse_parser_all.j2 at h
      refine FW.wreg ?_; intro K' hK7
      refine FW.lfun (y := .row (r_ApiStep_cells y2)) hk rfl rfl rfl rfl (FW.f_loadBlk1 hk (FW.holds_nil _) (j := 3) rfl rfl Go.Proofs.Try.underlying22 rfl rfl) ?_; clear hk; intro a w hk
      refine FW.l_store (I' := [FW.blk b0 87 ([.row (r_ApiWord_cells y1_0), .lit (.int .i64 y1_1), .lit (.int .i64 y1_2), .lit (.int .i64 y1_3)]), FW.blk bx3 23 ([.lit (.int .i64 y4)]), FW.blk bx2 3 ([.lit (.int .i64 y3)]), FW.blk bx1 22 ([.row (r_ApiStep_cells y2)])]) (cs' := [.row (r_ApiStep_cells y2)]) (j := 3) hk rfl rfl rfl rfl rfl (by kernel_rfl) rfl rfl ?_; clear hk; intro w hk
      refine FW.l_store (I' := [FW.blk b0 87 ([.row (r_ApiWord_cells y1_0), .lit (.int .i64 y1_1), .lit (.int .i64 y1_2), .lit (.int .i64 y1_3)]), FW.blk bx3 23 ([.lit (.int .i64 y4)]), FW.blk bx2 3 ([.lit (.int .i64 0)]), FW.blk bx1 22 ([.row (r_ApiStep_cells y2)])]) (cs' := [.lit (.int .i64 0)]) (j := 2) hk rfl rfl rfl rfl rfl (by kernel_rfl) rfl rfl ?_; clear hk; intro w hk
      refine FW.l_store (I' := [FW.blk b0 87 ([.row (r_ApiWord_cells y1_0), .lit (.int .i64 y1_1), .lit (.int .i64 y1_2), .lit (.int .i64 y1_3)]), FW.blk bx3 23 ([.lit (.int .i64 0)]), FW.blk bx2 3 ([.lit (.int .i64 0)]), FW.blk bx1 22 ([.row (r_ApiStep_cells y2)])]) (cs' := [.lit (.int .i64 0)]) (j := 1) hk rfl rfl rfl rfl rfl (by kernel_rfl) rfl rfl ?_; clear hk; intro w hk
      refine FW.lend (hK7 _ _ ?_); clear hK7 K'
      refine wp_ret ?_
      (repeat first | refine FW.then_ret ?_ | refine FW.block_ret ?_)
      obtain rfl := Option.some.inj h
      refine FW.leaveR_ret (fn := Go.Proofs.Try.f45) (I1 := (OVarcsApiStepcells_22.items bx1 (⟨y2⟩ : OVarcsApiStepcells_22)) ++ (OVarci64_3.items bx2 (⟨0⟩ : OVarci64_3)) ++ (OVarci64_23.items bx3 (⟨0⟩ : OVarci64_23))) (I2 := [FW.blk b0 87 ([.row (r_ApiWord_cells y1_0), .lit (.int .i64 y1_1), .lit (.int .i64 y1_2), .lit (.int .i64 y1_3)])]) (js := [1, 2, 3]) hk rfl Go.Proofs.Try.func63 rfl (by kernel_rfl) (parse_parser_all_1_idle.ok  (⟨y2⟩ : OVarcsApiStepcells_22) (⟨0⟩ : OVarci64_3) (⟨0⟩ : OVarci64_23) _ rfl bx1 bx2 bx3) ?_; clear hk
      rintro _ _ ⟨rfl, rfl⟩ a w hk
      have hr_0 := FW.rres_keep (I1 := [FW.blk b0 87 ([.row (r_ApiWord_cells y1_0), .lit (.int .i64 y1_1), .lit (.int .i64 y1_2), .lit (.int .i64 y1_3)])]) (I2 := [FW.blk bx1 22 ([.row (r_ApiStep_cells y2)]), FW.blk bx2 3 ([.lit (.int .i64 0)]), FW.blk bx3 23 ([.lit (.int .i64 0)])]) (js := [3]) rfl (FW.rcell1 (tt := 2) hk rfl (j := 0) rfl Go.Proofs.Try.underlying22 rfl)
      have hr_1 := FW.rres_keep (I1 := [FW.blk b0 87 ([.row (r_ApiWord_cells y1_0), .lit (.int .i64 y1_1), .lit (.int .i64 y1_2), .lit (.int .i64 y1_3)])]) (I2 := [FW.blk bx1 22 ([.row (r_ApiStep_cells y2)]), FW.blk bx2 3 ([.lit (.int .i64 0)]), FW.blk bx3 23 ([.lit (.int .i64 0)])]) (js := [3]) rfl (FW.rcell1 (tt := 3) hk rfl (j := 1) rfl Go.Proofs.Try.underlying3 rfl)
      have hr_2 := FW.rres_keep (I1 := [FW.blk b0 87 ([.row (r_ApiWord_cells y1_0), .lit (.int .i64 y1_1), .lit (.int .i64 y1_2), .lit (.int .i64 y1_3)])]) (I2 := [FW.blk bx1 22 ([.row (r_ApiStep_cells y2)]), FW.blk bx2 3 ([.lit (.int .i64 0)]), FW.blk bx3 23 ([.lit (.int .i64 0)])]) (js := [3]) rfl (FW.rcell1 (tt := 4) hk rfl (j := 2) rfl Go.Proofs.Try.underlying23 rfl)
      replace hk := FW.S.keep (I1 := [FW.blk b0 87 ([.row (r_ApiWord_cells y1_0), .lit (.int .i64 y1_1), .lit (.int .i64 y1_2), .lit (.int .i64 y1_3)])]) (I2 := [FW.blk bx1 22 ([.row (r_ApiStep_cells y2)]), FW.blk bx2 3 ([.lit (.int .i64 0)]), FW.blk bx3 23 ([.lit (.int .i64 0)])]) (js := [3]) hk rfl
      exact FW.fretH3 hk rfl hr_0 hr_1 hr_2 ⟨(⟨y1_0, y1_1, y1_2, y1_3⟩ : OParseParser), rfl, rfl⟩
    · intro K' hK6
      obtain ⟨hc1, h⟩ := FW.chk h
      refine FW.wdraw (by kernel_rfl) (by kernel_rfl) hk ?_; clear hk
      refine FW.dfun (y := .lit (.pointer (some ⟨b0, 0, none⟩))) rfl rfl rfl rfl (fun a w hk => FW.f_move hk (FW.holds_nil _) rfl) ?_
      refine FW.dfun (y := .lit (.pointer (some ⟨b0, 0, none⟩))) rfl rfl rfl rfl (fun a w hk => (FW.f_pure (FW.p_nilCheck hk.kn (FW.holds_nil _) rfl))) ?_
      refine FW.dfun (y := .lit (.pointer (some ⟨b0, 0, none⟩))) rfl rfl rfl rfl (fun a w hk => FW.f_fieldPtr hk (FW.holds_nil _) rfl Go.Proofs.Try.underlying87 rfl (by kernel_rfl) rfl) ?_
      refine FW.dfun (y := .row (r_ApiWord_cells t2.2.l)) rfl rfl rfl rfl (fun a w hk => FW.f_loadBlk1 hk (FW.holds_nil _) (j := 0) rfl rfl Go.Proofs.Try.underlying60 rfl rfl) ?_
      refine FW.dfun (y := .lit (.pointer (some ⟨b0, 0, none⟩))) rfl rfl rfl rfl (fun a w hk => FW.f_move hk (FW.holds_nil _) rfl) ?_
      refine FW.dfun (y := .lit (.pointer (some ⟨b0, 0, none⟩))) rfl rfl rfl rfl (fun a w hk => (FW.f_pure (FW.p_nilCheck hk.kn (FW.holds_nil _) rfl))) ?_
      refine FW.dfun (y := .lit (.pointer (some ⟨b0, 1, none⟩))) rfl rfl rfl rfl (fun a w hk => FW.f_fieldPtr hk (FW.holds_nil _) rfl Go.Proofs.Try.underlying87 rfl (by kernel_rfl) rfl) ?_
      refine FW.dfun (y := .lit (.int .i64 t2.2.i)) rfl rfl rfl rfl (fun a w hk => FW.f_loadBlk1 hk (FW.holds_nil _) (j := 0) rfl rfl Go.Proofs.Try.underlying3 rfl rfl) ?_
      refine FW.dfun (y := .ref (ApiWord.cells (List.getD t2.2.l (Int.toNat t2.2.i) default))) rfl rfl rfl rfl (fun a w hk => FW.f_indexAddr (R := r_ApiWord_cells) (f := ApiWord.cells) (l := t2.2.l) (sz := 5) r_ApiWord_cells_eq (fun _ => rfl) hk (FW.holds_nil _) rfl rfl Go.Proofs.Try.underlying60 (by kernel_rfl) hc1) ?_
      refine FW.dfun (y := .ref (List.drop 0 (ApiWord.cells (List.getD t2.2.l (Int.toNat t2.2.i) default)))) rfl rfl rfl rfl (fun a w hk => FW.f_fieldAddr hk (FW.holds_nil _) rfl Go.Proofs.Try.underlying66 rfl (by kernel_rfl) rfl) ?_
      refine FW.dfun (y := .lit (.int .i64 ((List.getD t2.2.l (Int.toNat t2.2.i) default).Kind))) rfl rfl rfl rfl (fun a w hk => FW.f_load1 hk (FW.holds_nil _) rfl rfl Go.Proofs.Try.underlying3 rfl) ?_
      refine FW.dfun (y := .lit (.bool (!decide (((List.getD t2.2.l (Int.toNat t2.2.i) default).Kind) = 0)))) rfl rfl rfl rfl (fun a w hk => (FW.f_pure (FW.p_neq hk.kn (FW.holds_nil _) rfl rfl))) ?_
      refine FW.dend ?_; intro a w hk
      refine FW.wcondF (b := (!decide (((List.getD t2.2.l (Int.toNat t2.2.i) default).Kind) = 0))) hk h rfl (fun h hb => ?_) (fun h hb => ?_)
      · skip
        refine FW.wreg1 ?_
        refine FW.lfun (y := .lit (.pointer (some ⟨b0, 0, none⟩))) hk rfl rfl rfl rfl (FW.f_move hk (FW.holds_nil _) rfl) ?_; clear hk; intro a w hk
        rcases FW.bndX h with ⟨e_t3, hr_t3, rfl⟩ | ⟨t3, hr_t3, h⟩
        · skip
          refine FW.l_callXE (I1 := (OParseParser.items b0 t2.2)) (I2 := [FW.blk bx3 23 ([.lit (.int .i64 y4)]), FW.blk bx2 3 ([.lit (.int .i64 y3)]), FW.blk bx1 22 ([.row (r_ApiStep_cells t2.1)])]) (js := [0]) hk rfl rfl rfl Go.Proofs.Try.func65 rfl (by kernel_rfl) (parse_parser_stop.ok t2.2 120 _ hr_t3 b0) ?_; clear hk
          rintro _ _ ⟨vE3, rfl, rfl⟩ w hk
          refine FW.leaveR_pan (fn := Go.Proofs.Try.f45) (I1 := (OVarcsApiStepcells_22.items bx1 (⟨t2.1⟩ : OVarcsApiStepcells_22)) ++ (OVarci64_3.items bx2 (⟨y3⟩ : OVarci64_3)) ++ (OVarci64_23.items bx3 (⟨y4⟩ : OVarci64_23))) (I2 := [FW.blk b0 87 ([.row (r_ApiWord_cells vE3.l), .lit (.int .i64 vE3.i), .lit (.int .i64 vE3.deep), .lit (.int .i64 vE3.steps)])]) (js := [1, 2, 3]) hk rfl Go.Proofs.Try.func63 rfl (by kernel_rfl) (parse_parser_all_1_pan.ok e_t3 (⟨t2.1⟩ : OVarcsApiStepcells_22) (⟨y3⟩ : OVarci64_3) (⟨y4⟩ : OVarci64_23) _ rfl bx1 bx2 bx3) ?_; clear hk
          rintro _ _ ⟨rfl, rfl⟩ a w hk
          have hr_0 := FW.rres_keep (I1 := [FW.blk b0 87 ([.row (r_ApiWord_cells vE3.l), .lit (.int .i64 vE3.i), .lit (.int .i64 vE3.deep), .lit (.int .i64 vE3.steps)])]) (I2 := [FW.blk bx1 22 ([.row (r_ApiStep_cells [])]), FW.blk bx2 3 ([.lit (.int .i64 e_t3.1)]), FW.blk bx3 23 ([.lit (.int .i64 e_t3.2)])]) (js := [3]) rfl (FW.rcell1 (tt := 2) hk rfl (j := 0) rfl Go.Proofs.Try.underlying22 rfl)
          have hr_1 := FW.rres_keep (I1 := [FW.blk b0 87 ([.row (r_ApiWord_cells vE3.l), .lit (.int .i64 vE3.i), .lit (.int .i64 vE3.deep), .lit (.int .i64 vE3.steps)])]) (I2 := [FW.blk bx1 22 ([.row (r_ApiStep_cells [])]), FW.blk bx2 3 ([.lit (.int .i64 e_t3.1)]), FW.blk bx3 23 ([.lit (.int .i64 e_t3.2)])]) (js := [3]) rfl (FW.rcell1 (tt := 3) hk rfl (j := 1) rfl Go.Proofs.Try.underlying3 rfl)
          have hr_2 := FW.rres_keep (I1 := [FW.blk b0 87 ([.row (r_ApiWord_cells vE3.l), .lit (.int .i64 vE3.i), .lit (.int .i64 vE3.deep), .lit (.int .i64 vE3.steps)])]) (I2 := [FW.blk bx1 22 ([.row (r_ApiStep_cells [])]), FW.blk bx2 3 ([.lit (.int .i64 e_t3.1)]), FW.blk bx3 23 ([.lit (.int .i64 e_t3.2)])]) (js := [3]) rfl (FW.rcell1 (tt := 4) hk rfl (j := 2) rfl Go.Proofs.Try.underlying23 rfl)
          replace hk := FW.S.keep (I1 := [FW.blk b0 87 ([.row (r_ApiWord_cells vE3.l), .lit (.int .i64 vE3.i), .lit (.int .i64 vE3.deep), .lit (.int .i64 vE3.steps)])]) (I2 := [FW.blk bx1 22 ([.row (r_ApiStep_cells [])]), FW.blk bx2 3 ([.lit (.int .i64 e_t3.1)]), FW.blk bx3 23 ([.lit (.int .i64 e_t3.2)])]) (js := [3]) hk rfl
          exact FW.fretH3 hk rfl hr_0 hr_1 hr_2 ⟨vE3, rfl, rfl⟩
        refine FW.l_callH (I1 := (OParseParser.items b0 t2.2)) (I2 := [FW.blk bx3 23 ([.lit (.int .i64 y4)]), FW.blk bx2 3 ([.lit (.int .i64 y3)]), FW.blk bx1 22 ([.row (r_ApiStep_cells t2.1)])]) (js := [0]) hk rfl rfl rfl rfl rfl Go.Proofs.Try.func65 rfl (by kernel_rfl) (FW.OkX.toH (parse_parser_stop.ok t2.2 120 _ hr_t3 b0)) ?_; clear hk
        rintro _ _ ⟨rfl, rfl⟩ a w hk
        refine wpList_nil ?_
        (repeat first | refine FW.then_normal ?_ | refine FW.block_normal ?_); exact hK6 _ _ ⟨t3.l, t3.i, t3.deep, t3.steps, y4, y3, t2.1, hk.sub ⟨rfl, rfl, rfl, trivial⟩, h⟩
      · skip
        refine wp_skip ?_
        (repeat first | refine FW.then_normal ?_ | refine FW.block_normal ?_); exact hK6 _ _ ⟨t2.2.l, t2.2.i, t2.2.deep, t2.2.steps, y4, y3, t2.1, hk.sub ⟨rfl, rfl, rfl, trivial⟩, h⟩
  · intro K' hK3
    refine FW.wreg ?_; intro K' hK10
    refine FW.lfun (y := .lit (.pointer (some ⟨b0, 0, none⟩))) hk rfl rfl rfl rfl (FW.f_move hk (FW.holds_nil _) rfl) ?_; clear hk; intro a w hk
    rcases FW.bndX h with ⟨e_t4, hr_t4, rfl⟩ | ⟨t4, hr_t4, h⟩
    · skip
      refine FW.l_callXE (I1 := (OParseParser.items b0 v0)) (I2 := [FW.blk bx3 23 ([.lit (.int .i64 0)]), FW.blk bx2 3 ([.lit (.int .i64 0)]), FW.blk bx1 22 ([.row (r_ApiStep_cells [])])]) (js := [3]) hk rfl rfl rfl Go.Proofs.Try.func64 rfl (by kernel_rfl) (parse_parser_name.ok v0 _ hr_t4 b0) ?_; clear hk
      rintro _ _ ⟨vE4, rfl, rfl⟩ w hk
      refine FW.leaveR_pan (fn := Go.Proofs.Try.f45) (I1 := (OVarcsApiStepcells_22.items bx1 (⟨[]⟩ : OVarcsApiStepcells_22)) ++ (OVarci64_3.items bx2 (⟨0⟩ : OVarci64_3)) ++ (OVarci64_23.items bx3 (⟨0⟩ : OVarci64_23))) (I2 := [FW.blk b0 87 ([.row (r_ApiWord_cells vE4.l), .lit (.int .i64 vE4.i), .lit (.int .i64 vE4.deep), .lit (.int .i64 vE4.steps)])]) (js := [1, 2, 3]) hk rfl Go.Proofs.Try.func63 rfl (by kernel_rfl) (parse_parser_all_1_pan.ok e_t4 (⟨[]⟩ : OVarcsApiStepcells_22) (⟨0⟩ : OVarci64_3) (⟨0⟩ : OVarci64_23) _ rfl bx1 bx2 bx3) ?_; clear hk
      rintro _ _ ⟨rfl, rfl⟩ a w hk
      have hr_0 := FW.rres_keep (I1 := [FW.blk b0 87 ([.row (r_ApiWord_cells vE4.l), .lit (.int .i64 vE4.i), .lit (.int .i64 vE4.deep), .lit (.int .i64 vE4.steps)])]) (I2 := [FW.blk bx1 22 ([.row (r_ApiStep_cells [])]), FW.blk bx2 3 ([.lit (.int .i64 e_t4.1)]), FW.blk bx3 23 ([.lit (.int .i64 e_t4.2)])]) (js := [3]) rfl (FW.rcell1 (tt := 2) hk rfl (j := 0) rfl Go.Proofs.Try.underlying22 rfl)
      have hr_1 := FW.rres_keep (I1 := [FW.blk b0 87 ([.row (r_ApiWord_cells vE4.l), .lit (.int .i64 vE4.i), .lit (.int .i64 vE4.deep), .lit (.int .i64 vE4.steps)])]) (I2 := [FW.blk bx1 22 ([.row (r_ApiStep_cells [])]), FW.blk bx2 3 ([.lit (.int .i64 e_t4.1)]), FW.blk bx3 23 ([.lit (.int .i64 e_t4.2)])]) (js := [3]) rfl (FW.rcell1 (tt := 3) hk rfl (j := 1) rfl Go.Proofs.Try.underlying3 rfl)
      have hr_2 := FW.rres_keep (I1 := [FW.blk b0 87 ([.row (r_ApiWord_cells vE4.l), .lit (.int .i64 vE4.i), .lit (.int .i64 vE4.deep), .lit (.int .i64 vE4.steps)])]) (I2 := [FW.blk bx1 22 ([.row (r_ApiStep_cells [])]), FW.blk bx2 3 ([.lit (.int .i64 e_t4.1)]), FW.blk bx3 23 ([.lit (.int .i64 e_t4.2)])]) (js := [3]) rfl (FW.rcell1 (tt := 4) hk rfl (j := 2) rfl Go.Proofs.Try.underlying23 rfl)
      replace hk := FW.S.keep (I1 := [FW.blk b0 87 ([.row (r_ApiWord_cells vE4.l), .lit (.int .i64 vE4.i), .lit (.int .i64 vE4.deep), .lit (.int .i64 vE4.steps)])]) (I2 := [FW.blk bx1 22 ([.row (r_ApiStep_cells [])]), FW.blk bx2 3 ([.lit (.int .i64 e_t4.1)]), FW.blk bx3 23 ([.lit (.int .i64 e_t4.2)])]) (js := [3]) hk rfl
      exact FW.fretH3 hk rfl hr_0 hr_1 hr_2 ⟨vE4, rfl, rfl⟩
    refine FW.l_callH (I1 := (OParseParser.items b0 v0)) (I2 := [FW.blk bx3 23 ([.lit (.int .i64 0)]), FW.blk bx2 3 ([.lit (.int .i64 0)]), FW.blk bx1 22 ([.row (r_ApiStep_cells [])])]) (js := [3]) hk rfl rfl rfl rfl rfl Go.Proofs.Try.func64 rfl (by kernel_rfl) (FW.OkX.toH (parse_parser_name.ok v0 _ hr_t4 b0)) ?_; clear hk
    rintro _ _ ⟨rfl, rfl⟩ a w hk
    refine FW.lfun (y := .lit (.bool (!decide (t4.1 = ([103] : List UInt8))))) hk rfl rfl rfl rfl ((FW.f_pure (FW.p_sneq hk.kn (FW.holds_nil _) rfl rfl))) ?_; clear hk; intro a w hk
    refine FW.lend (hK10 _ _ ?_); clear hK10 K'
    refine FW.wcondF (b := (!decide (t4.1 = ([103] : List UInt8)))) hk h rfl (fun h hb => ?_) (fun h hb => ?_)
    · skip
      refine FW.wreg ?_; intro K' hK11
      refine FW.lfun (y := .lit (.pointer (some ⟨b0, 0, none⟩))) hk rfl rfl rfl rfl (FW.f_move hk (FW.holds_nil _) rfl) ?_; clear hk; intro a w hk
      refine FW.lfun (y := .lit (.pointer (some ⟨b0, 0, none⟩))) hk rfl rfl rfl rfl ((FW.f_pure (FW.p_nilCheck hk.kn (FW.holds_nil _) rfl))) ?_; clear hk; intro a w hk
      refine FW.lfun (y := .lit (.pointer (some ⟨b0, 1, none⟩))) hk rfl rfl rfl rfl (FW.f_fieldPtr hk (FW.holds_nil _) rfl Go.Proofs.Try.underlying87 rfl (by kernel_rfl) rfl) ?_; clear hk; intro a w hk
      refine FW.l_store (I' := [FW.blk b0 87 ([.row (r_ApiWord_cells t4.2.l), .lit (.int .i64 0), .lit (.int .i64 t4.2.deep), .lit (.int .i64 t4.2.steps)]), FW.blk bx3 23 ([.lit (.int .i64 0)]), FW.blk bx2 3 ([.lit (.int .i64 0)]), FW.blk bx1 22 ([.row (r_ApiStep_cells [])])]) (cs' := [.row (r_ApiWord_cells t4.2.l), .lit (.int .i64 0), .lit (.int .i64 t4.2.deep), .lit (.int .i64 t4.2.steps)]) (j := 0) hk rfl rfl rfl rfl rfl (by kernel_rfl) rfl rfl ?_; clear hk; intro w hk
      refine FW.lend (hK11 _ _ ?_); clear hK11 K'
      refine FW.wreg1 ?_
      refine FW.lfun (y := .lit (.pointer (some ⟨b0, 0, none⟩))) hk rfl rfl rfl rfl (FW.f_move hk (FW.holds_nil _) rfl) ?_; clear hk; intro a w hk
      rcases FW.bndX h with ⟨e_t5, hr_t5, rfl⟩ | ⟨t5, hr_t5, h⟩
      · skip
        refine FW.l_callXE (I1 := (OParseParser.items b0 (⟨t4.2.l, 0, t4.2.deep, t4.2.steps⟩ : OParseParser))) (I2 := [FW.blk bx3 23 ([.lit (.int .i64 0)]), FW.blk bx2 3 ([.lit (.int .i64 0)]), FW.blk bx1 22 ([.row (r_ApiStep_cells [])])]) (js := [0]) hk rfl rfl rfl Go.Proofs.Try.func65 rfl (by kernel_rfl) (parse_parser_stop.ok (⟨t4.2.l, 0, t4.2.deep, t4.2.steps⟩ : OParseParser) 120 _ hr_t5 b0) ?_; clear hk
        rintro _ _ ⟨vE5, rfl, rfl⟩ w hk
        refine FW.leaveR_pan (fn := Go.Proofs.Try.f45) (I1 := (OVarcsApiStepcells_22.items bx1 (⟨[]⟩ : OVarcsApiStepcells_22)) ++ (OVarci64_3.items bx2 (⟨0⟩ : OVarci64_3)) ++ (OVarci64_23.items bx3 (⟨0⟩ : OVarci64_23))) (I2 := [FW.blk b0 87 ([.row (r_ApiWord_cells vE5.l), .lit (.int .i64 vE5.i), .lit (.int .i64 vE5.deep), .lit (.int .i64 vE5.steps)])]) (js := [1, 2, 3]) hk rfl Go.Proofs.Try.func63 rfl (by kernel_rfl) (parse_parser_all_1_pan.ok e_t5 (⟨[]⟩ : OVarcsApiStepcells_22) (⟨0⟩ : OVarci64_3) (⟨0⟩ : OVarci64_23) _ rfl bx1 bx2 bx3) ?_; clear hk
        rintro _ _ ⟨rfl, rfl⟩ a w hk
        have hr_0 := FW.rres_keep (I1 := [FW.blk b0 87 ([.row (r_ApiWord_cells vE5.l), .lit (.int .i64 vE5.i), .lit (.int .i64 vE5.deep), .lit (.int .i64 vE5.steps)])]) (I2 := [FW.blk bx1 22 ([.row (r_ApiStep_cells [])]), FW.blk bx2 3 ([.lit (.int .i64 e_t5.1)]), FW.blk bx3 23 ([.lit (.int .i64 e_t5.2)])]) (js := [3]) rfl (FW.rcell1 (tt := 2) hk rfl (j := 0) rfl Go.Proofs.Try.underlying22 rfl)
        have hr_1 := FW.rres_keep (I1 := [FW.blk b0 87 ([.row (r_ApiWord_cells vE5.l), .lit (.int .i64 vE5.i), .lit (.int .i64 vE5.deep), .lit (.int .i64 vE5.steps)])]) (I2 := [FW.blk bx1 22 ([.row (r_ApiStep_cells [])]), FW.blk bx2 3 ([.lit (.int .i64 e_t5.1)]), FW.blk bx3 23 ([.lit (.int .i64 e_t5.2)])]) (js := [3]) rfl (FW.rcell1 (tt := 3) hk rfl (j := 1) rfl Go.Proofs.Try.underlying3 rfl)
        have hr_2 := FW.rres_keep (I1 := [FW.blk b0 87 ([.row (r_ApiWord_cells vE5.l), .lit (.int .i64 vE5.i), .lit (.int .i64 vE5.deep), .lit (.int .i64 vE5.steps)])]) (I2 := [FW.blk bx1 22 ([.row (r_ApiStep_cells [])]), FW.blk bx2 3 ([.lit (.int .i64 e_t5.1)]), FW.blk bx3 23 ([.lit (.int .i64 e_t5.2)])]) (js := [3]) rfl (FW.rcell1 (tt := 4) hk rfl (j := 2) rfl Go.Proofs.Try.underlying23 rfl)
        replace hk := FW.S.keep (I1 := [FW.blk b0 87 ([.row (r_ApiWord_cells vE5.l), .lit (.int .i64 vE5.i), .lit (.int .i64 vE5.deep), .lit (.int .i64 vE5.steps)])]) (I2 := [FW.blk bx1 22 ([.row (r_ApiStep_cells [])]), FW.blk bx2 3 ([.lit (.int .i64 e_t5.1)]), FW.blk bx3 23 ([.lit (.int .i64 e_t5.2)])]) (js := [3]) hk rfl
        exact FW.fretH3 hk rfl hr_0 hr_1 hr_2 ⟨vE5, rfl, rfl⟩
      refine FW.l_callH (I1 := (OParseParser.items b0 (⟨t4.2.l, 0, t4.2.deep, t4.2.steps⟩ : OParseParser))) (I2 := [FW.blk bx3 23 ([.lit (.int .i64 0)]), FW.blk bx2 3 ([.lit (.int .i64 0)]), FW.blk bx1 22 ([.row (r_ApiStep_cells [])])]) (js := [0]) hk rfl rfl rfl rfl rfl Go.Proofs.Try.func65 rfl (by kernel_rfl) (FW.OkX.toH (parse_parser_stop.ok (⟨t4.2.l, 0, t4.2.deep, t4.2.steps⟩ : OParseParser) 120 _ hr_t5 b0)) ?_; clear hk
      rintro _ _ ⟨rfl, rfl⟩ a w hk
      refine wpList_nil ?_
      (repeat first | refine FW.then_normal ?_ | refine FW.block_normal ?_); exact hK3 _ _ ⟨t5.l, t5.i, t5.deep, t5.steps, 0, 0, [], hk.sub ⟨rfl, rfl, rfl, rfl, trivial⟩, h⟩
    · skip
      refine wp_skip ?_
      (repeat first | refine FW.then_normal ?_ | refine FW.block_normal ?_); exact hK3 _ _ ⟨t4.2.l, t4.2.i, t4.2.deep, t4.2.steps, 0, 0, [], hk.sub ⟨rfl, rfl, rfl, rfl, trivial⟩, h⟩
end Go.Proofs.Ytbjbgodcenopnaa
