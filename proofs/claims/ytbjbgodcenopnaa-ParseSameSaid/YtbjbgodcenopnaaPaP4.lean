/- Written by a program of this session (gen.py): the contracts of functions of the program. -/
import Derived.KernelRfl
import Derived.Test.YtbjbgodcenopnaaProg
import Derived.Test.YtbjbgodcenopnaaAvFun
import Derived.Test.YtbjbgodcenopnaaAvMan
import Derived.Test.YtbjbgodcenopnaaAvMore
import Derived.Test.YtbjbgodcenopnaaAvDraw2
import Derived.Test.YtbjbgodcenopnaaAvRow
import Derived.Test.YtbjbgodcenopnaaHrd
import Derived.Test.YtbjbgodcenopnaaPaD
import Derived.Test.YtbjbgodcenopnaaPaP3
namespace Go.Proofs.Ytbjbgodcenopnaa
set_option linter.unusedVariables false
set_option maxRecDepth 20000
set_option maxHeartbeats 10000000
theorem parse_parser_pred.bok (s_parse_parser_pred : OParseParser → Option (Except (Int × Int) (ApiPred × OParseParser))) (hs_parse_parser_pred : ∀ (v0 : OParseParser) (r : Except (Int × Int) (ApiPred × OParseParser)), s_parse_parser_pred v0 = some r → ∀ (b0 : Nat), FW.OkX Go.Proofs.Try.prog 145 [.lit (.pointer (some ⟨b0, 0, none⟩))] (OParseParser.items b0 v0) (FW.qX r (fun rr => fun y I => y = .agg (ApiPred.cells rr.1) ∧ I = OParseParser.items b0 rr.2) (fun e pv I => ∃ (o0 : OParseParser), pv = FW.faultV 115 e ∧ I = OParseParser.items b0 o0))) (K : Nat) (v0 : OParseParser) (r : Except (Int × Int) (ApiPred × OParseParser)) (h : parse_parser_pred.b s_parse_parser_pred K v0 = some r) :
    ∀ (b0 : Nat), FW.OkX Go.Proofs.Try.prog 145 [.lit (.pointer (some ⟨b0, 0, none⟩))] (OParseParser.items b0 v0) (FW.qX r (fun rr => fun y I => y = .agg (ApiPred.cells rr.1) ∧ I = OParseParser.items b0 rr.2) (fun e pv I => ∃ (o0 : OParseParser), pv = FW.faultV 115 e ∧ I = OParseParser.items b0 o0)) := by
  intro b0
  refine FW.enterD (xs := [.lit (.pointer (some ⟨b0, 0, none⟩))]) Go.Proofs.Try.func145 rfl Go.Proofs.Try.ntmps145 rfl ?_
  intro M w0 a hk
  replace hk : FW.S M w0 a w0.toWorld 86 [FW.blk b0 87 ([.row (r_ApiWord_cells v0.l), .lit (.int .i64 v0.i), .lit (.int .i64 v0.deep), .lit (.int .i64 v0.steps)])] [(0, [], .lit (.pointer (some ⟨b0, 0, none⟩)))] := hk
  unfold parse_parser_pred.b at h
  replace hk := hk.box0 (t := 84) (b0 := b0) (F := 160)
  refine FW.wreg ?_; intro K' hK1
  refine FW.l_alloc (zs := (ApiPred.cells (⟨[], [], []⟩ : ApiPred))) [] hk rfl rfl rfl rfl ?_; clear hk; intro bx1 a w hk
  refine FW.lend (hK1 _ _ ?_); clear hK1 K'
  refine FW.wreg ?_; intro K' hK2
  refine FW.lfun (y := .lit (.pointer (some ⟨b0, 0, none⟩))) hk rfl rfl rfl rfl (FW.f_move hk (FW.holds_nil _) rfl) ?_; clear hk; intro a w hk
  refine FW.lfun (y := .lit (.pointer (some ⟨b0, 0, none⟩))) hk rfl rfl rfl rfl ((FW.f_pure (FW.p_nilCheck hk.kn (FW.holds_nil _) rfl))) ?_; clear hk; intro a w hk
  refine FW.lfun (y := .lit (.pointer (some ⟨b0, 1, none⟩))) hk rfl rfl rfl rfl (FW.f_fieldPtr hk (FW.holds_nil _) rfl Go.Proofs.Try.underlying87 rfl (by kernel_rfl) rfl) ?_; clear hk; intro a w hk
  refine FW.lfun (y := .lit (.int .i64 v0.i)) hk rfl rfl rfl rfl (FW.f_loadBlk1 hk (FW.holds_nil _) (j := 2) rfl rfl Go.Proofs.Try.underlying3 rfl rfl) ?_; clear hk; intro a w hk
  refine FW.lfun (y := .lit (.int .i64 v0.i)) hk rfl rfl rfl rfl (FW.f_assign hk (FW.holds_nil _) rfl) ?_; clear hk; intro a w hk
  refine FW.lend (hK2 _ _ ?_); clear hK2 K'
  refine FW.wreg ?_; intro K' hK3
  refine FW.lfun (y := .lit (.pointer (some ⟨b0, 0, none⟩))) hk rfl rfl rfl rfl (FW.f_move hk (FW.holds_nil _) rfl) ?_; clear hk; intro a w hk
  rcases FW.bndX h with ⟨e_t1, hr_t1, rfl⟩ | ⟨t1, hr_t1, h⟩
  · skip
    refine FW.l_callXE (I1 := (OParseParser.items b0 v0)) (I2 := [FW.blk bx1 36 ((ApiPred.cells (⟨[], [], []⟩ : ApiPred))), FW.boxesI 84 ([] : List Nat) b0 0]) (js := [2]) hk rfl rfl rfl Go.Proofs.Try.func64 rfl (by kernel_rfl) (parse_parser_name.ok v0 _ hr_t1 b0) ?_; clear hk
    rintro _ _ ⟨vE1, rfl, rfl⟩ w hk
    exact FW.leave_pan (P := Go.Proofs.Try.prog) (fn := Go.Proofs.Try.f145) (bs := ([] : List Nat)) (dn := 0) (x := vE1.deep) (I2 := [FW.blk bx1 36 ((ApiPred.cells (⟨[], [], []⟩ : ApiPred)))]) (js := [0, 2]) (fun q => OParseParser.items b0 (⟨vE1.l, vE1.i, q, vE1.steps⟩ : OParseParser)) hk rfl Go.Proofs.Try.func160 rfl (by kernel_rfl) (fun x nb => parse_parser_into_1.ok (⟨⟩ : OVarPParseParser) (⟨vE1.l, vE1.i, x, vE1.steps⟩ : OParseParser) _ rfl nb b0) ⟨_, rfl, _, rfl, rfl⟩
  refine FW.l_callH (I1 := (OParseParser.items b0 v0)) (I2 := [FW.blk bx1 36 ((ApiPred.cells (⟨[], [], []⟩ : ApiPred))), FW.boxesI 84 ([] : List Nat) b0 0]) (js := [2]) hk rfl rfl rfl rfl rfl Go.Proofs.Try.func64 rfl (by kernel_rfl) (FW.OkX.toH (parse_parser_name.ok v0 _ hr_t1 b0)) ?_; clear hk
  rintro _ _ ⟨rfl, rfl⟩ a w hk
  refine FW.lfun (y := .lit (.string (FW.B t1.1))) hk rfl rfl rfl rfl (FW.f_assign hk (FW.holds_nil _) rfl) ?_; clear hk; intro a w hk
  refine FW.lend (hK3 _ _ ?_); clear hK3 K'
  refine FW.wreg ?_; intro K' hK4
  refine FW.lfun (y := .lit (.string (FW.B t1.1))) hk rfl rfl rfl rfl (FW.f_move hk (FW.holds_nil _) rfl) ?_; clear hk; intro a w hk
  obtain ⟨t2, hr_t2, h⟩ := FW.bnd h
  refine FW.lfun (y := .tup [.lit (.int .i64 t2.1), .lit (.bool t2.2)]) hk rfl rfl rfl rfl (FW.f_call hk (FW.holds_nil _) rfl rfl Go.Proofs.Try.func144 rfl (by kernel_rfl) (parse_Preds.ok t1.1 _ hr_t2)) ?_; clear hk; intro a w hk
  refine FW.lfun (y := .tup [.lit (.int .i64 t2.1), .lit (.bool t2.2)]) hk rfl rfl rfl rfl (FW.f_move hk (FW.holds_nil _) rfl) ?_; clear hk; intro a w hk
  refine FW.lfun (y := .lit (.int .i64 t2.1)) hk rfl rfl rfl rfl (FW.f_extract hk (FW.holds_nil _) rfl rfl) ?_; clear hk; intro a w hk
  refine FW.lfun (y := .lit (.bool t2.2)) hk rfl rfl rfl rfl (FW.f_extract hk (FW.holds_nil _) rfl rfl) ?_; clear hk; intro a w hk
  refine FW.lfun (y := .lit (.int .i64 t2.1)) hk rfl rfl rfl rfl (FW.f_assign hk (FW.holds_nil _) rfl) ?_; clear hk; intro a w hk
  refine FW.lfun (y := .lit (.bool t2.2)) hk rfl rfl rfl rfl (FW.f_assign hk (FW.holds_nil _) rfl) ?_; clear hk; intro a w hk
  refine FW.lend (hK4 _ _ ?_); clear hK4 K'
  refine FW.wseqJ (fun a w => ∃ (y1_0 : List ApiWord) (y1_1 : Int) (y1_2 : Int) (y1_3 : Int) (y3 : ApiPred) (dn2 : Nat) (v3 : Int) (v4 : List UInt8) (v5 : Int) (xb2 : List Nat), FW.S M w0 a w 86 [FW.blk b0 87 ([.row (r_ApiWord_cells y1_0), .lit (.int .i64 y1_1), .lit (.int .i64 y1_2), .lit (.int .i64 y1_3)]), FW.blk bx1 36 ((ApiPred.cells y3)), FW.boxesI 84 xb2 b0 dn2] [(0, [], .lit (.pointer (some ⟨b0, 0, none⟩))), (2, [], .lit (.pointer (some ⟨bx1, 0, none⟩))), (3, [], .lit (.int .i64 v3)), (4, [], .lit (.string (FW.B v4))), (5, [], .lit (.int .i64 v5))] (List.map (FW.dfI 160) xb2) ∧ parse_parser_pred.j1 s_parse_parser_pred K y1_0 y1_1 y1_2 y1_3 y3 dn2 v3 v4 v5 = some r) ?_ ?_
  · clear hk h
    rintro a w ⟨y1_0, y1_1, y1_2, y1_3, y3, dn2, v3, v4, v5, xb2, hk, h⟩
    unfold parse_parser_pred.j1 at h
    refine FW.wreg ?_; intro K' hK6
    refine FW.lfun (y := .lit (.pointer (some ⟨b0, 0, none⟩))) hk rfl rfl rfl rfl (FW.f_move hk (FW.holds_nil _) rfl) ?_; clear hk; intro a w hk
    rcases FW.bndX h with ⟨e_t3, hr_t3, rfl⟩ | ⟨t3, hr_t3, h⟩
    · skip
      refine FW.l_callXE (I1 := (OParseParser.items b0 (⟨y1_0, y1_1, y1_2, y1_3⟩ : OParseParser))) (I2 := [FW.blk bx1 36 ((ApiPred.cells y3)), FW.boxesI 84 xb2 b0 dn2]) (js := [0]) hk rfl rfl rfl Go.Proofs.Try.func66 rfl (by kernel_rfl) (parse_parser_must.ok (⟨y1_0, y1_1, y1_2, y1_3⟩ : OParseParser) ([40] : List UInt8) _ hr_t3 b0) ?_; clear hk
      rintro _ _ ⟨vE2, rfl, rfl⟩ w hk
      exact FW.leave_pan (P := Go.Proofs.Try.prog) (fn := Go.Proofs.Try.f145) (bs := xb2) (dn := dn2) (x := vE2.deep) (I2 := [FW.blk bx1 36 ((ApiPred.cells y3))]) (js := [0, 2]) (fun q => OParseParser.items b0 (⟨vE2.l, vE2.i, q, vE2.steps⟩ : OParseParser)) hk rfl Go.Proofs.Try.func160 rfl (by kernel_rfl) (fun x nb => parse_parser_into_1.ok (⟨⟩ : OVarPParseParser) (⟨vE2.l, vE2.i, x, vE2.steps⟩ : OParseParser) _ rfl nb b0) ⟨_, rfl, _, rfl, rfl⟩
    refine FW.l_callH (I1 := (OParseParser.items b0 (⟨y1_0, y1_1, y1_2, y1_3⟩ : OParseParser))) (I2 := [FW.blk bx1 36 ((ApiPred.cells y3)), FW.boxesI 84 xb2 b0 dn2]) (js := [0]) hk rfl rfl rfl rfl rfl Go.Proofs.Try.func66 rfl (by kernel_rfl) (FW.OkX.toH (parse_parser_must.ok (⟨y1_0, y1_1, y1_2, y1_3⟩ : OParseParser) ([40] : List UInt8) _ hr_t3 b0)) ?_; clear hk
    rintro _ _ ⟨rfl, rfl⟩ a w hk
    refine FW.lend (hK6 _ _ ?_); clear hK6 K'
    refine FW.wreg ?_; intro K' hK7
    refine FW.lfun (y := .lit (.string (FW.B v4))) hk rfl rfl rfl rfl (FW.f_move hk (FW.holds_nil _) rfl) ?_; clear hk; intro a w hk
    refine FW.lfun (y := .lit (.pointer (some ⟨b0, 0, none⟩))) hk rfl rfl rfl rfl (FW.f_move hk (FW.holds_nil _) rfl) ?_; clear hk; intro a w hk
    rcases FW.bndX h with ⟨e_t4, hr_t4, rfl⟩ | ⟨t4, hr_t4, h⟩
    · skip
      refine FW.l_callXE (I1 := (OParseParser.items b0 t3)) (I2 := [FW.blk bx1 36 ((ApiPred.cells y3)), FW.boxesI 84 xb2 b0 dn2]) (js := [0]) hk rfl rfl rfl Go.Proofs.Try.func158 rfl (by kernel_rfl) (parse_parser_values.ok K t3 ([41] : List UInt8) _ hr_t4 b0) ?_; clear hk
      rintro _ _ ⟨vE3, rfl, rfl⟩ w hk
      exact FW.leave_pan (P := Go.Proofs.Try.prog) (fn := Go.Proofs.Try.f145) (bs := xb2) (dn := dn2) (x := vE3.deep) (I2 := [FW.blk bx1 36 ((ApiPred.cells y3))]) (js := [0, 2]) (fun q => OParseParser.items b0 (⟨vE3.l, vE3.i, q, vE3.steps⟩ : OParseParser)) hk rfl Go.Proofs.Try.func160 rfl (by kernel_rfl) (fun x nb => parse_parser_into_1.ok (⟨⟩ : OVarPParseParser) (⟨vE3.l, vE3.i, x, vE3.steps⟩ : OParseParser) _ rfl nb b0) ⟨_, rfl, _, rfl, rfl⟩
    refine FW.l_callH (I1 := (OParseParser.items b0 t3)) (I2 := [FW.blk bx1 36 ((ApiPred.cells y3)), FW.boxesI 84 xb2 b0 dn2]) (js := [0]) hk rfl rfl rfl rfl rfl Go.Proofs.Try.func158 rfl (by kernel_rfl) (FW.OkX.toH (parse_parser_values.ok K t3 ([41] : List UInt8) _ hr_t4 b0)) ?_; clear hk
    rintro _ _ ⟨rfl, rfl⟩ a w hk
    refine FW.lfun (y := .agg ((ApiPred.cells (⟨v4, t4.1, []⟩ : ApiPred)))) hk rfl rfl rfl rfl (FW.f_buildN [] hk (FW.holds_nil _) rfl rfl rfl) ?_; clear hk; intro a w hk
    refine FW.l_alloc (zs := (ApiPred.cells (⟨[], [], []⟩ : ApiPred))) [] hk rfl rfl rfl rfl ?_; clear hk; intro bx2 a w hk
    refine FW.l_store (I' := [FW.blk bx2 36 ((ApiPred.cells (⟨v4, t4.1, []⟩ : ApiPred))), FW.blk b0 87 ([.row (r_ApiWord_cells t4.2.l), .lit (.int .i64 t4.2.i), .lit (.int .i64 t4.2.deep), .lit (.int .i64 t4.2.steps)]), FW.blk bx1 36 ((ApiPred.cells y3)), FW.boxesI 84 xb2 b0 dn2]) (cs' := (ApiPred.cells (⟨v4, t4.1, []⟩ : ApiPred))) (j := 0) hk rfl rfl rfl rfl rfl (by kernel_rfl) rfl rfl ?_; clear hk; intro w hk
    refine FW.lend (hK7 _ _ ?_); clear hK7 K'
    refine FW.wseqJ (fun a w => ∃ (y1_0 : List ApiWord) (y1_1 : Int) (y1_2 : Int) (y1_3 : Int) (y4 : ApiPred) (y3 : ApiPred) (dn2 : Nat) (xb2 : List Nat), FW.S M w0 a w 86 [FW.blk b0 87 ([.row (r_ApiWord_cells y1_0), .lit (.int .i64 y1_1), .lit (.int .i64 y1_2), .lit (.int .i64 y1_3)]), FW.blk bx2 36 ((ApiPred.cells y4)), FW.blk bx1 36 ((ApiPred.cells y3)), FW.boxesI 84 xb2 b0 dn2] [(0, [], .lit (.pointer (some ⟨b0, 0, none⟩))), (2, [], .lit (.pointer (some ⟨bx1, 0, none⟩))), (7, [], .lit (.pointer (some ⟨bx2, 0, none⟩)))] (List.map (FW.dfI 160) xb2) ∧ parse_parser_pred.j2 s_parse_parser_pred K y1_0 y1_1 y1_2 y1_3 y4 y3 dn2 = some r) ?_ ?_
    · clear hk h
      rintro a w ⟨y1_0, y1_1, y1_2, y1_3, y4, y3, dn2, xb2, hk, h⟩
      unfold parse_parser_pred.j2 at h
      refine FW.wseq ?_; intro K' hK9
      refine wp_block ?_
      refine FW.wloop (T := Nat × List ApiWord × Int × Int × Int × ApiPred × ApiPred × Nat × List Nat) (fun x a w => match x with | (kl1, y1_0, y1_1, y1_2, y1_3, y4, y3, dn2, xb2) => FW.S M w0 a w 86 [FW.blk b0 87 ([.row (r_ApiWord_cells y1_0), .lit (.int .i64 y1_1), .lit (.int .i64 y1_2), .lit (.int .i64 y1_3)]), FW.blk bx2 36 ((ApiPred.cells y4)), FW.blk bx1 36 ((ApiPred.cells y3)), FW.boxesI 84 xb2 b0 dn2] [(0, [], .lit (.pointer (some ⟨b0, 0, none⟩))), (2, [], .lit (.pointer (some ⟨bx1, 0, none⟩))), (7, [], .lit (.pointer (some ⟨bx2, 0, none⟩)))] (List.map (FW.dfI 160) xb2) ∧ parse_parser_pred.l1 s_parse_parser_pred K kl1 y1_0 y1_1 y1_2 y1_3 y4 y3 dn2 = some r) (fun x => x.1) (K, y1_0, y1_1, y1_2, y1_3, y4, y3, dn2, xb2) ⟨hk.sub ⟨rfl, rfl, rfl, trivial⟩, h⟩ ?_
      clear hk h
      rintro ⟨kl1, y1_0, y1_1, y1_2, y1_3, y4, y3, dn2, xb2⟩ a w ⟨hk, h⟩ K' hK10
      cases kl1 with
      | zero => simp [parse_parser_pred.l1] at h
      | succ kl1 =>
      rw [parse_parser_pred.l1.eq_2] at h
      refine FW.wseq ?_; intro K' hK11
      refine FW.wreg ?_; intro K' hK12
      refine FW.lfun (y := .lit (.pointer (some ⟨b0, 0, none⟩))) hk rfl rfl rfl rfl (FW.f_move hk (FW.holds_nil _) rfl) ?_; clear hk; intro a w hk
      obtain ⟨t5, hr_t5, h⟩ := FW.bnd h
      refine FW.l_callH (I1 := (OParseParser.items b0 (⟨y1_0, y1_1, y1_2, y1_3⟩ : OParseParser))) (I2 := [FW.blk bx2 36 ((ApiPred.cells y4)), FW.blk bx1 36 ((ApiPred.cells y3)), FW.boxesI 84 xb2 b0 dn2]) (js := [0]) hk rfl rfl rfl rfl rfl Go.Proofs.Try.func92 rfl (by kernel_rfl) (parse_parser_sign.ok (⟨y1_0, y1_1, y1_2, y1_3⟩ : OParseParser) ([46] : List UInt8) _ hr_t5 b0) ?_; clear hk
      rintro _ _ ⟨rfl, rfl⟩ a w hk
      refine FW.lend (hK12 _ _ ?_); clear hK12 K'
      refine FW.wcondF (b := t5.1) hk h rfl (fun h hb => ?_) (fun h hb => ?_)
      · skip
        refine wp_skip ?_
        (repeat first | refine FW.then_normal ?_ | refine FW.block_normal ?_); refine hK11 _ _ ?_
        refine wp_block ?_
        refine FW.wreg ?_; intro K' hK13
        refine FW.lfun (y := .lit (.pointer (some ⟨b0, 0, none⟩))) hk rfl rfl rfl rfl (FW.f_move hk (FW.holds_nil _) rfl) ?_; clear hk; intro a w hk
        rcases FW.bndX h with ⟨e_t6, hr_t6, rfl⟩ | ⟨t6, hr_t6, h⟩
        · skip
          refine FW.l_callXE (I1 := (OParseParser.items b0 t5.2)) (I2 := [FW.blk bx2 36 ((ApiPred.cells y4)), FW.blk bx1 36 ((ApiPred.cells y3)), FW.boxesI 84 xb2 b0 dn2]) (js := [0]) hk rfl rfl rfl Go.Proofs.Try.func159 rfl (by kernel_rfl) (parse_parser_into.ok t5.2 _ hr_t6 b0) ?_; clear hk
          rintro _ _ ⟨vE4, rfl, rfl⟩ w hk
          exact FW.leave_pan (P := Go.Proofs.Try.prog) (fn := Go.Proofs.Try.f145) (bs := xb2) (dn := dn2) (x := vE4.deep) (I2 := [FW.blk bx2 36 ((ApiPred.cells y4)), FW.blk bx1 36 ((ApiPred.cells y3))]) (js := [0, 3]) (fun q => OParseParser.items b0 (⟨vE4.l, vE4.i, q, vE4.steps⟩ : OParseParser)) hk rfl Go.Proofs.Try.func160 rfl (by kernel_rfl) (fun x nb => parse_parser_into_1.ok (⟨⟩ : OVarPParseParser) (⟨vE4.l, vE4.i, x, vE4.steps⟩ : OParseParser) _ rfl nb b0) ⟨_, rfl, _, rfl, rfl⟩
        refine FW.l_callH (I1 := (OParseParser.items b0 t5.2)) (I2 := [FW.blk bx2 36 ((ApiPred.cells y4)), FW.blk bx1 36 ((ApiPred.cells y3)), FW.boxesI 84 xb2 b0 dn2]) (js := [0]) hk rfl rfl rfl rfl rfl Go.Proofs.Try.func159 rfl (by kernel_rfl) (FW.OkX.toH (parse_parser_into.ok t5.2 _ hr_t6 b0)) ?_; clear hk
        rintro _ _ ⟨bx3, rfl, rfl⟩ a w hk
        refine FW.l_defer (t := 84) (nb := bx3) (b0 := b0) (dn := dn2) (bs := xb2) (F := 160) (I2 := [FW.blk b0 87 ([.row (r_ApiWord_cells t6.l), .lit (.int .i64 t6.i), .lit (.int .i64 t6.deep), .lit (.int .i64 t6.steps)]), FW.blk bx2 36 ((ApiPred.cells y4)), FW.blk bx1 36 ((ApiPred.cells y3))]) (js := [4, 1]) hk rfl rfl ?_; clear hk; intro a hk
        refine FW.lend (hK13 _ _ ?_); clear hK13 K'
        refine FW.wreg ?_; intro K' hK14
        refine FW.lfun (y := .lit (.pointer (some ⟨b0, 0, none⟩))) hk rfl rfl rfl rfl (FW.f_move hk (FW.holds_nil _) rfl) ?_; clear hk; intro a w hk
        refine FW.lfun (y := .lit (.pointer (some ⟨b0, 0, none⟩))) hk rfl rfl rfl rfl ((FW.f_pure (FW.p_nilCheck hk.kn (FW.holds_nil _) rfl))) ?_; clear hk; intro a w hk
        refine FW.lfun (y := .lit (.pointer (some ⟨b0, 1, none⟩))) hk rfl rfl rfl rfl (FW.f_fieldPtr hk (FW.holds_nil _) rfl Go.Proofs.Try.underlying87 rfl (by kernel_rfl) rfl) ?_; clear hk; intro a w hk
        refine FW.lfun (y := .lit (.int .i64 t6.i)) hk rfl rfl rfl rfl (FW.f_loadBlk1 hk (FW.holds_nil _) (j := 1) rfl rfl Go.Proofs.Try.underlying3 rfl rfl) ?_; clear hk; intro a w hk
        refine FW.lfun (y := .lit (.int .i64 t6.i)) hk rfl rfl rfl rfl (FW.f_assign hk (FW.holds_nil _) rfl) ?_; clear hk; intro a w hk
        refine FW.lend (hK14 _ _ ?_); clear hK14 K'
        refine FW.wreg ?_; intro K' hK15
        refine FW.lfun (y := .lit (.pointer (some ⟨b0, 0, none⟩))) hk rfl rfl rfl rfl (FW.f_move hk (FW.holds_nil _) rfl) ?_; clear hk; intro a w hk
        rcases FW.bndX h with ⟨e_t7, hr_t7, rfl⟩ | ⟨t7, hr_t7, h⟩
        · skip
          refine FW.l_callXE (I1 := (OParseParser.items b0 t6)) (I2 := [FW.boxesI 84 (bx3 :: xb2) b0 (dn2 + 1), FW.blk bx2 36 ((ApiPred.cells y4)), FW.blk bx1 36 ((ApiPred.cells y3))]) (js := [1]) hk rfl rfl rfl Go.Proofs.Try.func64 rfl (by kernel_rfl) (parse_parser_name.ok t6 _ hr_t7 b0) ?_; clear hk
          rintro _ _ ⟨vE5, rfl, rfl⟩ w hk
          exact FW.leave_pan (P := Go.Proofs.Try.prog) (fn := Go.Proofs.Try.f145) (bs := (bx3 :: xb2)) (dn := (dn2 + 1)) (x := vE5.deep) (I2 := [FW.blk bx2 36 ((ApiPred.cells y4)), FW.blk bx1 36 ((ApiPred.cells y3))]) (js := [0, 1]) (fun q => OParseParser.items b0 (⟨vE5.l, vE5.i, q, vE5.steps⟩ : OParseParser)) hk rfl Go.Proofs.Try.func160 rfl (by kernel_rfl) (fun x nb => parse_parser_into_1.ok (⟨⟩ : OVarPParseParser) (⟨vE5.l, vE5.i, x, vE5.steps⟩ : OParseParser) _ rfl nb b0) ⟨_, rfl, _, rfl, rfl⟩
        refine FW.l_callH (I1 := (OParseParser.items b0 t6)) (I2 := [FW.boxesI 84 (bx3 :: xb2) b0 (dn2 + 1), FW.blk bx2 36 ((ApiPred.cells y4)), FW.blk bx1 36 ((ApiPred.cells y3))]) (js := [1]) hk rfl rfl rfl rfl rfl Go.Proofs.Try.func64 rfl (by kernel_rfl) (FW.OkX.toH (parse_parser_name.ok t6 _ hr_t7 b0)) ?_; clear hk
        rintro _ _ ⟨rfl, rfl⟩ a w hk
        refine FW.lfun (y := .lit (.string (FW.B t7.1))) hk rfl rfl rfl rfl (FW.f_assign hk (FW.holds_nil _) rfl) ?_; clear hk; intro a w hk
        refine FW.lend (hK15 _ _ ?_); clear hK15 K'
        refine FW.wreg ?_; intro K' hK16
        refine FW.lfun (y := .lit (.pointer (some ⟨b0, 0, none⟩))) hk rfl rfl rfl rfl (FW.f_move hk (FW.holds_nil _) rfl) ?_; clear hk; intro a w hk
        rcases FW.bndX h with ⟨e_t8, hr_t8, rfl⟩ | ⟨t8, hr_t8, h⟩
        · skip
          refine FW.l_callXE (I1 := (OParseParser.items b0 t7.2)) (I2 := [FW.boxesI 84 (bx3 :: xb2) b0 (dn2 + 1), FW.blk bx2 36 ((ApiPred.cells y4)), FW.blk bx1 36 ((ApiPred.cells y3))]) (js := [0]) hk rfl rfl rfl Go.Proofs.Try.func66 rfl (by kernel_rfl) (parse_parser_must.ok t7.2 ([40] : List UInt8) _ hr_t8 b0) ?_; clear hk
          rintro _ _ ⟨vE6, rfl, rfl⟩ w hk
          exact FW.leave_pan (P := Go.Proofs.Try.prog) (fn := Go.Proofs.Try.f145) (bs := (bx3 :: xb2)) (dn := (dn2 + 1)) (x := vE6.deep) (I2 := [FW.blk bx2 36 ((ApiPred.cells y4)), FW.blk bx1 36 ((ApiPred.cells y3))]) (js := [0, 1]) (fun q => OParseParser.items b0 (⟨vE6.l, vE6.i, q, vE6.steps⟩ : OParseParser)) hk rfl Go.Proofs.Try.func160 rfl (by kernel_rfl) (fun x nb => parse_parser_into_1.ok (⟨⟩ : OVarPParseParser) (⟨vE6.l, vE6.i, x, vE6.steps⟩ : OParseParser) _ rfl nb b0) ⟨_, rfl, _, rfl, rfl⟩
        refine FW.l_callH (I1 := (OParseParser.items b0 t7.2)) (I2 := [FW.boxesI 84 (bx3 :: xb2) b0 (dn2 + 1), FW.blk bx2 36 ((ApiPred.cells y4)), FW.blk bx1 36 ((ApiPred.cells y3))]) (js := [0]) hk rfl rfl rfl rfl rfl Go.Proofs.Try.func66 rfl (by kernel_rfl) (FW.OkX.toH (parse_parser_must.ok t7.2 ([40] : List UInt8) _ hr_t8 b0)) ?_; clear hk
        rintro _ _ ⟨rfl, rfl⟩ a w hk
        refine FW.lend (hK16 _ _ ?_); clear hK16 K'
        refine FW.wseqJ (fun a w => ∃ (y1_0 : List ApiWord) (y1_1 : Int) (y1_2 : Int) (y1_3 : Int) (dn2 : Nat) (y4 : ApiPred) (y3 : ApiPred) (xb2 : List Nat), FW.S M w0 a w 86 [FW.blk b0 87 ([.row (r_ApiWord_cells y1_0), .lit (.int .i64 y1_1), .lit (.int .i64 y1_2), .lit (.int .i64 y1_3)]), FW.boxesI 84 xb2 b0 dn2, FW.blk bx2 36 ((ApiPred.cells y4)), FW.blk bx1 36 ((ApiPred.cells y3))] [(0, [], .lit (.pointer (some ⟨b0, 0, none⟩))), (2, [], .lit (.pointer (some ⟨bx1, 0, none⟩))), (7, [], .lit (.pointer (some ⟨bx2, 0, none⟩)))] (List.map (FW.dfI 160) xb2) ∧ parse_parser_pred.j3 s_parse_parser_pred (parse_parser_pred.l1 s_parse_parser_pred K kl1) K y1_0 y1_1 y1_2 y1_3 dn2 y4 y3 = some r) ?_ ?_
        · clear hk h
          rintro a w ⟨y1_0, y1_1, y1_2, y1_3, dn2, y4, y3, xb2, hk, h⟩
          unfold parse_parser_pred.j3 at h
          refine FW.wreg1 ?_
          refine FW.lfun (y := .lit (.pointer (some ⟨b0, 0, none⟩))) hk rfl rfl rfl rfl (FW.f_move hk (FW.holds_nil _) rfl) ?_; clear hk; intro a w hk
          rcases FW.bndX h with ⟨e_t9, hr_t9, rfl⟩ | ⟨t9, hr_t9, h⟩
          · skip
            refine FW.l_callXE (I1 := (OParseParser.items b0 (⟨y1_0, y1_1, y1_2, y1_3⟩ : OParseParser))) (I2 := [FW.boxesI 84 xb2 b0 dn2, FW.blk bx2 36 ((ApiPred.cells y4)), FW.blk bx1 36 ((ApiPred.cells y3))]) (js := [0]) hk rfl rfl rfl Go.Proofs.Try.func66 rfl (by kernel_rfl) (parse_parser_must.ok (⟨y1_0, y1_1, y1_2, y1_3⟩ : OParseParser) ([41] : List UInt8) _ hr_t9 b0) ?_; clear hk
            rintro _ _ ⟨vE7, rfl, rfl⟩ w hk
            exact FW.leave_pan (P := Go.Proofs.Try.prog) (fn := Go.Proofs.Try.f145) (bs := xb2) (dn := dn2) (x := vE7.deep) (I2 := [FW.blk bx2 36 ((ApiPred.cells y4)), FW.blk bx1 36 ((ApiPred.cells y3))]) (js := [0, 1]) (fun q => OParseParser.items b0 (⟨vE7.l, vE7.i, q, vE7.steps⟩ : OParseParser)) hk rfl Go.Proofs.Try.func160 rfl (by kernel_rfl) (fun x nb => parse_parser_into_1.ok (⟨⟩ : OVarPParseParser) (⟨vE7.l, vE7.i, x, vE7.steps⟩ : OParseParser) _ rfl nb b0) ⟨_, rfl, _, rfl, rfl⟩
          refine FW.l_callH (I1 := (OParseParser.items b0 (⟨y1_0, y1_1, y1_2, y1_3⟩ : OParseParser))) (I2 := [FW.boxesI 84 xb2 b0 dn2, FW.blk bx2 36 ((ApiPred.cells y4)), FW.blk bx1 36 ((ApiPred.cells y3))]) (js := [0]) hk rfl rfl rfl rfl rfl Go.Proofs.Try.func66 rfl (by kernel_rfl) (FW.OkX.toH (parse_parser_must.ok (⟨y1_0, y1_1, y1_2, y1_3⟩ : OParseParser) ([41] : List UInt8) _ hr_t9 b0)) ?_; clear hk
          rintro _ _ ⟨rfl, rfl⟩ a w hk
          refine wpList_nil ?_
          (repeat first | refine FW.then_normal ?_ | refine FW.block_normal ?_); exact hK10 (kl1, t9.l, t9.i, t9.deep, t9.steps, y4, y3, dn2, xb2) _ _ (Nat.lt_succ_self _) ⟨(FW.S.pick hk (js := [1, 3, 3, 3]) rfl).sub ⟨rfl, rfl, rfl, trivial⟩, h⟩
        · intro K' hK17
          refine FW.wreg ?_; intro K' hK19
          refine FW.lfun (y := .lit (.string (FW.B t7.1))) hk rfl rfl rfl rfl (FW.f_move hk (FW.holds_nil _) rfl) ?_; clear hk; intro a w hk
          refine FW.lend (hK19 _ _ ?_); clear hK19 K'
          refine wp_block ?_
          refine FW.wseqJ (fun a w => ∃ (y1_0 : List ApiWord) (y1_1 : Int) (y1_2 : Int) (y1_3 : Int) (dn2 : Nat) (y4 : ApiPred) (y3 : ApiPred) (v8 : Int) (v9 : List UInt8) (v62 : List UInt8) (v69 : Bool) (xb2 : List Nat), FW.S M w0 a w 86 [FW.blk b0 87 ([.row (r_ApiWord_cells y1_0), .lit (.int .i64 y1_1), .lit (.int .i64 y1_2), .lit (.int .i64 y1_3)]), FW.boxesI 84 xb2 b0 dn2, FW.blk bx2 36 ((ApiPred.cells y4)), FW.blk bx1 36 ((ApiPred.cells y3))] [(0, [], .lit (.pointer (some ⟨b0, 0, none⟩))), (2, [], .lit (.pointer (some ⟨bx1, 0, none⟩))), (7, [], .lit (.pointer (some ⟨bx2, 0, none⟩))), (8, [], .lit (.int .i64 v8)), (9, [], .lit (.string (FW.B v9))), (62, [], .lit (.string (FW.B v62))), (69, [], .lit (.bool v69))] (List.map (FW.dfI 160) xb2) ∧ parse_parser_pred.j4 s_parse_parser_pred (parse_parser_pred.l1 s_parse_parser_pred K kl1) K y1_0 y1_1 y1_2 y1_3 dn2 y4 y3 v8 v9 v62 v69 = some r) ?_ ?_
          · clear hk h
            rintro a w ⟨y1_0, y1_1, y1_2, y1_3, dn2, y4, y3, v8, v9, v62, v69, xb2, hk, h⟩
            unfold parse_parser_pred.j4 at h
            refine FW.wcondF (b := v69) hk h rfl (fun h hb => ?_) (fun h hb => ?_)
            · skip
              rcases FW.bndX h with ⟨e_t10, hr_t10, rfl⟩ | ⟨t10, hr_t10, h⟩
              · skip
                refine FW.wdrawE1 (.next [true, true, true, false, false, false, false] 3 [true, true, true, false, false, false, false] (.next [true, true, false, false, false, false, false] 4 [true, true, true, true, false, false, false] (.next [true, false, false, false, false, true, false] 6 [true, true, true, true, true, true, false] (.leaf [false, false, false, false, false, false, false])))) [(72, [], .lit (.string (FW.B v9))), (73, [], .agg ((ApiPred.cells y4))), (74, [], .lit (.pointer (some ⟨b0, 0, none⟩))), (75, [], .agg []), (76, [], .agg []), (77, [], .agg []), (86, [], .lit undef)] (by kernel_rfl) (by kernel_rfl) (by kernel_rfl) (by kernel_rfl) hk ?_; clear hk
                refine FW.gnext ?_ rfl rfl rfl rfl rfl ?_
                · skip
                  refine FW.gfun (y := .lit (.string (FW.B v9))) rfl rfl rfl rfl (fun a w hk => FW.f_move hk (FW.holds_nil _) rfl) ?_
                  refine FW.gfun (y := .agg ((ApiPred.cells y4))) rfl rfl rfl rfl (fun a w hk => FW.f_loadBlk hk (FW.holds_nil _) (j := 2) rfl rfl Go.Proofs.Try.underlying36 rfl rfl rfl rfl) ?_
                  refine FW.gfun (y := .lit (.pointer (some ⟨b0, 0, none⟩))) rfl rfl rfl rfl (fun a w hk => FW.f_move hk (FW.holds_nil _) rfl) ?_
                  refine FW.gskip rfl rfl ?_
                  refine FW.gskip rfl rfl ?_
                  refine FW.gskip rfl rfl ?_
                  refine FW.gskip0 rfl ?_
                  exact FW.gend
                · skip
                  intro σD a w opsD QD hk hf hQ hX
                  refine FW.l_callXE (I1 := (OParseParser.items b0 (⟨y1_0, y1_1, y1_2, y1_3⟩ : OParseParser))) (I2 := [FW.boxesI 84 xb2 b0 dn2, FW.blk bx2 36 ((ApiPred.cells y4)), FW.blk bx1 36 ((ApiPred.cells y3))]) (js := [0]) hk rfl rfl rfl Go.Proofs.Try.func145 rfl (by kernel_rfl) (hs_parse_parser_pred (⟨y1_0, y1_1, y1_2, y1_3⟩ : OParseParser) _ hr_t10 b0) ?_; clear hk
                  rintro _ _ ⟨vEt10, rfl, rfl⟩ w hk
                  exact hX _ _ _ (fun e => nomatch e) (FW.leave_pan (P := Go.Proofs.Try.prog) (fn := Go.Proofs.Try.f145) (bs := xb2) (dn := dn2) (x := vEt10.deep) (I2 := [FW.blk bx2 36 ((ApiPred.cells y4)), FW.blk bx1 36 ((ApiPred.cells y3))]) (js := [0, 1]) (fun q => OParseParser.items b0 (⟨vEt10.l, vEt10.i, q, vEt10.steps⟩ : OParseParser)) hk rfl Go.Proofs.Try.func160 rfl (by kernel_rfl) (fun x nb => parse_parser_into_1.ok (⟨⟩ : OVarPParseParser) (⟨vEt10.l, vEt10.i, x, vEt10.steps⟩ : OParseParser) _ rfl nb b0) ⟨_, rfl, _, rfl, rfl⟩)
              refine FW.wdrawE1 (.next [true, true, true, false, false, false, false] 3 [true, true, true, false, false, false, false] (.next [true, true, false, false, false, false, false] 4 [true, true, true, true, false, false, false] (.next [true, false, false, false, false, true, false] 6 [true, true, true, true, true, true, false] (.leaf [false, false, false, false, false, false, false])))) [(72, [], .lit (.string (FW.B v9))), (73, [], .agg ((ApiPred.cells y4))), (74, [], .lit (.pointer (some ⟨b0, 0, none⟩))), (75, [], .agg []), (76, [], .agg []), (77, [], .agg []), (86, [], .lit undef)] (by kernel_rfl) (by kernel_rfl) (by kernel_rfl) (by kernel_rfl) hk ?_; clear hk
              refine FW.gnext ?_ rfl rfl rfl rfl rfl ?_
              · skip
                refine FW.gfun (y := .lit (.string (FW.B v9))) rfl rfl rfl rfl (fun a w hk => FW.f_move hk (FW.holds_nil _) rfl) ?_
                refine FW.gfun (y := .agg ((ApiPred.cells y4))) rfl rfl rfl rfl (fun a w hk => FW.f_loadBlk hk (FW.holds_nil _) (j := 2) rfl rfl Go.Proofs.Try.underlying36 rfl rfl rfl rfl) ?_
                refine FW.gfun (y := .lit (.pointer (some ⟨b0, 0, none⟩))) rfl rfl rfl rfl (fun a w hk => FW.f_move hk (FW.holds_nil _) rfl) ?_
                refine FW.gskip rfl rfl ?_
                refine FW.gskip rfl rfl ?_
                refine FW.gskip rfl rfl ?_
                refine FW.gskip0 rfl ?_
                exact FW.gend
              · skip
                intro σD a w opsD QD hk hf hQ hX
                refine FW.l_callH (I1 := (OParseParser.items b0 (⟨y1_0, y1_1, y1_2, y1_3⟩ : OParseParser))) (I2 := [FW.boxesI 84 xb2 b0 dn2, FW.blk bx2 36 ((ApiPred.cells y4)), FW.blk bx1 36 ((ApiPred.cells y3))]) (js := [0]) hk rfl rfl hf rfl rfl Go.Proofs.Try.func145 rfl (by kernel_rfl) (FW.OkX.toH (hs_parse_parser_pred (⟨y1_0, y1_1, y1_2, y1_3⟩ : OParseParser) _ hr_t10 b0)) ?_; clear hk
                rintro _ _ ⟨rfl, rfl⟩ a w hk
                refine hQ _ _ a w ?_ hk; clear hk hQ hf hX
                refine ⟨[(72, [], .lit (.string (FW.B v9))), (73, [], .agg ((ApiPred.cells y4))), (74, [], .lit (.pointer (some ⟨b0, 0, none⟩))), (75, [], .agg ((ApiPred.cells t10.1))), (76, [], .agg []), (77, [], .agg []), (86, [], .lit undef)], And.intro rfl (And.intro rfl (And.intro rfl (trivial))), rfl, ?_⟩
                refine FW.gnext ?_ rfl rfl rfl rfl rfl ?_
                · skip
                  refine FW.gfun (y := .lit (.string (FW.B v9))) rfl rfl rfl rfl (fun a w hk => FW.f_move hk (FW.holds_nil _) rfl) ?_
                  refine FW.gfun (y := .agg ((ApiPred.cells y4))) rfl rfl rfl rfl (fun a w hk => FW.f_loadBlk hk (FW.holds_nil _) (j := 2) rfl rfl Go.Proofs.Try.underlying36 rfl rfl rfl rfl) ?_
                  refine FW.gskip rfl rfl ?_
                  refine FW.gskip rfl rfl ?_
                  refine FW.gskip rfl rfl ?_
                  refine FW.gskip rfl rfl ?_
                  refine FW.gskip0 rfl ?_
                  exact FW.gend
                · skip
                  intro σD a w opsD QD hk hf hQ hX
                  refine FW.l_buildSlice (f := ApiPred.cells) (l := ([y4, t10.1] : List ApiPred)) hk rfl hf rfl Go.Proofs.Try.underlying34 rfl rfl rfl rfl (fun _ => rfl) rfl ?_; clear hk; intro bx4 a w hk
                  replace hk := (FW.S.freezeR (I' := [FW.blk b0 87 ([.row (r_ApiWord_cells t10.2.l), .lit (.int .i64 t10.2.i), .lit (.int .i64 t10.2.deep), .lit (.int .i64 t10.2.steps)]), FW.boxesI 84 xb2 b0 dn2, FW.blk bx2 36 ((ApiPred.cells y4)), FW.blk bx1 36 ((ApiPred.cells y3))]) r_ApiPred_cells_eq hk (j := 0) rfl (t := 76) rfl rfl).squash
                  refine hQ _ _ a w ?_ hk; clear hk hQ hf hX
                  refine ⟨[(72, [], .lit (.string (FW.B v9))), (73, [], .agg ((ApiPred.cells y4))), (74, [], .lit (.pointer (some ⟨b0, 0, none⟩))), (75, [], .agg ((ApiPred.cells t10.1))), (76, [], .row (r_ApiPred_cells ([y4, t10.1] : List ApiPred))), (77, [], .agg ((ApiPred.cells (⟨v9, [], ([y4, t10.1] : List ApiPred)⟩ : ApiPred)))), (86, [], .lit undef)], And.intro rfl (And.intro rfl (And.intro rfl (And.intro rfl (trivial)))), rfl, ?_⟩
                  refine FW.gnext0 ?_ rfl rfl rfl ?_
                  · skip
                    refine FW.gfun (y := .lit (.string (FW.B v9))) rfl rfl rfl rfl (fun a w hk => FW.f_move hk (FW.holds_nil _) rfl) ?_
                    refine FW.gskip rfl rfl ?_
                    refine FW.gskip rfl rfl ?_
                    refine FW.gskip rfl rfl ?_
                    refine FW.gskip rfl rfl ?_
                    refine FW.gfun (y := .agg ((ApiPred.cells (⟨v9, [], ([y4, t10.1] : List ApiPred)⟩ : ApiPred)))) rfl rfl rfl rfl (fun a w hk => FW.f_buildN [] hk (FW.holds_nil _) rfl rfl rfl) ?_
                    refine FW.gskip0 rfl ?_
                    exact FW.gend
                  · skip
                    intro σD a w opsD QD hk hQ hX
                    refine FW.l_store (I' := [FW.blk b0 87 ([.row (r_ApiWord_cells t10.2.l), .lit (.int .i64 t10.2.i), .lit (.int .i64 t10.2.deep), .lit (.int .i64 t10.2.steps)]), FW.boxesI 84 xb2 b0 dn2, FW.blk bx2 36 ((ApiPred.cells (⟨v9, [], ([y4, t10.1] : List ApiPred)⟩ : ApiPred))), FW.blk bx1 36 ((ApiPred.cells y3))]) (cs' := (ApiPred.cells (⟨v9, [], ([y4, t10.1] : List ApiPred)⟩ : ApiPred))) (j := 2) hk rfl rfl rfl rfl rfl (by kernel_rfl) rfl rfl ?_; clear hk; intro w hk
                    refine hQ _ a w ?_ hk; clear hk hQ hX
                    refine ⟨[(72, [], .lit (.string (FW.B v9))), (73, [], .agg ((ApiPred.cells y4))), (74, [], .lit (.pointer (some ⟨b0, 0, none⟩))), (75, [], .agg ((ApiPred.cells t10.1))), (76, [], .row (r_ApiPred_cells ([y4, t10.1] : List ApiPred))), (77, [], .agg ((ApiPred.cells (⟨v9, [], ([y4, t10.1] : List ApiPred)⟩ : ApiPred)))), (86, [], .lit undef)], And.intro rfl (And.intro rfl (And.intro rfl (And.intro rfl (And.intro rfl (And.intro rfl (trivial)))))), rfl, ?_⟩
                    refine FW.glast ?_ ?_
                    · skip
                      refine FW.gskip rfl rfl ?_
                      refine FW.gskip rfl rfl ?_
                      refine FW.gskip rfl rfl ?_
                      refine FW.gskip rfl rfl ?_
                      refine FW.gskip rfl rfl ?_
                      refine FW.gskip rfl rfl ?_
                      refine FW.gskip0 rfl ?_
                      exact FW.gend
                    · skip
                      intro a w hk; simp only [FW.stD, cond_true] at hk
                      (repeat first | refine FW.then_normal ?_ | refine FW.block_normal ?_); exact hK17 _ _ ⟨t10.2.l, t10.2.i, t10.2.deep, t10.2.steps, dn2, (⟨v9, [], ([y4, t10.1] : List ApiPred)⟩ : ApiPred), y3, xb2, hk.sub ⟨rfl, rfl, rfl, trivial⟩, h⟩
            · skip
              refine FW.wreg ?_; intro K' hK22
              refine FW.lfun (y := .lit (.bool (decide (v62 = ([110, 101, 103, 97, 116, 101] : List UInt8))))) hk rfl rfl rfl rfl ((FW.f_pure (FW.p_seql hk.kn (FW.holds_nil _) rfl rfl))) ?_; clear hk; intro a w hk
              refine FW.lfun (y := .lit (.bool (decide (v62 = ([110, 101, 103, 97, 116, 101] : List UInt8))))) hk rfl rfl rfl rfl (FW.f_assign hk (FW.holds_nil _) rfl) ?_; clear hk; intro a w hk
              refine FW.lend (hK22 _ _ ?_); clear hK22 K'
              refine FW.wcondF (b := (decide (v62 = ([110, 101, 103, 97, 116, 101] : List UInt8)))) hk h rfl (fun h hb => ?_) (fun h hb => ?_)
              · skip
                refine FW.wreg1 ?_
                refine FW.lfun (y := .agg ((ApiPred.cells y4))) hk rfl rfl rfl rfl (FW.f_loadBlk hk (FW.holds_nil _) (j := 2) rfl rfl Go.Proofs.Try.underlying36 rfl rfl rfl rfl) ?_; clear hk; intro a w hk
                refine FW.l_buildSlice (f := ApiPred.cells) (l := ([y4] : List ApiPred)) hk rfl rfl rfl Go.Proofs.Try.underlying34 rfl rfl rfl rfl (fun _ => rfl) rfl ?_; clear hk; intro bx5 a w hk
                replace hk := (FW.S.freezeR (I' := [FW.blk b0 87 ([.row (r_ApiWord_cells y1_0), .lit (.int .i64 y1_1), .lit (.int .i64 y1_2), .lit (.int .i64 y1_3)]), FW.boxesI 84 xb2 b0 dn2, FW.blk bx2 36 ((ApiPred.cells y4)), FW.blk bx1 36 ((ApiPred.cells y3))]) r_ApiPred_cells_eq hk (j := 0) rfl (t := 81) rfl rfl).squash
                refine FW.lfun (y := .agg ((ApiPred.cells (⟨([110, 111, 116] : List UInt8), [], ([y4] : List ApiPred)⟩ : ApiPred)))) hk rfl rfl rfl rfl (FW.f_buildN [] hk (FW.holds_nil _) rfl rfl rfl) ?_; clear hk; intro a w hk
                refine FW.l_store (I' := [FW.blk b0 87 ([.row (r_ApiWord_cells y1_0), .lit (.int .i64 y1_1), .lit (.int .i64 y1_2), .lit (.int .i64 y1_3)]), FW.boxesI 84 xb2 b0 dn2, FW.blk bx2 36 ((ApiPred.cells (⟨([110, 111, 116] : List UInt8), [], ([y4] : List ApiPred)⟩ : ApiPred))), FW.blk bx1 36 ((ApiPred.cells y3))]) (cs' := (ApiPred.cells (⟨([110, 111, 116] : List UInt8), [], ([y4] : List ApiPred)⟩ : ApiPred))) (j := 2) hk rfl rfl rfl rfl rfl (by kernel_rfl) rfl rfl ?_; clear hk; intro w hk
                refine wpList_nil ?_
                (repeat first | refine FW.then_normal ?_ | refine FW.block_normal ?_); exact hK17 _ _ ⟨y1_0, y1_1, y1_2, y1_3, dn2, (⟨([110, 111, 116] : List UInt8), [], ([y4] : List ApiPred)⟩ : ApiPred), y3, xb2, hk.sub ⟨rfl, rfl, rfl, trivial⟩, h⟩
              · skip
                refine FW.wreg ?_; intro K' hK24
                refine FW.lfun (y := .lit (.pointer (some ⟨b0, 0, none⟩))) hk rfl rfl rfl rfl (FW.f_move hk (FW.holds_nil _) rfl) ?_; clear hk; intro a w hk
                refine FW.lfun (y := .lit (.int .i64 v8)) hk rfl rfl rfl rfl (FW.f_move hk (FW.holds_nil _) rfl) ?_; clear hk; intro a w hk
                refine FW.lfun (y := .lit (.pointer (some ⟨b0, 0, none⟩))) hk rfl rfl rfl rfl ((FW.f_pure (FW.p_nilCheck hk.kn (FW.holds_nil _) rfl))) ?_; clear hk; intro a w hk
                refine FW.lfun (y := .lit (.pointer (some ⟨b0, 1, none⟩))) hk rfl rfl rfl rfl (FW.f_fieldPtr hk (FW.holds_nil _) rfl Go.Proofs.Try.underlying87 rfl (by kernel_rfl) rfl) ?_; clear hk; intro a w hk
                refine FW.l_store (I' := [FW.blk b0 87 ([.row (r_ApiWord_cells y1_0), .lit (.int .i64 v8), .lit (.int .i64 y1_2), .lit (.int .i64 y1_3)]), FW.boxesI 84 xb2 b0 dn2, FW.blk bx2 36 ((ApiPred.cells y4)), FW.blk bx1 36 ((ApiPred.cells y3))]) (cs' := [.row (r_ApiWord_cells y1_0), .lit (.int .i64 v8), .lit (.int .i64 y1_2), .lit (.int .i64 y1_3)]) (j := 0) hk rfl rfl rfl rfl rfl (by kernel_rfl) rfl rfl ?_; clear hk; intro w hk
                refine FW.lend (hK24 _ _ ?_); clear hK24 K'
                refine FW.wreg1 ?_
                refine FW.lfun (y := .lit (.pointer (some ⟨b0, 0, none⟩))) hk rfl rfl rfl rfl (FW.f_move hk (FW.holds_nil _) rfl) ?_; clear hk; intro a w hk
                rcases FW.bndX h with ⟨e_t11, hr_t11, rfl⟩ | ⟨t11, hr_t11, h⟩
                · skip
                  refine FW.l_callXE (I1 := (OParseParser.items b0 (⟨y1_0, v8, y1_2, y1_3⟩ : OParseParser))) (I2 := [FW.boxesI 84 xb2 b0 dn2, FW.blk bx2 36 ((ApiPred.cells y4)), FW.blk bx1 36 ((ApiPred.cells y3))]) (js := [0]) hk rfl rfl rfl Go.Proofs.Try.func65 rfl (by kernel_rfl) (parse_parser_stop.ok (⟨y1_0, v8, y1_2, y1_3⟩ : OParseParser) 120 _ hr_t11 b0) ?_; clear hk
                  rintro _ _ ⟨vE8, rfl, rfl⟩ w hk
                  exact FW.leave_pan (P := Go.Proofs.Try.prog) (fn := Go.Proofs.Try.f145) (bs := xb2) (dn := dn2) (x := vE8.deep) (I2 := [FW.blk bx2 36 ((ApiPred.cells y4)), FW.blk bx1 36 ((ApiPred.cells y3))]) (js := [0, 1]) (fun q => OParseParser.items b0 (⟨vE8.l, vE8.i, q, vE8.steps⟩ : OParseParser)) hk rfl Go.Proofs.Try.func160 rfl (by kernel_rfl) (fun x nb => parse_parser_into_1.ok (⟨⟩ : OVarPParseParser) (⟨vE8.l, vE8.i, x, vE8.steps⟩ : OParseParser) _ rfl nb b0) ⟨_, rfl, _, rfl, rfl⟩
                refine FW.l_callH (I1 := (OParseParser.items b0 (⟨y1_0, v8, y1_2, y1_3⟩ : OParseParser))) (I2 := [FW.boxesI 84 xb2 b0 dn2, FW.blk bx2 36 ((ApiPred.cells y4)), FW.blk bx1 36 ((ApiPred.cells y3))]) (js := [0]) hk rfl rfl rfl rfl rfl Go.Proofs.Try.func65 rfl (by kernel_rfl) (FW.OkX.toH (parse_parser_stop.ok (⟨y1_0, v8, y1_2, y1_3⟩ : OParseParser) 120 _ hr_t11 b0)) ?_; clear hk
                rintro _ _ ⟨rfl, rfl⟩ a w hk
                refine wpList_nil ?_
                (repeat first | refine FW.then_normal ?_ | refine FW.block_normal ?_); exact hK17 _ _ ⟨t11.l, t11.i, t11.deep, t11.steps, dn2, y4, y3, xb2, hk.sub ⟨rfl, rfl, rfl, trivial⟩, h⟩
          · intro K' hK20
            refine FW.wreg ?_; intro K' hK26
            refine FW.lfun (y := .lit (.bool (decide (t7.1 = ([97, 110, 100] : List UInt8))))) hk rfl rfl rfl rfl ((FW.f_pure (FW.p_seql hk.kn (FW.holds_nil _) rfl rfl))) ?_; clear hk; intro a w hk
            refine FW.lfun (y := .lit (.bool (decide (t7.1 = ([97, 110, 100] : List UInt8))))) hk rfl rfl rfl rfl (FW.f_assign hk (FW.holds_nil _) rfl) ?_; clear hk; intro a w hk
            refine FW.lend (hK26 _ _ ?_); clear hK26 K'
            refine FW.wcondF (b := (decide (t7.1 = ([97, 110, 100] : List UInt8)))) hk h rfl (fun h hb => ?_) (fun h hb => ?_)
            · skip
              refine wp_skip ?_
              (repeat first | refine FW.then_normal ?_ | refine FW.block_normal ?_); exact hK20 _ _ ⟨t8.l, t8.i, t8.deep, t8.steps, (dn2 + 1), y4, y3, t6.i, t7.1, t7.1, (decide (t7.1 = ([97, 110, 100] : List UInt8))), (bx3 :: xb2), hk.sub ⟨rfl, rfl, rfl, rfl, rfl, rfl, rfl, trivial⟩, h⟩
            · skip
              refine FW.wreg1 ?_
              refine FW.lfun (y := .lit (.bool (decide (t7.1 = ([111, 114] : List UInt8))))) hk rfl rfl rfl rfl ((FW.f_pure (FW.p_seql hk.kn (FW.holds_nil _) rfl rfl))) ?_; clear hk; intro a w hk
              refine FW.lfun (y := .lit (.bool (decide (t7.1 = ([111, 114] : List UInt8))))) hk rfl rfl rfl rfl (FW.f_assign hk (FW.holds_nil _) rfl) ?_; clear hk; intro a w hk
              refine wpList_nil ?_
              (repeat first | refine FW.then_normal ?_ | refine FW.block_normal ?_); exact hK20 _ _ ⟨t8.l, t8.i, t8.deep, t8.steps, (dn2 + 1), y4, y3, t6.i, t7.1, t7.1, (decide (t7.1 = ([111, 114] : List UInt8))), (bx3 :: xb2), hk.sub ⟨rfl, rfl, rfl, rfl, rfl, rfl, rfl, trivial⟩, h⟩
      · skip
        refine wp_exit ?_; (repeat first | refine FW.then_exit ?_ | refine FW.block_exit_ne rfl ?_); refine FW.block_exit ?_
        (repeat first | refine FW.then_normal ?_ | refine FW.block_normal ?_); refine hK9 _ _ ?_
        refine FW.wreg ?_; intro K' hK28
        refine FW.lfun (y := .agg ((ApiPred.cells y4))) hk rfl rfl rfl rfl (FW.f_loadBlk hk (FW.holds_nil _) (j := 1) rfl rfl Go.Proofs.Try.underlying36 rfl rfl rfl rfl) ?_; clear hk; intro a w hk
        refine FW.l_store (I' := [FW.blk b0 87 ([.row (r_ApiWord_cells t5.2.l), .lit (.int .i64 t5.2.i), .lit (.int .i64 t5.2.deep), .lit (.int .i64 t5.2.steps)]), FW.blk bx2 36 ((ApiPred.cells y4)), FW.blk bx1 36 ((ApiPred.cells y4)), FW.boxesI 84 xb2 b0 dn2]) (cs' := (ApiPred.cells y4)) (j := 2) hk rfl rfl rfl rfl rfl (by kernel_rfl) rfl rfl ?_; clear hk; intro w hk
        refine FW.lend (hK28 _ _ ?_); clear hK28 K'
        refine wp_ret ?_
        (repeat first | refine FW.then_ret ?_ | refine FW.block_ret ?_)
        obtain rfl := Option.some.inj h
        refine FW.leave_retq (bs := xb2) (dn := dn2) (z := t5.2.deep) (I2 := [FW.blk bx2 36 ((ApiPred.cells y4)), FW.blk bx1 36 ((ApiPred.cells y4))]) (js := [0, 3]) (fun q => OParseParser.items b0 (⟨t5.2.l, t5.2.i, q, t5.2.steps⟩ : OParseParser)) hk rfl Go.Proofs.Try.func160 rfl (by kernel_rfl) (fun x nb => parse_parser_into_1.ok (⟨⟩ : OVarPParseParser) (⟨t5.2.l, t5.2.i, x, t5.2.steps⟩ : OParseParser) _ rfl nb b0) ?_; clear hk; intro a w hk
        have hr_0 := FW.rres_keep (I1 := [FW.blk b0 87 ([.row (r_ApiWord_cells t5.2.l), .lit (.int .i64 t5.2.i), .lit (.int .i64 (FW.decrN dn2 t5.2.deep)), .lit (.int .i64 t5.2.steps)])]) (I2 := [FW.blk bx2 36 ((ApiPred.cells y4)), FW.blk bx1 36 ((ApiPred.cells y4))]) (js := [0]) rfl (FW.rcell (tt := 2) hk rfl (j := 2) rfl Go.Proofs.Try.underlying36 rfl (by kernel_rfl))
        replace hk := FW.S.keep (I1 := [FW.blk b0 87 ([.row (r_ApiWord_cells t5.2.l), .lit (.int .i64 t5.2.i), .lit (.int .i64 (FW.decrN dn2 t5.2.deep)), .lit (.int .i64 t5.2.steps)])]) (I2 := [FW.blk bx2 36 ((ApiPred.cells y4)), FW.blk bx1 36 ((ApiPred.cells y4))]) (js := [0]) hk rfl
        exact FW.fretH1 hk rfl hr_0 ⟨rfl, rfl⟩
    · intro K' hK8
      refine FW.wreg ?_; intro K' hK29
      refine FW.lfun (y := .lit (.int .i64 v5)) hk rfl rfl rfl rfl (FW.f_move hk (FW.holds_nil _) rfl) ?_; clear hk; intro a w hk
      refine FW.lfun (y := .lit (.bool (decide (0 ≤ v5)))) hk rfl rfl rfl rfl ((FW.f_pure (FW.p_geq hk.kn (FW.holds_nil _) rfl rfl))) ?_; clear hk; intro a w hk
      refine FW.lfun (y := .lit (.bool (decide (0 ≤ v5)))) hk rfl rfl rfl rfl (FW.f_move hk (FW.holds_nil _) rfl) ?_; clear hk; intro a w hk
      refine FW.lfunG (y := .lit (.pointer (some ⟨bx2, 1, none⟩))) hk rfl rfl rfl rfl rfl rfl rfl rfl (fun hc => FW.f_fieldPtr hk hc rfl Go.Proofs.Try.underlying36 rfl (by kernel_rfl) rfl) ?_; clear hk; intro a w hk
      refine FW.lfunG (y := .row (r_ApiValue_cells t4.1)) hk rfl rfl rfl rfl rfl rfl rfl rfl (fun hc => FW.f_loadBlk1 hk hc (j := 0) rfl rfl Go.Proofs.Try.underlying31 rfl rfl) ?_; clear hk; intro a w hk
      refine FW.lfunG (y := .lit (.int .i64 (List.length t4.1 : Int))) hk rfl rfl rfl rfl rfl rfl rfl rfl (fun hc => FW.f_len (R := r_ApiValue_cells) (f := ApiValue.cells) (l := t4.1) r_ApiValue_cells_eq Go.Proofs.Try.underlying31 hk hc rfl) ?_; clear hk; intro a w hk
      refine FW.lfunG (y := .lit (.int .i64 v5)) hk rfl rfl rfl rfl rfl rfl rfl rfl (fun hc => FW.f_move hk hc rfl) ?_; clear hk; intro a w hk
      refine FW.lfunG (y := .lit (.bool (!decide ((List.length t4.1 : Int) = v5)))) hk rfl rfl rfl rfl rfl rfl rfl rfl (fun hc => (FW.f_pure (FW.p_neq hk.kn hc rfl rfl))) ?_; clear hk; intro a w hk
      refine FW.lfun (y := .lit (.bool ((decide (0 ≤ v5)) && (!decide ((List.length t4.1 : Int) = v5))))) hk rfl rfl rfl rfl ((FW.f_pure (FW.p_pick_and hk.kn (FW.holds_nil _) rfl rfl))) ?_; clear hk; intro a w hk
      refine FW.lend (hK29 _ _ ?_); clear hK29 K'
      refine FW.wcondF (b := ((decide (0 ≤ v5)) && (!decide ((List.length t4.1 : Int) = v5)))) hk h rfl (fun h hb => ?_) (fun h hb => ?_)
      · skip
        refine FW.wreg ?_; intro K' hK30
        refine FW.lfun (y := .lit (.pointer (some ⟨b0, 0, none⟩))) hk rfl rfl rfl rfl (FW.f_move hk (FW.holds_nil _) rfl) ?_; clear hk; intro a w hk
        refine FW.lfun (y := .lit (.int .i64 v3)) hk rfl rfl rfl rfl (FW.f_move hk (FW.holds_nil _) rfl) ?_; clear hk; intro a w hk
        refine FW.lfun (y := .lit (.pointer (some ⟨b0, 0, none⟩))) hk rfl rfl rfl rfl ((FW.f_pure (FW.p_nilCheck hk.kn (FW.holds_nil _) rfl))) ?_; clear hk; intro a w hk
        refine FW.lfun (y := .lit (.pointer (some ⟨b0, 1, none⟩))) hk rfl rfl rfl rfl (FW.f_fieldPtr hk (FW.holds_nil _) rfl Go.Proofs.Try.underlying87 rfl (by kernel_rfl) rfl) ?_; clear hk; intro a w hk
        refine FW.l_store (I' := [FW.blk bx2 36 ((ApiPred.cells (⟨v4, t4.1, []⟩ : ApiPred))), FW.blk b0 87 ([.row (r_ApiWord_cells t4.2.l), .lit (.int .i64 v3), .lit (.int .i64 t4.2.deep), .lit (.int .i64 t4.2.steps)]), FW.blk bx1 36 ((ApiPred.cells y3)), FW.boxesI 84 xb2 b0 dn2]) (cs' := [.row (r_ApiWord_cells t4.2.l), .lit (.int .i64 v3), .lit (.int .i64 t4.2.deep), .lit (.int .i64 t4.2.steps)]) (j := 1) hk rfl rfl rfl rfl rfl (by kernel_rfl) rfl rfl ?_; clear hk; intro w hk
        refine FW.lend (hK30 _ _ ?_); clear hK30 K'
        refine FW.wreg1 ?_
        refine FW.lfun (y := .lit (.pointer (some ⟨b0, 0, none⟩))) hk rfl rfl rfl rfl (FW.f_move hk (FW.holds_nil _) rfl) ?_; clear hk; intro a w hk
        rcases FW.bndX h with ⟨e_t12, hr_t12, rfl⟩ | ⟨t12, hr_t12, h⟩
        · skip
          refine FW.l_callXE (I1 := (OParseParser.items b0 (⟨t4.2.l, v3, t4.2.deep, t4.2.steps⟩ : OParseParser))) (I2 := [FW.blk bx2 36 ((ApiPred.cells (⟨v4, t4.1, []⟩ : ApiPred))), FW.blk bx1 36 ((ApiPred.cells y3)), FW.boxesI 84 xb2 b0 dn2]) (js := [1]) hk rfl rfl rfl Go.Proofs.Try.func65 rfl (by kernel_rfl) (parse_parser_stop.ok (⟨t4.2.l, v3, t4.2.deep, t4.2.steps⟩ : OParseParser) 120 _ hr_t12 b0) ?_; clear hk
          rintro _ _ ⟨vE9, rfl, rfl⟩ w hk
          exact FW.leave_pan (P := Go.Proofs.Try.prog) (fn := Go.Proofs.Try.f145) (bs := xb2) (dn := dn2) (x := vE9.deep) (I2 := [FW.blk bx2 36 ((ApiPred.cells (⟨v4, t4.1, []⟩ : ApiPred))), FW.blk bx1 36 ((ApiPred.cells y3))]) (js := [0, 3]) (fun q => OParseParser.items b0 (⟨vE9.l, vE9.i, q, vE9.steps⟩ : OParseParser)) hk rfl Go.Proofs.Try.func160 rfl (by kernel_rfl) (fun x nb => parse_parser_into_1.ok (⟨⟩ : OVarPParseParser) (⟨vE9.l, vE9.i, x, vE9.steps⟩ : OParseParser) _ rfl nb b0) ⟨_, rfl, _, rfl, rfl⟩
        refine FW.l_callH (I1 := (OParseParser.items b0 (⟨t4.2.l, v3, t4.2.deep, t4.2.steps⟩ : OParseParser))) (I2 := [FW.blk bx2 36 ((ApiPred.cells (⟨v4, t4.1, []⟩ : ApiPred))), FW.blk bx1 36 ((ApiPred.cells y3)), FW.boxesI 84 xb2 b0 dn2]) (js := [1]) hk rfl rfl rfl rfl rfl Go.Proofs.Try.func65 rfl (by kernel_rfl) (FW.OkX.toH (parse_parser_stop.ok (⟨t4.2.l, v3, t4.2.deep, t4.2.steps⟩ : OParseParser) 120 _ hr_t12 b0)) ?_; clear hk
        rintro _ _ ⟨rfl, rfl⟩ a w hk
        refine wpList_nil ?_
        (repeat first | refine FW.then_normal ?_ | refine FW.block_normal ?_); exact hK8 _ _ ⟨t12.l, t12.i, t12.deep, t12.steps, (⟨v4, t4.1, []⟩ : ApiPred), y3, dn2, xb2, hk.sub ⟨rfl, rfl, rfl, trivial⟩, h⟩
      · skip
        refine wp_skip ?_
        (repeat first | refine FW.then_normal ?_ | refine FW.block_normal ?_); exact hK8 _ _ ⟨t4.2.l, t4.2.i, t4.2.deep, t4.2.steps, (⟨v4, t4.1, []⟩ : ApiPred), y3, dn2, xb2, (FW.S.pick hk (js := [3, 3, 2, 3]) rfl).sub ⟨rfl, rfl, rfl, trivial⟩, h⟩
  · intro K' hK5
    refine FW.wreg ?_; intro K' hK32
    refine FW.lfun (y := .lit (.bool t2.2)) hk rfl rfl rfl rfl (FW.f_move hk (FW.holds_nil _) rfl) ?_; clear hk; intro a w hk
    refine FW.lfun (y := .lit (.bool (!t2.2))) hk rfl rfl rfl rfl ((FW.f_pure (FW.p_not hk.kn (FW.holds_nil _) rfl))) ?_; clear hk; intro a w hk
    refine FW.lend (hK32 _ _ ?_); clear hK32 K'
    refine FW.wcondF (b := (!t2.2)) hk h rfl (fun h hb => ?_) (fun h hb => ?_)
    · skip
      refine FW.wreg ?_; intro K' hK33
      refine FW.lfun (y := .lit (.pointer (some ⟨b0, 0, none⟩))) hk rfl rfl rfl rfl (FW.f_move hk (FW.holds_nil _) rfl) ?_; clear hk; intro a w hk
      refine FW.lfun (y := .lit (.int .i64 v0.i)) hk rfl rfl rfl rfl (FW.f_move hk (FW.holds_nil _) rfl) ?_; clear hk; intro a w hk
      refine FW.lfun (y := .lit (.pointer (some ⟨b0, 0, none⟩))) hk rfl rfl rfl rfl ((FW.f_pure (FW.p_nilCheck hk.kn (FW.holds_nil _) rfl))) ?_; clear hk; intro a w hk
      refine FW.lfun (y := .lit (.pointer (some ⟨b0, 1, none⟩))) hk rfl rfl rfl rfl (FW.f_fieldPtr hk (FW.holds_nil _) rfl Go.Proofs.Try.underlying87 rfl (by kernel_rfl) rfl) ?_; clear hk; intro a w hk
      refine FW.l_store (I' := [FW.blk b0 87 ([.row (r_ApiWord_cells t1.2.l), .lit (.int .i64 v0.i), .lit (.int .i64 t1.2.deep), .lit (.int .i64 t1.2.steps)]), FW.blk bx1 36 ((ApiPred.cells (⟨[], [], []⟩ : ApiPred))), FW.boxesI 84 ([] : List Nat) b0 0]) (cs' := [.row (r_ApiWord_cells t1.2.l), .lit (.int .i64 v0.i), .lit (.int .i64 t1.2.deep), .lit (.int .i64 t1.2.steps)]) (j := 0) hk rfl rfl rfl rfl rfl (by kernel_rfl) rfl rfl ?_; clear hk; intro w hk
      refine FW.lend (hK33 _ _ ?_); clear hK33 K'
      refine FW.wreg1 ?_
      refine FW.lfun (y := .lit (.pointer (some ⟨b0, 0, none⟩))) hk rfl rfl rfl rfl (FW.f_move hk (FW.holds_nil _) rfl) ?_; clear hk; intro a w hk
      rcases FW.bndX h with ⟨e_t13, hr_t13, rfl⟩ | ⟨t13, hr_t13, h⟩
      · skip
        refine FW.l_callXE (I1 := (OParseParser.items b0 (⟨t1.2.l, v0.i, t1.2.deep, t1.2.steps⟩ : OParseParser))) (I2 := [FW.blk bx1 36 ((ApiPred.cells (⟨[], [], []⟩ : ApiPred))), FW.boxesI 84 ([] : List Nat) b0 0]) (js := [0]) hk rfl rfl rfl Go.Proofs.Try.func65 rfl (by kernel_rfl) (parse_parser_stop.ok (⟨t1.2.l, v0.i, t1.2.deep, t1.2.steps⟩ : OParseParser) 120 _ hr_t13 b0) ?_; clear hk
        rintro _ _ ⟨vE10, rfl, rfl⟩ w hk
        exact FW.leave_pan (P := Go.Proofs.Try.prog) (fn := Go.Proofs.Try.f145) (bs := ([] : List Nat)) (dn := 0) (x := vE10.deep) (I2 := [FW.blk bx1 36 ((ApiPred.cells (⟨[], [], []⟩ : ApiPred)))]) (js := [0, 2]) (fun q => OParseParser.items b0 (⟨vE10.l, vE10.i, q, vE10.steps⟩ : OParseParser)) hk rfl Go.Proofs.Try.func160 rfl (by kernel_rfl) (fun x nb => parse_parser_into_1.ok (⟨⟩ : OVarPParseParser) (⟨vE10.l, vE10.i, x, vE10.steps⟩ : OParseParser) _ rfl nb b0) ⟨_, rfl, _, rfl, rfl⟩
      refine FW.l_callH (I1 := (OParseParser.items b0 (⟨t1.2.l, v0.i, t1.2.deep, t1.2.steps⟩ : OParseParser))) (I2 := [FW.blk bx1 36 ((ApiPred.cells (⟨[], [], []⟩ : ApiPred))), FW.boxesI 84 ([] : List Nat) b0 0]) (js := [0]) hk rfl rfl rfl rfl rfl Go.Proofs.Try.func65 rfl (by kernel_rfl) (FW.OkX.toH (parse_parser_stop.ok (⟨t1.2.l, v0.i, t1.2.deep, t1.2.steps⟩ : OParseParser) 120 _ hr_t13 b0)) ?_; clear hk
      rintro _ _ ⟨rfl, rfl⟩ a w hk
      refine wpList_nil ?_
      (repeat first | refine FW.then_normal ?_ | refine FW.block_normal ?_); exact hK5 _ _ ⟨t13.l, t13.i, t13.deep, t13.steps, (⟨[], [], []⟩ : ApiPred), 0, v0.i, t1.1, t2.1, ([] : List Nat), hk.sub ⟨rfl, rfl, rfl, rfl, rfl, trivial⟩, h⟩
    · skip
      refine wp_skip ?_
      (repeat first | refine FW.then_normal ?_ | refine FW.block_normal ?_); exact hK5 _ _ ⟨t1.2.l, t1.2.i, t1.2.deep, t1.2.steps, (⟨[], [], []⟩ : ApiPred), 0, v0.i, t1.1, t2.1, ([] : List Nat), hk.sub ⟨rfl, rfl, rfl, rfl, rfl, trivial⟩, h⟩
theorem parse_parser_pred_knot : ∀ K : Nat, (∀ (v0 : OParseParser) (r : Except (Int × Int) (ApiPred × OParseParser)), parse_parser_pred.f K v0 = some r → ∀ (b0 : Nat), FW.OkX Go.Proofs.Try.prog 145 [.lit (.pointer (some ⟨b0, 0, none⟩))] (OParseParser.items b0 v0) (FW.qX r (fun rr => fun y I => y = .agg (ApiPred.cells rr.1) ∧ I = OParseParser.items b0 rr.2) (fun e pv I => ∃ (o0 : OParseParser), pv = FW.faultV 115 e ∧ I = OParseParser.items b0 o0)))
  | 0 => fun v0 r h => by simp [parse_parser_pred.f] at h
  | K + 1 => fun v0 r h => by rw [parse_parser_pred.f] at h; exact parse_parser_pred.bok _ (parse_parser_pred_knot K) K v0 r h
theorem parse_parser_pred.ok (K : Nat) (v0 : OParseParser) (r : Except (Int × Int) (ApiPred × OParseParser)) (h : parse_parser_pred.f K v0 = some r) : ∀ (b0 : Nat), FW.OkX Go.Proofs.Try.prog 145 [.lit (.pointer (some ⟨b0, 0, none⟩))] (OParseParser.items b0 v0) (FW.qX r (fun rr => fun y I => y = .agg (ApiPred.cells rr.1) ∧ I = OParseParser.items b0 rr.2) (fun e pv I => ∃ (o0 : OParseParser), pv = FW.faultV 115 e ∧ I = OParseParser.items b0 o0)) := (parse_parser_pred_knot K) v0 r h
end Go.Proofs.Ytbjbgodcenopnaa
