/-
  Each function computes what its model says. Printed by a program of this claim's own.
-/
import Derived.Test.YtpcaiefefanpoaaTab
import Derived.Test.YtpcaiefefanpoaaMod
import Derived.Test.YtpcaiefefanpoaaWalk1
namespace Go.Proofs.Ytpcaiefefanpoaa
open Go.Proofs.Ytpcaiefefanpoaa.Eng
set_option linter.unusedVariables false
set_option linter.unusedSimpArgs false
set_option maxHeartbeats 4000000
set_option maxRecDepth 20000

theorem k_hindcastlaw02_CodecReads {F : Nat} {p0 : (List UInt8)} {p1 : (List Int)} {p1a0 : Option Addr} {p1n0 p1c0 : Nat} {r0 : Bool} (p1N0 : p1n0 = p1.length) (p1H0 : p1n0 ≤ p1c0) (h : m_hindcastlaw02_CodecReads F p0 p1 = some r0) :
    Pf Try.prog 4 [.string ⟨p0.toArray⟩, .slice p1a0 p1n0 p1c0] (fun w => Rds w [] [] p1a0 (flat (e1 .u8) p1)) (.bool r0) := by
  unfold m_hindcastlaw02_CodecReads at h
  refine pf_of_wc Try.func4 rfl Try.ntmps4 rfl rfl (fun w0 hR => ?_)
  have p1S0 := hR
  refine wc_seq ?_
  refine wc_region ?_
  refine wl_pure tt_ok rfl rfl ?_
  refine wl_nil ?_
  refine wx_then ?_
  refine wc_seq ?_
  refine wc_seq ?_
  refine wc_region ?_
  refine wl_pure tt_ok rfl rfl ?_
  refine wl_pure (v := .int .i64 (p0.length : Int)) tt_ok rfl rfl ?_
  refine wl_pure (v := .bool (decide ((3000 : Int) < (p0.length : Int)))) tt_ok rfl rfl ?_
  refine wl_pure tt_ok rfl rfl ?_
  replace h := bsome h; obtain ⟨v23, h, hg23⟩ := h
  refine wl_split (t := 19) rfl (fun hc => ?_) (fun hc => ?_)
  · replace h := ct hc h
    refine wl_skip rfl rfl ?_
    refine wl_skip rfl rfl ?_
    refine wl_skip rfl rfl ?_
    simp only [Option.some.injEq, Prod.mk.injEq] at h
    obtain rfl := h
    have h := hg23; clear hg23
    refine wl_pure (v := .bool true) tt_ok rfl rfl ?_
    refine wl_nil ?_
    refine wx_then ?_
    replace h := ct rfl h
    refine wc_cond_true rfl ?_
    refine wc_seq ?_
    refine wc_region ?_
    replace h := bsome h; obtain ⟨v24, x24, h⟩ := h
    refine wl_cq Try.call9 rfl rfl rfl (q_pf (k_hindcastlaw02_works x24) (fun _ _ => trivial)) rfl ?_
    refine wl_pure tt_ok rfl rfl ?_
    refine wl_nil ?_
    refine wx_then ?_
    refine wc_ret ?_
    refine wx_then_ret ?_
    simp only [Option.some.injEq] at h
    obtain rfl := h
    exact wx_pf tt_ok (.inl rfl) Try.results4 (Res.tmp rfl Res.nil) rfl
  replace h := cf hc h
  refine wl_run rfl ?_
  refine wl_pure tt_ok rfl rfl ?_
  refine wl_run rfl ?_
  refine wl_val (v := .int .i64 (p1.length : Int)) (val_len tt_ok rfl rfl p1N0) rfl ?_
  refine wl_run rfl ?_
  refine wl_pure (v := .bool (decide ((60 : Int) < (p1.length : Int)))) tt_ok rfl rfl ?_
  simp only [Option.some.injEq, Prod.mk.injEq] at h
  obtain rfl := h
  have h := hg23; clear hg23
  refine wl_pure (v := .bool (decide ((60 : Int) < (p1.length : Int)))) tt_ok rfl rfl ?_
  refine wl_nil ?_
  refine wx_then ?_
  refine wc_cond rfl (fun hc => ?_) (fun hc => ?_)
  · replace h := ct hc h
    refine wc_seq ?_
    refine wc_region ?_
    replace h := bsome h; obtain ⟨v24, x24, h⟩ := h
    refine wl_cq Try.call9 rfl rfl rfl (q_pf (k_hindcastlaw02_works x24) (fun _ _ => trivial)) rfl ?_
    refine wl_pure tt_ok rfl rfl ?_
    refine wl_nil ?_
    refine wx_then ?_
    refine wc_ret ?_
    refine wx_then_ret ?_
    simp only [Option.some.injEq] at h
    obtain rfl := h
    exact wx_pf tt_ok (.inl rfl) Try.results4 (Res.tmp rfl Res.nil) rfl
  replace h := cf hc h
  refine wc_skip ?_
  refine wx_then ?_
  refine wc_seq ?_
  refine wc_region ?_
  refine wl_pure tt_ok rfl rfl ?_
  replace h := bsome h; obtain ⟨v26, x26, h⟩ := h
  refine wl_cs Try.call13 rfl rfl rfl (s_sp (k_codec_New x26) pNil (fun _ _ => trivial)) rfl ?_
  rintro _ _ ⟨_, ⟨b26_0, rfl, rfl⟩, rfl⟩
  refine wl_pure tt_ok rfl rfl ?_
  refine wl_nil ?_
  refine wx_then ?_
  refine wc_seq ?_
  refine wc_seq ?_
  refine wc_region ?_
  refine wl_pure tt_ok rfl rfl ?_
  refine wl_pure (v := .bool false) tt_ok rfl rfl ?_
  refine wl_nil ?_
  refine wx_then ?_
  refine wc_cond_false rfl ?_
  refine wc_skip ?_
  refine wx_then ?_
  refine wc_seq ?_
  refine wc_region ?_
  refine wl_pure tt_ok rfl rfl ?_
  refine wl_pure (v := .agg #[.string ⟨p0.toArray⟩, .int .i64 (0 : Int), .int .i64 (0 : Int)]) tt_ok rfl rfl ?_
  refine wl_box rfl rfl rfl (fun b31 => ?_)
  refine wl_pure tt_ok rfl rfl ?_
  refine wl_nil ?_
  refine wx_then ?_
  refine wc_seq ?_
  refine wc_seq ?_
  refine wc_region ?_
  refine wl_pure tt_ok rfl rfl ?_
  refine wl_nil ?_
  refine wx_then ?_
  refine wc_block ?_
  replace h := bsome h; obtain ⟨o27, h, hl27⟩ := h
  refine wc_loop (fun m E L => ∃ (j27_7 : Int) (j27_n26_0 : T_codec_Reader) (j27_n31 : T_hindcastref02_Reader), m_hindcastlaw02_CodecReads_L26 F p1 m j27_7 j27_n26_0 j27_n31 = some o27 ∧ E = [(1, .slice p1a0 p1n0 p1c0), (4, .bool false), (5, .pointer (some ⟨b26_0, 0, none⟩)), (6, .pointer (some ⟨b31, 0, none⟩)), (7, .int .i64 j27_7)] ∧ L = (⟨b26_0, [.string ⟨j27_n26_0.left.s.toArray⟩, .int .i64 j27_n26_0.left.e], 67, (0, 0)⟩ :: (⟨b31, [.string ⟨j27_n31.S.toArray⟩, .int .i64 j27_n31.At, .int .i64 j27_n31.E], 39, (0, 0)⟩ :: []))) F ⟨(0 : Int), v26, (T_hindcastref02_Reader.mk p0 (0 : Int) (0 : Int)), h, rfl, rfl⟩ (agree_cons rfl (agree_cons rfl (agree_cons rfl (agree_cons rfl (agree_cons rfl agree_nil))))) (pSub (pCons (Sel.sc Sel.hc) (pCons Sel.hc pNil))) ?_
  clear h
  rintro m27 _ _ ⟨j27_7, j27_n26_0, j27_n31, h, rfl, rfl⟩
  rcases m27 with _ | m27
  · rw [m_hindcastlaw02_CodecReads_L26.eq_1] at h; cases h
  rw [m_hindcastlaw02_CodecReads_L26.eq_2] at h
  refine wc_seq ?_
  refine wc_seq ?_
  refine wc_region ?_
  refine wl_pure tt_ok rfl rfl ?_
  refine wl_pure tt_ok rfl rfl ?_
  refine wl_val (v := .int .i64 (p1.length : Int)) (val_len tt_ok rfl rfl p1N0) rfl ?_
  refine wl_pure (v := .bool (decide (j27_7 < (p1.length : Int)))) tt_ok rfl rfl ?_
  refine wl_nil ?_
  refine wx_then ?_
  refine wc_cond rfl (fun hc => ?_) (fun hc => ?_)
  · replace h := ct hc h
    refine wc_skip ?_
    refine wx_then ?_
    refine wc_seq ?_
    refine wc_block ?_
    refine wc_seq ?_
    refine wc_region ?_
    refine wl_pure tt_ok rfl rfl ?_
    refine wl_nil ?_
    refine wx_then ?_
    refine wc_seq ?_
    refine wc_seq ?_
    refine wc_region ?_
    refine wl_pure tt_ok rfl rfl ?_
    refine wl_pure tt_ok rfl rfl ?_
    replace h := bsome h; obtain ⟨v40, x40, h⟩ := h
    refine wl_val (v := .pointer (some ((adOf p1a0).add (j27_7.toNat * 1 + 0)))) (val_ix (enc := (e1 .u8)) tt_ok rfl rfl rfl rfl p1N0 p1S0 (e1_len _) rfl x40) rfl ?_
    refine wl_val (v := .int .u8 v40) (val_le (enc := (e1 .u8)) (xs := p1) tt_ok rfl p1S0 rsub_nil (e1_len _) x40 rfl) rfl ?_
    refine wl_pure (v := .int .u8 (Int.tmod v40 7)) tt_ok rfl rfl ?_
    refine wl_nil ?_
    refine wx_then ?_
    replace h := bsome h; obtain ⟨⟨j41_8, j41_n26_0, j41_n31⟩, h, hj41⟩ := h; try dsimp only at hj41
    refine wc_join2 (fun E L => E = [(1, .slice p1a0 p1n0 p1c0), (4, .bool false), (5, .pointer (some ⟨b26_0, 0, none⟩)), (6, .pointer (some ⟨b31, 0, none⟩)), (7, .int .i64 j27_7), (8, .bool j41_8)] ∧ L = (⟨b26_0, [.string ⟨j41_n26_0.left.s.toArray⟩, .int .i64 j41_n26_0.left.e], 67, (0, 0)⟩ :: (⟨b31, [.string ⟨j41_n31.S.toArray⟩, .int .i64 j41_n31.At, .int .i64 j41_n31.E], 39, (0, 0)⟩ :: []))) ?_ ?_
    · refine wc_block ?_
      refine wc_seq ?_
      refine wc_region ?_
      refine wl_pure (v := .bool ((Int.tmod v40 7) == (0 : Int))) tt_ok rfl rfl ?_
      refine wl_pure tt_ok rfl rfl ?_
      refine wl_nil ?_
      refine wx_then ?_
      refine wc_cond rfl (fun hc => ?_) (fun hc => ?_)
      · replace h := ct hc h
        refine wc_seq ?_
        refine wc_region ?_
        refine wl_pure tt_ok rfl rfl ?_
        replace h := bsome h; obtain ⟨⟨o52_0, v52⟩, x52, h⟩ := h; try dsimp only at h
        refine wl_cs Try.call14 rfl rfl rfl (s_sp (k_codec_Reader_U8 x52) (pCons Sel.hc pNil) (fun _ _ => trivial)) rfl ?_
        rintro _ _ ⟨_, ⟨rfl, rfl⟩, rfl⟩
        refine wl_pure (v := .int .u64 (IntKind.wrap .u64 v52)) tt_ok rfl rfl ?_
        refine wl_pure tt_ok rfl rfl ?_
        refine wl_nil ?_
        refine wx_then ?_
        refine wc_region ?_
        refine wl_pure tt_ok rfl rfl ?_
        refine wl_pure tt_ok rfl rfl ?_
        replace h := bsome h; obtain ⟨⟨o56_0, v56⟩, x56, h⟩ := h; try dsimp only at h
        refine wl_cs Try.call15 rfl rfl rfl (s_sp (k_hindcastref02_Reader_Number x56) (pCons (Sel.sc Sel.hc) pNil) (fun _ _ => trivial)) rfl ?_
        rintro _ _ ⟨_, ⟨rfl, rfl⟩, rfl⟩
        refine wl_pure (v := .bool ((IntKind.wrap .u64 v52) == v56)) tt_ok rfl rfl ?_
        refine wl_pure tt_ok rfl rfl ?_
        refine wl_nil ?_
        refine wx_block ?_
        simp only [Option.some.injEq, Prod.mk.injEq] at h
        obtain ⟨rfl, rfl, rfl⟩ := h
        exact wx_join ⟨rfl, rfl⟩ (agree_cons rfl (agree_cons rfl (agree_cons rfl (agree_cons rfl (agree_cons rfl (agree_cons rfl agree_nil)))))) (pSub (pCons (Sel.sc Sel.hc) (pCons Sel.hc pNil)))
      replace h := cf hc h
      refine wc_seq ?_
      refine wc_region ?_
      refine wl_pure (v := .bool ((Int.tmod v40 7) == (1 : Int))) tt_ok rfl rfl ?_
      refine wl_pure tt_ok rfl rfl ?_
      refine wl_nil ?_
      refine wx_then ?_
      refine wc_cond rfl (fun hc => ?_) (fun hc => ?_)
      · replace h := ct hc h
        refine wc_seq ?_
        refine wc_region ?_
        refine wl_pure tt_ok rfl rfl ?_
        replace h := bsome h; obtain ⟨⟨o61_0, v61⟩, x61, h⟩ := h; try dsimp only at h
        refine wl_cs Try.call16 rfl rfl rfl (s_sp (k_codec_Reader_U16 x61) (pCons Sel.hc pNil) (fun _ _ => trivial)) rfl ?_
        rintro _ _ ⟨_, ⟨rfl, rfl⟩, rfl⟩
        refine wl_pure (v := .int .u64 (IntKind.wrap .u64 v61)) tt_ok rfl rfl ?_
        refine wl_pure tt_ok rfl rfl ?_
        refine wl_nil ?_
        refine wx_then ?_
        refine wc_region ?_
        refine wl_pure tt_ok rfl rfl ?_
        refine wl_pure tt_ok rfl rfl ?_
        replace h := bsome h; obtain ⟨⟨o65_0, v65⟩, x65, h⟩ := h; try dsimp only at h
        refine wl_cs Try.call15 rfl rfl rfl (s_sp (k_hindcastref02_Reader_Number x65) (pCons (Sel.sc Sel.hc) pNil) (fun _ _ => trivial)) rfl ?_
        rintro _ _ ⟨_, ⟨rfl, rfl⟩, rfl⟩
        refine wl_pure (v := .bool ((IntKind.wrap .u64 v61) == v65)) tt_ok rfl rfl ?_
        refine wl_pure tt_ok rfl rfl ?_
        refine wl_nil ?_
        refine wx_block ?_
        simp only [Option.some.injEq, Prod.mk.injEq] at h
        obtain ⟨rfl, rfl, rfl⟩ := h
        exact wx_join ⟨rfl, rfl⟩ (agree_cons rfl (agree_cons rfl (agree_cons rfl (agree_cons rfl (agree_cons rfl (agree_cons rfl agree_nil)))))) (pSub (pCons (Sel.sc Sel.hc) (pCons Sel.hc pNil)))
      replace h := cf hc h
      refine wc_seq ?_
      refine wc_region ?_
      refine wl_pure (v := .bool ((Int.tmod v40 7) == (2 : Int))) tt_ok rfl rfl ?_
      refine wl_pure tt_ok rfl rfl ?_
      refine wl_nil ?_
      refine wx_then ?_
      refine wc_cond rfl (fun hc => ?_) (fun hc => ?_)
      · replace h := ct hc h
        refine wc_seq ?_
        refine wc_region ?_
        refine wl_pure tt_ok rfl rfl ?_
        replace h := bsome h; obtain ⟨⟨o70_0, v70⟩, x70, h⟩ := h; try dsimp only at h
        refine wl_cs Try.call17 rfl rfl rfl (s_sp (k_codec_Reader_U32 x70) (pCons Sel.hc pNil) (fun _ _ => trivial)) rfl ?_
        rintro _ _ ⟨_, ⟨rfl, rfl⟩, rfl⟩
        refine wl_pure (v := .int .u64 (IntKind.wrap .u64 v70)) tt_ok rfl rfl ?_
        refine wl_pure tt_ok rfl rfl ?_
        refine wl_nil ?_
        refine wx_then ?_
        refine wc_region ?_
        refine wl_pure tt_ok rfl rfl ?_
        refine wl_pure tt_ok rfl rfl ?_
        replace h := bsome h; obtain ⟨⟨o74_0, v74⟩, x74, h⟩ := h; try dsimp only at h
        refine wl_cs Try.call15 rfl rfl rfl (s_sp (k_hindcastref02_Reader_Number x74) (pCons (Sel.sc Sel.hc) pNil) (fun _ _ => trivial)) rfl ?_
        rintro _ _ ⟨_, ⟨rfl, rfl⟩, rfl⟩
        refine wl_pure (v := .bool ((IntKind.wrap .u64 v70) == v74)) tt_ok rfl rfl ?_
        refine wl_pure tt_ok rfl rfl ?_
        refine wl_nil ?_
        refine wx_block ?_
        simp only [Option.some.injEq, Prod.mk.injEq] at h
        obtain ⟨rfl, rfl, rfl⟩ := h
        exact wx_join ⟨rfl, rfl⟩ (agree_cons rfl (agree_cons rfl (agree_cons rfl (agree_cons rfl (agree_cons rfl (agree_cons rfl agree_nil)))))) (pSub (pCons (Sel.sc Sel.hc) (pCons Sel.hc pNil)))
      replace h := cf hc h
      refine wc_seq ?_
      refine wc_region ?_
      refine wl_pure (v := .bool ((Int.tmod v40 7) == (3 : Int))) tt_ok rfl rfl ?_
      refine wl_pure tt_ok rfl rfl ?_
      refine wl_nil ?_
      refine wx_then ?_
      refine wc_cond rfl (fun hc => ?_) (fun hc => ?_)
      · replace h := ct hc h
        refine wc_seq ?_
        refine wc_region ?_
        refine wl_pure tt_ok rfl rfl ?_
        replace h := bsome h; obtain ⟨⟨o79_0, v79⟩, x79, h⟩ := h; try dsimp only at h
        refine wl_cs Try.call18 rfl rfl rfl (s_sp (k_codec_Reader_U64 x79) (pCons Sel.hc pNil) (fun _ _ => trivial)) rfl ?_
        rintro _ _ ⟨_, ⟨rfl, rfl⟩, rfl⟩
        refine wl_pure tt_ok rfl rfl ?_
        refine wl_nil ?_
        refine wx_then ?_
        refine wc_region ?_
        refine wl_pure tt_ok rfl rfl ?_
        refine wl_pure tt_ok rfl rfl ?_
        replace h := bsome h; obtain ⟨⟨o82_0, v82⟩, x82, h⟩ := h; try dsimp only at h
        refine wl_cs Try.call15 rfl rfl rfl (s_sp (k_hindcastref02_Reader_Number x82) (pCons (Sel.sc Sel.hc) pNil) (fun _ _ => trivial)) rfl ?_
        rintro _ _ ⟨_, ⟨rfl, rfl⟩, rfl⟩
        refine wl_pure (v := .bool (v79 == v82)) tt_ok rfl rfl ?_
        refine wl_pure tt_ok rfl rfl ?_
        refine wl_nil ?_
        refine wx_block ?_
        simp only [Option.some.injEq, Prod.mk.injEq] at h
        obtain ⟨rfl, rfl, rfl⟩ := h
        exact wx_join ⟨rfl, rfl⟩ (agree_cons rfl (agree_cons rfl (agree_cons rfl (agree_cons rfl (agree_cons rfl (agree_cons rfl agree_nil)))))) (pSub (pCons (Sel.sc Sel.hc) (pCons Sel.hc pNil)))
      replace h := cf hc h
      refine wc_seq ?_
      refine wc_region ?_
      refine wl_pure (v := .bool ((Int.tmod v40 7) == (4 : Int))) tt_ok rfl rfl ?_
      refine wl_pure tt_ok rfl rfl ?_
      refine wl_nil ?_
      refine wx_then ?_
      refine wc_cond rfl (fun hc => ?_) (fun hc => ?_)
      · replace h := ct hc h
        refine wc_seq ?_
        refine wc_region ?_
        refine wl_pure tt_ok rfl rfl ?_
        replace h := bsome h; obtain ⟨⟨o87_0, v87⟩, x87, h⟩ := h; try dsimp only at h
        refine wl_cs Try.call19 rfl rfl rfl (s_sp (k_codec_Reader_I32 x87) (pCons Sel.hc pNil) (fun _ _ => trivial)) rfl ?_
        rintro _ _ ⟨_, ⟨rfl, rfl⟩, rfl⟩
        refine wl_pure (v := .int .u32 (IntKind.wrap .u32 v87)) tt_ok rfl rfl ?_
        refine wl_pure tt_ok rfl rfl ?_
        refine wl_nil ?_
        refine wx_then ?_
        refine wc_region ?_
        refine wl_pure tt_ok rfl rfl ?_
        refine wl_pure (v := .int .u64 (IntKind.wrap .u64 (IntKind.wrap .u32 v87))) tt_ok rfl rfl ?_
        refine wl_pure tt_ok rfl rfl ?_
        replace h := bsome h; obtain ⟨⟨o92_0, v92⟩, x92, h⟩ := h; try dsimp only at h
        refine wl_cs Try.call15 rfl rfl rfl (s_sp (k_hindcastref02_Reader_Number x92) (pCons (Sel.sc Sel.hc) pNil) (fun _ _ => trivial)) rfl ?_
        rintro _ _ ⟨_, ⟨rfl, rfl⟩, rfl⟩
        refine wl_pure (v := .bool ((IntKind.wrap .u64 (IntKind.wrap .u32 v87)) == v92)) tt_ok rfl rfl ?_
        refine wl_pure tt_ok rfl rfl ?_
        refine wl_nil ?_
        refine wx_block ?_
        simp only [Option.some.injEq, Prod.mk.injEq] at h
        obtain ⟨rfl, rfl, rfl⟩ := h
        exact wx_join ⟨rfl, rfl⟩ (agree_cons rfl (agree_cons rfl (agree_cons rfl (agree_cons rfl (agree_cons rfl (agree_cons rfl agree_nil)))))) (pSub (pCons (Sel.sc Sel.hc) (pCons Sel.hc pNil)))
      replace h := cf hc h
      refine wc_seq ?_
      refine wc_region ?_
      refine wl_pure (v := .bool ((Int.tmod v40 7) == (5 : Int))) tt_ok rfl rfl ?_
      refine wl_pure tt_ok rfl rfl ?_
      refine wl_nil ?_
      refine wx_then ?_
      refine wc_cond rfl (fun hc => ?_) (fun hc => ?_)
      · replace h := ct hc h
        refine wc_seq ?_
        refine wc_region ?_
        refine wl_pure tt_ok rfl rfl ?_
        replace h := bsome h; obtain ⟨⟨o97_0, v97⟩, x97, h⟩ := h; try dsimp only at h
        refine wl_cs Try.call20 rfl rfl rfl (s_sp (k_codec_Reader_Var x97) (pCons Sel.hc pNil) (fun _ _ => trivial)) rfl ?_
        rintro _ _ ⟨_, ⟨rfl, rfl⟩, rfl⟩
        refine wl_pure tt_ok rfl rfl ?_
        refine wl_nil ?_
        refine wx_then ?_
        refine wc_region ?_
        refine wl_pure tt_ok rfl rfl ?_
        refine wl_pure tt_ok rfl rfl ?_
        replace h := bsome h; obtain ⟨⟨o100_0, v100⟩, x100, h⟩ := h; try dsimp only at h
        refine wl_cs Try.call21 rfl rfl rfl (s_sp (k_hindcastref02_Reader_Var x100) (pCons (Sel.sc Sel.hc) pNil) (fun _ _ => trivial)) rfl ?_
        rintro _ _ ⟨_, ⟨rfl, rfl⟩, rfl⟩
        refine wl_pure (v := .bool (v97 == v100)) tt_ok rfl rfl ?_
        refine wl_pure tt_ok rfl rfl ?_
        refine wl_nil ?_
        refine wx_block ?_
        simp only [Option.some.injEq, Prod.mk.injEq] at h
        obtain ⟨rfl, rfl, rfl⟩ := h
        exact wx_join ⟨rfl, rfl⟩ (agree_cons rfl (agree_cons rfl (agree_cons rfl (agree_cons rfl (agree_cons rfl (agree_cons rfl agree_nil)))))) (pSub (pCons (Sel.sc Sel.hc) (pCons Sel.hc pNil)))
      replace h := cf hc h
      refine wc_seq ?_
      refine wc_region ?_
      refine wl_pure tt_ok rfl rfl ?_
      replace h := bsome h; obtain ⟨⟨o44_0, v44⟩, x44, h⟩ := h; try dsimp only at h
      refine wl_cs Try.call22 rfl rfl rfl (s_sp (k_codec_Reader_Text x44) (pCons Sel.hc pNil) (fun _ _ => trivial)) rfl ?_
      rintro _ _ ⟨_, ⟨rfl, rfl⟩, rfl⟩
      refine wl_pure tt_ok rfl rfl ?_
      refine wl_nil ?_
      refine wx_then ?_
      refine wc_region ?_
      refine wl_pure tt_ok rfl rfl ?_
      refine wl_pure tt_ok rfl rfl ?_
      replace h := bsome h; obtain ⟨⟨o47_0, v47⟩, x47, h⟩ := h; try dsimp only at h
      refine wl_cs Try.call23 rfl rfl rfl (s_sp (k_hindcastref02_Reader_Text x47) (pCons (Sel.sc Sel.hc) pNil) (fun _ _ => trivial)) rfl ?_
      rintro _ _ ⟨_, ⟨rfl, rfl⟩, rfl⟩
      refine wl_val (v := .bool (v44 == v47)) (val_seq tt_ok rfl rfl) rfl ?_
      refine wl_pure tt_ok rfl rfl ?_
      refine wl_nil ?_
      refine wx_block ?_
      simp only [Option.some.injEq, Prod.mk.injEq] at h
      obtain ⟨rfl, rfl, rfl⟩ := h
      exact wx_join ⟨rfl, rfl⟩ (agree_cons rfl (agree_cons rfl (agree_cons rfl (agree_cons rfl (agree_cons rfl (agree_cons rfl agree_nil)))))) (pSub (pCons (Sel.sc Sel.hc) (pCons Sel.hc pNil)))
    rintro _ _ ⟨rfl, rfl⟩
    have h := hj41; clear hj41
    refine wc_seq ?_
    refine wc_quiet (by kernel_rfl) (by kernel_rfl) ?_
    refine wq_pure tt_ok rfl rfl ?_
    refine wq_pure (v := .bool (!j41_8)) tt_ok rfl rfl ?_
    refine wq_pure tt_ok rfl rfl ?_
    replace h := bsome h; obtain ⟨v112, h, hg112⟩ := h
    refine wq_split (t := 104) rfl (fun hc => ?_) (fun hc => ?_)
    · replace h := ct hc h
      refine wq_skip rfl rfl ?_
      refine wq_skip rfl rfl ?_
      refine wq_skip rfl rfl ?_
      refine wq_skip rfl rfl ?_
      refine wq_skip rfl rfl ?_
      refine wq_skip rfl rfl ?_
      refine wq_skip rfl rfl ?_
      simp only [Option.some.injEq, Prod.mk.injEq] at h
      obtain rfl := h
      have h := hg112; clear hg112
      refine wq_pure (v := .bool true) tt_ok rfl rfl ?_
      refine wq_pure tt_ok rfl rfl ?_
      replace h := bsome h; obtain ⟨v119, h, hg119⟩ := h
      replace h := ct rfl h
      refine wq_skip rfl rfl ?_
      refine wq_skip rfl rfl ?_
      refine wq_skip rfl rfl ?_
      refine wq_skip rfl rfl ?_
      refine wq_skip rfl rfl ?_
      simp only [Option.some.injEq, Prod.mk.injEq] at h
      obtain rfl := h
      have h := hg119; clear hg119
      refine wq_pure (v := .bool true) tt_ok rfl rfl ?_
      refine wq_nil ?_
      refine wx_then ?_
      replace h := ct rfl h
      refine wc_cond_true rfl ?_
      refine wc_seq ?_
      refine wc_region ?_
      refine wl_pure tt_ok rfl rfl ?_
      refine wl_nil ?_
      refine wx_then ?_
      refine wc_ret ?_
      refine wx_block_ret ?_
      refine wx_then_ret ?_
      obtain rfl := Option.some.inj h
      have h := hl27; clear hl27; try dsimp only [orE_l, orE_r] at h
      refine wx_then_ret ?_
      refine wx_block_ret ?_
      refine wx_then_ret ?_
      simp only [Option.some.injEq] at h
      obtain rfl := h
      exact wx_pf tt_ok (.inl rfl) Try.results4 (Res.tmp rfl Res.nil) rfl
    replace h := cf hc h
    refine wq_run rfl ?_
    refine wq_pure tt_ok rfl rfl ?_
    replace h := bsome h; obtain ⟨v106, x106, h⟩ := h
    refine wq_run rfl ?_
    refine wq_cq Try.call24 rfl rfl rfl (q_rd (k_codec_Reader_Err x106) (pCons Sel.hc pNil) (fun _ _ => trivial)) rfl ?_
    refine wq_run rfl ?_
    refine wq_pure tt_ok rfl rfl ?_
    refine wq_run rfl ?_
    refine wq_pure tt_ok rfl rfl ?_
    refine wq_run rfl ?_
    refine wq_pure (v := .pointer (some ⟨b31, 2, none⟩)) tt_ok rfl rfl ?_
    refine wq_run rfl ?_
    refine wq_val (v := .int .i64 j41_n31.E) (val_load tt_ok rfl (List.Mem.tail _ (List.Mem.head _)) rfl) rfl ?_
    refine wq_run rfl ?_
    refine wq_pure (v := .bool (v106 != j41_n31.E)) tt_ok rfl rfl ?_
    simp only [Option.some.injEq, Prod.mk.injEq] at h
    obtain rfl := h
    have h := hg112; clear hg112
    refine wq_pure (v := .bool (v106 != j41_n31.E)) tt_ok rfl rfl ?_
    refine wq_pure tt_ok rfl rfl ?_
    replace h := bsome h; obtain ⟨v119, h, hg119⟩ := h
    refine wq_split (t := 113) rfl (fun hc => ?_) (fun hc => ?_)
    · replace h := ct hc h
      refine wq_skip rfl rfl ?_
      refine wq_skip rfl rfl ?_
      refine wq_skip rfl rfl ?_
      refine wq_skip rfl rfl ?_
      refine wq_skip rfl rfl ?_
      simp only [Option.some.injEq, Prod.mk.injEq] at h
      obtain rfl := h
      have h := hg119; clear hg119
      refine wq_pure (v := .bool true) tt_ok rfl rfl ?_
      refine wq_nil ?_
      refine wx_then ?_
      replace h := ct rfl h
      refine wc_cond_true rfl ?_
      refine wc_seq ?_
      refine wc_region ?_
      refine wl_pure tt_ok rfl rfl ?_
      refine wl_nil ?_
      refine wx_then ?_
      refine wc_ret ?_
      refine wx_block_ret ?_
      refine wx_then_ret ?_
      obtain rfl := Option.some.inj h
      have h := hl27; clear hl27; try dsimp only [orE_l, orE_r] at h
      refine wx_then_ret ?_
      refine wx_block_ret ?_
      refine wx_then_ret ?_
      simp only [Option.some.injEq] at h
      obtain rfl := h
      exact wx_pf tt_ok (.inl rfl) Try.results4 (Res.tmp rfl Res.nil) rfl
    replace h := cf hc h
    refine wq_run rfl ?_
    refine wq_pure tt_ok rfl rfl ?_
    replace h := bsome h; obtain ⟨v115, x115, h⟩ := h
    refine wq_run rfl ?_
    refine wq_cq Try.call25 rfl rfl rfl (q_rd (k_codec_Reader_Rest x115) (pCons Sel.hc pNil) (fun _ _ => trivial)) rfl ?_
    refine wq_run rfl ?_
    refine wq_pure tt_ok rfl rfl ?_
    replace h := bsome h; obtain ⟨v117, x117, h⟩ := h
    refine wq_run rfl ?_
    refine wq_cq Try.call26 rfl rfl rfl (q_rd (k_hindcastref02_Reader_Rest x117) (pCons (Sel.sc Sel.hc) pNil) (fun _ _ => trivial)) rfl ?_
    refine wq_run rfl ?_
    refine wq_val (v := .bool (!(v115 == v117))) (val_sne tt_ok rfl rfl) rfl ?_
    simp only [Option.some.injEq, Prod.mk.injEq] at h
    obtain rfl := h
    have h := hg119; clear hg119
    refine wq_pure (v := .bool (!(v115 == v117))) tt_ok rfl rfl ?_
    refine wq_nil ?_
    refine wx_then ?_
    refine wc_cond rfl (fun hc => ?_) (fun hc => ?_)
    · replace h := ct hc h
      refine wc_seq ?_
      refine wc_region ?_
      refine wl_pure tt_ok rfl rfl ?_
      refine wl_nil ?_
      refine wx_then ?_
      refine wc_ret ?_
      refine wx_block_ret ?_
      refine wx_then_ret ?_
      obtain rfl := Option.some.inj h
      have h := hl27; clear hl27; try dsimp only [orE_l, orE_r] at h
      refine wx_then_ret ?_
      refine wx_block_ret ?_
      refine wx_then_ret ?_
      simp only [Option.some.injEq] at h
      obtain rfl := h
      exact wx_pf tt_ok (.inl rfl) Try.results4 (Res.tmp rfl Res.nil) rfl
    replace h := cf hc h
    refine wc_skip ?_
    refine wx_block ?_
    refine wx_then ?_
    refine wc_region ?_
    refine wl_pure tt_ok rfl rfl ?_
    refine wl_pure (v := .int .i64 (IntKind.wrap .i64 (j27_7 + (1 : Int)))) tt_ok rfl rfl ?_
    refine wl_pure tt_ok rfl rfl ?_
    refine wl_nil ?_
    exact wx_round m27 (Nat.lt_succ_self m27) ⟨(IntKind.wrap .i64 (j27_7 + (1 : Int))), j41_n26_0, j41_n31, h, rfl, rfl⟩ (agree_cons rfl (agree_cons rfl (agree_cons rfl (agree_cons rfl (agree_cons rfl agree_nil))))) (pSub (pCons Sel.hc (pCons Sel.hc pNil)))
  replace h := cf hc h
  refine wc_exit ?_
  refine wx_then_exit ?_
  obtain rfl := Option.some.inj h
  have h := hl27; clear hl27; try dsimp only [orE_l, orE_r] at h
  refine wx_then_exit ?_
  refine wx_block_exit ?_
  refine wx_then ?_
  refine wc_seq ?_
  refine wc_region ?_
  replace h := bsome h; obtain ⟨v120, x120, h⟩ := h
  refine wl_cq Try.call9 rfl rfl rfl (q_pf (k_hindcastlaw02_works x120) (fun _ _ => trivial)) rfl ?_
  refine wl_pure tt_ok rfl rfl ?_
  refine wl_nil ?_
  refine wx_then ?_
  refine wc_ret ?_
  simp only [Option.some.injEq] at h
  obtain rfl := h
  exact wx_pf tt_ok (.inl rfl) Try.results4 (Res.tmp rfl Res.nil) rfl

theorem k_hindcastlaw02_get {F : Nat} {p0 : T_codec_Reader} {p0b p0t : Nat} {p1 : T_hindcastlaw02_Item} {r0 : T_codec_Reader} {r1 : Bool} (h : m_hindcastlaw02_get F p0 p1 = some (r0, r1)) :
    SpD Try.prog 32 [.pointer (some ⟨p0b, 0, none⟩), .agg #[.int .u8 p1.Kind, .int .u64 p1.N, .string ⟨p1.S.toArray⟩]] (⟨p0b, [.string ⟨p0.left.s.toArray⟩, .int .i64 p0.left.e], p0t, (0, 0)⟩ :: []) (fun w => True) (fun v D => v = .bool r1 ∧ D = fun F => (⟨p0b, [.string ⟨r0.left.s.toArray⟩, .int .i64 r0.left.e], p0t, (0, 0)⟩ :: F)) := by
  unfold m_hindcastlaw02_get at h
  refine sp_of_wc Try.func32 rfl Try.ntmps32 rfl rfl (fun w0 hR => ?_)
  refine wc_seq ?_
  refine wc_region ?_
  refine wl_box rfl rfl rfl (fun b3 => ?_)
  refine wl_pure tt_ok rfl rfl ?_
  refine wl_nil ?_
  refine wx_then ?_
  refine wc_seq ?_
  refine wc_seq ?_
  refine wc_region ?_
  refine wl_pure (v := .pointer (some ⟨b3, 0, none⟩)) tt_ok rfl rfl ?_
  refine wl_val (v := .int .u8 p1.Kind) (val_load tt_ok rfl (List.Mem.head _) rfl) rfl ?_
  refine wl_pure (v := .int .u8 (Int.tmod p1.Kind 7)) tt_ok rfl rfl ?_
  refine wl_nil ?_
  refine wx_then ?_
  refine wc_block ?_
  refine wc_seq ?_
  refine wc_region ?_
  refine wl_pure (v := .bool ((Int.tmod p1.Kind 7) == (0 : Int))) tt_ok rfl rfl ?_
  refine wl_pure tt_ok rfl rfl ?_
  refine wl_nil ?_
  refine wx_then ?_
  refine wc_cond rfl (fun hc => ?_) (fun hc => ?_)
  · replace h := ct hc h
    refine wc_seq ?_
    refine wc_k2 (Ls := (⟨b3, [.int .u8 p1.Kind, .int .u64 p1.N, .string ⟨p1.S.toArray⟩], 32, (0, 0)⟩ :: [])) [1, 5, 6] [5, 6] [0, 1, 0, 4, 12, 31, 63] [0, 2, 3, 4, 1, 5, 6] (by kernel_rfl) (by kernel_rfl) (by kernel_rfl) ?_
    refine k_val rfl rfl rfl (pSub (pCons Sel.hc pNil)) (stepV_ok tt_ok rfl) rfl ?_
    refine k_val (v := .pointer (some ⟨b3, 1, none⟩)) rfl rfl rfl (pSub (pCons Sel.hc pNil)) (stepV_ok tt_ok rfl) rfl ?_
    refine k_val (v := .int .u64 p1.N) rfl rfl rfl (pSub (pCons Sel.hc pNil)) (val_load tt_ok rfl (List.Mem.head _) rfl) rfl ?_
    refine k_val (v := .int .u8 (IntKind.wrap .u8 p1.N)) rfl rfl rfl (pSub (pCons Sel.hc pNil)) (stepV_ok tt_ok rfl) rfl ?_
    replace h := bsome h; obtain ⟨⟨o11_0, v11⟩, x11, h⟩ := h; try dsimp only at h
    refine k_cs rfl rfl rfl Try.call14 rfl rfl rfl (s_sp (k_codec_Reader_U8 x11) (pCons (Sel.sc Sel.hc) pNil) (fun _ _ => trivial)) rfl (.inr (by rintro _ _ ⟨_, ⟨rfl, rfl⟩, rfl⟩; exact ⟨_, (pCons (Sel.sc Sel.hc) pNil)⟩)) ?_
    rintro _ _ ⟨_, ⟨rfl, rfl⟩, rfl⟩
    refine k_chg rfl rfl rfl (Chg.of_val (v := .bool (v11 == (IntKind.wrap .u8 p1.N))) (stepV_ok tt_ok rfl)) rfl (.inl rfl) ?_
    rintro _ _ ⟨rfl, rfl⟩
    refine k_chg rfl rfl rfl (Chg.of_val (stepV_ok tt_ok rfl)) rfl (.inl rfl) ?_
    rintro _ _ ⟨rfl, rfl⟩
    refine k_end (by kernel_rfl) ?_
    refine wx_then ?_
    refine wc_ret ?_
    refine wx_block_ret ?_
    refine wx_then_ret ?_
    simp only [Option.some.injEq, Prod.mk.injEq] at h
    obtain ⟨rfl, rfl⟩ := h
    exact wx_spD tt_ok (.inl rfl) Try.results32 (Res.tmp rfl Res.nil) ⟨rfl, rfl⟩ (fun F => by simp) (pSub (pCons Sel.hc pNil))
  replace h := cf hc h
  refine wc_seq ?_
  refine wc_region ?_
  refine wl_pure (v := .bool ((Int.tmod p1.Kind 7) == (1 : Int))) tt_ok rfl rfl ?_
  refine wl_pure tt_ok rfl rfl ?_
  refine wl_nil ?_
  refine wx_then ?_
  refine wc_cond rfl (fun hc => ?_) (fun hc => ?_)
  · replace h := ct hc h
    refine wc_seq ?_
    refine wc_k2 (Ls := (⟨b3, [.int .u8 p1.Kind, .int .u64 p1.N, .string ⟨p1.S.toArray⟩], 32, (0, 0)⟩ :: [])) [1, 5, 6] [5, 6] [0, 1, 0, 4, 12, 31, 63] [0, 2, 3, 4, 1, 5, 6] (by kernel_rfl) (by kernel_rfl) (by kernel_rfl) ?_
    refine k_val rfl rfl rfl (pSub (pCons Sel.hc pNil)) (stepV_ok tt_ok rfl) rfl ?_
    refine k_val (v := .pointer (some ⟨b3, 1, none⟩)) rfl rfl rfl (pSub (pCons Sel.hc pNil)) (stepV_ok tt_ok rfl) rfl ?_
    refine k_val (v := .int .u64 p1.N) rfl rfl rfl (pSub (pCons Sel.hc pNil)) (val_load tt_ok rfl (List.Mem.head _) rfl) rfl ?_
    refine k_val (v := .int .u16 (IntKind.wrap .u16 p1.N)) rfl rfl rfl (pSub (pCons Sel.hc pNil)) (stepV_ok tt_ok rfl) rfl ?_
    replace h := bsome h; obtain ⟨⟨o19_0, v19⟩, x19, h⟩ := h; try dsimp only at h
    refine k_cs rfl rfl rfl Try.call16 rfl rfl rfl (s_sp (k_codec_Reader_U16 x19) (pCons (Sel.sc Sel.hc) pNil) (fun _ _ => trivial)) rfl (.inr (by rintro _ _ ⟨_, ⟨rfl, rfl⟩, rfl⟩; exact ⟨_, (pCons (Sel.sc Sel.hc) pNil)⟩)) ?_
    rintro _ _ ⟨_, ⟨rfl, rfl⟩, rfl⟩
    refine k_chg rfl rfl rfl (Chg.of_val (v := .bool (v19 == (IntKind.wrap .u16 p1.N))) (stepV_ok tt_ok rfl)) rfl (.inl rfl) ?_
    rintro _ _ ⟨rfl, rfl⟩
    refine k_chg rfl rfl rfl (Chg.of_val (stepV_ok tt_ok rfl)) rfl (.inl rfl) ?_
    rintro _ _ ⟨rfl, rfl⟩
    refine k_end (by kernel_rfl) ?_
    refine wx_then ?_
    refine wc_ret ?_
    refine wx_block_ret ?_
    refine wx_then_ret ?_
    simp only [Option.some.injEq, Prod.mk.injEq] at h
    obtain ⟨rfl, rfl⟩ := h
    exact wx_spD tt_ok (.inl rfl) Try.results32 (Res.tmp rfl Res.nil) ⟨rfl, rfl⟩ (fun F => by simp) (pSub (pCons Sel.hc pNil))
  replace h := cf hc h
  refine wc_seq ?_
  refine wc_region ?_
  refine wl_pure (v := .bool ((Int.tmod p1.Kind 7) == (2 : Int))) tt_ok rfl rfl ?_
  refine wl_pure tt_ok rfl rfl ?_
  refine wl_nil ?_
  refine wx_then ?_
  refine wc_cond rfl (fun hc => ?_) (fun hc => ?_)
  · replace h := ct hc h
    refine wc_seq ?_
    refine wc_k2 (Ls := (⟨b3, [.int .u8 p1.Kind, .int .u64 p1.N, .string ⟨p1.S.toArray⟩], 32, (0, 0)⟩ :: [])) [1, 5, 6] [5, 6] [0, 1, 0, 4, 12, 31, 63] [0, 2, 3, 4, 1, 5, 6] (by kernel_rfl) (by kernel_rfl) (by kernel_rfl) ?_
    refine k_val rfl rfl rfl (pSub (pCons Sel.hc pNil)) (stepV_ok tt_ok rfl) rfl ?_
    refine k_val (v := .pointer (some ⟨b3, 1, none⟩)) rfl rfl rfl (pSub (pCons Sel.hc pNil)) (stepV_ok tt_ok rfl) rfl ?_
    refine k_val (v := .int .u64 p1.N) rfl rfl rfl (pSub (pCons Sel.hc pNil)) (val_load tt_ok rfl (List.Mem.head _) rfl) rfl ?_
    refine k_val (v := .int .u32 (IntKind.wrap .u32 p1.N)) rfl rfl rfl (pSub (pCons Sel.hc pNil)) (stepV_ok tt_ok rfl) rfl ?_
    replace h := bsome h; obtain ⟨⟨o27_0, v27⟩, x27, h⟩ := h; try dsimp only at h
    refine k_cs rfl rfl rfl Try.call17 rfl rfl rfl (s_sp (k_codec_Reader_U32 x27) (pCons (Sel.sc Sel.hc) pNil) (fun _ _ => trivial)) rfl (.inr (by rintro _ _ ⟨_, ⟨rfl, rfl⟩, rfl⟩; exact ⟨_, (pCons (Sel.sc Sel.hc) pNil)⟩)) ?_
    rintro _ _ ⟨_, ⟨rfl, rfl⟩, rfl⟩
    refine k_chg rfl rfl rfl (Chg.of_val (v := .bool (v27 == (IntKind.wrap .u32 p1.N))) (stepV_ok tt_ok rfl)) rfl (.inl rfl) ?_
    rintro _ _ ⟨rfl, rfl⟩
    refine k_chg rfl rfl rfl (Chg.of_val (stepV_ok tt_ok rfl)) rfl (.inl rfl) ?_
    rintro _ _ ⟨rfl, rfl⟩
    refine k_end (by kernel_rfl) ?_
    refine wx_then ?_
    refine wc_ret ?_
    refine wx_block_ret ?_
    refine wx_then_ret ?_
    simp only [Option.some.injEq, Prod.mk.injEq] at h
    obtain ⟨rfl, rfl⟩ := h
    exact wx_spD tt_ok (.inl rfl) Try.results32 (Res.tmp rfl Res.nil) ⟨rfl, rfl⟩ (fun F => by simp) (pSub (pCons Sel.hc pNil))
  replace h := cf hc h
  refine wc_seq ?_
  refine wc_region ?_
  refine wl_pure (v := .bool ((Int.tmod p1.Kind 7) == (3 : Int))) tt_ok rfl rfl ?_
  refine wl_pure tt_ok rfl rfl ?_
  refine wl_nil ?_
  refine wx_then ?_
  refine wc_cond rfl (fun hc => ?_) (fun hc => ?_)
  · replace h := ct hc h
    refine wc_seq ?_
    refine wc_k2 (Ls := (⟨b3, [.int .u8 p1.Kind, .int .u64 p1.N, .string ⟨p1.S.toArray⟩], 32, (0, 0)⟩ :: [])) [1, 4, 5] [4, 5] [0, 1, 0, 4, 15, 31] [0, 2, 3, 1, 4, 5] (by kernel_rfl) (by kernel_rfl) (by kernel_rfl) ?_
    refine k_val rfl rfl rfl (pSub (pCons Sel.hc pNil)) (stepV_ok tt_ok rfl) rfl ?_
    refine k_val (v := .pointer (some ⟨b3, 1, none⟩)) rfl rfl rfl (pSub (pCons Sel.hc pNil)) (stepV_ok tt_ok rfl) rfl ?_
    refine k_val (v := .int .u64 p1.N) rfl rfl rfl (pSub (pCons Sel.hc pNil)) (val_load tt_ok rfl (List.Mem.head _) rfl) rfl ?_
    replace h := bsome h; obtain ⟨⟨o35_0, v35⟩, x35, h⟩ := h; try dsimp only at h
    refine k_cs rfl rfl rfl Try.call18 rfl rfl rfl (s_sp (k_codec_Reader_U64 x35) (pCons (Sel.sc Sel.hc) pNil) (fun _ _ => trivial)) rfl (.inr (by rintro _ _ ⟨_, ⟨rfl, rfl⟩, rfl⟩; exact ⟨_, (pCons (Sel.sc Sel.hc) pNil)⟩)) ?_
    rintro _ _ ⟨_, ⟨rfl, rfl⟩, rfl⟩
    refine k_chg rfl rfl rfl (Chg.of_val (v := .bool (v35 == p1.N)) (stepV_ok tt_ok rfl)) rfl (.inl rfl) ?_
    rintro _ _ ⟨rfl, rfl⟩
    refine k_chg rfl rfl rfl (Chg.of_val (stepV_ok tt_ok rfl)) rfl (.inl rfl) ?_
    rintro _ _ ⟨rfl, rfl⟩
    refine k_end (by kernel_rfl) ?_
    refine wx_then ?_
    refine wc_ret ?_
    refine wx_block_ret ?_
    refine wx_then_ret ?_
    simp only [Option.some.injEq, Prod.mk.injEq] at h
    obtain ⟨rfl, rfl⟩ := h
    exact wx_spD tt_ok (.inl rfl) Try.results32 (Res.tmp rfl Res.nil) ⟨rfl, rfl⟩ (fun F => by simp) (pSub (pCons Sel.hc pNil))
  replace h := cf hc h
  refine wc_seq ?_
  refine wc_region ?_
  refine wl_pure (v := .bool ((Int.tmod p1.Kind 7) == (4 : Int))) tt_ok rfl rfl ?_
  refine wl_pure tt_ok rfl rfl ?_
  refine wl_nil ?_
  refine wx_then ?_
  refine wc_cond rfl (fun hc => ?_) (fun hc => ?_)
  · replace h := ct hc h
    refine wc_seq ?_
    refine wc_k2 (Ls := (⟨b3, [.int .u8 p1.Kind, .int .u64 p1.N, .string ⟨p1.S.toArray⟩], 32, (0, 0)⟩ :: [])) [1, 5, 6] [5, 6] [0, 1, 0, 4, 12, 31, 63] [0, 2, 3, 4, 1, 5, 6] (by kernel_rfl) (by kernel_rfl) (by kernel_rfl) ?_
    refine k_val rfl rfl rfl (pSub (pCons Sel.hc pNil)) (stepV_ok tt_ok rfl) rfl ?_
    refine k_val (v := .pointer (some ⟨b3, 1, none⟩)) rfl rfl rfl (pSub (pCons Sel.hc pNil)) (stepV_ok tt_ok rfl) rfl ?_
    refine k_val (v := .int .u64 p1.N) rfl rfl rfl (pSub (pCons Sel.hc pNil)) (val_load tt_ok rfl (List.Mem.head _) rfl) rfl ?_
    refine k_val (v := .int .i32 (IntKind.wrap .i32 p1.N)) rfl rfl rfl (pSub (pCons Sel.hc pNil)) (stepV_ok tt_ok rfl) rfl ?_
    replace h := bsome h; obtain ⟨⟨o42_0, v42⟩, x42, h⟩ := h; try dsimp only at h
    refine k_cs rfl rfl rfl Try.call19 rfl rfl rfl (s_sp (k_codec_Reader_I32 x42) (pCons (Sel.sc Sel.hc) pNil) (fun _ _ => trivial)) rfl (.inr (by rintro _ _ ⟨_, ⟨rfl, rfl⟩, rfl⟩; exact ⟨_, (pCons (Sel.sc Sel.hc) pNil)⟩)) ?_
    rintro _ _ ⟨_, ⟨rfl, rfl⟩, rfl⟩
    refine k_chg rfl rfl rfl (Chg.of_val (v := .bool (v42 == (IntKind.wrap .i32 p1.N))) (stepV_ok tt_ok rfl)) rfl (.inl rfl) ?_
    rintro _ _ ⟨rfl, rfl⟩
    refine k_chg rfl rfl rfl (Chg.of_val (stepV_ok tt_ok rfl)) rfl (.inl rfl) ?_
    rintro _ _ ⟨rfl, rfl⟩
    refine k_end (by kernel_rfl) ?_
    refine wx_then ?_
    refine wc_ret ?_
    refine wx_block_ret ?_
    refine wx_then_ret ?_
    simp only [Option.some.injEq, Prod.mk.injEq] at h
    obtain ⟨rfl, rfl⟩ := h
    exact wx_spD tt_ok (.inl rfl) Try.results32 (Res.tmp rfl Res.nil) ⟨rfl, rfl⟩ (fun F => by simp) (pSub (pCons Sel.hc pNil))
  replace h := cf hc h
  refine wc_seq ?_
  refine wc_region ?_
  refine wl_pure (v := .bool ((Int.tmod p1.Kind 7) == (5 : Int))) tt_ok rfl rfl ?_
  refine wl_pure tt_ok rfl rfl ?_
  refine wl_nil ?_
  refine wx_then ?_
  refine wc_cond rfl (fun hc => ?_) (fun hc => ?_)
  · replace h := ct hc h
    refine wc_seq ?_
    refine wc_k2 (Ls := (⟨b3, [.int .u8 p1.Kind, .int .u64 p1.N, .string ⟨p1.S.toArray⟩], 32, (0, 0)⟩ :: [])) [1, 4, 5] [4, 5] [0, 1, 0, 4, 15, 31] [0, 2, 3, 1, 4, 5] (by kernel_rfl) (by kernel_rfl) (by kernel_rfl) ?_
    refine k_val rfl rfl rfl (pSub (pCons Sel.hc pNil)) (stepV_ok tt_ok rfl) rfl ?_
    refine k_val (v := .pointer (some ⟨b3, 1, none⟩)) rfl rfl rfl (pSub (pCons Sel.hc pNil)) (stepV_ok tt_ok rfl) rfl ?_
    refine k_val (v := .int .u64 p1.N) rfl rfl rfl (pSub (pCons Sel.hc pNil)) (val_load tt_ok rfl (List.Mem.head _) rfl) rfl ?_
    replace h := bsome h; obtain ⟨⟨o50_0, v50⟩, x50, h⟩ := h; try dsimp only at h
    refine k_cs rfl rfl rfl Try.call20 rfl rfl rfl (s_sp (k_codec_Reader_Var x50) (pCons (Sel.sc Sel.hc) pNil) (fun _ _ => trivial)) rfl (.inr (by rintro _ _ ⟨_, ⟨rfl, rfl⟩, rfl⟩; exact ⟨_, (pCons (Sel.sc Sel.hc) pNil)⟩)) ?_
    rintro _ _ ⟨_, ⟨rfl, rfl⟩, rfl⟩
    refine k_chg rfl rfl rfl (Chg.of_val (v := .bool (v50 == p1.N)) (stepV_ok tt_ok rfl)) rfl (.inl rfl) ?_
    rintro _ _ ⟨rfl, rfl⟩
    refine k_chg rfl rfl rfl (Chg.of_val (stepV_ok tt_ok rfl)) rfl (.inl rfl) ?_
    rintro _ _ ⟨rfl, rfl⟩
    refine k_end (by kernel_rfl) ?_
    refine wx_then ?_
    refine wc_ret ?_
    refine wx_block_ret ?_
    refine wx_then_ret ?_
    simp only [Option.some.injEq, Prod.mk.injEq] at h
    obtain ⟨rfl, rfl⟩ := h
    exact wx_spD tt_ok (.inl rfl) Try.results32 (Res.tmp rfl Res.nil) ⟨rfl, rfl⟩ (fun F => by simp) (pSub (pCons Sel.hc pNil))
  replace h := cf hc h
  refine wc_skip ?_
  refine wx_block ?_
  refine wx_then ?_
  refine wc_seq ?_
  refine wc_k2 (Ls := (⟨b3, [.int .u8 p1.Kind, .int .u64 p1.N, .string ⟨p1.S.toArray⟩], 32, (0, 0)⟩ :: [])) [1, 4, 5] [4, 5] [0, 1, 0, 4, 15, 31] [0, 2, 3, 1, 4, 5] (by kernel_rfl) (by kernel_rfl) (by kernel_rfl) ?_
  refine k_val rfl rfl rfl (pSub (pCons Sel.hc pNil)) (stepV_ok tt_ok rfl) rfl ?_
  refine k_val (v := .pointer (some ⟨b3, 2, none⟩)) rfl rfl rfl (pSub (pCons Sel.hc pNil)) (stepV_ok tt_ok rfl) rfl ?_
  refine k_val (v := .string ⟨p1.S.toArray⟩) rfl rfl rfl (pSub (pCons Sel.hc pNil)) (val_load tt_ok rfl (List.Mem.head _) rfl) rfl ?_
  replace h := bsome h; obtain ⟨⟨o55_0, v55⟩, x55, h⟩ := h; try dsimp only at h
  refine k_cs rfl rfl rfl Try.call22 rfl rfl rfl (s_sp (k_codec_Reader_Text x55) (pCons (Sel.sc Sel.hc) pNil) (fun _ _ => trivial)) rfl (.inr (by rintro _ _ ⟨_, ⟨rfl, rfl⟩, rfl⟩; exact ⟨_, (pCons (Sel.sc Sel.hc) pNil)⟩)) ?_
  rintro _ _ ⟨_, ⟨rfl, rfl⟩, rfl⟩
  refine k_chg rfl rfl rfl (Chg.of_val (v := .bool (v55 == p1.S)) (val_seq tt_ok rfl rfl)) rfl (.inl rfl) ?_
  rintro _ _ ⟨rfl, rfl⟩
  refine k_chg rfl rfl rfl (Chg.of_val (stepV_ok tt_ok rfl)) rfl (.inl rfl) ?_
  rintro _ _ ⟨rfl, rfl⟩
  refine k_end (by kernel_rfl) ?_
  refine wx_then ?_
  refine wc_ret ?_
  simp only [Option.some.injEq, Prod.mk.injEq] at h
  obtain ⟨rfl, rfl⟩ := h
  exact wx_spD tt_ok (.inl rfl) Try.results32 (Res.tmp rfl Res.nil) ⟨rfl, rfl⟩ (fun F => by simp) (pSub (pCons Sel.hc pNil))

theorem k_hindcastlaw02_CodecBack {F : Nat} {p0 : (List T_hindcastlaw02_Item)} {p0a0 : Option Addr} {p0n0 p0c0 : Nat} {p1 : (List UInt8)} {p2 : Int} {r0 : Bool} (p0N0 : p0n0 = p0.length) (p0H0 : p0n0 ≤ p0c0) (h : m_hindcastlaw02_CodecBack F p0 p1 p2 = some r0) :
    Pf Try.prog 6 [.slice p0a0 p0n0 p0c0, .string ⟨p1.toArray⟩, .int .u16 p2] (fun w => Rds w [] [] p0a0 (flat c_T_hindcastlaw02_Item p0)) (.bool r0) := by
  unfold m_hindcastlaw02_CodecBack at h
  refine pf_of_wc Try.func6 rfl Try.ntmps6 rfl rfl (fun w0 hR => ?_)
  have p0S0 := hR
  refine wc_seq ?_
  refine wc_region ?_
  refine wl_pure tt_ok rfl rfl ?_
  refine wl_nil ?_
  refine wx_then ?_
  refine wc_seq ?_
  refine wc_seq ?_
  refine wc_region ?_
  refine wl_pure tt_ok rfl rfl ?_
  replace h := bsome h; obtain ⟨v15, x15, h⟩ := h
  refine wl_cq Try.call8 rfl rfl rfl (q_pf (k_hindcastlaw02_few (p0 := p0) p0N0 p0H0 x15) (Rds.call p0S0 pNil rsub_nil)) rfl ?_
  refine wl_pure (v := .bool (!v15)) tt_ok rfl rfl ?_
  refine wl_pure tt_ok rfl rfl ?_
  replace h := bsome h; obtain ⟨v21, h, hg21⟩ := h
  refine wl_split (t := 17) rfl (fun hc => ?_) (fun hc => ?_)
  · replace h := ct hc h
    refine wl_skip rfl rfl ?_
    refine wl_skip rfl rfl ?_
    refine wl_skip rfl rfl ?_
    simp only [Option.some.injEq, Prod.mk.injEq] at h
    obtain rfl := h
    have h := hg21; clear hg21
    refine wl_pure (v := .bool true) tt_ok rfl rfl ?_
    refine wl_nil ?_
    refine wx_then ?_
    replace h := ct rfl h
    refine wc_cond_true rfl ?_
    refine wc_seq ?_
    refine wc_region ?_
    replace h := bsome h; obtain ⟨v22, x22, h⟩ := h
    refine wl_cq Try.call9 rfl rfl rfl (q_pf (k_hindcastlaw02_works x22) (fun _ _ => trivial)) rfl ?_
    refine wl_pure tt_ok rfl rfl ?_
    refine wl_nil ?_
    refine wx_then ?_
    refine wc_ret ?_
    refine wx_then_ret ?_
    simp only [Option.some.injEq] at h
    obtain rfl := h
    exact wx_pf tt_ok (.inl rfl) Try.results6 (Res.tmp rfl Res.nil) rfl
  replace h := cf hc h
  refine wl_run rfl ?_
  refine wl_pure tt_ok rfl rfl ?_
  refine wl_run rfl ?_
  refine wl_pure (v := .int .i64 (p1.length : Int)) tt_ok rfl rfl ?_
  refine wl_run rfl ?_
  refine wl_pure (v := .bool (decide ((1000 : Int) < (p1.length : Int)))) tt_ok rfl rfl ?_
  simp only [Option.some.injEq, Prod.mk.injEq] at h
  obtain rfl := h
  have h := hg21; clear hg21
  refine wl_pure (v := .bool (decide ((1000 : Int) < (p1.length : Int)))) tt_ok rfl rfl ?_
  refine wl_nil ?_
  refine wx_then ?_
  refine wc_cond rfl (fun hc => ?_) (fun hc => ?_)
  · replace h := ct hc h
    refine wc_seq ?_
    refine wc_region ?_
    replace h := bsome h; obtain ⟨v22, x22, h⟩ := h
    refine wl_cq Try.call9 rfl rfl rfl (q_pf (k_hindcastlaw02_works x22) (fun _ _ => trivial)) rfl ?_
    refine wl_pure tt_ok rfl rfl ?_
    refine wl_nil ?_
    refine wx_then ?_
    refine wc_ret ?_
    refine wx_then_ret ?_
    simp only [Option.some.injEq] at h
    obtain rfl := h
    exact wx_pf tt_ok (.inl rfl) Try.results6 (Res.tmp rfl Res.nil) rfl
  replace h := cf hc h
  refine wc_skip ?_
  refine wx_then ?_
  refine wc_seq ?_
  refine wc_region ?_
  refine wl_pure (v := .agg #[.slice none 0 0]) tt_ok rfl rfl ?_
  refine wl_box rfl rfl rfl (fun b24 => ?_)
  refine wl_pure tt_ok rfl rfl ?_
  refine wl_nil ?_
  refine wx_then ?_
  refine wc_seq ?_
  refine wc_seq ?_
  refine wc_region ?_
  refine wl_pure tt_ok rfl rfl ?_
  refine wl_nil ?_
  refine wx_then ?_
  refine wc_block ?_
  replace h := bsome h; obtain ⟨l17_n24_f0, h, hl17⟩ := h
  refine wc_loop (fun m E L => ∃ (j17_8 : Int) (j17_n24_f0 : (List Int)) (j17_n24_f0a0 : Option Addr) (j17_n24_f0n0 : Nat) (j17_n24_f0c0 : Nat) (j17_n24_f0B0 : List Blk), m_hindcastlaw02_CodecBack_L16 F p0 m j17_8 j17_n24_f0 = some l17_n24_f0 ∧ j17_n24_f0n0 = j17_n24_f0.length ∧ Own 5 1 j17_n24_f0a0 j17_n24_f0n0 j17_n24_f0c0 (flat (e1 .u8) j17_n24_f0) j17_n24_f0B0 ∧ E = [(0, .slice p0a0 p0n0 p0c0), (1, .string ⟨p1.toArray⟩), (2, .int .u16 p2), (6, .bool false), (7, .pointer (some ⟨b24, 0, none⟩)), (8, .int .i64 j17_8)] ∧ L = (⟨b24, [.slice j17_n24_f0a0 j17_n24_f0n0 j17_n24_f0c0], 28, (0, 0)⟩ :: (j17_n24_f0B0 ++ []))) F ⟨(0 : Int), ([] : List Int), none, 0, 0, [], h, rfl, Own.zero, rfl, rfl⟩ (agree_cons rfl (agree_cons rfl (agree_cons rfl (agree_cons rfl (agree_cons rfl (agree_cons rfl agree_nil)))))) (pSub (pCons Sel.hc (pNo pNil))) ?_
  clear h
  rintro m17 _ _ ⟨j17_8, j17_n24_f0, j17_n24_f0a0, j17_n24_f0n0, j17_n24_f0c0, j17_n24_f0B0, h, j17_n24_f0N0, j17_n24_f0V0, rfl, rfl⟩
  rcases m17 with _ | m17
  · rw [m_hindcastlaw02_CodecBack_L16.eq_1] at h; cases h
  rw [m_hindcastlaw02_CodecBack_L16.eq_2] at h
  refine wc_seq ?_
  refine wc_seq ?_
  refine wc_region ?_
  refine wl_pure tt_ok rfl rfl ?_
  refine wl_pure tt_ok rfl rfl ?_
  refine wl_val (v := .int .i64 (p0.length : Int)) (val_len tt_ok rfl rfl p0N0) rfl ?_
  refine wl_pure (v := .bool (decide (j17_8 < (p0.length : Int)))) tt_ok rfl rfl ?_
  refine wl_nil ?_
  refine wx_then ?_
  refine wc_cond rfl (fun hc => ?_) (fun hc => ?_)
  · replace h := ct hc h
    refine wc_skip ?_
    refine wx_then ?_
    refine wc_seq ?_
    refine wc_block ?_
    refine wc_region ?_
    refine wl_pure tt_ok rfl rfl ?_
    refine wl_pure tt_ok rfl rfl ?_
    refine wl_pure tt_ok rfl rfl ?_
    replace h := bsome h; obtain ⟨v34, x34, h⟩ := h
    refine wl_val (v := .pointer (some ((adOf p0a0).add (j17_8.toNat * 3 + 0)))) (val_ix (enc := c_T_hindcastlaw02_Item) tt_ok rfl rfl rfl rfl p0N0 p0S0 c_T_hindcastlaw02_Item_len rfl x34) rfl ?_
    refine wl_val (v := .agg #[.int .u8 v34.Kind, .int .u64 v34.N, .string ⟨v34.S.toArray⟩]) (val_le (enc := c_T_hindcastlaw02_Item) (xs := p0) tt_ok rfl p0S0 rsub_nil c_T_hindcastlaw02_Item_len x34 rfl) rfl ?_
    replace h := bsome h; obtain ⟨o36_0, x36, h⟩ := h
    refine wl_cs Try.call10 rfl rfl rfl (s_sp (k_hindcastlaw02_put (p0 := (T_codec_Writer.mk j17_n24_f0)) j17_n24_f0N0 j17_n24_f0V0 x36) (pCons Sel.hc (pApp Sel.ha pNil)) (fun _ _ => trivial)) rfl ?_
    rintro _ _ ⟨_, ⟨o36_0a0, o36_0n0, o36_0c0, o36_0B0, o36_0N0, o36_0V0, rfl, rfl⟩, rfl⟩
    refine wl_nil ?_
    refine wx_block ?_
    refine wx_then ?_
    refine wc_region ?_
    refine wl_pure tt_ok rfl rfl ?_
    refine wl_pure (v := .int .i64 (IntKind.wrap .i64 (j17_8 + (1 : Int)))) tt_ok rfl rfl ?_
    refine wl_pure tt_ok rfl rfl ?_
    refine wl_nil ?_
    exact wx_round m17 (Nat.lt_succ_self m17) ⟨(IntKind.wrap .i64 (j17_8 + (1 : Int))), o36_0.b, o36_0a0, o36_0n0, o36_0c0, o36_0B0, h, o36_0N0, o36_0V0, rfl, rfl⟩ (agree_cons rfl (agree_cons rfl (agree_cons rfl (agree_cons rfl (agree_cons rfl (agree_cons rfl agree_nil)))))) (pSub (pCons Sel.hc (pApp Sel.ha pNil)))
  replace h := cf hc h
  refine wc_exit ?_
  refine wx_then_exit ?_
  simp only [Option.some.injEq] at h
  obtain rfl := h
  have h := hl17; clear hl17; try dsimp only [orE_l, orE_r] at h
  refine wx_then_exit ?_
  refine wx_block_exit ?_
  refine wx_then ?_
  refine wc_seq ?_
  refine wc_region ?_
  refine wl_pure tt_ok rfl rfl ?_
  replace h := bsome h; obtain ⟨v38, x38, h⟩ := h
  refine wl_cq Try.call12 rfl rfl rfl (q_rd (k_codec_Writer_Bytes (p0 := (T_codec_Writer.mk j17_n24_f0)) j17_n24_f0N0 j17_n24_f0V0 x38) (pCons Sel.hc (pApp Sel.ha pNil)) (fun _ _ => trivial)) rfl ?_
  refine wl_pure tt_ok rfl rfl ?_
  refine wl_nil ?_
  refine wx_then ?_
  refine wc_seq ?_
  refine wc_region ?_
  refine wl_pure tt_ok rfl rfl ?_
  refine wl_pure tt_ok rfl rfl ?_
  replace h := bsome h; obtain ⟨v41, x41, h⟩ := h
  refine wl_val (v := .string ⟨v41.toArray⟩) (val_cat tt_ok rfl rfl x41) rfl ?_
  replace h := bsome h; obtain ⟨v42, x42, h⟩ := h
  refine wl_cs Try.call13 rfl rfl rfl (s_sp (k_codec_New x42) pNil (fun _ _ => trivial)) rfl ?_
  rintro _ _ ⟨_, ⟨b42_0, rfl, rfl⟩, rfl⟩
  refine wl_pure tt_ok rfl rfl ?_
  refine wl_nil ?_
  refine wx_then ?_
  refine wc_seq ?_
  refine wc_seq ?_
  refine wc_region ?_
  refine wl_pure tt_ok rfl rfl ?_
  refine wl_pure (v := .bool false) tt_ok rfl rfl ?_
  refine wl_nil ?_
  refine wx_then ?_
  refine wc_cond_false rfl ?_
  refine wc_skip ?_
  refine wx_then ?_
  refine wc_seq ?_
  refine wc_seq ?_
  refine wc_region ?_
  refine wl_pure tt_ok rfl rfl ?_
  refine wl_nil ?_
  refine wx_then ?_
  refine wc_block ?_
  replace h := bsome h; obtain ⟨o44, h, hl44⟩ := h
  refine wc_loop (fun m E L => ∃ (j44_11 : Int) (j44_n42_0 : T_codec_Reader), m_hindcastlaw02_CodecBack_L43 F p0 m j44_11 j44_n42_0 = some o44 ∧ E = [(0, .slice p0a0 p0n0 p0c0), (1, .string ⟨p1.toArray⟩), (2, .int .u16 p2), (6, .bool false), (9, .string ⟨v38.toArray⟩), (10, .pointer (some ⟨b42_0, 0, none⟩)), (11, .int .i64 j44_11)] ∧ L = (⟨b42_0, [.string ⟨j44_n42_0.left.s.toArray⟩, .int .i64 j44_n42_0.left.e], 67, (0, 0)⟩ :: [])) F ⟨(0 : Int), v42, h, rfl, rfl⟩ (agree_cons rfl (agree_cons rfl (agree_cons rfl (agree_cons rfl (agree_cons rfl (agree_cons rfl (agree_cons rfl agree_nil))))))) (pSub (pCons Sel.hc pNil)) ?_
  clear h
  rintro m44 _ _ ⟨j44_11, j44_n42_0, h, rfl, rfl⟩
  rcases m44 with _ | m44
  · rw [m_hindcastlaw02_CodecBack_L43.eq_1] at h; cases h
  rw [m_hindcastlaw02_CodecBack_L43.eq_2] at h
  refine wc_seq ?_
  refine wc_seq ?_
  refine wc_region ?_
  refine wl_pure tt_ok rfl rfl ?_
  refine wl_pure tt_ok rfl rfl ?_
  refine wl_val (v := .int .i64 (p0.length : Int)) (val_len tt_ok rfl rfl p0N0) rfl ?_
  refine wl_pure (v := .bool (decide (j44_11 < (p0.length : Int)))) tt_ok rfl rfl ?_
  refine wl_nil ?_
  refine wx_then ?_
  refine wc_cond rfl (fun hc => ?_) (fun hc => ?_)
  · replace h := ct hc h
    refine wc_skip ?_
    refine wx_then ?_
    refine wc_seq ?_
    refine wc_block ?_
    refine wc_seq ?_
    refine wc_region ?_
    refine wl_pure tt_ok rfl rfl ?_
    refine wl_pure tt_ok rfl rfl ?_
    refine wl_pure tt_ok rfl rfl ?_
    replace h := bsome h; obtain ⟨v54, x54, h⟩ := h
    refine wl_val (v := .pointer (some ((adOf p0a0).add (j44_11.toNat * 3 + 0)))) (val_ix (enc := c_T_hindcastlaw02_Item) tt_ok rfl rfl rfl rfl p0N0 p0S0 c_T_hindcastlaw02_Item_len rfl x54) rfl ?_
    refine wl_val (v := .agg #[.int .u8 v54.Kind, .int .u64 v54.N, .string ⟨v54.S.toArray⟩]) (val_le (enc := c_T_hindcastlaw02_Item) (xs := p0) tt_ok rfl p0S0 rsub_nil c_T_hindcastlaw02_Item_len x54 rfl) rfl ?_
    replace h := bsome h; obtain ⟨⟨o56_0, v56⟩, x56, h⟩ := h; try dsimp only at h
    refine wl_cs Try.call32 rfl rfl rfl (s_sp (k_hindcastlaw02_get x56) (pCons Sel.hc pNil) (fun _ _ => trivial)) rfl ?_
    rintro _ _ ⟨_, ⟨rfl, rfl⟩, rfl⟩
    refine wl_pure (v := .bool (!v56)) tt_ok rfl rfl ?_
    refine wl_nil ?_
    refine wx_then ?_
    refine wc_cond rfl (fun hc => ?_) (fun hc => ?_)
    · replace h := ct hc h
      refine wc_seq ?_
      refine wc_region ?_
      refine wl_pure tt_ok rfl rfl ?_
      refine wl_nil ?_
      refine wx_then ?_
      refine wc_ret ?_
      refine wx_block_ret ?_
      refine wx_then_ret ?_
      obtain rfl := Option.some.inj h
      have h := hl44; clear hl44; try dsimp only [orE_l, orE_r] at h
      refine wx_then_ret ?_
      refine wx_block_ret ?_
      refine wx_then_ret ?_
      simp only [Option.some.injEq] at h
      obtain rfl := h
      exact wx_pf tt_ok (.inl rfl) Try.results6 (Res.tmp rfl Res.nil) rfl
    replace h := cf hc h
    refine wc_skip ?_
    refine wx_block ?_
    refine wx_then ?_
    refine wc_region ?_
    refine wl_pure tt_ok rfl rfl ?_
    refine wl_pure (v := .int .i64 (IntKind.wrap .i64 (j44_11 + (1 : Int)))) tt_ok rfl rfl ?_
    refine wl_pure tt_ok rfl rfl ?_
    refine wl_nil ?_
    exact wx_round m44 (Nat.lt_succ_self m44) ⟨(IntKind.wrap .i64 (j44_11 + (1 : Int))), o56_0, h, rfl, rfl⟩ (agree_cons rfl (agree_cons rfl (agree_cons rfl (agree_cons rfl (agree_cons rfl (agree_cons rfl (agree_cons rfl agree_nil))))))) (pSub (pCons Sel.hc pNil))
  replace h := cf hc h
  refine wc_exit ?_
  refine wx_then_exit ?_
  obtain rfl := Option.some.inj h
  have h := hl44; clear hl44; try dsimp only [orE_l, orE_r] at h
  refine wx_then_exit ?_
  refine wx_block_exit ?_
  refine wx_then ?_
  refine wc_seq ?_
  refine wc_seq ?_
  refine wc_region ?_
  refine wl_pure tt_ok rfl rfl ?_
  replace h := bsome h; obtain ⟨v59, x59, h⟩ := h
  refine wl_cq Try.call24 rfl rfl rfl (q_rd (k_codec_Reader_Err x59) (pCons Sel.hc pNil) (fun _ _ => trivial)) rfl ?_
  refine wl_pure (v := .bool (v59 != (0 : Int))) tt_ok rfl rfl ?_
  refine wl_pure tt_ok rfl rfl ?_
  replace h := bsome h; obtain ⟨v66, h, hg66⟩ := h
  refine wl_split (t := 61) rfl (fun hc => ?_) (fun hc => ?_)
  · replace h := ct hc h
    refine wl_skip rfl rfl ?_
    refine wl_skip rfl rfl ?_
    refine wl_skip rfl rfl ?_
    refine wl_skip rfl rfl ?_
    simp only [Option.some.injEq, Prod.mk.injEq] at h
    obtain rfl := h
    have h := hg66; clear hg66
    refine wl_pure (v := .bool true) tt_ok rfl rfl ?_
    refine wl_nil ?_
    refine wx_then ?_
    replace h := ct rfl h
    refine wc_cond_true rfl ?_
    refine wc_seq ?_
    refine wc_region ?_
    refine wl_pure tt_ok rfl rfl ?_
    refine wl_nil ?_
    refine wx_then ?_
    refine wc_ret ?_
    refine wx_then_ret ?_
    simp only [Option.some.injEq] at h
    obtain rfl := h
    exact wx_pf tt_ok (.inl rfl) Try.results6 (Res.tmp rfl Res.nil) rfl
  replace h := cf hc h
  refine wl_run rfl ?_
  refine wl_pure tt_ok rfl rfl ?_
  replace h := bsome h; obtain ⟨v63, x63, h⟩ := h
  refine wl_run rfl ?_
  refine wl_cq Try.call25 rfl rfl rfl (q_rd (k_codec_Reader_Rest x63) (pCons Sel.hc pNil) (fun _ _ => trivial)) rfl ?_
  refine wl_run rfl ?_
  refine wl_pure tt_ok rfl rfl ?_
  refine wl_run rfl ?_
  refine wl_val (v := .bool (!(v63 == p1))) (val_sne tt_ok rfl rfl) rfl ?_
  simp only [Option.some.injEq, Prod.mk.injEq] at h
  obtain rfl := h
  have h := hg66; clear hg66
  refine wl_pure (v := .bool (!(v63 == p1))) tt_ok rfl rfl ?_
  refine wl_nil ?_
  refine wx_then ?_
  refine wc_cond rfl (fun hc => ?_) (fun hc => ?_)
  · replace h := ct hc h
    refine wc_seq ?_
    refine wc_region ?_
    refine wl_pure tt_ok rfl rfl ?_
    refine wl_nil ?_
    refine wx_then ?_
    refine wc_ret ?_
    refine wx_then_ret ?_
    simp only [Option.some.injEq] at h
    obtain rfl := h
    exact wx_pf tt_ok (.inl rfl) Try.results6 (Res.tmp rfl Res.nil) rfl
  replace h := cf hc h
  refine wc_skip ?_
  refine wx_then ?_
  refine wc_seq ?_
  refine wc_seq ?_
  refine wc_region ?_
  refine wl_pure tt_ok rfl rfl ?_
  refine wl_pure (v := .int .i64 (v38.length : Int)) tt_ok rfl rfl ?_
  refine wl_pure (v := .bool ((v38.length : Int) == (0 : Int))) tt_ok rfl rfl ?_
  refine wl_nil ?_
  refine wx_then ?_
  refine wc_cond rfl (fun hc => ?_) (fun hc => ?_)
  · replace h := ct hc h
    refine wc_seq ?_
    refine wc_region ?_
    refine wl_pure tt_ok rfl rfl ?_
    refine wl_val (v := .int .i64 (p0.length : Int)) (val_len tt_ok rfl rfl p0N0) rfl ?_
    refine wl_pure (v := .bool ((p0.length : Int) == (0 : Int))) tt_ok rfl rfl ?_
    refine wl_pure tt_ok rfl rfl ?_
    replace h := bsome h; obtain ⟨v75, h, hg75⟩ := h
    refine wl_split (t := 73) rfl (fun hc => ?_) (fun hc => ?_)
    · replace h := ct hc h
      replace h := bsome h; obtain ⟨v74, x74, h⟩ := h
      refine wl_run rfl ?_
      refine wl_cq Try.call9 rfl rfl rfl (q_pf (k_hindcastlaw02_works x74) (fun _ _ => trivial)) rfl ?_
      simp only [Option.some.injEq, Prod.mk.injEq] at h
      obtain rfl := h
      have h := hg75; clear hg75
      refine wl_pure (v := .bool v74) tt_ok rfl rfl ?_
      refine wl_pure tt_ok rfl rfl ?_
      refine wl_nil ?_
      refine wx_then ?_
      refine wc_ret ?_
      refine wx_then_ret ?_
      simp only [Option.some.injEq] at h
      obtain rfl := h
      exact wx_pf tt_ok (.inl rfl) Try.results6 (Res.tmp rfl Res.nil) rfl
    replace h := cf hc h
    refine wl_skip rfl rfl ?_
    simp only [Option.some.injEq, Prod.mk.injEq] at h
    obtain rfl := h
    have h := hg75; clear hg75
    refine wl_pure (v := .bool false) tt_ok rfl rfl ?_
    refine wl_pure tt_ok rfl rfl ?_
    refine wl_nil ?_
    refine wx_then ?_
    refine wc_ret ?_
    refine wx_then_ret ?_
    simp only [Option.some.injEq] at h
    obtain rfl := h
    exact wx_pf tt_ok (.inl rfl) Try.results6 (Res.tmp rfl Res.nil) rfl
  replace h := cf hc h
  refine wc_skip ?_
  refine wx_then ?_
  refine wc_seq ?_
  refine wc_region ?_
  refine wl_pure tt_ok rfl rfl ?_
  refine wl_pure tt_ok rfl rfl ?_
  refine wl_pure (v := .int .i64 (IntKind.wrap .i64 p2)) tt_ok rfl rfl ?_
  refine wl_pure tt_ok rfl rfl ?_
  refine wl_pure (v := .int .i64 (v38.length : Int)) tt_ok rfl rfl ?_
  replace h := bsome h; obtain ⟨v81, x81, h⟩ := h
  refine wl_val (v := .int .i64 v81) (val_rem rfl rfl x81) rfl ?_
  replace h := bsome h; obtain ⟨v82, x82, h⟩ := h
  refine wl_val (v := .string ⟨v82.toArray⟩) (val_ss tt_ok rfl rfl (.inl ⟨rfl, rfl⟩) (.inr ⟨_, _, rfl, rfl⟩) x82) rfl ?_
  replace h := bsome h; obtain ⟨v83, x83, h⟩ := h
  refine wl_cs Try.call13 rfl rfl rfl (s_sp (k_codec_New x83) pNil (fun _ _ => trivial)) rfl ?_
  rintro _ _ ⟨_, ⟨b83_0, rfl, rfl⟩, rfl⟩
  refine wl_pure tt_ok rfl rfl ?_
  refine wl_nil ?_
  refine wx_then ?_
  refine wc_seq ?_
  refine wc_seq ?_
  refine wc_region ?_
  refine wl_pure tt_ok rfl rfl ?_
  refine wl_pure (v := .bool false) tt_ok rfl rfl ?_
  refine wl_nil ?_
  refine wx_then ?_
  refine wc_cond_false rfl ?_
  refine wc_skip ?_
  refine wx_then ?_
  refine wc_seq ?_
  refine wc_seq ?_
  refine wc_region ?_
  refine wl_pure tt_ok rfl rfl ?_
  refine wl_nil ?_
  refine wx_then ?_
  refine wc_block ?_
  replace h := bsome h; obtain ⟨l91_n83_0, h, hl91⟩ := h
  refine wc_loop (fun m E L => ∃ (j91_13 : Int) (j91_n83_0 : T_codec_Reader), m_hindcastlaw02_CodecBack_L90 F p0 m j91_13 j91_n83_0 = some l91_n83_0 ∧ E = [(0, .slice p0a0 p0n0 p0c0), (6, .bool false), (12, .pointer (some ⟨b83_0, 0, none⟩)), (13, .int .i64 j91_13)] ∧ L = (⟨b83_0, [.string ⟨j91_n83_0.left.s.toArray⟩, .int .i64 j91_n83_0.left.e], 67, (0, 0)⟩ :: [])) F ⟨(0 : Int), v83, h, rfl, rfl⟩ (agree_cons rfl (agree_cons rfl (agree_cons rfl (agree_cons rfl agree_nil)))) (pSub (pCons Sel.hc pNil)) ?_
  clear h
  rintro m91 _ _ ⟨j91_13, j91_n83_0, h, rfl, rfl⟩
  rcases m91 with _ | m91
  · rw [m_hindcastlaw02_CodecBack_L90.eq_1] at h; cases h
  rw [m_hindcastlaw02_CodecBack_L90.eq_2] at h
  refine wc_seq ?_
  refine wc_seq ?_
  refine wc_region ?_
  refine wl_pure tt_ok rfl rfl ?_
  refine wl_pure tt_ok rfl rfl ?_
  refine wl_val (v := .int .i64 (p0.length : Int)) (val_len tt_ok rfl rfl p0N0) rfl ?_
  refine wl_pure (v := .bool (decide (j91_13 < (p0.length : Int)))) tt_ok rfl rfl ?_
  refine wl_nil ?_
  refine wx_then ?_
  refine wc_cond rfl (fun hc => ?_) (fun hc => ?_)
  · replace h := ct hc h
    refine wc_skip ?_
    refine wx_then ?_
    refine wc_seq ?_
    refine wc_block ?_
    refine wc_region ?_
    refine wl_pure tt_ok rfl rfl ?_
    refine wl_pure tt_ok rfl rfl ?_
    refine wl_pure tt_ok rfl rfl ?_
    replace h := bsome h; obtain ⟨v95, x95, h⟩ := h
    refine wl_val (v := .pointer (some ((adOf p0a0).add (j91_13.toNat * 3 + 0)))) (val_ix (enc := c_T_hindcastlaw02_Item) tt_ok rfl rfl rfl rfl p0N0 p0S0 c_T_hindcastlaw02_Item_len rfl x95) rfl ?_
    refine wl_val (v := .agg #[.int .u8 v95.Kind, .int .u64 v95.N, .string ⟨v95.S.toArray⟩]) (val_le (enc := c_T_hindcastlaw02_Item) (xs := p0) tt_ok rfl p0S0 rsub_nil c_T_hindcastlaw02_Item_len x95 rfl) rfl ?_
    replace h := bsome h; obtain ⟨⟨o97_0, v97⟩, x97, h⟩ := h; try dsimp only at h
    refine wl_cs Try.call32 rfl rfl rfl (s_sp (k_hindcastlaw02_get x97) (pCons Sel.hc pNil) (fun _ _ => trivial)) rfl ?_
    rintro _ _ ⟨_, ⟨rfl, rfl⟩, rfl⟩
    refine wl_nil ?_
    refine wx_block ?_
    refine wx_then ?_
    refine wc_region ?_
    refine wl_pure tt_ok rfl rfl ?_
    refine wl_pure (v := .int .i64 (IntKind.wrap .i64 (j91_13 + (1 : Int)))) tt_ok rfl rfl ?_
    refine wl_pure tt_ok rfl rfl ?_
    refine wl_nil ?_
    exact wx_round m91 (Nat.lt_succ_self m91) ⟨(IntKind.wrap .i64 (j91_13 + (1 : Int))), o97_0, h, rfl, rfl⟩ (agree_cons rfl (agree_cons rfl (agree_cons rfl (agree_cons rfl agree_nil)))) (pSub (pCons Sel.hc pNil))
  replace h := cf hc h
  refine wc_exit ?_
  refine wx_then_exit ?_
  simp only [Option.some.injEq] at h
  obtain rfl := h
  have h := hl91; clear hl91; try dsimp only [orE_l, orE_r] at h
  refine wx_then_exit ?_
  refine wx_block_exit ?_
  refine wx_then ?_
  refine wc_seq ?_
  refine wc_region ?_
  refine wl_pure tt_ok rfl rfl ?_
  replace h := bsome h; obtain ⟨v99, x99, h⟩ := h
  refine wl_cq Try.call24 rfl rfl rfl (q_rd (k_codec_Reader_Err x99) (pCons Sel.hc pNil) (fun _ _ => trivial)) rfl ?_
  refine wl_pure (v := .bool (v99 == (10 : Int))) tt_ok rfl rfl ?_
  refine wl_pure tt_ok rfl rfl ?_
  replace h := bsome h; obtain ⟨v105, h, hg105⟩ := h
  refine wl_split (t := 101) rfl (fun hc => ?_) (fun hc => ?_)
  · replace h := ct hc h
    refine wl_run rfl ?_
    refine wl_pure tt_ok rfl rfl ?_
    replace h := bsome h; obtain ⟨v103, x103, h⟩ := h
    refine wl_run rfl ?_
    refine wl_cq Try.call25 rfl rfl rfl (q_rd (k_codec_Reader_Rest x103) (pCons Sel.hc pNil) (fun _ _ => trivial)) rfl ?_
    refine wl_run rfl ?_
    refine wl_val (v := .bool (v103 == ([] : List UInt8))) (val_seq tt_ok rfl rfl) rfl ?_
    simp only [Option.some.injEq, Prod.mk.injEq] at h
    obtain rfl := h
    have h := hg105; clear hg105
    refine wl_pure (v := .bool (v103 == ([] : List UInt8))) tt_ok rfl rfl ?_
    refine wl_pure tt_ok rfl rfl ?_
    replace h := bsome h; obtain ⟨v108, h, hg108⟩ := h
    refine wl_split (t := 106) rfl (fun hc => ?_) (fun hc => ?_)
    · replace h := ct hc h
      replace h := bsome h; obtain ⟨v107, x107, h⟩ := h
      refine wl_run rfl ?_
      refine wl_cq Try.call9 rfl rfl rfl (q_pf (k_hindcastlaw02_works x107) (fun _ _ => trivial)) rfl ?_
      simp only [Option.some.injEq, Prod.mk.injEq] at h
      obtain rfl := h
      have h := hg108; clear hg108
      refine wl_pure (v := .bool v107) tt_ok rfl rfl ?_
      refine wl_pure tt_ok rfl rfl ?_
      refine wl_nil ?_
      refine wx_then ?_
      refine wc_ret ?_
      simp only [Option.some.injEq] at h
      obtain rfl := h
      exact wx_pf tt_ok (.inl rfl) Try.results6 (Res.tmp rfl Res.nil) rfl
    replace h := cf hc h
    refine wl_skip rfl rfl ?_
    simp only [Option.some.injEq, Prod.mk.injEq] at h
    obtain rfl := h
    have h := hg108; clear hg108
    refine wl_pure (v := .bool false) tt_ok rfl rfl ?_
    refine wl_pure tt_ok rfl rfl ?_
    refine wl_nil ?_
    refine wx_then ?_
    refine wc_ret ?_
    simp only [Option.some.injEq] at h
    obtain rfl := h
    exact wx_pf tt_ok (.inl rfl) Try.results6 (Res.tmp rfl Res.nil) rfl
  replace h := cf hc h
  refine wl_skip rfl rfl ?_
  refine wl_skip rfl rfl ?_
  refine wl_skip rfl rfl ?_
  simp only [Option.some.injEq, Prod.mk.injEq] at h
  obtain rfl := h
  have h := hg105; clear hg105
  refine wl_pure (v := .bool false) tt_ok rfl rfl ?_
  refine wl_pure tt_ok rfl rfl ?_
  replace h := bsome h; obtain ⟨v108, h, hg108⟩ := h
  replace h := cf rfl h
  refine wl_skip rfl rfl ?_
  simp only [Option.some.injEq, Prod.mk.injEq] at h
  obtain rfl := h
  have h := hg108; clear hg108
  refine wl_pure (v := .bool false) tt_ok rfl rfl ?_
  refine wl_pure tt_ok rfl rfl ?_
  refine wl_nil ?_
  refine wx_then ?_
  refine wc_ret ?_
  simp only [Option.some.injEq] at h
  obtain rfl := h
  exact wx_pf tt_ok (.inl rfl) Try.results6 (Res.tmp rfl Res.nil) rfl

theorem k_hindcastlaw02_CodecOne {F : Nat} {p0 : (List UInt8)} {p1 : (List Int)} {p1a0 : Option Addr} {p1n0 p1c0 : Nat} {r0 : Bool} (p1N0 : p1n0 = p1.length) (p1H0 : p1n0 ≤ p1c0) (h : m_hindcastlaw02_CodecOne F p0 p1 = some r0) :
    Pf Try.prog 7 [.string ⟨p0.toArray⟩, .slice p1a0 p1n0 p1c0] (fun w => Rds w [] [] p1a0 (flat (e1 .u8) p1)) (.bool r0) := by
  unfold m_hindcastlaw02_CodecOne at h
  refine pf_of_wc Try.func7 rfl Try.ntmps7 rfl rfl (fun w0 hR => ?_)
  have p1S0 := hR
  refine wc_seq ?_
  refine wc_region ?_
  refine wl_pure tt_ok rfl rfl ?_
  refine wl_nil ?_
  refine wx_then ?_
  refine wc_seq ?_
  refine wc_seq ?_
  refine wc_region ?_
  refine wl_pure tt_ok rfl rfl ?_
  refine wl_pure (v := .int .i64 (p0.length : Int)) tt_ok rfl rfl ?_
  refine wl_pure (v := .bool (decide ((1000 : Int) < (p0.length : Int)))) tt_ok rfl rfl ?_
  refine wl_pure tt_ok rfl rfl ?_
  replace h := bsome h; obtain ⟨v16, h, hg16⟩ := h
  refine wl_split (t := 12) rfl (fun hc => ?_) (fun hc => ?_)
  · replace h := ct hc h
    refine wl_skip rfl rfl ?_
    refine wl_skip rfl rfl ?_
    refine wl_skip rfl rfl ?_
    simp only [Option.some.injEq, Prod.mk.injEq] at h
    obtain rfl := h
    have h := hg16; clear hg16
    refine wl_pure (v := .bool true) tt_ok rfl rfl ?_
    refine wl_nil ?_
    refine wx_then ?_
    replace h := ct rfl h
    refine wc_cond_true rfl ?_
    refine wc_seq ?_
    refine wc_region ?_
    replace h := bsome h; obtain ⟨v17, x17, h⟩ := h
    refine wl_cq Try.call9 rfl rfl rfl (q_pf (k_hindcastlaw02_works x17) (fun _ _ => trivial)) rfl ?_
    refine wl_pure tt_ok rfl rfl ?_
    refine wl_nil ?_
    refine wx_then ?_
    refine wc_ret ?_
    refine wx_then_ret ?_
    simp only [Option.some.injEq] at h
    obtain rfl := h
    exact wx_pf tt_ok (.inl rfl) Try.results7 (Res.tmp rfl Res.nil) rfl
  replace h := cf hc h
  refine wl_run rfl ?_
  refine wl_pure tt_ok rfl rfl ?_
  refine wl_run rfl ?_
  refine wl_val (v := .int .i64 (p1.length : Int)) (val_len tt_ok rfl rfl p1N0) rfl ?_
  refine wl_run rfl ?_
  refine wl_pure (v := .bool (decide ((60 : Int) < (p1.length : Int)))) tt_ok rfl rfl ?_
  simp only [Option.some.injEq, Prod.mk.injEq] at h
  obtain rfl := h
  have h := hg16; clear hg16
  refine wl_pure (v := .bool (decide ((60 : Int) < (p1.length : Int)))) tt_ok rfl rfl ?_
  refine wl_nil ?_
  refine wx_then ?_
  refine wc_cond rfl (fun hc => ?_) (fun hc => ?_)
  · replace h := ct hc h
    refine wc_seq ?_
    refine wc_region ?_
    replace h := bsome h; obtain ⟨v17, x17, h⟩ := h
    refine wl_cq Try.call9 rfl rfl rfl (q_pf (k_hindcastlaw02_works x17) (fun _ _ => trivial)) rfl ?_
    refine wl_pure tt_ok rfl rfl ?_
    refine wl_nil ?_
    refine wx_then ?_
    refine wc_ret ?_
    refine wx_then_ret ?_
    simp only [Option.some.injEq] at h
    obtain rfl := h
    exact wx_pf tt_ok (.inl rfl) Try.results7 (Res.tmp rfl Res.nil) rfl
  replace h := cf hc h
  refine wc_skip ?_
  refine wx_then ?_
  refine wc_seq ?_
  refine wc_region ?_
  refine wl_pure tt_ok rfl rfl ?_
  replace h := bsome h; obtain ⟨v19, x19, h⟩ := h
  refine wl_cs Try.call13 rfl rfl rfl (s_sp (k_codec_New x19) pNil (fun _ _ => trivial)) rfl ?_
  rintro _ _ ⟨_, ⟨b19_0, rfl, rfl⟩, rfl⟩
  refine wl_pure tt_ok rfl rfl ?_
  refine wl_nil ?_
  refine wx_then ?_
  refine wc_seq ?_
  refine wc_seq ?_
  refine wc_region ?_
  refine wl_pure tt_ok rfl rfl ?_
  refine wl_pure (v := .bool false) tt_ok rfl rfl ?_
  refine wl_nil ?_
  refine wx_then ?_
  refine wc_cond_false rfl ?_
  refine wc_skip ?_
  refine wx_then ?_
  refine wc_seq ?_
  refine wc_region ?_
  refine wl_pure (v := .agg #[.slice none 0 0]) tt_ok rfl rfl ?_
  refine wl_box rfl rfl rfl (fun b23 => ?_)
  refine wl_pure tt_ok rfl rfl ?_
  refine wl_nil ?_
  refine wx_then ?_
  refine wc_seq ?_
  refine wc_seq ?_
  refine wc_region ?_
  refine wl_pure tt_ok rfl rfl ?_
  refine wl_nil ?_
  refine wx_then ?_
  refine wc_block ?_
  replace h := bsome h; obtain ⟨o27, h, hl27⟩ := h
  refine wc_loop (fun m E L => ∃ (j27_7 : Int) (j27_n19_0 : T_codec_Reader) (j27_n23_f0 : (List Int)) (j27_n23_f0a0 : Option Addr) (j27_n23_f0n0 : Nat) (j27_n23_f0c0 : Nat) (j27_n23_f0B0 : List Blk), m_hindcastlaw02_CodecOne_L26 F p0 p1 m j27_7 j27_n19_0 j27_n23_f0 = some o27 ∧ j27_n23_f0n0 = j27_n23_f0.length ∧ Own 5 1 j27_n23_f0a0 j27_n23_f0n0 j27_n23_f0c0 (flat (e1 .u8) j27_n23_f0) j27_n23_f0B0 ∧ E = [(0, .string ⟨p0.toArray⟩), (1, .slice p1a0 p1n0 p1c0), (4, .bool false), (5, .pointer (some ⟨b19_0, 0, none⟩)), (6, .pointer (some ⟨b23, 0, none⟩)), (7, .int .i64 j27_7)] ∧ L = (⟨b19_0, [.string ⟨j27_n19_0.left.s.toArray⟩, .int .i64 j27_n19_0.left.e], 67, (0, 0)⟩ :: (⟨b23, [.slice j27_n23_f0a0 j27_n23_f0n0 j27_n23_f0c0], 28, (0, 0)⟩ :: (j27_n23_f0B0 ++ [])))) F ⟨(0 : Int), v19, ([] : List Int), none, 0, 0, [], h, rfl, Own.zero, rfl, rfl⟩ (agree_cons rfl (agree_cons rfl (agree_cons rfl (agree_cons rfl (agree_cons rfl (agree_cons rfl agree_nil)))))) (pSub (pCons (Sel.sc Sel.hc) (pCons Sel.hc (pNo pNil)))) ?_
  clear h
  rintro m27 _ _ ⟨j27_7, j27_n19_0, j27_n23_f0, j27_n23_f0a0, j27_n23_f0n0, j27_n23_f0c0, j27_n23_f0B0, h, j27_n23_f0N0, j27_n23_f0V0, rfl, rfl⟩
  rcases m27 with _ | m27
  · rw [m_hindcastlaw02_CodecOne_L26.eq_1] at h; cases h
  rw [m_hindcastlaw02_CodecOne_L26.eq_2] at h
  refine wc_seq ?_
  refine wc_seq ?_
  refine wc_region ?_
  refine wl_pure tt_ok rfl rfl ?_
  refine wl_pure tt_ok rfl rfl ?_
  refine wl_val (v := .int .i64 (p1.length : Int)) (val_len tt_ok rfl rfl p1N0) rfl ?_
  refine wl_pure (v := .bool (decide (j27_7 < (p1.length : Int)))) tt_ok rfl rfl ?_
  refine wl_nil ?_
  refine wx_then ?_
  refine wc_cond rfl (fun hc => ?_) (fun hc => ?_)
  · replace h := ct hc h
    refine wc_skip ?_
    refine wx_then ?_
    refine wc_seq ?_
    refine wc_block ?_
    refine wc_seq ?_
    refine wc_region ?_
    refine wl_pure tt_ok rfl rfl ?_
    replace h := bsome h; obtain ⟨v31, x31, h⟩ := h
    refine wl_cq Try.call12 rfl rfl rfl (q_rd (k_codec_Writer_Bytes (p0 := (T_codec_Writer.mk j27_n23_f0)) j27_n23_f0N0 j27_n23_f0V0 x31) (pCons (Sel.sc Sel.hc) (pApp (Sel.sc Sel.ha) pNil)) (fun _ _ => trivial)) rfl ?_
    refine wl_pure tt_ok rfl rfl ?_
    refine wl_nil ?_
    refine wx_then ?_
    refine wc_seq ?_
    refine wc_seq ?_
    refine wc_region ?_
    refine wl_pure tt_ok rfl rfl ?_
    refine wl_pure tt_ok rfl rfl ?_
    replace h := bsome h; obtain ⟨v34, x34, h⟩ := h
    refine wl_val (v := .pointer (some ((adOf p1a0).add (j27_7.toNat * 1 + 0)))) (val_ix (enc := (e1 .u8)) tt_ok rfl rfl rfl rfl p1N0 p1S0 (e1_len _) rfl x34) rfl ?_
    refine wl_val (v := .int .u8 v34) (val_le (enc := (e1 .u8)) (xs := p1) tt_ok rfl p1S0 rsub_nil (e1_len _) x34 rfl) rfl ?_
    refine wl_pure (v := .int .u8 (Int.tmod v34 7)) tt_ok rfl rfl ?_
    refine wl_nil ?_
    refine wx_then ?_
    replace h := bsome h; obtain ⟨⟨j41_n19_0, j41_n23_f0⟩, h, hj41⟩ := h; try dsimp only at hj41
    refine wc_join2 (fun E L => ∃ (j41_n23_f0a0 : Option Addr) (j41_n23_f0n0 : Nat) (j41_n23_f0c0 : Nat) (j41_n23_f0B0 : List Blk), j41_n23_f0n0 = j41_n23_f0.length ∧ Own 5 1 j41_n23_f0a0 j41_n23_f0n0 j41_n23_f0c0 (flat (e1 .u8) j41_n23_f0) j41_n23_f0B0 ∧ E = [(0, .string ⟨p0.toArray⟩), (1, .slice p1a0 p1n0 p1c0), (4, .bool false), (5, .pointer (some ⟨b19_0, 0, none⟩)), (6, .pointer (some ⟨b23, 0, none⟩)), (7, .int .i64 j27_7), (8, .string ⟨v31.toArray⟩)] ∧ L = (⟨b19_0, [.string ⟨j41_n19_0.left.s.toArray⟩, .int .i64 j41_n19_0.left.e], 67, (0, 0)⟩ :: (⟨b23, [.slice j41_n23_f0a0 j41_n23_f0n0 j41_n23_f0c0], 28, (0, 0)⟩ :: (j41_n23_f0B0 ++ [])))) ?_ ?_
    · refine wc_block ?_
      refine wc_seq ?_
      refine wc_region ?_
      refine wl_pure (v := .bool ((Int.tmod v34 7) == (0 : Int))) tt_ok rfl rfl ?_
      refine wl_pure tt_ok rfl rfl ?_
      refine wl_nil ?_
      refine wx_then ?_
      refine wc_cond rfl (fun hc => ?_) (fun hc => ?_)
      · replace h := ct hc h
        refine wc_region ?_
        refine wl_pure tt_ok rfl rfl ?_
        refine wl_pure tt_ok rfl rfl ?_
        replace h := bsome h; obtain ⟨⟨o45_0, v45⟩, x45, h⟩ := h; try dsimp only at h
        refine wl_cs Try.call14 rfl rfl rfl (s_sp (k_codec_Reader_U8 x45) (pCons Sel.hc pNil) (fun _ _ => trivial)) rfl ?_
        rintro _ _ ⟨_, ⟨rfl, rfl⟩, rfl⟩
        replace h := bsome h; obtain ⟨o46_0, x46, h⟩ := h
        refine wl_cs Try.call31 rfl rfl rfl (s_sp (k_codec_Writer_U8 (p0 := (T_codec_Writer.mk j27_n23_f0)) j27_n23_f0N0 j27_n23_f0V0 x46) (pCons (Sel.sc Sel.hc) (pApp (Sel.sc Sel.ha) pNil)) (fun _ _ => trivial)) rfl ?_
        rintro _ _ ⟨_, ⟨o46_0a0, o46_0n0, o46_0c0, o46_0B0, o46_0N0, o46_0V0, rfl, rfl⟩, rfl⟩
        refine wl_nil ?_
        refine wx_block ?_
        simp only [Option.some.injEq, Prod.mk.injEq] at h
        obtain ⟨rfl, rfl⟩ := h
        exact wx_join ⟨o46_0a0, o46_0n0, o46_0c0, o46_0B0, o46_0N0, o46_0V0, rfl, rfl⟩ (agree_cons rfl (agree_cons rfl (agree_cons rfl (agree_cons rfl (agree_cons rfl (agree_cons rfl (agree_cons rfl agree_nil))))))) (pSub (pCons (Sel.sc (Sel.sa Sel.hc)) (pCons Sel.hc (pApp Sel.ha pNil))))
      replace h := cf hc h
      refine wc_seq ?_
      refine wc_region ?_
      refine wl_pure (v := .bool ((Int.tmod v34 7) == (1 : Int))) tt_ok rfl rfl ?_
      refine wl_pure tt_ok rfl rfl ?_
      refine wl_nil ?_
      refine wx_then ?_
      refine wc_cond rfl (fun hc => ?_) (fun hc => ?_)
      · replace h := ct hc h
        refine wc_region ?_
        refine wl_pure tt_ok rfl rfl ?_
        refine wl_pure tt_ok rfl rfl ?_
        replace h := bsome h; obtain ⟨⟨o51_0, v51⟩, x51, h⟩ := h; try dsimp only at h
        refine wl_cs Try.call16 rfl rfl rfl (s_sp (k_codec_Reader_U16 x51) (pCons Sel.hc pNil) (fun _ _ => trivial)) rfl ?_
        rintro _ _ ⟨_, ⟨rfl, rfl⟩, rfl⟩
        replace h := bsome h; obtain ⟨o52_0, x52, h⟩ := h
        refine wl_cs Try.call33 rfl rfl rfl (s_sp (k_codec_Writer_U16 (p0 := (T_codec_Writer.mk j27_n23_f0)) j27_n23_f0N0 j27_n23_f0V0 x52) (pCons (Sel.sc Sel.hc) (pApp (Sel.sc Sel.ha) pNil)) (fun _ _ => trivial)) rfl ?_
        rintro _ _ ⟨_, ⟨o52_0a0, o52_0n0, o52_0c0, o52_0B0, o52_0N0, o52_0V0, rfl, rfl⟩, rfl⟩
        refine wl_nil ?_
        refine wx_block ?_
        simp only [Option.some.injEq, Prod.mk.injEq] at h
        obtain ⟨rfl, rfl⟩ := h
        exact wx_join ⟨o52_0a0, o52_0n0, o52_0c0, o52_0B0, o52_0N0, o52_0V0, rfl, rfl⟩ (agree_cons rfl (agree_cons rfl (agree_cons rfl (agree_cons rfl (agree_cons rfl (agree_cons rfl (agree_cons rfl agree_nil))))))) (pSub (pCons (Sel.sc (Sel.sa Sel.hc)) (pCons Sel.hc (pApp Sel.ha pNil))))
      replace h := cf hc h
      refine wc_seq ?_
      refine wc_region ?_
      refine wl_pure (v := .bool ((Int.tmod v34 7) == (2 : Int))) tt_ok rfl rfl ?_
      refine wl_pure tt_ok rfl rfl ?_
      refine wl_nil ?_
      refine wx_then ?_
      refine wc_cond rfl (fun hc => ?_) (fun hc => ?_)
      · replace h := ct hc h
        refine wc_region ?_
        refine wl_pure tt_ok rfl rfl ?_
        refine wl_pure tt_ok rfl rfl ?_
        replace h := bsome h; obtain ⟨⟨o57_0, v57⟩, x57, h⟩ := h; try dsimp only at h
        refine wl_cs Try.call17 rfl rfl rfl (s_sp (k_codec_Reader_U32 x57) (pCons Sel.hc pNil) (fun _ _ => trivial)) rfl ?_
        rintro _ _ ⟨_, ⟨rfl, rfl⟩, rfl⟩
        replace h := bsome h; obtain ⟨o58_0, x58, h⟩ := h
        refine wl_cs Try.call34 rfl rfl rfl (s_sp (k_codec_Writer_U32 (p0 := (T_codec_Writer.mk j27_n23_f0)) j27_n23_f0N0 j27_n23_f0V0 x58) (pCons (Sel.sc Sel.hc) (pApp (Sel.sc Sel.ha) pNil)) (fun _ _ => trivial)) rfl ?_
        rintro _ _ ⟨_, ⟨o58_0a0, o58_0n0, o58_0c0, o58_0B0, o58_0N0, o58_0V0, rfl, rfl⟩, rfl⟩
        refine wl_nil ?_
        refine wx_block ?_
        simp only [Option.some.injEq, Prod.mk.injEq] at h
        obtain ⟨rfl, rfl⟩ := h
        exact wx_join ⟨o58_0a0, o58_0n0, o58_0c0, o58_0B0, o58_0N0, o58_0V0, rfl, rfl⟩ (agree_cons rfl (agree_cons rfl (agree_cons rfl (agree_cons rfl (agree_cons rfl (agree_cons rfl (agree_cons rfl agree_nil))))))) (pSub (pCons (Sel.sc (Sel.sa Sel.hc)) (pCons Sel.hc (pApp Sel.ha pNil))))
      replace h := cf hc h
      refine wc_seq ?_
      refine wc_region ?_
      refine wl_pure (v := .bool ((Int.tmod v34 7) == (3 : Int))) tt_ok rfl rfl ?_
      refine wl_pure tt_ok rfl rfl ?_
      refine wl_nil ?_
      refine wx_then ?_
      refine wc_cond rfl (fun hc => ?_) (fun hc => ?_)
      · replace h := ct hc h
        refine wc_region ?_
        refine wl_pure tt_ok rfl rfl ?_
        refine wl_pure tt_ok rfl rfl ?_
        replace h := bsome h; obtain ⟨⟨o63_0, v63⟩, x63, h⟩ := h; try dsimp only at h
        refine wl_cs Try.call18 rfl rfl rfl (s_sp (k_codec_Reader_U64 x63) (pCons Sel.hc pNil) (fun _ _ => trivial)) rfl ?_
        rintro _ _ ⟨_, ⟨rfl, rfl⟩, rfl⟩
        replace h := bsome h; obtain ⟨o64_0, x64, h⟩ := h
        refine wl_cs Try.call35 rfl rfl rfl (s_sp (k_codec_Writer_U64 (p0 := (T_codec_Writer.mk j27_n23_f0)) j27_n23_f0N0 j27_n23_f0V0 x64) (pCons (Sel.sc Sel.hc) (pApp (Sel.sc Sel.ha) pNil)) (fun _ _ => trivial)) rfl ?_
        rintro _ _ ⟨_, ⟨o64_0a0, o64_0n0, o64_0c0, o64_0B0, o64_0N0, o64_0V0, rfl, rfl⟩, rfl⟩
        refine wl_nil ?_
        refine wx_block ?_
        simp only [Option.some.injEq, Prod.mk.injEq] at h
        obtain ⟨rfl, rfl⟩ := h
        exact wx_join ⟨o64_0a0, o64_0n0, o64_0c0, o64_0B0, o64_0N0, o64_0V0, rfl, rfl⟩ (agree_cons rfl (agree_cons rfl (agree_cons rfl (agree_cons rfl (agree_cons rfl (agree_cons rfl (agree_cons rfl agree_nil))))))) (pSub (pCons (Sel.sc (Sel.sa Sel.hc)) (pCons Sel.hc (pApp Sel.ha pNil))))
      replace h := cf hc h
      refine wc_seq ?_
      refine wc_region ?_
      refine wl_pure (v := .bool ((Int.tmod v34 7) == (4 : Int))) tt_ok rfl rfl ?_
      refine wl_pure tt_ok rfl rfl ?_
      refine wl_nil ?_
      refine wx_then ?_
      refine wc_cond rfl (fun hc => ?_) (fun hc => ?_)
      · replace h := ct hc h
        refine wc_region ?_
        refine wl_pure tt_ok rfl rfl ?_
        refine wl_pure tt_ok rfl rfl ?_
        replace h := bsome h; obtain ⟨⟨o69_0, v69⟩, x69, h⟩ := h; try dsimp only at h
        refine wl_cs Try.call19 rfl rfl rfl (s_sp (k_codec_Reader_I32 x69) (pCons Sel.hc pNil) (fun _ _ => trivial)) rfl ?_
        rintro _ _ ⟨_, ⟨rfl, rfl⟩, rfl⟩
        replace h := bsome h; obtain ⟨o70_0, x70, h⟩ := h
        refine wl_cs Try.call36 rfl rfl rfl (s_sp (k_codec_Writer_I32 (p0 := (T_codec_Writer.mk j27_n23_f0)) j27_n23_f0N0 j27_n23_f0V0 x70) (pCons (Sel.sc Sel.hc) (pApp (Sel.sc Sel.ha) pNil)) (fun _ _ => trivial)) rfl ?_
        rintro _ _ ⟨_, ⟨o70_0a0, o70_0n0, o70_0c0, o70_0B0, o70_0N0, o70_0V0, rfl, rfl⟩, rfl⟩
        refine wl_nil ?_
        refine wx_block ?_
        simp only [Option.some.injEq, Prod.mk.injEq] at h
        obtain ⟨rfl, rfl⟩ := h
        exact wx_join ⟨o70_0a0, o70_0n0, o70_0c0, o70_0B0, o70_0N0, o70_0V0, rfl, rfl⟩ (agree_cons rfl (agree_cons rfl (agree_cons rfl (agree_cons rfl (agree_cons rfl (agree_cons rfl (agree_cons rfl agree_nil))))))) (pSub (pCons (Sel.sc (Sel.sa Sel.hc)) (pCons Sel.hc (pApp Sel.ha pNil))))
      replace h := cf hc h
      refine wc_seq ?_
      refine wc_region ?_
      refine wl_pure (v := .bool ((Int.tmod v34 7) == (5 : Int))) tt_ok rfl rfl ?_
      refine wl_pure tt_ok rfl rfl ?_
      refine wl_nil ?_
      refine wx_then ?_
      refine wc_cond rfl (fun hc => ?_) (fun hc => ?_)
      · replace h := ct hc h
        refine wc_region ?_
        refine wl_pure tt_ok rfl rfl ?_
        refine wl_pure tt_ok rfl rfl ?_
        replace h := bsome h; obtain ⟨⟨o75_0, v75⟩, x75, h⟩ := h; try dsimp only at h
        refine wl_cs Try.call20 rfl rfl rfl (s_sp (k_codec_Reader_Var x75) (pCons Sel.hc pNil) (fun _ _ => trivial)) rfl ?_
        rintro _ _ ⟨_, ⟨rfl, rfl⟩, rfl⟩
        replace h := bsome h; obtain ⟨o76_0, x76, h⟩ := h
        refine wl_cs Try.call37 rfl rfl rfl (s_sp (k_codec_Writer_Var (p0 := (T_codec_Writer.mk j27_n23_f0)) j27_n23_f0N0 j27_n23_f0V0 x76) (pCons (Sel.sc Sel.hc) (pApp (Sel.sc Sel.ha) pNil)) (fun _ _ => trivial)) rfl ?_
        rintro _ _ ⟨_, ⟨o76_0a0, o76_0n0, o76_0c0, o76_0B0, o76_0N0, o76_0V0, rfl, rfl⟩, rfl⟩
        refine wl_nil ?_
        refine wx_block ?_
        simp only [Option.some.injEq, Prod.mk.injEq] at h
        obtain ⟨rfl, rfl⟩ := h
        exact wx_join ⟨o76_0a0, o76_0n0, o76_0c0, o76_0B0, o76_0N0, o76_0V0, rfl, rfl⟩ (agree_cons rfl (agree_cons rfl (agree_cons rfl (agree_cons rfl (agree_cons rfl (agree_cons rfl (agree_cons rfl agree_nil))))))) (pSub (pCons (Sel.sc (Sel.sa Sel.hc)) (pCons Sel.hc (pApp Sel.ha pNil))))
      replace h := cf hc h
      refine wc_region ?_
      refine wl_pure tt_ok rfl rfl ?_
      refine wl_pure tt_ok rfl rfl ?_
      replace h := bsome h; obtain ⟨⟨o39_0, v39⟩, x39, h⟩ := h; try dsimp only at h
      refine wl_cs Try.call22 rfl rfl rfl (s_sp (k_codec_Reader_Text x39) (pCons Sel.hc pNil) (fun _ _ => trivial)) rfl ?_
      rintro _ _ ⟨_, ⟨rfl, rfl⟩, rfl⟩
      replace h := bsome h; obtain ⟨o40_0, x40, h⟩ := h
      refine wl_cs Try.call30 rfl rfl rfl (s_sp (k_codec_Writer_Text (p0 := (T_codec_Writer.mk j27_n23_f0)) j27_n23_f0N0 j27_n23_f0V0 x40) (pCons (Sel.sc Sel.hc) (pApp (Sel.sc Sel.ha) pNil)) (fun _ _ => trivial)) rfl ?_
      rintro _ _ ⟨_, ⟨o40_0a0, o40_0n0, o40_0c0, o40_0B0, o40_0N0, o40_0V0, rfl, rfl⟩, rfl⟩
      refine wl_nil ?_
      refine wx_block ?_
      simp only [Option.some.injEq, Prod.mk.injEq] at h
      obtain ⟨rfl, rfl⟩ := h
      exact wx_join ⟨o40_0a0, o40_0n0, o40_0c0, o40_0B0, o40_0N0, o40_0V0, rfl, rfl⟩ (agree_cons rfl (agree_cons rfl (agree_cons rfl (agree_cons rfl (agree_cons rfl (agree_cons rfl (agree_cons rfl agree_nil))))))) (pSub (pCons (Sel.sc (Sel.sa Sel.hc)) (pCons Sel.hc (pApp Sel.ha pNil))))
    rintro _ _ ⟨j41_n23_f0a0, j41_n23_f0n0, j41_n23_f0c0, j41_n23_f0B0, j41_n23_f0N0, j41_n23_f0V0, rfl, rfl⟩
    have h := hj41; clear hj41
    refine wc_seq ?_
    refine wc_region ?_
    refine wl_pure tt_ok rfl rfl ?_
    replace h := bsome h; obtain ⟨v78, x78, h⟩ := h
    refine wl_cq Try.call24 rfl rfl rfl (q_rd (k_codec_Reader_Err x78) (pCons Sel.hc pNil) (fun _ _ => trivial)) rfl ?_
    refine wl_pure (v := .bool (v78 != (0 : Int))) tt_ok rfl rfl ?_
    refine wl_nil ?_
    refine wx_then ?_
    refine wc_cond rfl (fun hc => ?_) (fun hc => ?_)
    · replace h := ct hc h
      refine wc_seq ?_
      refine wc_region ?_
      refine wl_pure tt_ok rfl rfl ?_
      refine wl_pure (v := .int .i64 (v31.length : Int)) tt_ok rfl rfl ?_
      refine wl_pure tt_ok rfl rfl ?_
      refine wl_pure (v := .int .i64 (p0.length : Int)) tt_ok rfl rfl ?_
      refine wl_pure (v := .bool (decide ((v31.length : Int) ≤ (p0.length : Int)))) tt_ok rfl rfl ?_
      refine wl_pure tt_ok rfl rfl ?_
      replace h := bsome h; obtain ⟨v92, h, hg92⟩ := h
      refine wl_split (t := 85) rfl (fun hc => ?_) (fun hc => ?_)
      · replace h := ct hc h
        refine wl_run rfl ?_
        refine wl_pure tt_ok rfl rfl ?_
        refine wl_run rfl ?_
        refine wl_pure tt_ok rfl rfl ?_
        refine wl_run rfl ?_
        refine wl_pure tt_ok rfl rfl ?_
        refine wl_run rfl ?_
        refine wl_pure (v := .int .i64 (v31.length : Int)) tt_ok rfl rfl ?_
        replace h := bsome h; obtain ⟨v90, x90, h⟩ := h
        refine wl_run rfl ?_
        refine wl_val (v := .string ⟨v90.toArray⟩) (val_ss tt_ok rfl rfl (.inl ⟨rfl, rfl⟩) (.inr ⟨_, _, rfl, rfl⟩) x90) rfl ?_
        refine wl_run rfl ?_
        refine wl_val (v := .bool (v31 == v90)) (val_seq tt_ok rfl rfl) rfl ?_
        simp only [Option.some.injEq, Prod.mk.injEq] at h
        obtain rfl := h
        have h := hg92; clear hg92
        refine wl_pure (v := .bool (v31 == v90)) tt_ok rfl rfl ?_
        refine wl_pure tt_ok rfl rfl ?_
        replace h := bsome h; obtain ⟨v95, h, hg95⟩ := h
        refine wl_split (t := 93) rfl (fun hc => ?_) (fun hc => ?_)
        · replace h := ct hc h
          replace h := bsome h; obtain ⟨v94, x94, h⟩ := h
          refine wl_run rfl ?_
          refine wl_cq Try.call9 rfl rfl rfl (q_pf (k_hindcastlaw02_works x94) (fun _ _ => trivial)) rfl ?_
          simp only [Option.some.injEq, Prod.mk.injEq] at h
          obtain rfl := h
          have h := hg95; clear hg95
          refine wl_pure (v := .bool v94) tt_ok rfl rfl ?_
          refine wl_pure tt_ok rfl rfl ?_
          refine wl_nil ?_
          refine wx_then ?_
          refine wc_ret ?_
          refine wx_block_ret ?_
          refine wx_then_ret ?_
          obtain rfl := Option.some.inj h
          have h := hl27; clear hl27; try dsimp only [orE_l, orE_r] at h
          refine wx_then_ret ?_
          refine wx_block_ret ?_
          refine wx_then_ret ?_
          simp only [Option.some.injEq] at h
          obtain rfl := h
          exact wx_pf tt_ok (.inl rfl) Try.results7 (Res.tmp rfl Res.nil) rfl
        replace h := cf hc h
        refine wl_skip rfl rfl ?_
        simp only [Option.some.injEq, Prod.mk.injEq] at h
        obtain rfl := h
        have h := hg95; clear hg95
        refine wl_pure (v := .bool false) tt_ok rfl rfl ?_
        refine wl_pure tt_ok rfl rfl ?_
        refine wl_nil ?_
        refine wx_then ?_
        refine wc_ret ?_
        refine wx_block_ret ?_
        refine wx_then_ret ?_
        obtain rfl := Option.some.inj h
        have h := hl27; clear hl27; try dsimp only [orE_l, orE_r] at h
        refine wx_then_ret ?_
        refine wx_block_ret ?_
        refine wx_then_ret ?_
        simp only [Option.some.injEq] at h
        obtain rfl := h
        exact wx_pf tt_ok (.inl rfl) Try.results7 (Res.tmp rfl Res.nil) rfl
      replace h := cf hc h
      refine wl_skip rfl rfl ?_
      refine wl_skip rfl rfl ?_
      refine wl_skip rfl rfl ?_
      refine wl_skip rfl rfl ?_
      refine wl_skip rfl rfl ?_
      refine wl_skip rfl rfl ?_
      simp only [Option.some.injEq, Prod.mk.injEq] at h
      obtain rfl := h
      have h := hg92; clear hg92
      refine wl_pure (v := .bool false) tt_ok rfl rfl ?_
      refine wl_pure tt_ok rfl rfl ?_
      replace h := bsome h; obtain ⟨v95, h, hg95⟩ := h
      replace h := cf rfl h
      refine wl_skip rfl rfl ?_
      simp only [Option.some.injEq, Prod.mk.injEq] at h
      obtain rfl := h
      have h := hg95; clear hg95
      refine wl_pure (v := .bool false) tt_ok rfl rfl ?_
      refine wl_pure tt_ok rfl rfl ?_
      refine wl_nil ?_
      refine wx_then ?_
      refine wc_ret ?_
      refine wx_block_ret ?_
      refine wx_then_ret ?_
      obtain rfl := Option.some.inj h
      have h := hl27; clear hl27; try dsimp only [orE_l, orE_r] at h
      refine wx_then_ret ?_
      refine wx_block_ret ?_
      refine wx_then_ret ?_
      simp only [Option.some.injEq] at h
      obtain rfl := h
      exact wx_pf tt_ok (.inl rfl) Try.results7 (Res.tmp rfl Res.nil) rfl
    replace h := cf hc h
    refine wc_skip ?_
    refine wx_block ?_
    refine wx_then ?_
    refine wc_region ?_
    refine wl_pure tt_ok rfl rfl ?_
    refine wl_pure (v := .int .i64 (IntKind.wrap .i64 (j27_7 + (1 : Int)))) tt_ok rfl rfl ?_
    refine wl_pure tt_ok rfl rfl ?_
    refine wl_nil ?_
    exact wx_round m27 (Nat.lt_succ_self m27) ⟨(IntKind.wrap .i64 (j27_7 + (1 : Int))), j41_n19_0, j41_n23_f0, j41_n23_f0a0, j41_n23_f0n0, j41_n23_f0c0, j41_n23_f0B0, h, j41_n23_f0N0, j41_n23_f0V0, rfl, rfl⟩ (agree_cons rfl (agree_cons rfl (agree_cons rfl (agree_cons rfl (agree_cons rfl (agree_cons rfl agree_nil)))))) (pSub (pCons Sel.hc (pCons Sel.hc (pApp Sel.ha pNil))))
  replace h := cf hc h
  refine wc_exit ?_
  refine wx_then_exit ?_
  obtain rfl := Option.some.inj h
  have h := hl27; clear hl27; try dsimp only [orE_l, orE_r] at h
  refine wx_then_exit ?_
  refine wx_block_exit ?_
  refine wx_then ?_
  refine wc_seq ?_
  refine wc_region ?_
  refine wl_pure tt_ok rfl rfl ?_
  replace h := bsome h; obtain ⟨v97, x97, h⟩ := h
  refine wl_cq Try.call12 rfl rfl rfl (q_rd (k_codec_Writer_Bytes (p0 := (T_codec_Writer.mk j27_n23_f0)) j27_n23_f0N0 j27_n23_f0V0 x97) (pCons (Sel.sc Sel.hc) (pApp (Sel.sc Sel.ha) pNil)) (fun _ _ => trivial)) rfl ?_
  refine wl_pure tt_ok rfl rfl ?_
  replace h := bsome h; obtain ⟨v99, x99, h⟩ := h
  refine wl_cq Try.call25 rfl rfl rfl (q_rd (k_codec_Reader_Rest x99) (pCons Sel.hc pNil) (fun _ _ => trivial)) rfl ?_
  replace h := bsome h; obtain ⟨v100, x100, h⟩ := h
  refine wl_val (v := .string ⟨v100.toArray⟩) (val_cat tt_ok rfl rfl x100) rfl ?_
  refine wl_pure tt_ok rfl rfl ?_
  refine wl_val (v := .bool (v100 == p0)) (val_seq tt_ok rfl rfl) rfl ?_
  refine wl_pure tt_ok rfl rfl ?_
  replace h := bsome h; obtain ⟨v105, h, hg105⟩ := h
  refine wl_split (t := 103) rfl (fun hc => ?_) (fun hc => ?_)
  · replace h := ct hc h
    replace h := bsome h; obtain ⟨v104, x104, h⟩ := h
    refine wl_run rfl ?_
    refine wl_cq Try.call9 rfl rfl rfl (q_pf (k_hindcastlaw02_works x104) (fun _ _ => trivial)) rfl ?_
    simp only [Option.some.injEq, Prod.mk.injEq] at h
    obtain rfl := h
    have h := hg105; clear hg105
    refine wl_pure (v := .bool v104) tt_ok rfl rfl ?_
    refine wl_pure tt_ok rfl rfl ?_
    refine wl_nil ?_
    refine wx_then ?_
    refine wc_ret ?_
    simp only [Option.some.injEq] at h
    obtain rfl := h
    exact wx_pf tt_ok (.inl rfl) Try.results7 (Res.tmp rfl Res.nil) rfl
  replace h := cf hc h
  refine wl_skip rfl rfl ?_
  simp only [Option.some.injEq, Prod.mk.injEq] at h
  obtain rfl := h
  have h := hg105; clear hg105
  refine wl_pure (v := .bool false) tt_ok rfl rfl ?_
  refine wl_pure tt_ok rfl rfl ?_
  refine wl_nil ?_
  refine wx_then ?_
  refine wc_ret ?_
  simp only [Option.some.injEq] at h
  obtain rfl := h
  exact wx_pf tt_ok (.inl rfl) Try.results7 (Res.tmp rfl Res.nil) rfl

end Go.Proofs.Ytpcaiefefanpoaa
