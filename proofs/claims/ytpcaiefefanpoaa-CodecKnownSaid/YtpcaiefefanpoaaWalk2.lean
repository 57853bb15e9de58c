/-
  Each function computes what its model says. Printed by a program of this claim's own.
-/
import Derived.Test.YtpcaiefefanpoaaTab
import Derived.Test.YtpcaiefefanpoaaMod
import Derived.Test.YtpcaiefefanpoaaWalk1
namespace Go.Proofs.Ytpcaiefefanpoaa
open Go.Proofs.Ytpcaiefefanpoaa.Eng
set_option linter.unusedVariables false
set_option linter.unusedSimpArgs false
set_option maxHeartbeats 4000000
set_option maxRecDepth 20000

theorem k_hindcastlaw02_CodecReads {F : Nat} {p0 : (List UInt8)} {p1 : (List Int)} {p1a0 : Option Addr} {p1c0 : Nat} {r0 : Bool} (p1H0 : p1.length ≤ p1c0) (h : m_hindcastlaw02_CodecReads F p0 p1 = some r0) :
    Pf Try.prog 4 [.string ⟨p0.toArray⟩, .slice p1a0 p1.length p1c0] (fun w => Rds w [] [] p1a0 (flat (e1 .u8) p1)) (.bool r0) := by
  unfold m_hindcastlaw02_CodecReads at h
  refine pf_of_wc Try.func4 rfl Try.ntmps4 rfl rfl (fun w0 hR => ?_)
  have p1S0 := hR
  refine wc_seq ?_
  refine wc_region ?_
  refine wl_pure tt_ok rfl rfl ?_
  refine wl_nil ?_
  refine wx_then ?_
  refine wc_seq ?_
  refine wc_seq ?_
  refine wc_region ?_
  refine wl_pure tt_ok rfl rfl ?_
  refine wl_pure (v := .int .i64 (p0.length : Int)) tt_ok rfl rfl ?_
  refine wl_pure (v := .bool (decide ((3000 : Int) < (p0.length : Int)))) tt_ok rfl rfl ?_
  refine wl_pure tt_ok rfl rfl ?_
  replace h := bsome h; obtain ⟨v23, h, hg23⟩ := h
  refine wl_split (t := 19) rfl (fun hc => ?_) (fun hc => ?_)
  · replace h := ct hc h
    refine wl_skip rfl rfl ?_
    refine wl_skip rfl rfl ?_
    refine wl_skip rfl rfl ?_
    simp only [Option.some.injEq, Prod.mk.injEq] at h
    obtain rfl := h
    have h := hg23; clear hg23
    refine wl_pure (v := .bool true) tt_ok rfl rfl ?_
    refine wl_nil ?_
    refine wx_then ?_
    replace h := ct rfl h
    refine wc_cond_true rfl ?_
    refine wc_seq ?_
    refine wc_region ?_
    replace h := bsome h; obtain ⟨v24, x24, h⟩ := h
    refine wl_cq Try.call9 rfl rfl rfl (q_pf (k_hindcastlaw02_works x24) (fun _ _ => trivial)) rfl ?_
    refine wl_pure tt_ok rfl rfl ?_
    refine wl_nil ?_
    refine wx_then ?_
    refine wc_ret ?_
    refine wx_then_ret ?_
    simp only [Option.some.injEq] at h
    obtain rfl := h
    exact wx_pf tt_ok (.inl rfl) Try.results4 (Res.tmp rfl Res.nil) rfl
  · replace h := cf hc h
    refine wl_run rfl ?_
    refine wl_pure tt_ok rfl rfl ?_
    refine wl_run rfl ?_
    refine wl_pure (v := .int .i64 (p1.length : Int)) tt_ok rfl rfl ?_
    refine wl_run rfl ?_
    refine wl_pure (v := .bool (decide ((60 : Int) < (p1.length : Int)))) tt_ok rfl rfl ?_
    simp only [Option.some.injEq, Prod.mk.injEq] at h
    obtain rfl := h
    have h := hg23; clear hg23
    refine wl_pure (v := .bool (decide ((60 : Int) < (p1.length : Int)))) tt_ok rfl rfl ?_
    refine wl_nil ?_
    refine wx_then ?_
    refine wc_cond rfl (fun hc => ?_) (fun hc => ?_)
    · replace h := ct hc h
      refine wc_seq ?_
      refine wc_region ?_
      replace h := bsome h; obtain ⟨v24, x24, h⟩ := h
      refine wl_cq Try.call9 rfl rfl rfl (q_pf (k_hindcastlaw02_works x24) (fun _ _ => trivial)) rfl ?_
      refine wl_pure tt_ok rfl rfl ?_
      refine wl_nil ?_
      refine wx_then ?_
      refine wc_ret ?_
      refine wx_then_ret ?_
      simp only [Option.some.injEq] at h
      obtain rfl := h
      exact wx_pf tt_ok (.inl rfl) Try.results4 (Res.tmp rfl Res.nil) rfl
    · replace h := cf hc h
      refine wc_skip ?_
      refine wx_then ?_
      refine wc_seq ?_
      refine wc_region ?_
      refine wl_pure tt_ok rfl rfl ?_
      replace h := bsome h; obtain ⟨v26, x26, h⟩ := h
      refine wl_cs Try.call13 rfl rfl rfl (s_sp (k_codec_New x26) pNil (fun _ _ => trivial)) rfl ?_
      rintro _ _ ⟨_, ⟨b26_0, rfl, rfl⟩, rfl⟩
      refine wl_pure tt_ok rfl rfl ?_
      refine wl_nil ?_
      refine wx_then ?_
      refine wc_seq ?_
      refine wc_seq ?_
      refine wc_region ?_
      refine wl_pure tt_ok rfl rfl ?_
      refine wl_pure (v := .bool false) tt_ok rfl rfl ?_
      refine wl_nil ?_
      refine wx_then ?_
      refine wc_cond_false rfl ?_
      refine wc_skip ?_
      refine wx_then ?_
      refine wc_seq ?_
      refine wc_region ?_
      refine wl_pure tt_ok rfl rfl ?_
      refine wl_pure (v := .agg #[.string ⟨p0.toArray⟩, .int .i64 (0 : Int), .int .i64 (0 : Int)]) tt_ok rfl rfl ?_
      refine wl_box rfl rfl rfl (fun b31 => ?_)
      refine wl_pure tt_ok rfl rfl ?_
      refine wl_nil ?_
      refine wx_then ?_
      refine wc_seq ?_
      refine wc_seq ?_
      refine wc_region ?_
      refine wl_pure tt_ok rfl rfl ?_
      refine wl_nil ?_
      refine wx_then ?_
      refine wc_block ?_
      replace h := bsome h; obtain ⟨o27, h, hl27⟩ := h
      refine wc_loop (fun m E L => ∃ (j27_7 : Int) (j27_n26_0 : T_codec_Reader) (j27_n31 : T_hindcastref02_Reader), m_hindcastlaw02_CodecReads_L26 F p1 m j27_7 j27_n26_0 j27_n31 = some o27 ∧ E = [(1, .slice p1a0 p1.length p1c0), (4, .bool false), (5, .pointer (some ⟨b26_0, 0, none⟩)), (6, .pointer (some ⟨b31, 0, none⟩)), (7, .int .i64 j27_7)] ∧ L = (⟨b26_0, [.string ⟨j27_n26_0.left.s.toArray⟩, .int .i64 j27_n26_0.left.e], 67, (0, 0)⟩ :: (⟨b31, [.string ⟨j27_n31.S.toArray⟩, .int .i64 j27_n31.At, .int .i64 j27_n31.E], 39, (0, 0)⟩ :: []))) F ⟨(0 : Int), v26, (T_hindcastref02_Reader.mk p0 (0 : Int) (0 : Int)), h, rfl, rfl⟩ (agree_cons rfl (agree_cons rfl (agree_cons rfl (agree_cons rfl (agree_cons rfl agree_nil))))) (pSub (pCons (Sel.sc Sel.hc) (pCons Sel.hc pNil))) ?_
      clear h
      rintro m _ _ ⟨j27_7, j27_n26_0, j27_n31, h, rfl, rfl⟩
      rcases m with _ | m
      · rw [m_hindcastlaw02_CodecReads_L26.eq_1] at h; cases h
      rw [m_hindcastlaw02_CodecReads_L26.eq_2] at h
      refine wc_seq ?_
      refine wc_seq ?_
      refine wc_region ?_
      refine wl_pure tt_ok rfl rfl ?_
      refine wl_pure tt_ok rfl rfl ?_
      refine wl_pure (v := .int .i64 (p1.length : Int)) tt_ok rfl rfl ?_
      refine wl_pure (v := .bool (decide (j27_7 < (p1.length : Int)))) tt_ok rfl rfl ?_
      refine wl_nil ?_
      refine wx_then ?_
      refine wc_cond rfl (fun hc => ?_) (fun hc => ?_)
      · replace h := ct hc h
        refine wc_skip ?_
        refine wx_then ?_
        refine wc_seq ?_
        refine wc_block ?_
        refine wc_seq ?_
        refine wc_region ?_
        refine wl_pure tt_ok rfl rfl ?_
        refine wl_nil ?_
        refine wx_then ?_
        refine wc_seq ?_
        refine wc_seq ?_
        refine wc_region ?_
        refine wl_pure tt_ok rfl rfl ?_
        refine wl_pure tt_ok rfl rfl ?_
        replace h := bsome h; obtain ⟨v40, x40, h⟩ := h
        refine wl_val (v := .pointer (some ((adOf p1a0).add (j27_7.toNat * 1 + 0)))) (val_ix (enc := (e1 .u8)) tt_ok rfl rfl rfl rfl p1S0 (e1_len _) rfl x40) rfl ?_
        refine wl_val (v := .int .u8 v40) (val_le tt_ok rfl p1S0 rsub_nil (e1_len _) x40 rfl) rfl ?_
        refine wl_pure (v := .int .u8 (Int.tmod v40 7)) tt_ok rfl rfl ?_
        refine wl_nil ?_
        refine wx_then ?_
        refine wc_block ?_
        refine wc_seq ?_
        refine wc_region ?_
        refine wl_pure (v := .bool ((Int.tmod v40 7) == (0 : Int))) tt_ok rfl rfl ?_
        refine wl_pure tt_ok rfl rfl ?_
        refine wl_nil ?_
        refine wx_then ?_
        refine wc_cond rfl (fun hc => ?_) (fun hc => ?_)
        · replace h := ct hc h
          refine wc_seq ?_
          refine wc_region ?_
          refine wl_pure tt_ok rfl rfl ?_
          replace h := bsome h; obtain ⟨⟨o52_0, v52⟩, x52, h⟩ := h; try dsimp only at h
          refine wl_cs Try.call14 rfl rfl rfl (s_sp (k_codec_Reader_U8 x52) (pCons Sel.hc pNil) (fun _ _ => trivial)) rfl ?_
          rintro _ _ ⟨_, ⟨rfl, rfl⟩, rfl⟩
          refine wl_pure (v := .int .u64 (IntKind.wrap .u64 v52)) tt_ok rfl rfl ?_
          refine wl_pure tt_ok rfl rfl ?_
          refine wl_nil ?_
          refine wx_then ?_
          refine wc_region ?_
          refine wl_pure tt_ok rfl rfl ?_
          refine wl_pure tt_ok rfl rfl ?_
          replace h := bsome h; obtain ⟨⟨o56_0, v56⟩, x56, h⟩ := h; try dsimp only at h
          refine wl_cs Try.call15 rfl rfl rfl (s_sp (k_hindcastref02_Reader_Number x56) (pCons (Sel.sc Sel.hc) pNil) (fun _ _ => trivial)) rfl ?_
          rintro _ _ ⟨_, ⟨rfl, rfl⟩, rfl⟩
          refine wl_pure (v := .bool ((IntKind.wrap .u64 v52) == v56)) tt_ok rfl rfl ?_
          refine wl_pure tt_ok rfl rfl ?_
          refine wl_nil ?_
          refine wx_block ?_
          refine wx_then ?_
          refine wc_seq ?_
          refine wc_quiet (by kernel_rfl) (by kernel_rfl) ?_
          refine wq_pure tt_ok rfl rfl ?_
          refine wq_pure (v := .bool (!((IntKind.wrap .u64 v52) == v56))) tt_ok rfl rfl ?_
          refine wq_pure tt_ok rfl rfl ?_
          replace h := bsome h; obtain ⟨v112, h, hg112⟩ := h
          refine wq_split (t := 104) rfl (fun hc => ?_) (fun hc => ?_)
          · replace h := ct hc h
            refine wq_skip rfl rfl ?_
            refine wq_skip rfl rfl ?_
            refine wq_skip rfl rfl ?_
            refine wq_skip rfl rfl ?_
            refine wq_skip rfl rfl ?_
            refine wq_skip rfl rfl ?_
            refine wq_skip rfl rfl ?_
            simp only [Option.some.injEq, Prod.mk.injEq] at h
            obtain rfl := h
            have h := hg112; clear hg112
            refine wq_pure (v := .bool true) tt_ok rfl rfl ?_
            refine wq_pure tt_ok rfl rfl ?_
            replace h := bsome h; obtain ⟨v119, h, hg119⟩ := h
            replace h := ct rfl h
            refine wq_skip rfl rfl ?_
            refine wq_skip rfl rfl ?_
            refine wq_skip rfl rfl ?_
            refine wq_skip rfl rfl ?_
            refine wq_skip rfl rfl ?_
            simp only [Option.some.injEq, Prod.mk.injEq] at h
            obtain rfl := h
            have h := hg119; clear hg119
            refine wq_pure (v := .bool true) tt_ok rfl rfl ?_
            refine wq_nil ?_
            refine wx_then ?_
            replace h := ct rfl h
            refine wc_cond_true rfl ?_
            refine wc_seq ?_
            refine wc_region ?_
            refine wl_pure tt_ok rfl rfl ?_
            refine wl_nil ?_
            refine wx_then ?_
            refine wc_ret ?_
            refine wx_block_ret ?_
            refine wx_then_ret ?_
            obtain rfl := Option.some.inj h
            have h := hl27; clear hl27; try dsimp only [orE_l, orE_r] at h
            refine wx_then_ret ?_
            refine wx_block_ret ?_
            refine wx_then_ret ?_
            simp only [Option.some.injEq] at h
            obtain rfl := h
            exact wx_pf tt_ok (.inl rfl) Try.results4 (Res.tmp rfl Res.nil) rfl
          · replace h := cf hc h
            refine wq_run rfl ?_
            refine wq_pure tt_ok rfl rfl ?_
            replace h := bsome h; obtain ⟨v106, x106, h⟩ := h
            refine wq_run rfl ?_
            refine wq_cq Try.call24 rfl rfl rfl (q_rd (k_codec_Reader_Err x106) (pCons (Sel.sc Sel.hc) pNil) (fun _ _ => trivial)) rfl ?_
            refine wq_run rfl ?_
            refine wq_pure tt_ok rfl rfl ?_
            refine wq_run rfl ?_
            refine wq_pure tt_ok rfl rfl ?_
            refine wq_run rfl ?_
            refine wq_pure (v := .pointer (some ⟨b31, 2, none⟩)) tt_ok rfl rfl ?_
            refine wq_run rfl ?_
            refine wq_val (v := .int .i64 o56_0.E) (val_load tt_ok rfl (List.Mem.head _) rfl) rfl ?_
            refine wq_run rfl ?_
            refine wq_pure (v := .bool (v106 != o56_0.E)) tt_ok rfl rfl ?_
            simp only [Option.some.injEq, Prod.mk.injEq] at h
            obtain rfl := h
            have h := hg112; clear hg112
            refine wq_pure (v := .bool (v106 != o56_0.E)) tt_ok rfl rfl ?_
            refine wq_pure tt_ok rfl rfl ?_
            replace h := bsome h; obtain ⟨v119, h, hg119⟩ := h
            refine wq_split (t := 113) rfl (fun hc => ?_) (fun hc => ?_)
            · replace h := ct hc h
              refine wq_skip rfl rfl ?_
              refine wq_skip rfl rfl ?_
              refine wq_skip rfl rfl ?_
              refine wq_skip rfl rfl ?_
              refine wq_skip rfl rfl ?_
              simp only [Option.some.injEq, Prod.mk.injEq] at h
              obtain rfl := h
              have h := hg119; clear hg119
              refine wq_pure (v := .bool true) tt_ok rfl rfl ?_
              refine wq_nil ?_
              refine wx_then ?_
              replace h := ct rfl h
              refine wc_cond_true rfl ?_
              refine wc_seq ?_
              refine wc_region ?_
              refine wl_pure tt_ok rfl rfl ?_
              refine wl_nil ?_
              refine wx_then ?_
              refine wc_ret ?_
              refine wx_block_ret ?_
              refine wx_then_ret ?_
              obtain rfl := Option.some.inj h
              have h := hl27; clear hl27; try dsimp only [orE_l, orE_r] at h
              refine wx_then_ret ?_
              refine wx_block_ret ?_
              refine wx_then_ret ?_
              simp only [Option.some.injEq] at h
              obtain rfl := h
              exact wx_pf tt_ok (.inl rfl) Try.results4 (Res.tmp rfl Res.nil) rfl
            · replace h := cf hc h
              refine wq_run rfl ?_
              refine wq_pure tt_ok rfl rfl ?_
              replace h := bsome h; obtain ⟨v115, x115, h⟩ := h
              refine wq_run rfl ?_
              refine wq_cq Try.call25 rfl rfl rfl (q_rd (k_codec_Reader_Rest x115) (pCons (Sel.sc Sel.hc) pNil) (fun _ _ => trivial)) rfl ?_
              refine wq_run rfl ?_
              refine wq_pure tt_ok rfl rfl ?_
              replace h := bsome h; obtain ⟨v117, x117, h⟩ := h
              refine wq_run rfl ?_
              refine wq_cq Try.call26 rfl rfl rfl (q_rd (k_hindcastref02_Reader_Rest x117) (pCons Sel.hc pNil) (fun _ _ => trivial)) rfl ?_
              refine wq_run rfl ?_
              refine wq_val (v := .bool (!(v115 == v117))) (val_sne tt_ok rfl rfl) rfl ?_
              simp only [Option.some.injEq, Prod.mk.injEq] at h
              obtain rfl := h
              have h := hg119; clear hg119
              refine wq_pure (v := .bool (!(v115 == v117))) tt_ok rfl rfl ?_
              refine wq_nil ?_
              refine wx_then ?_
              refine wc_cond rfl (fun hc => ?_) (fun hc => ?_)
              · replace h := ct hc h
                refine wc_seq ?_
                refine wc_region ?_
                refine wl_pure tt_ok rfl rfl ?_
                refine wl_nil ?_
                refine wx_then ?_
                refine wc_ret ?_
                refine wx_block_ret ?_
                refine wx_then_ret ?_
                obtain rfl := Option.some.inj h
                have h := hl27; clear hl27; try dsimp only [orE_l, orE_r] at h
                refine wx_then_ret ?_
                refine wx_block_ret ?_
                refine wx_then_ret ?_
                simp only [Option.some.injEq] at h
                obtain rfl := h
                exact wx_pf tt_ok (.inl rfl) Try.results4 (Res.tmp rfl Res.nil) rfl
              · replace h := cf hc h
                refine wc_skip ?_
                refine wx_block ?_
                refine wx_then ?_
                refine wc_region ?_
                refine wl_pure tt_ok rfl rfl ?_
                refine wl_pure (v := .int .i64 (IntKind.wrap .i64 (j27_7 + (1 : Int)))) tt_ok rfl rfl ?_
                refine wl_pure tt_ok rfl rfl ?_
                refine wl_nil ?_
                exact wx_round m (Nat.lt_succ_self m) ⟨(IntKind.wrap .i64 (j27_7 + (1 : Int))), o52_0, o56_0, h, rfl, rfl⟩ (agree_cons rfl (agree_cons rfl (agree_cons rfl (agree_cons rfl (agree_cons rfl agree_nil))))) (pSub (pCons (Sel.sc Sel.hc) (pCons Sel.hc pNil)))
        · replace h := cf hc h
          refine wc_seq ?_
          refine wc_region ?_
          refine wl_pure (v := .bool ((Int.tmod v40 7) == (1 : Int))) tt_ok rfl rfl ?_
          refine wl_pure tt_ok rfl rfl ?_
          refine wl_nil ?_
          refine wx_then ?_
          refine wc_cond rfl (fun hc => ?_) (fun hc => ?_)
          · replace h := ct hc h
            refine wc_seq ?_
            refine wc_region ?_
            refine wl_pure tt_ok rfl rfl ?_
            replace h := bsome h; obtain ⟨⟨o61_0, v61⟩, x61, h⟩ := h; try dsimp only at h
            refine wl_cs Try.call16 rfl rfl rfl (s_sp (k_codec_Reader_U16 x61) (pCons Sel.hc pNil) (fun _ _ => trivial)) rfl ?_
            rintro _ _ ⟨_, ⟨rfl, rfl⟩, rfl⟩
            refine wl_pure (v := .int .u64 (IntKind.wrap .u64 v61)) tt_ok rfl rfl ?_
            refine wl_pure tt_ok rfl rfl ?_
            refine wl_nil ?_
            refine wx_then ?_
            refine wc_region ?_
            refine wl_pure tt_ok rfl rfl ?_
            refine wl_pure tt_ok rfl rfl ?_
            replace h := bsome h; obtain ⟨⟨o65_0, v65⟩, x65, h⟩ := h; try dsimp only at h
            refine wl_cs Try.call15 rfl rfl rfl (s_sp (k_hindcastref02_Reader_Number x65) (pCons (Sel.sc Sel.hc) pNil) (fun _ _ => trivial)) rfl ?_
            rintro _ _ ⟨_, ⟨rfl, rfl⟩, rfl⟩
            refine wl_pure (v := .bool ((IntKind.wrap .u64 v61) == v65)) tt_ok rfl rfl ?_
            refine wl_pure tt_ok rfl rfl ?_
            refine wl_nil ?_
            refine wx_block ?_
            refine wx_then ?_
            refine wc_seq ?_
            refine wc_quiet (by kernel_rfl) (by kernel_rfl) ?_
            refine wq_pure tt_ok rfl rfl ?_
            refine wq_pure (v := .bool (!((IntKind.wrap .u64 v61) == v65))) tt_ok rfl rfl ?_
            refine wq_pure tt_ok rfl rfl ?_
            replace h := bsome h; obtain ⟨v112, h, hg112⟩ := h
            refine wq_split (t := 104) rfl (fun hc => ?_) (fun hc => ?_)
            · replace h := ct hc h
              refine wq_skip rfl rfl ?_
              refine wq_skip rfl rfl ?_
              refine wq_skip rfl rfl ?_
              refine wq_skip rfl rfl ?_
              refine wq_skip rfl rfl ?_
              refine wq_skip rfl rfl ?_
              refine wq_skip rfl rfl ?_
              simp only [Option.some.injEq, Prod.mk.injEq] at h
              obtain rfl := h
              have h := hg112; clear hg112
              refine wq_pure (v := .bool true) tt_ok rfl rfl ?_
              refine wq_pure tt_ok rfl rfl ?_
              replace h := bsome h; obtain ⟨v119, h, hg119⟩ := h
              replace h := ct rfl h
              refine wq_skip rfl rfl ?_
              refine wq_skip rfl rfl ?_
              refine wq_skip rfl rfl ?_
              refine wq_skip rfl rfl ?_
              refine wq_skip rfl rfl ?_
              simp only [Option.some.injEq, Prod.mk.injEq] at h
              obtain rfl := h
              have h := hg119; clear hg119
              refine wq_pure (v := .bool true) tt_ok rfl rfl ?_
              refine wq_nil ?_
              refine wx_then ?_
              replace h := ct rfl h
              refine wc_cond_true rfl ?_
              refine wc_seq ?_
              refine wc_region ?_
              refine wl_pure tt_ok rfl rfl ?_
              refine wl_nil ?_
              refine wx_then ?_
              refine wc_ret ?_
              refine wx_block_ret ?_
              refine wx_then_ret ?_
              obtain rfl := Option.some.inj h
              have h := hl27; clear hl27; try dsimp only [orE_l, orE_r] at h
              refine wx_then_ret ?_
              refine wx_block_ret ?_
              refine wx_then_ret ?_
              simp only [Option.some.injEq] at h
              obtain rfl := h
              exact wx_pf tt_ok (.inl rfl) Try.results4 (Res.tmp rfl Res.nil) rfl
            · replace h := cf hc h
              refine wq_run rfl ?_
              refine wq_pure tt_ok rfl rfl ?_
              replace h := bsome h; obtain ⟨v106, x106, h⟩ := h
              refine wq_run rfl ?_
              refine wq_cq Try.call24 rfl rfl rfl (q_rd (k_codec_Reader_Err x106) (pCons (Sel.sc Sel.hc) pNil) (fun _ _ => trivial)) rfl ?_
              refine wq_run rfl ?_
              refine wq_pure tt_ok rfl rfl ?_
              refine wq_run rfl ?_
              refine wq_pure tt_ok rfl rfl ?_
              refine wq_run rfl ?_
              refine wq_pure (v := .pointer (some ⟨b31, 2, none⟩)) tt_ok rfl rfl ?_
              refine wq_run rfl ?_
              refine wq_val (v := .int .i64 o65_0.E) (val_load tt_ok rfl (List.Mem.head _) rfl) rfl ?_
              refine wq_run rfl ?_
              refine wq_pure (v := .bool (v106 != o65_0.E)) tt_ok rfl rfl ?_
              simp only [Option.some.injEq, Prod.mk.injEq] at h
              obtain rfl := h
              have h := hg112; clear hg112
              refine wq_pure (v := .bool (v106 != o65_0.E)) tt_ok rfl rfl ?_
              refine wq_pure tt_ok rfl rfl ?_
              replace h := bsome h; obtain ⟨v119, h, hg119⟩ := h
              refine wq_split (t := 113) rfl (fun hc => ?_) (fun hc => ?_)
              · replace h := ct hc h
                refine wq_skip rfl rfl ?_
                refine wq_skip rfl rfl ?_
                refine wq_skip rfl rfl ?_
                refine wq_skip rfl rfl ?_
                refine wq_skip rfl rfl ?_
                simp only [Option.some.injEq, Prod.mk.injEq] at h
                obtain rfl := h
                have h := hg119; clear hg119
                refine wq_pure (v := .bool true) tt_ok rfl rfl ?_
                refine wq_nil ?_
                refine wx_then ?_
                replace h := ct rfl h
                refine wc_cond_true rfl ?_
                refine wc_seq ?_
                refine wc_region ?_
                refine wl_pure tt_ok rfl rfl ?_
                refine wl_nil ?_
                refine wx_then ?_
                refine wc_ret ?_
                refine wx_block_ret ?_
                refine wx_then_ret ?_
                obtain rfl := Option.some.inj h
                have h := hl27; clear hl27; try dsimp only [orE_l, orE_r] at h
                refine wx_then_ret ?_
                refine wx_block_ret ?_
                refine wx_then_ret ?_
                simp only [Option.some.injEq] at h
                obtain rfl := h
                exact wx_pf tt_ok (.inl rfl) Try.results4 (Res.tmp rfl Res.nil) rfl
              · replace h := cf hc h
                refine wq_run rfl ?_
                refine wq_pure tt_ok rfl rfl ?_
                replace h := bsome h; obtain ⟨v115, x115, h⟩ := h
                refine wq_run rfl ?_
                refine wq_cq Try.call25 rfl rfl rfl (q_rd (k_codec_Reader_Rest x115) (pCons (Sel.sc Sel.hc) pNil) (fun _ _ => trivial)) rfl ?_
                refine wq_run rfl ?_
                refine wq_pure tt_ok rfl rfl ?_
                replace h := bsome h; obtain ⟨v117, x117, h⟩ := h
                refine wq_run rfl ?_
                refine wq_cq Try.call26 rfl rfl rfl (q_rd (k_hindcastref02_Reader_Rest x117) (pCons Sel.hc pNil) (fun _ _ => trivial)) rfl ?_
                refine wq_run rfl ?_
                refine wq_val (v := .bool (!(v115 == v117))) (val_sne tt_ok rfl rfl) rfl ?_
                simp only [Option.some.injEq, Prod.mk.injEq] at h
                obtain rfl := h
                have h := hg119; clear hg119
                refine wq_pure (v := .bool (!(v115 == v117))) tt_ok rfl rfl ?_
                refine wq_nil ?_
                refine wx_then ?_
                refine wc_cond rfl (fun hc => ?_) (fun hc => ?_)
                · replace h := ct hc h
                  refine wc_seq ?_
                  refine wc_region ?_
                  refine wl_pure tt_ok rfl rfl ?_
                  refine wl_nil ?_
                  refine wx_then ?_
                  refine wc_ret ?_
                  refine wx_block_ret ?_
                  refine wx_then_ret ?_
                  obtain rfl := Option.some.inj h
                  have h := hl27; clear hl27; try dsimp only [orE_l, orE_r] at h
                  refine wx_then_ret ?_
                  refine wx_block_ret ?_
                  refine wx_then_ret ?_
                  simp only [Option.some.injEq] at h
                  obtain rfl := h
                  exact wx_pf tt_ok (.inl rfl) Try.results4 (Res.tmp rfl Res.nil) rfl
                · replace h := cf hc h
                  refine wc_skip ?_
                  refine wx_block ?_
                  refine wx_then ?_
                  refine wc_region ?_
                  refine wl_pure tt_ok rfl rfl ?_
                  refine wl_pure (v := .int .i64 (IntKind.wrap .i64 (j27_7 + (1 : Int)))) tt_ok rfl rfl ?_
                  refine wl_pure tt_ok rfl rfl ?_
                  refine wl_nil ?_
                  exact wx_round m (Nat.lt_succ_self m) ⟨(IntKind.wrap .i64 (j27_7 + (1 : Int))), o61_0, o65_0, h, rfl, rfl⟩ (agree_cons rfl (agree_cons rfl (agree_cons rfl (agree_cons rfl (agree_cons rfl agree_nil))))) (pSub (pCons (Sel.sc Sel.hc) (pCons Sel.hc pNil)))
          · replace h := cf hc h
            refine wc_seq ?_
            refine wc_region ?_
            refine wl_pure (v := .bool ((Int.tmod v40 7) == (2 : Int))) tt_ok rfl rfl ?_
            refine wl_pure tt_ok rfl rfl ?_
            refine wl_nil ?_
            refine wx_then ?_
            refine wc_cond rfl (fun hc => ?_) (fun hc => ?_)
            · replace h := ct hc h
              refine wc_seq ?_
              refine wc_region ?_
              refine wl_pure tt_ok rfl rfl ?_
              replace h := bsome h; obtain ⟨⟨o70_0, v70⟩, x70, h⟩ := h; try dsimp only at h
              refine wl_cs Try.call17 rfl rfl rfl (s_sp (k_codec_Reader_U32 x70) (pCons Sel.hc pNil) (fun _ _ => trivial)) rfl ?_
              rintro _ _ ⟨_, ⟨rfl, rfl⟩, rfl⟩
              refine wl_pure (v := .int .u64 (IntKind.wrap .u64 v70)) tt_ok rfl rfl ?_
              refine wl_pure tt_ok rfl rfl ?_
              refine wl_nil ?_
              refine wx_then ?_
              refine wc_region ?_
              refine wl_pure tt_ok rfl rfl ?_
              refine wl_pure tt_ok rfl rfl ?_
              replace h := bsome h; obtain ⟨⟨o74_0, v74⟩, x74, h⟩ := h; try dsimp only at h
              refine wl_cs Try.call15 rfl rfl rfl (s_sp (k_hindcastref02_Reader_Number x74) (pCons (Sel.sc Sel.hc) pNil) (fun _ _ => trivial)) rfl ?_
              rintro _ _ ⟨_, ⟨rfl, rfl⟩, rfl⟩
              refine wl_pure (v := .bool ((IntKind.wrap .u64 v70) == v74)) tt_ok rfl rfl ?_
              refine wl_pure tt_ok rfl rfl ?_
              refine wl_nil ?_
              refine wx_block ?_
              refine wx_then ?_
              refine wc_seq ?_
              refine wc_quiet (by kernel_rfl) (by kernel_rfl) ?_
              refine wq_pure tt_ok rfl rfl ?_
              refine wq_pure (v := .bool (!((IntKind.wrap .u64 v70) == v74))) tt_ok rfl rfl ?_
              refine wq_pure tt_ok rfl rfl ?_
              replace h := bsome h; obtain ⟨v112, h, hg112⟩ := h
              refine wq_split (t := 104) rfl (fun hc => ?_) (fun hc => ?_)
              · replace h := ct hc h
                refine wq_skip rfl rfl ?_
                refine wq_skip rfl rfl ?_
                refine wq_skip rfl rfl ?_
                refine wq_skip rfl rfl ?_
                refine wq_skip rfl rfl ?_
                refine wq_skip rfl rfl ?_
                refine wq_skip rfl rfl ?_
                simp only [Option.some.injEq, Prod.mk.injEq] at h
                obtain rfl := h
                have h := hg112; clear hg112
                refine wq_pure (v := .bool true) tt_ok rfl rfl ?_
                refine wq_pure tt_ok rfl rfl ?_
                replace h := bsome h; obtain ⟨v119, h, hg119⟩ := h
                replace h := ct rfl h
                refine wq_skip rfl rfl ?_
                refine wq_skip rfl rfl ?_
                refine wq_skip rfl rfl ?_
                refine wq_skip rfl rfl ?_
                refine wq_skip rfl rfl ?_
                simp only [Option.some.injEq, Prod.mk.injEq] at h
                obtain rfl := h
                have h := hg119; clear hg119
                refine wq_pure (v := .bool true) tt_ok rfl rfl ?_
                refine wq_nil ?_
                refine wx_then ?_
                replace h := ct rfl h
                refine wc_cond_true rfl ?_
                refine wc_seq ?_
                refine wc_region ?_
                refine wl_pure tt_ok rfl rfl ?_
                refine wl_nil ?_
                refine wx_then ?_
                refine wc_ret ?_
                refine wx_block_ret ?_
                refine wx_then_ret ?_
                obtain rfl := Option.some.inj h
                have h := hl27; clear hl27; try dsimp only [orE_l, orE_r] at h
                refine wx_then_ret ?_
                refine wx_block_ret ?_
                refine wx_then_ret ?_
                simp only [Option.some.injEq] at h
                obtain rfl := h
                exact wx_pf tt_ok (.inl rfl) Try.results4 (Res.tmp rfl Res.nil) rfl
              · replace h := cf hc h
                refine wq_run rfl ?_
                refine wq_pure tt_ok rfl rfl ?_
                replace h := bsome h; obtain ⟨v106, x106, h⟩ := h
                refine wq_run rfl ?_
                refine wq_cq Try.call24 rfl rfl rfl (q_rd (k_codec_Reader_Err x106) (pCons (Sel.sc Sel.hc) pNil) (fun _ _ => trivial)) rfl ?_
                refine wq_run rfl ?_
                refine wq_pure tt_ok rfl rfl ?_
                refine wq_run rfl ?_
                refine wq_pure tt_ok rfl rfl ?_
                refine wq_run rfl ?_
                refine wq_pure (v := .pointer (some ⟨b31, 2, none⟩)) tt_ok rfl rfl ?_
                refine wq_run rfl ?_
                refine wq_val (v := .int .i64 o74_0.E) (val_load tt_ok rfl (List.Mem.head _) rfl) rfl ?_
                refine wq_run rfl ?_
                refine wq_pure (v := .bool (v106 != o74_0.E)) tt_ok rfl rfl ?_
                simp only [Option.some.injEq, Prod.mk.injEq] at h
                obtain rfl := h
                have h := hg112; clear hg112
                refine wq_pure (v := .bool (v106 != o74_0.E)) tt_ok rfl rfl ?_
                refine wq_pure tt_ok rfl rfl ?_
                replace h := bsome h; obtain ⟨v119, h, hg119⟩ := h
                refine wq_split (t := 113) rfl (fun hc => ?_) (fun hc => ?_)
                · replace h := ct hc h
                  refine wq_skip rfl rfl ?_
                  refine wq_skip rfl rfl ?_
                  refine wq_skip rfl rfl ?_
                  refine wq_skip rfl rfl ?_
                  refine wq_skip rfl rfl ?_
                  simp only [Option.some.injEq, Prod.mk.injEq] at h
                  obtain rfl := h
                  have h := hg119; clear hg119
                  refine wq_pure (v := .bool true) tt_ok rfl rfl ?_
                  refine wq_nil ?_
                  refine wx_then ?_
                  replace h := ct rfl h
                  refine wc_cond_true rfl ?_
                  refine wc_seq ?_
                  refine wc_region ?_
                  refine wl_pure tt_ok rfl rfl ?_
                  refine wl_nil ?_
                  refine wx_then ?_
                  refine wc_ret ?_
                  refine wx_block_ret ?_
                  refine wx_then_ret ?_
                  obtain rfl := Option.some.inj h
                  have h := hl27; clear hl27; try dsimp only [orE_l, orE_r] at h
                  refine wx_then_ret ?_
                  refine wx_block_ret ?_
                  refine wx_then_ret ?_
                  simp only [Option.some.injEq] at h
                  obtain rfl := h
                  exact wx_pf tt_ok (.inl rfl) Try.results4 (Res.tmp rfl Res.nil) rfl
                · replace h := cf hc h
                  refine wq_run rfl ?_
                  refine wq_pure tt_ok rfl rfl ?_
                  replace h := bsome h; obtain ⟨v115, x115, h⟩ := h
                  refine wq_run rfl ?_
                  refine wq_cq Try.call25 rfl rfl rfl (q_rd (k_codec_Reader_Rest x115) (pCons (Sel.sc Sel.hc) pNil) (fun _ _ => trivial)) rfl ?_
                  refine wq_run rfl ?_
                  refine wq_pure tt_ok rfl rfl ?_
                  replace h := bsome h; obtain ⟨v117, x117, h⟩ := h
                  refine wq_run rfl ?_
                  refine wq_cq Try.call26 rfl rfl rfl (q_rd (k_hindcastref02_Reader_Rest x117) (pCons Sel.hc pNil) (fun _ _ => trivial)) rfl ?_
                  refine wq_run rfl ?_
                  refine wq_val (v := .bool (!(v115 == v117))) (val_sne tt_ok rfl rfl) rfl ?_
                  simp only [Option.some.injEq, Prod.mk.injEq] at h
                  obtain rfl := h
                  have h := hg119; clear hg119
                  refine wq_pure (v := .bool (!(v115 == v117))) tt_ok rfl rfl ?_
                  refine wq_nil ?_
                  refine wx_then ?_
                  refine wc_cond rfl (fun hc => ?_) (fun hc => ?_)
                  · replace h := ct hc h
                    refine wc_seq ?_
                    refine wc_region ?_
                    refine wl_pure tt_ok rfl rfl ?_
                    refine wl_nil ?_
                    refine wx_then ?_
                    refine wc_ret ?_
                    refine wx_block_ret ?_
                    refine wx_then_ret ?_
                    obtain rfl := Option.some.inj h
                    have h := hl27; clear hl27; try dsimp only [orE_l, orE_r] at h
                    refine wx_then_ret ?_
                    refine wx_block_ret ?_
                    refine wx_then_ret ?_
                    simp only [Option.some.injEq] at h
                    obtain rfl := h
                    exact wx_pf tt_ok (.inl rfl) Try.results4 (Res.tmp rfl Res.nil) rfl
                  · replace h := cf hc h
                    refine wc_skip ?_
                    refine wx_block ?_
                    refine wx_then ?_
                    refine wc_region ?_
                    refine wl_pure tt_ok rfl rfl ?_
                    refine wl_pure (v := .int .i64 (IntKind.wrap .i64 (j27_7 + (1 : Int)))) tt_ok rfl rfl ?_
                    refine wl_pure tt_ok rfl rfl ?_
                    refine wl_nil ?_
                    exact wx_round m (Nat.lt_succ_self m) ⟨(IntKind.wrap .i64 (j27_7 + (1 : Int))), o70_0, o74_0, h, rfl, rfl⟩ (agree_cons rfl (agree_cons rfl (agree_cons rfl (agree_cons rfl (agree_cons rfl agree_nil))))) (pSub (pCons (Sel.sc Sel.hc) (pCons Sel.hc pNil)))
            · replace h := cf hc h
              refine wc_seq ?_
              refine wc_region ?_
              refine wl_pure (v := .bool ((Int.tmod v40 7) == (3 : Int))) tt_ok rfl rfl ?_
              refine wl_pure tt_ok rfl rfl ?_
              refine wl_nil ?_
              refine wx_then ?_
              refine wc_cond rfl (fun hc => ?_) (fun hc => ?_)
              · replace h := ct hc h
                refine wc_seq ?_
                refine wc_region ?_
                refine wl_pure tt_ok rfl rfl ?_
                replace h := bsome h; obtain ⟨⟨o79_0, v79⟩, x79, h⟩ := h; try dsimp only at h
                refine wl_cs Try.call18 rfl rfl rfl (s_sp (k_codec_Reader_U64 x79) (pCons Sel.hc pNil) (fun _ _ => trivial)) rfl ?_
                rintro _ _ ⟨_, ⟨rfl, rfl⟩, rfl⟩
                refine wl_pure tt_ok rfl rfl ?_
                refine wl_nil ?_
                refine wx_then ?_
                refine wc_region ?_
                refine wl_pure tt_ok rfl rfl ?_
                refine wl_pure tt_ok rfl rfl ?_
                replace h := bsome h; obtain ⟨⟨o82_0, v82⟩, x82, h⟩ := h; try dsimp only at h
                refine wl_cs Try.call15 rfl rfl rfl (s_sp (k_hindcastref02_Reader_Number x82) (pCons (Sel.sc Sel.hc) pNil) (fun _ _ => trivial)) rfl ?_
                rintro _ _ ⟨_, ⟨rfl, rfl⟩, rfl⟩
                refine wl_pure (v := .bool (v79 == v82)) tt_ok rfl rfl ?_
                refine wl_pure tt_ok rfl rfl ?_
                refine wl_nil ?_
                refine wx_block ?_
                refine wx_then ?_
                refine wc_seq ?_
                refine wc_quiet (by kernel_rfl) (by kernel_rfl) ?_
                refine wq_pure tt_ok rfl rfl ?_
                refine wq_pure (v := .bool (!(v79 == v82))) tt_ok rfl rfl ?_
                refine wq_pure tt_ok rfl rfl ?_
                replace h := bsome h; obtain ⟨v112, h, hg112⟩ := h
                refine wq_split (t := 104) rfl (fun hc => ?_) (fun hc => ?_)
                · replace h := ct hc h
                  refine wq_skip rfl rfl ?_
                  refine wq_skip rfl rfl ?_
                  refine wq_skip rfl rfl ?_
                  refine wq_skip rfl rfl ?_
                  refine wq_skip rfl rfl ?_
                  refine wq_skip rfl rfl ?_
                  refine wq_skip rfl rfl ?_
                  simp only [Option.some.injEq, Prod.mk.injEq] at h
                  obtain rfl := h
                  have h := hg112; clear hg112
                  refine wq_pure (v := .bool true) tt_ok rfl rfl ?_
                  refine wq_pure tt_ok rfl rfl ?_
                  replace h := bsome h; obtain ⟨v119, h, hg119⟩ := h
                  replace h := ct rfl h
                  refine wq_skip rfl rfl ?_
                  refine wq_skip rfl rfl ?_
                  refine wq_skip rfl rfl ?_
                  refine wq_skip rfl rfl ?_
                  refine wq_skip rfl rfl ?_
                  simp only [Option.some.injEq, Prod.mk.injEq] at h
                  obtain rfl := h
                  have h := hg119; clear hg119
                  refine wq_pure (v := .bool true) tt_ok rfl rfl ?_
                  refine wq_nil ?_
                  refine wx_then ?_
                  replace h := ct rfl h
                  refine wc_cond_true rfl ?_
                  refine wc_seq ?_
                  refine wc_region ?_
                  refine wl_pure tt_ok rfl rfl ?_
                  refine wl_nil ?_
                  refine wx_then ?_
                  refine wc_ret ?_
                  refine wx_block_ret ?_
                  refine wx_then_ret ?_
                  obtain rfl := Option.some.inj h
                  have h := hl27; clear hl27; try dsimp only [orE_l, orE_r] at h
                  refine wx_then_ret ?_
                  refine wx_block_ret ?_
                  refine wx_then_ret ?_
                  simp only [Option.some.injEq] at h
                  obtain rfl := h
                  exact wx_pf tt_ok (.inl rfl) Try.results4 (Res.tmp rfl Res.nil) rfl
                · replace h := cf hc h
                  refine wq_run rfl ?_
                  refine wq_pure tt_ok rfl rfl ?_
                  replace h := bsome h; obtain ⟨v106, x106, h⟩ := h
                  refine wq_run rfl ?_
                  refine wq_cq Try.call24 rfl rfl rfl (q_rd (k_codec_Reader_Err x106) (pCons (Sel.sc Sel.hc) pNil) (fun _ _ => trivial)) rfl ?_
                  refine wq_run rfl ?_
                  refine wq_pure tt_ok rfl rfl ?_
                  refine wq_run rfl ?_
                  refine wq_pure tt_ok rfl rfl ?_
                  refine wq_run rfl ?_
                  refine wq_pure (v := .pointer (some ⟨b31, 2, none⟩)) tt_ok rfl rfl ?_
                  refine wq_run rfl ?_
                  refine wq_val (v := .int .i64 o82_0.E) (val_load tt_ok rfl (List.Mem.head _) rfl) rfl ?_
                  refine wq_run rfl ?_
                  refine wq_pure (v := .bool (v106 != o82_0.E)) tt_ok rfl rfl ?_
                  simp only [Option.some.injEq, Prod.mk.injEq] at h
                  obtain rfl := h
                  have h := hg112; clear hg112
                  refine wq_pure (v := .bool (v106 != o82_0.E)) tt_ok rfl rfl ?_
                  refine wq_pure tt_ok rfl rfl ?_
                  replace h := bsome h; obtain ⟨v119, h, hg119⟩ := h
                  refine wq_split (t := 113) rfl (fun hc => ?_) (fun hc => ?_)
                  · replace h := ct hc h
                    refine wq_skip rfl rfl ?_
                    refine wq_skip rfl rfl ?_
                    refine wq_skip rfl rfl ?_
                    refine wq_skip rfl rfl ?_
                    refine wq_skip rfl rfl ?_
                    simp only [Option.some.injEq, Prod.mk.injEq] at h
                    obtain rfl := h
                    have h := hg119; clear hg119
                    refine wq_pure (v := .bool true) tt_ok rfl rfl ?_
                    refine wq_nil ?_
                    refine wx_then ?_
                    replace h := ct rfl h
                    refine wc_cond_true rfl ?_
                    refine wc_seq ?_
                    refine wc_region ?_
                    refine wl_pure tt_ok rfl rfl ?_
                    refine wl_nil ?_
                    refine wx_then ?_
                    refine wc_ret ?_
                    refine wx_block_ret ?_
                    refine wx_then_ret ?_
                    obtain rfl := Option.some.inj h
                    have h := hl27; clear hl27; try dsimp only [orE_l, orE_r] at h
                    refine wx_then_ret ?_
                    refine wx_block_ret ?_
                    refine wx_then_ret ?_
                    simp only [Option.some.injEq] at h
                    obtain rfl := h
                    exact wx_pf tt_ok (.inl rfl) Try.results4 (Res.tmp rfl Res.nil) rfl
                  · replace h := cf hc h
                    refine wq_run rfl ?_
                    refine wq_pure tt_ok rfl rfl ?_
                    replace h := bsome h; obtain ⟨v115, x115, h⟩ := h
                    refine wq_run rfl ?_
                    refine wq_cq Try.call25 rfl rfl rfl (q_rd (k_codec_Reader_Rest x115) (pCons (Sel.sc Sel.hc) pNil) (fun _ _ => trivial)) rfl ?_
                    refine wq_run rfl ?_
                    refine wq_pure tt_ok rfl rfl ?_
                    replace h := bsome h; obtain ⟨v117, x117, h⟩ := h
                    refine wq_run rfl ?_
                    refine wq_cq Try.call26 rfl rfl rfl (q_rd (k_hindcastref02_Reader_Rest x117) (pCons Sel.hc pNil) (fun _ _ => trivial)) rfl ?_
                    refine wq_run rfl ?_
                    refine wq_val (v := .bool (!(v115 == v117))) (val_sne tt_ok rfl rfl) rfl ?_
                    simp only [Option.some.injEq, Prod.mk.injEq] at h
                    obtain rfl := h
                    have h := hg119; clear hg119
                    refine wq_pure (v := .bool (!(v115 == v117))) tt_ok rfl rfl ?_
                    refine wq_nil ?_
                    refine wx_then ?_
                    refine wc_cond rfl (fun hc => ?_) (fun hc => ?_)
                    · replace h := ct hc h
                      refine wc_seq ?_
                      refine wc_region ?_
                      refine wl_pure tt_ok rfl rfl ?_
                      refine wl_nil ?_
                      refine wx_then ?_
                      refine wc_ret ?_
                      refine wx_block_ret ?_
                      refine wx_then_ret ?_
                      obtain rfl := Option.some.inj h
                      have h := hl27; clear hl27; try dsimp only [orE_l, orE_r] at h
                      refine wx_then_ret ?_
                      refine wx_block_ret ?_
                      refine wx_then_ret ?_
                      simp only [Option.some.injEq] at h
                      obtain rfl := h
                      exact wx_pf tt_ok (.inl rfl) Try.results4 (Res.tmp rfl Res.nil) rfl
                    · replace h := cf hc h
                      refine wc_skip ?_
                      refine wx_block ?_
                      refine wx_then ?_
                      refine wc_region ?_
                      refine wl_pure tt_ok rfl rfl ?_
                      refine wl_pure (v := .int .i64 (IntKind.wrap .i64 (j27_7 + (1 : Int)))) tt_ok rfl rfl ?_
                      refine wl_pure tt_ok rfl rfl ?_
                      refine wl_nil ?_
                      exact wx_round m (Nat.lt_succ_self m) ⟨(IntKind.wrap .i64 (j27_7 + (1 : Int))), o79_0, o82_0, h, rfl, rfl⟩ (agree_cons rfl (agree_cons rfl (agree_cons rfl (agree_cons rfl (agree_cons rfl agree_nil))))) (pSub (pCons (Sel.sc Sel.hc) (pCons Sel.hc pNil)))
              · replace h := cf hc h
                refine wc_seq ?_
                refine wc_region ?_
                refine wl_pure (v := .bool ((Int.tmod v40 7) == (4 : Int))) tt_ok rfl rfl ?_
                refine wl_pure tt_ok rfl rfl ?_
                refine wl_nil ?_
                refine wx_then ?_
                refine wc_cond rfl (fun hc => ?_) (fun hc => ?_)
                · replace h := ct hc h
                  refine wc_seq ?_
                  refine wc_region ?_
                  refine wl_pure tt_ok rfl rfl ?_
                  replace h := bsome h; obtain ⟨⟨o87_0, v87⟩, x87, h⟩ := h; try dsimp only at h
                  refine wl_cs Try.call19 rfl rfl rfl (s_sp (k_codec_Reader_I32 x87) (pCons Sel.hc pNil) (fun _ _ => trivial)) rfl ?_
                  rintro _ _ ⟨_, ⟨rfl, rfl⟩, rfl⟩
                  refine wl_pure (v := .int .u32 (IntKind.wrap .u32 v87)) tt_ok rfl rfl ?_
                  refine wl_pure tt_ok rfl rfl ?_
                  refine wl_nil ?_
                  refine wx_then ?_
                  refine wc_region ?_
                  refine wl_pure tt_ok rfl rfl ?_
                  refine wl_pure (v := .int .u64 (IntKind.wrap .u64 (IntKind.wrap .u32 v87))) tt_ok rfl rfl ?_
                  refine wl_pure tt_ok rfl rfl ?_
                  replace h := bsome h; obtain ⟨⟨o92_0, v92⟩, x92, h⟩ := h; try dsimp only at h
                  refine wl_cs Try.call15 rfl rfl rfl (s_sp (k_hindcastref02_Reader_Number x92) (pCons (Sel.sc Sel.hc) pNil) (fun _ _ => trivial)) rfl ?_
                  rintro _ _ ⟨_, ⟨rfl, rfl⟩, rfl⟩
                  refine wl_pure (v := .bool ((IntKind.wrap .u64 (IntKind.wrap .u32 v87)) == v92)) tt_ok rfl rfl ?_
                  refine wl_pure tt_ok rfl rfl ?_
                  refine wl_nil ?_
                  refine wx_block ?_
                  refine wx_then ?_
                  refine wc_seq ?_
                  refine wc_quiet (by kernel_rfl) (by kernel_rfl) ?_
                  refine wq_pure tt_ok rfl rfl ?_
                  refine wq_pure (v := .bool (!((IntKind.wrap .u64 (IntKind.wrap .u32 v87)) == v92))) tt_ok rfl rfl ?_
                  refine wq_pure tt_ok rfl rfl ?_
                  replace h := bsome h; obtain ⟨v112, h, hg112⟩ := h
                  refine wq_split (t := 104) rfl (fun hc => ?_) (fun hc => ?_)
                  · replace h := ct hc h
                    refine wq_skip rfl rfl ?_
                    refine wq_skip rfl rfl ?_
                    refine wq_skip rfl rfl ?_
                    refine wq_skip rfl rfl ?_
                    refine wq_skip rfl rfl ?_
                    refine wq_skip rfl rfl ?_
                    refine wq_skip rfl rfl ?_
                    simp only [Option.some.injEq, Prod.mk.injEq] at h
                    obtain rfl := h
                    have h := hg112; clear hg112
                    refine wq_pure (v := .bool true) tt_ok rfl rfl ?_
                    refine wq_pure tt_ok rfl rfl ?_
                    replace h := bsome h; obtain ⟨v119, h, hg119⟩ := h
                    replace h := ct rfl h
                    refine wq_skip rfl rfl ?_
                    refine wq_skip rfl rfl ?_
                    refine wq_skip rfl rfl ?_
                    refine wq_skip rfl rfl ?_
                    refine wq_skip rfl rfl ?_
                    simp only [Option.some.injEq, Prod.mk.injEq] at h
                    obtain rfl := h
                    have h := hg119; clear hg119
                    refine wq_pure (v := .bool true) tt_ok rfl rfl ?_
                    refine wq_nil ?_
                    refine wx_then ?_
                    replace h := ct rfl h
                    refine wc_cond_true rfl ?_
                    refine wc_seq ?_
                    refine wc_region ?_
                    refine wl_pure tt_ok rfl rfl ?_
                    refine wl_nil ?_
                    refine wx_then ?_
                    refine wc_ret ?_
                    refine wx_block_ret ?_
                    refine wx_then_ret ?_
                    obtain rfl := Option.some.inj h
                    have h := hl27; clear hl27; try dsimp only [orE_l, orE_r] at h
                    refine wx_then_ret ?_
                    refine wx_block_ret ?_
                    refine wx_then_ret ?_
                    simp only [Option.some.injEq] at h
                    obtain rfl := h
                    exact wx_pf tt_ok (.inl rfl) Try.results4 (Res.tmp rfl Res.nil) rfl
                  · replace h := cf hc h
                    refine wq_run rfl ?_
                    refine wq_pure tt_ok rfl rfl ?_
                    replace h := bsome h; obtain ⟨v106, x106, h⟩ := h
                    refine wq_run rfl ?_
                    refine wq_cq Try.call24 rfl rfl rfl (q_rd (k_codec_Reader_Err x106) (pCons (Sel.sc Sel.hc) pNil) (fun _ _ => trivial)) rfl ?_
                    refine wq_run rfl ?_
                    refine wq_pure tt_ok rfl rfl ?_
                    refine wq_run rfl ?_
                    refine wq_pure tt_ok rfl rfl ?_
                    refine wq_run rfl ?_
                    refine wq_pure (v := .pointer (some ⟨b31, 2, none⟩)) tt_ok rfl rfl ?_
                    refine wq_run rfl ?_
                    refine wq_val (v := .int .i64 o92_0.E) (val_load tt_ok rfl (List.Mem.head _) rfl) rfl ?_
                    refine wq_run rfl ?_
                    refine wq_pure (v := .bool (v106 != o92_0.E)) tt_ok rfl rfl ?_
                    simp only [Option.some.injEq, Prod.mk.injEq] at h
                    obtain rfl := h
                    have h := hg112; clear hg112
                    refine wq_pure (v := .bool (v106 != o92_0.E)) tt_ok rfl rfl ?_
                    refine wq_pure tt_ok rfl rfl ?_
                    replace h := bsome h; obtain ⟨v119, h, hg119⟩ := h
                    refine wq_split (t := 113) rfl (fun hc => ?_) (fun hc => ?_)
                    · replace h := ct hc h
                      refine wq_skip rfl rfl ?_
                      refine wq_skip rfl rfl ?_
                      refine wq_skip rfl rfl ?_
                      refine wq_skip rfl rfl ?_
                      refine wq_skip rfl rfl ?_
                      simp only [Option.some.injEq, Prod.mk.injEq] at h
                      obtain rfl := h
                      have h := hg119; clear hg119
                      refine wq_pure (v := .bool true) tt_ok rfl rfl ?_
                      refine wq_nil ?_
                      refine wx_then ?_
                      replace h := ct rfl h
                      refine wc_cond_true rfl ?_
                      refine wc_seq ?_
                      refine wc_region ?_
                      refine wl_pure tt_ok rfl rfl ?_
                      refine wl_nil ?_
                      refine wx_then ?_
                      refine wc_ret ?_
                      refine wx_block_ret ?_
                      refine wx_then_ret ?_
                      obtain rfl := Option.some.inj h
                      have h := hl27; clear hl27; try dsimp only [orE_l, orE_r] at h
                      refine wx_then_ret ?_
                      refine wx_block_ret ?_
                      refine wx_then_ret ?_
                      simp only [Option.some.injEq] at h
                      obtain rfl := h
                      exact wx_pf tt_ok (.inl rfl) Try.results4 (Res.tmp rfl Res.nil) rfl
                    · replace h := cf hc h
                      refine wq_run rfl ?_
                      refine wq_pure tt_ok rfl rfl ?_
                      replace h := bsome h; obtain ⟨v115, x115, h⟩ := h
                      refine wq_run rfl ?_
                      refine wq_cq Try.call25 rfl rfl rfl (q_rd (k_codec_Reader_Rest x115) (pCons (Sel.sc Sel.hc) pNil) (fun _ _ => trivial)) rfl ?_
                      refine wq_run rfl ?_
                      refine wq_pure tt_ok rfl rfl ?_
                      replace h := bsome h; obtain ⟨v117, x117, h⟩ := h
                      refine wq_run rfl ?_
                      refine wq_cq Try.call26 rfl rfl rfl (q_rd (k_hindcastref02_Reader_Rest x117) (pCons Sel.hc pNil) (fun _ _ => trivial)) rfl ?_
                      refine wq_run rfl ?_
                      refine wq_val (v := .bool (!(v115 == v117))) (val_sne tt_ok rfl rfl) rfl ?_
                      simp only [Option.some.injEq, Prod.mk.injEq] at h
                      obtain rfl := h
                      have h := hg119; clear hg119
                      refine wq_pure (v := .bool (!(v115 == v117))) tt_ok rfl rfl ?_
                      refine wq_nil ?_
                      refine wx_then ?_
                      refine wc_cond rfl (fun hc => ?_) (fun hc => ?_)
                      · replace h := ct hc h
                        refine wc_seq ?_
                        refine wc_region ?_
                        refine wl_pure tt_ok rfl rfl ?_
                        refine wl_nil ?_
                        refine wx_then ?_
                        refine wc_ret ?_
                        refine wx_block_ret ?_
                        refine wx_then_ret ?_
                        obtain rfl := Option.some.inj h
                        have h := hl27; clear hl27; try dsimp only [orE_l, orE_r] at h
                        refine wx_then_ret ?_
                        refine wx_block_ret ?_
                        refine wx_then_ret ?_
                        simp only [Option.some.injEq] at h
                        obtain rfl := h
                        exact wx_pf tt_ok (.inl rfl) Try.results4 (Res.tmp rfl Res.nil) rfl
                      · replace h := cf hc h
                        refine wc_skip ?_
                        refine wx_block ?_
                        refine wx_then ?_
                        refine wc_region ?_
                        refine wl_pure tt_ok rfl rfl ?_
                        refine wl_pure (v := .int .i64 (IntKind.wrap .i64 (j27_7 + (1 : Int)))) tt_ok rfl rfl ?_
                        refine wl_pure tt_ok rfl rfl ?_
                        refine wl_nil ?_
                        exact wx_round m (Nat.lt_succ_self m) ⟨(IntKind.wrap .i64 (j27_7 + (1 : Int))), o87_0, o92_0, h, rfl, rfl⟩ (agree_cons rfl (agree_cons rfl (agree_cons rfl (agree_cons rfl (agree_cons rfl agree_nil))))) (pSub (pCons (Sel.sc Sel.hc) (pCons Sel.hc pNil)))
                · replace h := cf hc h
                  refine wc_seq ?_
                  refine wc_region ?_
                  refine wl_pure (v := .bool ((Int.tmod v40 7) == (5 : Int))) tt_ok rfl rfl ?_
                  refine wl_pure tt_ok rfl rfl ?_
                  refine wl_nil ?_
                  refine wx_then ?_
                  refine wc_cond rfl (fun hc => ?_) (fun hc => ?_)
                  · replace h := ct hc h
                    refine wc_seq ?_
                    refine wc_region ?_
                    refine wl_pure tt_ok rfl rfl ?_
                    replace h := bsome h; obtain ⟨⟨o97_0, v97⟩, x97, h⟩ := h; try dsimp only at h
                    refine wl_cs Try.call20 rfl rfl rfl (s_sp (k_codec_Reader_Var x97) (pCons Sel.hc pNil) (fun _ _ => trivial)) rfl ?_
                    rintro _ _ ⟨_, ⟨rfl, rfl⟩, rfl⟩
                    refine wl_pure tt_ok rfl rfl ?_
                    refine wl_nil ?_
                    refine wx_then ?_
                    refine wc_region ?_
                    refine wl_pure tt_ok rfl rfl ?_
                    refine wl_pure tt_ok rfl rfl ?_
                    replace h := bsome h; obtain ⟨⟨o100_0, v100⟩, x100, h⟩ := h; try dsimp only at h
                    refine wl_cs Try.call21 rfl rfl rfl (s_sp (k_hindcastref02_Reader_Var x100) (pCons (Sel.sc Sel.hc) pNil) (fun _ _ => trivial)) rfl ?_
                    rintro _ _ ⟨_, ⟨rfl, rfl⟩, rfl⟩
                    refine wl_pure (v := .bool (v97 == v100)) tt_ok rfl rfl ?_
                    refine wl_pure tt_ok rfl rfl ?_
                    refine wl_nil ?_
                    refine wx_block ?_
                    refine wx_then ?_
                    refine wc_seq ?_
                    refine wc_quiet (by kernel_rfl) (by kernel_rfl) ?_
                    refine wq_pure tt_ok rfl rfl ?_
                    refine wq_pure (v := .bool (!(v97 == v100))) tt_ok rfl rfl ?_
                    refine wq_pure tt_ok rfl rfl ?_
                    replace h := bsome h; obtain ⟨v112, h, hg112⟩ := h
                    refine wq_split (t := 104) rfl (fun hc => ?_) (fun hc => ?_)
                    · replace h := ct hc h
                      refine wq_skip rfl rfl ?_
                      refine wq_skip rfl rfl ?_
                      refine wq_skip rfl rfl ?_
                      refine wq_skip rfl rfl ?_
                      refine wq_skip rfl rfl ?_
                      refine wq_skip rfl rfl ?_
                      refine wq_skip rfl rfl ?_
                      simp only [Option.some.injEq, Prod.mk.injEq] at h
                      obtain rfl := h
                      have h := hg112; clear hg112
                      refine wq_pure (v := .bool true) tt_ok rfl rfl ?_
                      refine wq_pure tt_ok rfl rfl ?_
                      replace h := bsome h; obtain ⟨v119, h, hg119⟩ := h
                      replace h := ct rfl h
                      refine wq_skip rfl rfl ?_
                      refine wq_skip rfl rfl ?_
                      refine wq_skip rfl rfl ?_
                      refine wq_skip rfl rfl ?_
                      refine wq_skip rfl rfl ?_
                      simp only [Option.some.injEq, Prod.mk.injEq] at h
                      obtain rfl := h
                      have h := hg119; clear hg119
                      refine wq_pure (v := .bool true) tt_ok rfl rfl ?_
                      refine wq_nil ?_
                      refine wx_then ?_
                      replace h := ct rfl h
                      refine wc_cond_true rfl ?_
                      refine wc_seq ?_
                      refine wc_region ?_
                      refine wl_pure tt_ok rfl rfl ?_
                      refine wl_nil ?_
                      refine wx_then ?_
                      refine wc_ret ?_
                      refine wx_block_ret ?_
                      refine wx_then_ret ?_
                      obtain rfl := Option.some.inj h
                      have h := hl27; clear hl27; try dsimp only [orE_l, orE_r] at h
                      refine wx_then_ret ?_
                      refine wx_block_ret ?_
                      refine wx_then_ret ?_
                      simp only [Option.some.injEq] at h
                      obtain rfl := h
                      exact wx_pf tt_ok (.inl rfl) Try.results4 (Res.tmp rfl Res.nil) rfl
                    · replace h := cf hc h
                      refine wq_run rfl ?_
                      refine wq_pure tt_ok rfl rfl ?_
                      replace h := bsome h; obtain ⟨v106, x106, h⟩ := h
                      refine wq_run rfl ?_
                      refine wq_cq Try.call24 rfl rfl rfl (q_rd (k_codec_Reader_Err x106) (pCons (Sel.sc Sel.hc) pNil) (fun _ _ => trivial)) rfl ?_
                      refine wq_run rfl ?_
                      refine wq_pure tt_ok rfl rfl ?_
                      refine wq_run rfl ?_
                      refine wq_pure tt_ok rfl rfl ?_
                      refine wq_run rfl ?_
                      refine wq_pure (v := .pointer (some ⟨b31, 2, none⟩)) tt_ok rfl rfl ?_
                      refine wq_run rfl ?_
                      refine wq_val (v := .int .i64 o100_0.E) (val_load tt_ok rfl (List.Mem.head _) rfl) rfl ?_
                      refine wq_run rfl ?_
                      refine wq_pure (v := .bool (v106 != o100_0.E)) tt_ok rfl rfl ?_
                      simp only [Option.some.injEq, Prod.mk.injEq] at h
                      obtain rfl := h
                      have h := hg112; clear hg112
                      refine wq_pure (v := .bool (v106 != o100_0.E)) tt_ok rfl rfl ?_
                      refine wq_pure tt_ok rfl rfl ?_
                      replace h := bsome h; obtain ⟨v119, h, hg119⟩ := h
                      refine wq_split (t := 113) rfl (fun hc => ?_) (fun hc => ?_)
                      · replace h := ct hc h
                        refine wq_skip rfl rfl ?_
                        refine wq_skip rfl rfl ?_
                        refine wq_skip rfl rfl ?_
                        refine wq_skip rfl rfl ?_
                        refine wq_skip rfl rfl ?_
                        simp only [Option.some.injEq, Prod.mk.injEq] at h
                        obtain rfl := h
                        have h := hg119; clear hg119
                        refine wq_pure (v := .bool true) tt_ok rfl rfl ?_
                        refine wq_nil ?_
                        refine wx_then ?_
                        replace h := ct rfl h
                        refine wc_cond_true rfl ?_
                        refine wc_seq ?_
                        refine wc_region ?_
                        refine wl_pure tt_ok rfl rfl ?_
                        refine wl_nil ?_
                        refine wx_then ?_
                        refine wc_ret ?_
                        refine wx_block_ret ?_
                        refine wx_then_ret ?_
                        obtain rfl := Option.some.inj h
                        have h := hl27; clear hl27; try dsimp only [orE_l, orE_r] at h
                        refine wx_then_ret ?_
                        refine wx_block_ret ?_
                        refine wx_then_ret ?_
                        simp only [Option.some.injEq] at h
                        obtain rfl := h
                        exact wx_pf tt_ok (.inl rfl) Try.results4 (Res.tmp rfl Res.nil) rfl
                      · replace h := cf hc h
                        refine wq_run rfl ?_
                        refine wq_pure tt_ok rfl rfl ?_
                        replace h := bsome h; obtain ⟨v115, x115, h⟩ := h
                        refine wq_run rfl ?_
                        refine wq_cq Try.call25 rfl rfl rfl (q_rd (k_codec_Reader_Rest x115) (pCons (Sel.sc Sel.hc) pNil) (fun _ _ => trivial)) rfl ?_
                        refine wq_run rfl ?_
                        refine wq_pure tt_ok rfl rfl ?_
                        replace h := bsome h; obtain ⟨v117, x117, h⟩ := h
                        refine wq_run rfl ?_
                        refine wq_cq Try.call26 rfl rfl rfl (q_rd (k_hindcastref02_Reader_Rest x117) (pCons Sel.hc pNil) (fun _ _ => trivial)) rfl ?_
                        refine wq_run rfl ?_
                        refine wq_val (v := .bool (!(v115 == v117))) (val_sne tt_ok rfl rfl) rfl ?_
                        simp only [Option.some.injEq, Prod.mk.injEq] at h
                        obtain rfl := h
                        have h := hg119; clear hg119
                        refine wq_pure (v := .bool (!(v115 == v117))) tt_ok rfl rfl ?_
                        refine wq_nil ?_
                        refine wx_then ?_
                        refine wc_cond rfl (fun hc => ?_) (fun hc => ?_)
                        · replace h := ct hc h
                          refine wc_seq ?_
                          refine wc_region ?_
                          refine wl_pure tt_ok rfl rfl ?_
                          refine wl_nil ?_
                          refine wx_then ?_
                          refine wc_ret ?_
                          refine wx_block_ret ?_
                          refine wx_then_ret ?_
                          obtain rfl := Option.some.inj h
                          have h := hl27; clear hl27; try dsimp only [orE_l, orE_r] at h
                          refine wx_then_ret ?_
                          refine wx_block_ret ?_
                          refine wx_then_ret ?_
                          simp only [Option.some.injEq] at h
                          obtain rfl := h
                          exact wx_pf tt_ok (.inl rfl) Try.results4 (Res.tmp rfl Res.nil) rfl
                        · replace h := cf hc h
                          refine wc_skip ?_
                          refine wx_block ?_
                          refine wx_then ?_
                          refine wc_region ?_
                          refine wl_pure tt_ok rfl rfl ?_
                          refine wl_pure (v := .int .i64 (IntKind.wrap .i64 (j27_7 + (1 : Int)))) tt_ok rfl rfl ?_
                          refine wl_pure tt_ok rfl rfl ?_
                          refine wl_nil ?_
                          exact wx_round m (Nat.lt_succ_self m) ⟨(IntKind.wrap .i64 (j27_7 + (1 : Int))), o97_0, o100_0, h, rfl, rfl⟩ (agree_cons rfl (agree_cons rfl (agree_cons rfl (agree_cons rfl (agree_cons rfl agree_nil))))) (pSub (pCons (Sel.sc Sel.hc) (pCons Sel.hc pNil)))
                  · replace h := cf hc h
                    refine wc_seq ?_
                    refine wc_region ?_
                    refine wl_pure tt_ok rfl rfl ?_
                    replace h := bsome h; obtain ⟨⟨o44_0, v44⟩, x44, h⟩ := h; try dsimp only at h
                    refine wl_cs Try.call22 rfl rfl rfl (s_sp (k_codec_Reader_Text x44) (pCons Sel.hc pNil) (fun _ _ => trivial)) rfl ?_
                    rintro _ _ ⟨_, ⟨rfl, rfl⟩, rfl⟩
                    refine wl_pure tt_ok rfl rfl ?_
                    refine wl_nil ?_
                    refine wx_then ?_
                    refine wc_region ?_
                    refine wl_pure tt_ok rfl rfl ?_
                    refine wl_pure tt_ok rfl rfl ?_
                    replace h := bsome h; obtain ⟨⟨o47_0, v47⟩, x47, h⟩ := h; try dsimp only at h
                    refine wl_cs Try.call23 rfl rfl rfl (s_sp (k_hindcastref02_Reader_Text x47) (pCons (Sel.sc Sel.hc) pNil) (fun _ _ => trivial)) rfl ?_
                    rintro _ _ ⟨_, ⟨rfl, rfl⟩, rfl⟩
                    refine wl_val (v := .bool (v44 == v47)) (val_seq tt_ok rfl rfl) rfl ?_
                    refine wl_pure tt_ok rfl rfl ?_
                    refine wl_nil ?_
                    refine wx_block ?_
                    refine wx_then ?_
                    refine wc_seq ?_
                    refine wc_quiet (by kernel_rfl) (by kernel_rfl) ?_
                    refine wq_pure tt_ok rfl rfl ?_
                    refine wq_pure (v := .bool (!(v44 == v47))) tt_ok rfl rfl ?_
                    refine wq_pure tt_ok rfl rfl ?_
                    replace h := bsome h; obtain ⟨v112, h, hg112⟩ := h
                    refine wq_split (t := 104) rfl (fun hc => ?_) (fun hc => ?_)
                    · replace h := ct hc h
                      refine wq_skip rfl rfl ?_
                      refine wq_skip rfl rfl ?_
                      refine wq_skip rfl rfl ?_
                      refine wq_skip rfl rfl ?_
                      refine wq_skip rfl rfl ?_
                      refine wq_skip rfl rfl ?_
                      refine wq_skip rfl rfl ?_
                      simp only [Option.some.injEq, Prod.mk.injEq] at h
                      obtain rfl := h
                      have h := hg112; clear hg112
                      refine wq_pure (v := .bool true) tt_ok rfl rfl ?_
                      refine wq_pure tt_ok rfl rfl ?_
                      replace h := bsome h; obtain ⟨v119, h, hg119⟩ := h
                      replace h := ct rfl h
                      refine wq_skip rfl rfl ?_
                      refine wq_skip rfl rfl ?_
                      refine wq_skip rfl rfl ?_
                      refine wq_skip rfl rfl ?_
                      refine wq_skip rfl rfl ?_
                      simp only [Option.some.injEq, Prod.mk.injEq] at h
                      obtain rfl := h
                      have h := hg119; clear hg119
                      refine wq_pure (v := .bool true) tt_ok rfl rfl ?_
                      refine wq_nil ?_
                      refine wx_then ?_
                      replace h := ct rfl h
                      refine wc_cond_true rfl ?_
                      refine wc_seq ?_
                      refine wc_region ?_
                      refine wl_pure tt_ok rfl rfl ?_
                      refine wl_nil ?_
                      refine wx_then ?_
                      refine wc_ret ?_
                      refine wx_block_ret ?_
                      refine wx_then_ret ?_
                      obtain rfl := Option.some.inj h
                      have h := hl27; clear hl27; try dsimp only [orE_l, orE_r] at h
                      refine wx_then_ret ?_
                      refine wx_block_ret ?_
                      refine wx_then_ret ?_
                      simp only [Option.some.injEq] at h
                      obtain rfl := h
                      exact wx_pf tt_ok (.inl rfl) Try.results4 (Res.tmp rfl Res.nil) rfl
                    · replace h := cf hc h
                      refine wq_run rfl ?_
                      refine wq_pure tt_ok rfl rfl ?_
                      replace h := bsome h; obtain ⟨v106, x106, h⟩ := h
                      refine wq_run rfl ?_
                      refine wq_cq Try.call24 rfl rfl rfl (q_rd (k_codec_Reader_Err x106) (pCons (Sel.sc Sel.hc) pNil) (fun _ _ => trivial)) rfl ?_
                      refine wq_run rfl ?_
                      refine wq_pure tt_ok rfl rfl ?_
                      refine wq_run rfl ?_
                      refine wq_pure tt_ok rfl rfl ?_
                      refine wq_run rfl ?_
                      refine wq_pure (v := .pointer (some ⟨b31, 2, none⟩)) tt_ok rfl rfl ?_
                      refine wq_run rfl ?_
                      refine wq_val (v := .int .i64 o47_0.E) (val_load tt_ok rfl (List.Mem.head _) rfl) rfl ?_
                      refine wq_run rfl ?_
                      refine wq_pure (v := .bool (v106 != o47_0.E)) tt_ok rfl rfl ?_
                      simp only [Option.some.injEq, Prod.mk.injEq] at h
                      obtain rfl := h
                      have h := hg112; clear hg112
                      refine wq_pure (v := .bool (v106 != o47_0.E)) tt_ok rfl rfl ?_
                      refine wq_pure tt_ok rfl rfl ?_
                      replace h := bsome h; obtain ⟨v119, h, hg119⟩ := h
                      refine wq_split (t := 113) rfl (fun hc => ?_) (fun hc => ?_)
                      · replace h := ct hc h
                        refine wq_skip rfl rfl ?_
                        refine wq_skip rfl rfl ?_
                        refine wq_skip rfl rfl ?_
                        refine wq_skip rfl rfl ?_
                        refine wq_skip rfl rfl ?_
                        simp only [Option.some.injEq, Prod.mk.injEq] at h
                        obtain rfl := h
                        have h := hg119; clear hg119
                        refine wq_pure (v := .bool true) tt_ok rfl rfl ?_
                        refine wq_nil ?_
                        refine wx_then ?_
                        replace h := ct rfl h
                        refine wc_cond_true rfl ?_
                        refine wc_seq ?_
                        refine wc_region ?_
                        refine wl_pure tt_ok rfl rfl ?_
                        refine wl_nil ?_
                        refine wx_then ?_
                        refine wc_ret ?_
                        refine wx_block_ret ?_
                        refine wx_then_ret ?_
                        obtain rfl := Option.some.inj h
                        have h := hl27; clear hl27; try dsimp only [orE_l, orE_r] at h
                        refine wx_then_ret ?_
                        refine wx_block_ret ?_
                        refine wx_then_ret ?_
                        simp only [Option.some.injEq] at h
                        obtain rfl := h
                        exact wx_pf tt_ok (.inl rfl) Try.results4 (Res.tmp rfl Res.nil) rfl
                      · replace h := cf hc h
                        refine wq_run rfl ?_
                        refine wq_pure tt_ok rfl rfl ?_
                        replace h := bsome h; obtain ⟨v115, x115, h⟩ := h
                        refine wq_run rfl ?_
                        refine wq_cq Try.call25 rfl rfl rfl (q_rd (k_codec_Reader_Rest x115) (pCons (Sel.sc Sel.hc) pNil) (fun _ _ => trivial)) rfl ?_
                        refine wq_run rfl ?_
                        refine wq_pure tt_ok rfl rfl ?_
                        replace h := bsome h; obtain ⟨v117, x117, h⟩ := h
                        refine wq_run rfl ?_
                        refine wq_cq Try.call26 rfl rfl rfl (q_rd (k_hindcastref02_Reader_Rest x117) (pCons Sel.hc pNil) (fun _ _ => trivial)) rfl ?_
                        refine wq_run rfl ?_
                        refine wq_val (v := .bool (!(v115 == v117))) (val_sne tt_ok rfl rfl) rfl ?_
                        simp only [Option.some.injEq, Prod.mk.injEq] at h
                        obtain rfl := h
                        have h := hg119; clear hg119
                        refine wq_pure (v := .bool (!(v115 == v117))) tt_ok rfl rfl ?_
                        refine wq_nil ?_
                        refine wx_then ?_
                        refine wc_cond rfl (fun hc => ?_) (fun hc => ?_)
                        · replace h := ct hc h
                          refine wc_seq ?_
                          refine wc_region ?_
                          refine wl_pure tt_ok rfl rfl ?_
                          refine wl_nil ?_
                          refine wx_then ?_
                          refine wc_ret ?_
                          refine wx_block_ret ?_
                          refine wx_then_ret ?_
                          obtain rfl := Option.some.inj h
                          have h := hl27; clear hl27; try dsimp only [orE_l, orE_r] at h
                          refine wx_then_ret ?_
                          refine wx_block_ret ?_
                          refine wx_then_ret ?_
                          simp only [Option.some.injEq] at h
                          obtain rfl := h
                          exact wx_pf tt_ok (.inl rfl) Try.results4 (Res.tmp rfl Res.nil) rfl
                        · replace h := cf hc h
                          refine wc_skip ?_
                          refine wx_block ?_
                          refine wx_then ?_
                          refine wc_region ?_
                          refine wl_pure tt_ok rfl rfl ?_
                          refine wl_pure (v := .int .i64 (IntKind.wrap .i64 (j27_7 + (1 : Int)))) tt_ok rfl rfl ?_
                          refine wl_pure tt_ok rfl rfl ?_
                          refine wl_nil ?_
                          exact wx_round m (Nat.lt_succ_self m) ⟨(IntKind.wrap .i64 (j27_7 + (1 : Int))), o44_0, o47_0, h, rfl, rfl⟩ (agree_cons rfl (agree_cons rfl (agree_cons rfl (agree_cons rfl (agree_cons rfl agree_nil))))) (pSub (pCons (Sel.sc Sel.hc) (pCons Sel.hc pNil)))
      · replace h := cf hc h
        refine wc_exit ?_
        refine wx_then_exit ?_
        obtain rfl := Option.some.inj h
        have h := hl27; clear hl27; try dsimp only [orE_l, orE_r] at h
        refine wx_then_exit ?_
        refine wx_block_exit ?_
        refine wx_then ?_
        refine wc_seq ?_
        refine wc_region ?_
        replace h := bsome h; obtain ⟨v120, x120, h⟩ := h
        refine wl_cq Try.call9 rfl rfl rfl (q_pf (k_hindcastlaw02_works x120) (fun _ _ => trivial)) rfl ?_
        refine wl_pure tt_ok rfl rfl ?_
        refine wl_nil ?_
        refine wx_then ?_
        refine wc_ret ?_
        simp only [Option.some.injEq] at h
        obtain rfl := h
        exact wx_pf tt_ok (.inl rfl) Try.results4 (Res.tmp rfl Res.nil) rfl

theorem k_hindcastlaw02_nines {F : Nat} {p0 : Int} {r0 : (List UInt8)} (h : m_hindcastlaw02_nines F p0 = some r0) :
    Pf Try.prog 28 [.int .u8 p0] (fun w => True) (.string ⟨r0.toArray⟩) := by
  unfold m_hindcastlaw02_nines at h
  refine pf_of_wc Try.func28 rfl Try.ntmps28 rfl rfl (fun w0 hR => ?_)
  refine wc_seq ?_
  refine wc_region ?_
  refine wl_pure tt_ok rfl rfl ?_
  refine wl_nil ?_
  refine wx_then ?_
  refine wc_seq ?_
  refine wc_region ?_
  refine wl_pure tt_ok rfl rfl ?_
  refine wl_chg (chg_bs tt_ok rfl rfl rfl rfl rfl) rfl ?_
  rintro _ _ ⟨b4, rfl, rfl⟩
  refine wl_val (v := .string ⟨(toB ([p0] : List Int)).toArray⟩) (val_b2s tt_ok rfl rfl rfl rfl Rds.of_blk ⟨_, Sel.hc⟩) rfl ?_
  replace h := bsome h; obtain ⟨v6, x6, h⟩ := h
  refine wl_val (v := .string ⟨v6.toArray⟩) (val_cat tt_ok rfl rfl x6) rfl ?_
  refine wl_pure tt_ok rfl rfl ?_
  refine wl_nil ?_
  refine wx_then ?_
  refine wc_ret ?_
  simp only [Option.some.injEq] at h
  obtain rfl := h
  exact wx_pf tt_ok (.inl rfl) Try.results28 (Res.tmp rfl Res.nil) rfl

theorem k_codec_put_uint8_nil0 {F : Nat} {p1 : Int} {p2 : Int} (h : m_codec_put_uint8_nil0 F p1 p2 = some ()) :
    Pf Try.prog 48 [.pointer none, .int .u8 p1, .int .i64 p2] (fun w => True) (.tuple #[]) := by
  unfold m_codec_put_uint8_nil0 at h
  refine pf_of_wc Try.func48 rfl Try.ntmps48 rfl rfl (fun w0 hR => ?_)
  refine wc_seq ?_
  refine wc_seq ?_
  refine wc_region ?_
  refine wl_pure tt_ok rfl rfl ?_
  refine wl_pure (v := .bool true) tt_ok rfl rfl ?_
  refine wl_nil ?_
  refine wx_then ?_
  refine wc_cond_true rfl ?_
  refine wc_ret ?_
  refine wx_then_ret ?_
  exact wx_pf tt_ok (.inl rfl) Try.results48 Res.nil rfl

theorem k_codec_Writer_U8_nil0 {F : Nat} {p1 : Int} (h : m_codec_Writer_U8_nil0 F p1 = some ()) :
    Pf Try.prog 31 [.pointer none, .int .u8 p1] (fun w => True) (.tuple #[]) := by
  unfold m_codec_Writer_U8_nil0 at h
  refine pf_of_wc Try.func31 rfl Try.ntmps31 rfl rfl (fun w0 hR => ?_)
  refine wc_region ?_
  refine wl_pure tt_ok rfl rfl ?_
  refine wl_pure tt_ok rfl rfl ?_
  replace h := bsome h; obtain ⟨_, x6, h⟩ := h
  refine wl_cq Try.call48 rfl rfl rfl (q_pf (k_codec_put_uint8_nil0 x6) (fun _ _ => trivial)) rfl ?_
  refine wl_nil ?_
  exact wx_pf tt_ok (.inr rfl) Try.results31 Res.nil rfl

theorem k_codec_Writer_Var_nil0 {F : Nat} {p1 : Int} (h : m_codec_Writer_Var_nil0 F p1 = some ()) :
    Pf Try.prog 37 [.pointer none, .int .u64 p1] (fun w => True) (.tuple #[]) := by
  unfold m_codec_Writer_Var_nil0 at h
  refine pf_of_wc Try.func37 rfl Try.ntmps37 rfl rfl (fun w0 hR => ?_)
  refine wc_seq ?_
  refine wc_block ?_
  replace h := bsome h; obtain ⟨l3_1, h, hl3⟩ := h
  refine wc_loop (fun m E L => ∃ (j3_1 : Int), m_codec_Writer_Var_nil0_L2 F m j3_1 = some l3_1 ∧ E = [(0, .pointer none), (1, .int .u64 j3_1)] ∧ L = []) F ⟨p1, h, rfl, rfl⟩ (agree_cons rfl (agree_cons rfl agree_nil)) (pSub pNil) ?_
  clear h
  rintro m _ _ ⟨j3_1, h, rfl, rfl⟩
  rcases m with _ | m
  · rw [m_codec_Writer_Var_nil0_L2.eq_1] at h; cases h
  rw [m_codec_Writer_Var_nil0_L2.eq_2] at h
  refine wc_seq ?_
  refine wc_seq ?_
  refine wc_region ?_
  refine wl_pure tt_ok rfl rfl ?_
  refine wl_pure (v := .bool (decide ((127 : Int) < j3_1))) tt_ok rfl rfl ?_
  refine wl_nil ?_
  refine wx_then ?_
  refine wc_cond rfl (fun hc => ?_) (fun hc => ?_)
  · replace h := ct hc h
    refine wc_skip ?_
    refine wx_then ?_
    refine wc_block ?_
    refine wc_seq ?_
    refine wc_region ?_
    refine wl_pure tt_ok rfl rfl ?_
    refine wl_pure tt_ok rfl rfl ?_
    refine wl_pure (v := .int .u8 (IntKind.wrap .u8 j3_1)) tt_ok rfl rfl ?_
    refine wl_pure (v := .int .u8 (bits .or .u8 (IntKind.wrap .u8 j3_1) (128 : Int))) tt_ok rfl rfl ?_
    replace h := bsome h; obtain ⟨_, x10, h⟩ := h
    refine wl_cq Try.call31 rfl rfl rfl (q_pf (k_codec_Writer_U8_nil0 x10) (fun _ _ => trivial)) rfl ?_
    refine wl_nil ?_
    refine wx_then ?_
    refine wc_region ?_
    refine wl_pure tt_ok rfl rfl ?_
    refine wl_pure (v := .int .u64 (j3_1 / 2 ^ (min 7 (IntKind.bits .u64)))) tt_ok rfl rfl ?_
    refine wl_pure tt_ok rfl rfl ?_
    refine wl_nil ?_
    refine wx_block ?_
    exact wx_round m (Nat.lt_succ_self m) ⟨(j3_1 / 2 ^ (min 7 (IntKind.bits .u64))), h, rfl, rfl⟩ (agree_cons rfl (agree_cons rfl agree_nil)) (pSub pNil)
  · replace h := cf hc h
    refine wc_exit ?_
    refine wx_then_exit ?_
    simp only [Option.some.injEq] at h
    obtain rfl := h
    have h := hl3; clear hl3; try dsimp only [orE_l, orE_r] at h
    refine wx_then_exit ?_
    refine wx_block_exit ?_
    refine wx_then ?_
    refine wc_region ?_
    refine wl_pure tt_ok rfl rfl ?_
    refine wl_pure tt_ok rfl rfl ?_
    refine wl_pure (v := .int .u8 (IntKind.wrap .u8 j3_1)) tt_ok rfl rfl ?_
    replace h := bsome h; obtain ⟨_, x16, h⟩ := h
    refine wl_cq Try.call31 rfl rfl rfl (q_pf (k_codec_Writer_U8_nil0 x16) (fun _ _ => trivial)) rfl ?_
    refine wl_nil ?_
    exact wx_pf tt_ok (.inr rfl) Try.results37 Res.nil rfl

theorem k_codec_Writer_Text_nil0 {F : Nat} {p1 : (List UInt8)} (h : m_codec_Writer_Text_nil0 F p1 = some ()) :
    Pf Try.prog 30 [.pointer none, .string ⟨p1.toArray⟩] (fun w => True) (.tuple #[]) := by
  unfold m_codec_Writer_Text_nil0 at h
  refine pf_of_wc Try.func30 rfl Try.ntmps30 rfl rfl (fun w0 hR => ?_)
  refine wc_seq ?_
  refine wc_region ?_
  refine wl_pure tt_ok rfl rfl ?_
  refine wl_pure tt_ok rfl rfl ?_
  refine wl_pure (v := .int .i64 (p1.length : Int)) tt_ok rfl rfl ?_
  refine wl_pure (v := .int .u64 (IntKind.wrap .u64 (p1.length : Int))) tt_ok rfl rfl ?_
  replace h := bsome h; obtain ⟨_, x8, h⟩ := h
  refine wl_cq Try.call37 rfl rfl rfl (q_pf (k_codec_Writer_Var_nil0 x8) (fun _ _ => trivial)) rfl ?_
  refine wl_nil ?_
  refine wx_then ?_
  refine wc_seq ?_
  refine wc_region ?_
  refine wl_pure tt_ok rfl rfl ?_
  refine wl_pure (v := .bool false) tt_ok rfl rfl ?_
  refine wl_nil ?_
  refine wx_then ?_
  refine wc_cond_false rfl ?_
  refine wc_skip ?_
  exact wx_pf tt_ok (.inr rfl) Try.results30 Res.nil rfl

theorem k_codec_Writer_Bytes_nil0 {F : Nat} {r0 : (List UInt8)} (h : m_codec_Writer_Bytes_nil0 F = some r0) :
    Pf Try.prog 12 [.pointer none] (fun w => True) (.string ⟨r0.toArray⟩) := by
  unfold m_codec_Writer_Bytes_nil0 at h
  refine pf_of_wc Try.func12 rfl Try.ntmps12 rfl rfl (fun w0 hR => ?_)
  refine wc_seq ?_
  refine wc_region ?_
  refine wl_pure tt_ok rfl rfl ?_
  refine wl_nil ?_
  refine wx_then ?_
  refine wc_seq ?_
  refine wc_seq ?_
  refine wc_region ?_
  refine wl_pure tt_ok rfl rfl ?_
  refine wl_pure (v := .bool true) tt_ok rfl rfl ?_
  refine wl_nil ?_
  refine wx_then ?_
  refine wc_cond_true rfl ?_
  refine wc_seq ?_
  refine wc_region ?_
  refine wl_pure tt_ok rfl rfl ?_
  refine wl_nil ?_
  refine wx_then ?_
  refine wc_ret ?_
  refine wx_then_ret ?_
  simp only [Option.some.injEq] at h
  obtain rfl := h
  exact wx_pf tt_ok (.inl rfl) Try.results12 (Res.tmp rfl Res.nil) rfl

theorem k_codec_get_uint64_nil0 {F : Nat} {p1 : Int} {r0 : Int} (h : m_codec_get_uint64_nil0 F p1 = some r0) :
    Pf Try.prog 45 [.pointer none, .int .i64 p1] (fun w => True) (.int .u64 r0) := by
  unfold m_codec_get_uint64_nil0 at h
  refine pf_of_wc Try.func45 rfl Try.ntmps45 rfl rfl (fun w0 hR => ?_)
  refine wc_seq ?_
  refine wc_region ?_
  refine wl_pure tt_ok rfl rfl ?_
  refine wl_nil ?_
  refine wx_then ?_
  refine wc_seq ?_
  refine wc_seq ?_
  refine wc_region ?_
  refine wl_pure tt_ok rfl rfl ?_
  refine wl_pure (v := .bool true) tt_ok rfl rfl ?_
  refine wl_nil ?_
  refine wx_then ?_
  refine wc_cond_true rfl ?_
  refine wc_seq ?_
  refine wc_region ?_
  refine wl_pure tt_ok rfl rfl ?_
  refine wl_nil ?_
  refine wx_then ?_
  refine wc_ret ?_
  refine wx_then_ret ?_
  simp only [Option.some.injEq] at h
  obtain rfl := h
  exact wx_pf tt_ok (.inl rfl) Try.results45 (Res.tmp rfl Res.nil) rfl

theorem k_codec_Reader_U64_nil0 {F : Nat} {r0 : Int} (h : m_codec_Reader_U64_nil0 F = some r0) :
    Pf Try.prog 18 [.pointer none] (fun w => True) (.int .u64 r0) := by
  unfold m_codec_Reader_U64_nil0 at h
  refine pf_of_wc Try.func18 rfl Try.ntmps18 rfl rfl (fun w0 hR => ?_)
  refine wc_seq ?_
  refine wc_region ?_
  refine wl_pure tt_ok rfl rfl ?_
  refine wl_nil ?_
  refine wx_then ?_
  refine wc_seq ?_
  refine wc_region ?_
  refine wl_pure tt_ok rfl rfl ?_
  replace h := bsome h; obtain ⟨v4, x4, h⟩ := h
  refine wl_cq Try.call45 rfl rfl rfl (q_pf (k_codec_get_uint64_nil0 x4) (fun _ _ => trivial)) rfl ?_
  refine wl_pure tt_ok rfl rfl ?_
  refine wl_nil ?_
  refine wx_then ?_
  refine wc_ret ?_
  simp only [Option.some.injEq] at h
  obtain rfl := h
  exact wx_pf tt_ok (.inl rfl) Try.results18 (Res.tmp rfl Res.nil) rfl

theorem k_codec_Reader_Var_nil0 {F : Nat} {r0 : Int} (h : m_codec_Reader_Var_nil0 F = some r0) :
    Pf Try.prog 20 [.pointer none] (fun w => True) (.int .u64 r0) := by
  unfold m_codec_Reader_Var_nil0 at h
  refine pf_of_wc Try.func20 rfl Try.ntmps20 rfl rfl (fun w0 hR => ?_)
  refine wc_seq ?_
  refine wc_region ?_
  refine wl_pure tt_ok rfl rfl ?_
  refine wl_nil ?_
  refine wx_then ?_
  refine wc_seq ?_
  refine wc_seq ?_
  refine wc_region ?_
  refine wl_pure tt_ok rfl rfl ?_
  refine wl_pure (v := .bool true) tt_ok rfl rfl ?_
  refine wl_nil ?_
  refine wx_then ?_
  refine wc_cond_true rfl ?_
  refine wc_seq ?_
  refine wc_region ?_
  refine wl_pure tt_ok rfl rfl ?_
  refine wl_nil ?_
  refine wx_then ?_
  refine wc_ret ?_
  refine wx_then_ret ?_
  simp only [Option.some.injEq] at h
  obtain rfl := h
  exact wx_pf tt_ok (.inl rfl) Try.results20 (Res.tmp rfl Res.nil) rfl

theorem k_codec_Reader_Text_nil0 {F : Nat} {r0 : (List UInt8)} (h : m_codec_Reader_Text_nil0 F = some r0) :
    Pf Try.prog 22 [.pointer none] (fun w => True) (.string ⟨r0.toArray⟩) := by
  unfold m_codec_Reader_Text_nil0 at h
  refine pf_of_wc Try.func22 rfl Try.ntmps22 rfl rfl (fun w0 hR => ?_)
  refine wc_seq ?_
  refine wc_region ?_
  refine wl_pure tt_ok rfl rfl ?_
  refine wl_nil ?_
  refine wx_then ?_
  refine wc_seq ?_
  refine wc_region ?_
  refine wl_pure tt_ok rfl rfl ?_
  replace h := bsome h; obtain ⟨v7, x7, h⟩ := h
  refine wl_cq Try.call20 rfl rfl rfl (q_pf (k_codec_Reader_Var_nil0 x7) (fun _ _ => trivial)) rfl ?_
  refine wl_pure tt_ok rfl rfl ?_
  refine wl_nil ?_
  refine wx_then ?_
  refine wc_seq ?_
  refine wc_seq ?_
  refine wc_region ?_
  refine wl_pure tt_ok rfl rfl ?_
  refine wl_pure (v := .bool true) tt_ok rfl rfl ?_
  refine wl_pure tt_ok rfl rfl ?_
  refine wl_skip rfl rfl ?_
  refine wl_skip rfl rfl ?_
  refine wl_skip rfl rfl ?_
  refine wl_skip rfl rfl ?_
  refine wl_skip rfl rfl ?_
  refine wl_skip rfl rfl ?_
  refine wl_pure (v := .bool true) tt_ok rfl rfl ?_
  refine wl_nil ?_
  refine wx_then ?_
  refine wc_cond_true rfl ?_
  refine wc_seq ?_
  refine wc_region ?_
  refine wl_pure tt_ok rfl rfl ?_
  refine wl_nil ?_
  refine wx_then ?_
  refine wc_ret ?_
  refine wx_then_ret ?_
  simp only [Option.some.injEq] at h
  obtain rfl := h
  exact wx_pf tt_ok (.inl rfl) Try.results22 (Res.tmp rfl Res.nil) rfl

theorem k_codec_get_uint32_nil0 {F : Nat} {p1 : Int} {r0 : Int} (h : m_codec_get_uint32_nil0 F p1 = some r0) :
    Pf Try.prog 44 [.pointer none, .int .i64 p1] (fun w => True) (.int .u32 r0) := by
  unfold m_codec_get_uint32_nil0 at h
  refine pf_of_wc Try.func44 rfl Try.ntmps44 rfl rfl (fun w0 hR => ?_)
  refine wc_seq ?_
  refine wc_region ?_
  refine wl_pure tt_ok rfl rfl ?_
  refine wl_nil ?_
  refine wx_then ?_
  refine wc_seq ?_
  refine wc_seq ?_
  refine wc_region ?_
  refine wl_pure tt_ok rfl rfl ?_
  refine wl_pure (v := .bool true) tt_ok rfl rfl ?_
  refine wl_nil ?_
  refine wx_then ?_
  refine wc_cond_true rfl ?_
  refine wc_seq ?_
  refine wc_region ?_
  refine wl_pure tt_ok rfl rfl ?_
  refine wl_nil ?_
  refine wx_then ?_
  refine wc_ret ?_
  refine wx_then_ret ?_
  simp only [Option.some.injEq] at h
  obtain rfl := h
  exact wx_pf tt_ok (.inl rfl) Try.results44 (Res.tmp rfl Res.nil) rfl

theorem k_codec_Reader_I32_nil0 {F : Nat} {r0 : Int} (h : m_codec_Reader_I32_nil0 F = some r0) :
    Pf Try.prog 19 [.pointer none] (fun w => True) (.int .i32 r0) := by
  unfold m_codec_Reader_I32_nil0 at h
  refine pf_of_wc Try.func19 rfl Try.ntmps19 rfl rfl (fun w0 hR => ?_)
  refine wc_seq ?_
  refine wc_region ?_
  refine wl_pure tt_ok rfl rfl ?_
  refine wl_nil ?_
  refine wx_then ?_
  refine wc_seq ?_
  refine wc_region ?_
  refine wl_pure tt_ok rfl rfl ?_
  replace h := bsome h; obtain ⟨v4, x4, h⟩ := h
  refine wl_cq Try.call44 rfl rfl rfl (q_pf (k_codec_get_uint32_nil0 x4) (fun _ _ => trivial)) rfl ?_
  refine wl_pure (v := .int .i32 (IntKind.wrap .i32 v4)) tt_ok rfl rfl ?_
  refine wl_pure tt_ok rfl rfl ?_
  refine wl_nil ?_
  refine wx_then ?_
  refine wc_ret ?_
  simp only [Option.some.injEq] at h
  obtain rfl := h
  exact wx_pf tt_ok (.inl rfl) Try.results19 (Res.tmp rfl Res.nil) rfl

theorem k_codec_Reader_Err_nil0 {F : Nat} {r0 : Int} (h : m_codec_Reader_Err_nil0 F = some r0) :
    Pf Try.prog 24 [.pointer none] (fun w => True) (.int .i64 r0) := by
  unfold m_codec_Reader_Err_nil0 at h
  refine pf_of_wc Try.func24 rfl Try.ntmps24 rfl rfl (fun w0 hR => ?_)
  refine wc_seq ?_
  refine wc_region ?_
  refine wl_pure tt_ok rfl rfl ?_
  refine wl_nil ?_
  refine wx_then ?_
  refine wc_seq ?_
  refine wc_seq ?_
  refine wc_region ?_
  refine wl_pure tt_ok rfl rfl ?_
  refine wl_pure (v := .bool true) tt_ok rfl rfl ?_
  refine wl_nil ?_
  refine wx_then ?_
  refine wc_cond_true rfl ?_
  refine wc_seq ?_
  refine wc_region ?_
  refine wl_pure tt_ok rfl rfl ?_
  refine wl_nil ?_
  refine wx_then ?_
  refine wc_ret ?_
  refine wx_then_ret ?_
  simp only [Option.some.injEq] at h
  obtain rfl := h
  exact wx_pf tt_ok (.inl rfl) Try.results24 (Res.tmp rfl Res.nil) rfl

theorem k_codec_Reader_Rest_nil0 {F : Nat} {r0 : (List UInt8)} (h : m_codec_Reader_Rest_nil0 F = some r0) :
    Pf Try.prog 25 [.pointer none] (fun w => True) (.string ⟨r0.toArray⟩) := by
  unfold m_codec_Reader_Rest_nil0 at h
  refine pf_of_wc Try.func25 rfl Try.ntmps25 rfl rfl (fun w0 hR => ?_)
  refine wc_seq ?_
  refine wc_region ?_
  refine wl_pure tt_ok rfl rfl ?_
  refine wl_nil ?_
  refine wx_then ?_
  refine wc_seq ?_
  refine wc_seq ?_
  refine wc_region ?_
  refine wl_pure tt_ok rfl rfl ?_
  refine wl_pure (v := .bool true) tt_ok rfl rfl ?_
  refine wl_nil ?_
  refine wx_then ?_
  refine wc_cond_true rfl ?_
  refine wc_seq ?_
  refine wc_region ?_
  refine wl_pure tt_ok rfl rfl ?_
  refine wl_nil ?_
  refine wx_then ?_
  refine wc_ret ?_
  refine wx_then_ret ?_
  simp only [Option.some.injEq] at h
  obtain rfl := h
  exact wx_pf tt_ok (.inl rfl) Try.results25 (Res.tmp rfl Res.nil) rfl

end Go.Proofs.Ytpcaiefefanpoaa
