/-
  Each function computes what its model says. Printed by a program of this claim's own.
-/
import Derived.Test.YtpcaiefefanpoaaTab
import Derived.Test.YtpcaiefefanpoaaMod
namespace Go.Proofs.Ytpcaiefefanpoaa
open Go.Proofs.Ytpcaiefefanpoaa.Eng
set_option linter.unusedVariables false
set_option linter.unusedSimpArgs false
set_option maxHeartbeats 4000000
set_option maxRecDepth 20000

theorem k_codec_put_uint8 {F : Nat} {p0 : T_codec_Writer} {p0b p0t : Nat} {p0a0 : Option Addr} {p0n0 p0c0 : Nat} {p0B0 : List Blk} {p1 : Int} {p2 : Int} {r0 : T_codec_Writer} (p0N0 : p0n0 = p0.b.length) (p0V0 : Own 5 1 p0a0 p0n0 p0c0 (flat (e1 .u8) p0.b) p0B0) (h : m_codec_put_uint8 F p0 p1 p2 = some r0) :
    SpD Try.prog 48 [.pointer (some ⟨p0b, 0, none⟩), .int .u8 p1, .int .i64 p2] (⟨p0b, [.slice p0a0 p0n0 p0c0], p0t, (0, 0)⟩ :: (p0B0 ++ [])) (fun w => True) (fun v D => ∃ (r0a0 : Option Addr) (r0n0 r0c0 : Nat) (r0B0 : List Blk), r0n0 = r0.b.length ∧ Own 5 1 r0a0 r0n0 r0c0 (flat (e1 .u8) r0.b) r0B0 ∧ v = .tuple #[] ∧ D = fun F => (⟨p0b, [.slice r0a0 r0n0 r0c0], p0t, (0, 0)⟩ :: (r0B0 ++ F))) := by
  unfold m_codec_put_uint8 at h
  refine sp_of_wc Try.func48 rfl Try.ntmps48 rfl rfl (fun w0 hR => ?_)
  refine wc_seq ?_
  refine wc_seq ?_
  refine wc_region ?_
  refine wl_pure tt_ok rfl rfl ?_
  refine wl_pure (v := .bool false) tt_ok rfl rfl ?_
  refine wl_nil ?_
  refine wx_then ?_
  refine wc_cond_false rfl ?_
  refine wc_skip ?_
  refine wx_then ?_
  refine wc_seq ?_
  refine wc_region ?_
  refine wl_pure tt_ok rfl rfl ?_
  refine wl_pure tt_ok rfl rfl ?_
  refine wl_nil ?_
  refine wx_then ?_
  refine wc_block ?_
  replace h := bsome h; obtain ⟨l10_p0_f0, h, hl10⟩ := h
  refine wc_loop (fun m E L => ∃ (j10_10 : Int) (j10_p0_f0 : (List Int)) (j10_p0_f0a0 : Option Addr) (j10_p0_f0n0 : Nat) (j10_p0_f0c0 : Nat) (j10_p0_f0B0 : List Blk), m_codec_put_uint8_L9 F p1 p2 m j10_10 j10_p0_f0 = some l10_p0_f0 ∧ j10_p0_f0n0 = j10_p0_f0.length ∧ Own 5 1 j10_p0_f0a0 j10_p0_f0n0 j10_p0_f0c0 (flat (e1 .u8) j10_p0_f0) j10_p0_f0B0 ∧ E = [(0, .pointer (some ⟨p0b, 0, none⟩)), (1, .int .u8 p1), (9, .int .i64 p2), (10, .int .i64 j10_10)] ∧ L = (⟨p0b, [.slice j10_p0_f0a0 j10_p0_f0n0 j10_p0_f0c0], p0t, (0, 0)⟩ :: (j10_p0_f0B0 ++ []))) F ⟨(0 : Int), p0.b, p0a0, p0n0, p0c0, p0B0, h, p0N0, p0V0, rfl, rfl⟩ (agree_cons rfl (agree_cons rfl (agree_cons rfl (agree_cons rfl agree_nil)))) (pSub (pCons Sel.hc (pApp Sel.ha pNil))) ?_
  clear h
  rintro m10 _ _ ⟨j10_10, j10_p0_f0, j10_p0_f0a0, j10_p0_f0n0, j10_p0_f0c0, j10_p0_f0B0, h, j10_p0_f0N0, j10_p0_f0V0, rfl, rfl⟩
  rcases m10 with _ | m10
  · rw [m_codec_put_uint8_L9.eq_1] at h; cases h
  rw [m_codec_put_uint8_L9.eq_2] at h
  refine wc_seq ?_
  refine wc_region ?_
  refine wl_pure (v := .bool (decide (j10_10 < p2))) tt_ok rfl rfl ?_
  refine wl_nil ?_
  refine wx_then ?_
  refine wc_seq ?_
  refine wc_cond rfl (fun hc => ?_) (fun hc => ?_)
  · replace h := ct hc h
    refine wc_skip ?_
    refine wx_then ?_
    refine wc_seq ?_
    refine wc_block ?_
    refine wc_seq ?_
    refine wc_region ?_
    refine wl_pure tt_ok rfl rfl ?_
    refine wl_pure tt_ok rfl rfl ?_
    refine wl_nil ?_
    refine wx_then ?_
    refine wc_k2 (Ls := (⟨p0b, [.slice j10_p0_f0a0 j10_p0_f0n0 j10_p0_f0c0], p0t, (0, 0)⟩ :: [])) [11, 12, 13, 14, 15] [13, 14, 15] [0, 0, 2, 6, 14, 0, 32, 0, 128, 480, 992, 2016, 4094, 8191, 16383, 32767] [0, 1, 2, 3, 4, 5, 6, 7, 8, 9, 10, 11, 12, 13, 14, 15] (by kernel_rfl) (by kernel_rfl) (by kernel_rfl) ?_
    refine k_val rfl rfl rfl (pSub (pCons Sel.hc pNil)) (stepV_ok tt_ok rfl) rfl ?_
    refine k_val rfl rfl rfl (pSub (pCons Sel.hc pNil)) (stepV_ok tt_ok rfl) rfl ?_
    refine k_val rfl rfl rfl (pSub (pCons Sel.hc pNil)) (stepV_ok tt_ok rfl) rfl ?_
    refine k_val (v := .pointer (some ⟨p0b, 0, none⟩)) rfl rfl rfl (pSub (pCons Sel.hc pNil)) (stepV_ok tt_ok rfl) rfl ?_
    refine k_val (v := .slice j10_p0_f0a0 j10_p0_f0n0 j10_p0_f0c0) rfl rfl rfl (pSub (pCons Sel.hc pNil)) (val_load tt_ok rfl (List.Mem.head _) rfl) rfl ?_
    refine k_val rfl rfl rfl (pSub (pCons Sel.hc pNil)) (stepV_ok tt_ok rfl) rfl ?_
    refine k_val (v := .int .u64 (IntKind.wrap .u64 p1)) rfl rfl rfl (pSub (pCons Sel.hc pNil)) (stepV_ok tt_ok rfl) rfl ?_
    refine k_val rfl rfl rfl (pSub (pCons Sel.hc pNil)) (stepV_ok tt_ok rfl) rfl ?_
    refine k_val (v := .int .i64 (IntKind.wrap .i64 ((8 : Int) * j10_10))) rfl rfl rfl (pSub (pCons Sel.hc pNil)) (stepV_ok tt_ok rfl) rfl ?_
    replace h := bsome h; obtain ⟨v22, x22, h⟩ := h
    refine k_val (v := .int .u64 v22) rfl rfl rfl (pSub (pCons Sel.hc pNil)) (val_shr rfl rfl x22) rfl ?_
    refine k_val (v := .int .u8 (IntKind.wrap .u8 v22)) rfl rfl rfl (pSub (pCons Sel.hc pNil)) (stepV_ok tt_ok rfl) rfl ?_
    refine k_chg rfl rfl rfl (chg_bsv (enc := (e1 .u8)) (xs := ([(IntKind.wrap .u8 v22)] : List Int)) tt_ok rfl rfl rfl rfl rfl rfl rfl rfl (e1_len _)) rfl (.inr (by rintro _ _ ⟨_, _, _, _, rfl, _, _, rfl⟩; exact ⟨_, (pCons (Sel.sa Sel.hc) pNil)⟩)) ?_
    rintro _ _ ⟨a24, n24_, c24, B24, rfl, N24, V24, rfl⟩
    replace h := bsome h; obtain ⟨v25, x25, h⟩ := h
    refine k_chg rfl rfl rfl (chg_app (enc := (e1 .u8)) (ys := ([(IntKind.wrap .u8 v22)] : List Int)) tt_ok rfl rfl rfl rfl rfl rfl j10_p0_f0N0 N24 j10_p0_f0V0 (Sel.sa (Sel.sc Sel.ha)) (Rds.of_vec V24) ⟨_, Sel.ha⟩ (e1_len _) (fun _ => rfl) rfl x25) rfl (.inr (by rintro _ _ ⟨_, _, _, _, rfl, _, _, rfl⟩; exact ⟨_, (pCons (Sel.sa (Sel.sa Sel.hc)) pNil)⟩)) ?_
    rintro _ _ ⟨a25, n25_, c25, B25, rfl, N25, V25, rfl⟩
    refine k_chg rfl rfl rfl (Chg.of_val (stepV_ok tt_ok rfl)) rfl (.inl rfl) ?_
    rintro _ _ ⟨rfl, rfl⟩
    refine k_chg rfl rfl rfl (Chg.of_val (v := .pointer (some ⟨p0b, 0, none⟩)) (stepV_ok tt_ok rfl)) rfl (.inl rfl) ?_
    rintro _ _ ⟨rfl, rfl⟩
    refine k_chg0 rfl rfl rfl (chg_store tt_ok rfl (Upd.right (Upd.right Upd.here)) rfl rfl rfl rfl rfl rfl) (.inl rfl) ?_
    rintro _ _ rfl
    refine k_end (by kernel_rfl) ?_
    refine wx_block ?_
    refine wx_then ?_
    refine wc_region ?_
    refine wl_pure (v := .int .i64 (IntKind.wrap .i64 (j10_10 + (1 : Int)))) tt_ok rfl rfl ?_
    refine wl_pure tt_ok rfl rfl ?_
    refine wl_nil ?_
    exact wx_round m10 (Nat.lt_succ_self m10) ⟨(IntKind.wrap .i64 (j10_10 + (1 : Int))), v25, a25, n25_, c25, B25, h, N25, V25, rfl, rfl⟩ (agree_cons rfl (agree_cons rfl (agree_cons rfl (agree_cons rfl agree_nil)))) (pSub (pCons (Sel.sa (Sel.sa Sel.hc)) (pApp Sel.ha pNil)))
  replace h := cf hc h
  refine wc_exit ?_
  refine wx_then_exit ?_
  simp only [Option.some.injEq] at h
  obtain rfl := h
  have h := hl10; clear hl10; try dsimp only [orE_l, orE_r] at h
  refine wx_then_exit ?_
  refine wx_block_exit ?_
  simp only [Option.some.injEq] at h
  obtain rfl := h
  exact wx_spD tt_ok (.inr rfl) Try.results48 Res.nil ⟨j10_p0_f0a0, j10_p0_f0n0, j10_p0_f0c0, j10_p0_f0B0, j10_p0_f0N0, j10_p0_f0V0, rfl, rfl⟩ (fun F => by simp) (pSub (pCons Sel.hc (pApp Sel.ha pNil)))

theorem k_codec_Writer_U8 {F : Nat} {p0 : T_codec_Writer} {p0b p0t : Nat} {p0a0 : Option Addr} {p0n0 p0c0 : Nat} {p0B0 : List Blk} {p1 : Int} {r0 : T_codec_Writer} (p0N0 : p0n0 = p0.b.length) (p0V0 : Own 5 1 p0a0 p0n0 p0c0 (flat (e1 .u8) p0.b) p0B0) (h : m_codec_Writer_U8 F p0 p1 = some r0) :
    SpD Try.prog 31 [.pointer (some ⟨p0b, 0, none⟩), .int .u8 p1] (⟨p0b, [.slice p0a0 p0n0 p0c0], p0t, (0, 0)⟩ :: (p0B0 ++ [])) (fun w => True) (fun v D => ∃ (r0a0 : Option Addr) (r0n0 r0c0 : Nat) (r0B0 : List Blk), r0n0 = r0.b.length ∧ Own 5 1 r0a0 r0n0 r0c0 (flat (e1 .u8) r0.b) r0B0 ∧ v = .tuple #[] ∧ D = fun F => (⟨p0b, [.slice r0a0 r0n0 r0c0], p0t, (0, 0)⟩ :: (r0B0 ++ F))) := by
  unfold m_codec_Writer_U8 at h
  refine sp_of_wc Try.func31 rfl Try.ntmps31 rfl rfl (fun w0 hR => ?_)
  refine wc_region ?_
  refine wl_pure tt_ok rfl rfl ?_
  refine wl_pure tt_ok rfl rfl ?_
  replace h := bsome h; obtain ⟨o6_0, x6, h⟩ := h
  refine wl_cs Try.call48 rfl rfl rfl (s_sp (k_codec_put_uint8 (p0 := p0) p0N0 p0V0 x6) (pCons Sel.hc (pApp Sel.ha pNil)) (fun _ _ => trivial)) rfl ?_
  rintro _ _ ⟨_, ⟨o6_0a0, o6_0n0, o6_0c0, o6_0B0, o6_0N0, o6_0V0, rfl, rfl⟩, rfl⟩
  refine wl_nil ?_
  simp only [Option.some.injEq] at h
  obtain rfl := h
  exact wx_spD tt_ok (.inr rfl) Try.results31 Res.nil ⟨o6_0a0, o6_0n0, o6_0c0, o6_0B0, o6_0N0, o6_0V0, rfl, rfl⟩ (fun F => by simp) (pSub (pCons Sel.hc (pApp Sel.ha pNil)))

theorem k_codec_put_uint16 {F : Nat} {p0 : T_codec_Writer} {p0b p0t : Nat} {p0a0 : Option Addr} {p0n0 p0c0 : Nat} {p0B0 : List Blk} {p1 : Int} {p2 : Int} {r0 : T_codec_Writer} (p0N0 : p0n0 = p0.b.length) (p0V0 : Own 5 1 p0a0 p0n0 p0c0 (flat (e1 .u8) p0.b) p0B0) (h : m_codec_put_uint16 F p0 p1 p2 = some r0) :
    SpD Try.prog 49 [.pointer (some ⟨p0b, 0, none⟩), .int .u16 p1, .int .i64 p2] (⟨p0b, [.slice p0a0 p0n0 p0c0], p0t, (0, 0)⟩ :: (p0B0 ++ [])) (fun w => True) (fun v D => ∃ (r0a0 : Option Addr) (r0n0 r0c0 : Nat) (r0B0 : List Blk), r0n0 = r0.b.length ∧ Own 5 1 r0a0 r0n0 r0c0 (flat (e1 .u8) r0.b) r0B0 ∧ v = .tuple #[] ∧ D = fun F => (⟨p0b, [.slice r0a0 r0n0 r0c0], p0t, (0, 0)⟩ :: (r0B0 ++ F))) := by
  unfold m_codec_put_uint16 at h
  refine sp_of_wc Try.func49 rfl Try.ntmps49 rfl rfl (fun w0 hR => ?_)
  refine wc_seq ?_
  refine wc_seq ?_
  refine wc_region ?_
  refine wl_pure tt_ok rfl rfl ?_
  refine wl_pure (v := .bool false) tt_ok rfl rfl ?_
  refine wl_nil ?_
  refine wx_then ?_
  refine wc_cond_false rfl ?_
  refine wc_skip ?_
  refine wx_then ?_
  refine wc_seq ?_
  refine wc_region ?_
  refine wl_pure tt_ok rfl rfl ?_
  refine wl_pure tt_ok rfl rfl ?_
  refine wl_nil ?_
  refine wx_then ?_
  refine wc_block ?_
  replace h := bsome h; obtain ⟨l10_p0_f0, h, hl10⟩ := h
  refine wc_loop (fun m E L => ∃ (j10_10 : Int) (j10_p0_f0 : (List Int)) (j10_p0_f0a0 : Option Addr) (j10_p0_f0n0 : Nat) (j10_p0_f0c0 : Nat) (j10_p0_f0B0 : List Blk), m_codec_put_uint16_L9 F p1 p2 m j10_10 j10_p0_f0 = some l10_p0_f0 ∧ j10_p0_f0n0 = j10_p0_f0.length ∧ Own 5 1 j10_p0_f0a0 j10_p0_f0n0 j10_p0_f0c0 (flat (e1 .u8) j10_p0_f0) j10_p0_f0B0 ∧ E = [(0, .pointer (some ⟨p0b, 0, none⟩)), (1, .int .u16 p1), (9, .int .i64 p2), (10, .int .i64 j10_10)] ∧ L = (⟨p0b, [.slice j10_p0_f0a0 j10_p0_f0n0 j10_p0_f0c0], p0t, (0, 0)⟩ :: (j10_p0_f0B0 ++ []))) F ⟨(0 : Int), p0.b, p0a0, p0n0, p0c0, p0B0, h, p0N0, p0V0, rfl, rfl⟩ (agree_cons rfl (agree_cons rfl (agree_cons rfl (agree_cons rfl agree_nil)))) (pSub (pCons Sel.hc (pApp Sel.ha pNil))) ?_
  clear h
  rintro m10 _ _ ⟨j10_10, j10_p0_f0, j10_p0_f0a0, j10_p0_f0n0, j10_p0_f0c0, j10_p0_f0B0, h, j10_p0_f0N0, j10_p0_f0V0, rfl, rfl⟩
  rcases m10 with _ | m10
  · rw [m_codec_put_uint16_L9.eq_1] at h; cases h
  rw [m_codec_put_uint16_L9.eq_2] at h
  refine wc_seq ?_
  refine wc_region ?_
  refine wl_pure (v := .bool (decide (j10_10 < p2))) tt_ok rfl rfl ?_
  refine wl_nil ?_
  refine wx_then ?_
  refine wc_seq ?_
  refine wc_cond rfl (fun hc => ?_) (fun hc => ?_)
  · replace h := ct hc h
    refine wc_skip ?_
    refine wx_then ?_
    refine wc_seq ?_
    refine wc_block ?_
    refine wc_seq ?_
    refine wc_region ?_
    refine wl_pure tt_ok rfl rfl ?_
    refine wl_pure tt_ok rfl rfl ?_
    refine wl_nil ?_
    refine wx_then ?_
    refine wc_k2 (Ls := (⟨p0b, [.slice j10_p0_f0a0 j10_p0_f0n0 j10_p0_f0c0], p0t, (0, 0)⟩ :: [])) [11, 12, 13, 14, 15] [13, 14, 15] [0, 0, 2, 6, 14, 0, 32, 0, 128, 480, 992, 2016, 4094, 8191, 16383, 32767] [0, 1, 2, 3, 4, 5, 6, 7, 8, 9, 10, 11, 12, 13, 14, 15] (by kernel_rfl) (by kernel_rfl) (by kernel_rfl) ?_
    refine k_val rfl rfl rfl (pSub (pCons Sel.hc pNil)) (stepV_ok tt_ok rfl) rfl ?_
    refine k_val rfl rfl rfl (pSub (pCons Sel.hc pNil)) (stepV_ok tt_ok rfl) rfl ?_
    refine k_val rfl rfl rfl (pSub (pCons Sel.hc pNil)) (stepV_ok tt_ok rfl) rfl ?_
    refine k_val (v := .pointer (some ⟨p0b, 0, none⟩)) rfl rfl rfl (pSub (pCons Sel.hc pNil)) (stepV_ok tt_ok rfl) rfl ?_
    refine k_val (v := .slice j10_p0_f0a0 j10_p0_f0n0 j10_p0_f0c0) rfl rfl rfl (pSub (pCons Sel.hc pNil)) (val_load tt_ok rfl (List.Mem.head _) rfl) rfl ?_
    refine k_val rfl rfl rfl (pSub (pCons Sel.hc pNil)) (stepV_ok tt_ok rfl) rfl ?_
    refine k_val (v := .int .u64 (IntKind.wrap .u64 p1)) rfl rfl rfl (pSub (pCons Sel.hc pNil)) (stepV_ok tt_ok rfl) rfl ?_
    refine k_val rfl rfl rfl (pSub (pCons Sel.hc pNil)) (stepV_ok tt_ok rfl) rfl ?_
    refine k_val (v := .int .i64 (IntKind.wrap .i64 ((8 : Int) * j10_10))) rfl rfl rfl (pSub (pCons Sel.hc pNil)) (stepV_ok tt_ok rfl) rfl ?_
    replace h := bsome h; obtain ⟨v22, x22, h⟩ := h
    refine k_val (v := .int .u64 v22) rfl rfl rfl (pSub (pCons Sel.hc pNil)) (val_shr rfl rfl x22) rfl ?_
    refine k_val (v := .int .u8 (IntKind.wrap .u8 v22)) rfl rfl rfl (pSub (pCons Sel.hc pNil)) (stepV_ok tt_ok rfl) rfl ?_
    refine k_chg rfl rfl rfl (chg_bsv (enc := (e1 .u8)) (xs := ([(IntKind.wrap .u8 v22)] : List Int)) tt_ok rfl rfl rfl rfl rfl rfl rfl rfl (e1_len _)) rfl (.inr (by rintro _ _ ⟨_, _, _, _, rfl, _, _, rfl⟩; exact ⟨_, (pCons (Sel.sa Sel.hc) pNil)⟩)) ?_
    rintro _ _ ⟨a24, n24_, c24, B24, rfl, N24, V24, rfl⟩
    replace h := bsome h; obtain ⟨v25, x25, h⟩ := h
    refine k_chg rfl rfl rfl (chg_app (enc := (e1 .u8)) (ys := ([(IntKind.wrap .u8 v22)] : List Int)) tt_ok rfl rfl rfl rfl rfl rfl j10_p0_f0N0 N24 j10_p0_f0V0 (Sel.sa (Sel.sc Sel.ha)) (Rds.of_vec V24) ⟨_, Sel.ha⟩ (e1_len _) (fun _ => rfl) rfl x25) rfl (.inr (by rintro _ _ ⟨_, _, _, _, rfl, _, _, rfl⟩; exact ⟨_, (pCons (Sel.sa (Sel.sa Sel.hc)) pNil)⟩)) ?_
    rintro _ _ ⟨a25, n25_, c25, B25, rfl, N25, V25, rfl⟩
    refine k_chg rfl rfl rfl (Chg.of_val (stepV_ok tt_ok rfl)) rfl (.inl rfl) ?_
    rintro _ _ ⟨rfl, rfl⟩
    refine k_chg rfl rfl rfl (Chg.of_val (v := .pointer (some ⟨p0b, 0, none⟩)) (stepV_ok tt_ok rfl)) rfl (.inl rfl) ?_
    rintro _ _ ⟨rfl, rfl⟩
    refine k_chg0 rfl rfl rfl (chg_store tt_ok rfl (Upd.right (Upd.right Upd.here)) rfl rfl rfl rfl rfl rfl) (.inl rfl) ?_
    rintro _ _ rfl
    refine k_end (by kernel_rfl) ?_
    refine wx_block ?_
    refine wx_then ?_
    refine wc_region ?_
    refine wl_pure (v := .int .i64 (IntKind.wrap .i64 (j10_10 + (1 : Int)))) tt_ok rfl rfl ?_
    refine wl_pure tt_ok rfl rfl ?_
    refine wl_nil ?_
    exact wx_round m10 (Nat.lt_succ_self m10) ⟨(IntKind.wrap .i64 (j10_10 + (1 : Int))), v25, a25, n25_, c25, B25, h, N25, V25, rfl, rfl⟩ (agree_cons rfl (agree_cons rfl (agree_cons rfl (agree_cons rfl agree_nil)))) (pSub (pCons (Sel.sa (Sel.sa Sel.hc)) (pApp Sel.ha pNil)))
  replace h := cf hc h
  refine wc_exit ?_
  refine wx_then_exit ?_
  simp only [Option.some.injEq] at h
  obtain rfl := h
  have h := hl10; clear hl10; try dsimp only [orE_l, orE_r] at h
  refine wx_then_exit ?_
  refine wx_block_exit ?_
  simp only [Option.some.injEq] at h
  obtain rfl := h
  exact wx_spD tt_ok (.inr rfl) Try.results49 Res.nil ⟨j10_p0_f0a0, j10_p0_f0n0, j10_p0_f0c0, j10_p0_f0B0, j10_p0_f0N0, j10_p0_f0V0, rfl, rfl⟩ (fun F => by simp) (pSub (pCons Sel.hc (pApp Sel.ha pNil)))

theorem k_codec_Writer_U16 {F : Nat} {p0 : T_codec_Writer} {p0b p0t : Nat} {p0a0 : Option Addr} {p0n0 p0c0 : Nat} {p0B0 : List Blk} {p1 : Int} {r0 : T_codec_Writer} (p0N0 : p0n0 = p0.b.length) (p0V0 : Own 5 1 p0a0 p0n0 p0c0 (flat (e1 .u8) p0.b) p0B0) (h : m_codec_Writer_U16 F p0 p1 = some r0) :
    SpD Try.prog 33 [.pointer (some ⟨p0b, 0, none⟩), .int .u16 p1] (⟨p0b, [.slice p0a0 p0n0 p0c0], p0t, (0, 0)⟩ :: (p0B0 ++ [])) (fun w => True) (fun v D => ∃ (r0a0 : Option Addr) (r0n0 r0c0 : Nat) (r0B0 : List Blk), r0n0 = r0.b.length ∧ Own 5 1 r0a0 r0n0 r0c0 (flat (e1 .u8) r0.b) r0B0 ∧ v = .tuple #[] ∧ D = fun F => (⟨p0b, [.slice r0a0 r0n0 r0c0], p0t, (0, 0)⟩ :: (r0B0 ++ F))) := by
  unfold m_codec_Writer_U16 at h
  refine sp_of_wc Try.func33 rfl Try.ntmps33 rfl rfl (fun w0 hR => ?_)
  refine wc_region ?_
  refine wl_pure tt_ok rfl rfl ?_
  refine wl_pure tt_ok rfl rfl ?_
  replace h := bsome h; obtain ⟨o6_0, x6, h⟩ := h
  refine wl_cs Try.call49 rfl rfl rfl (s_sp (k_codec_put_uint16 (p0 := p0) p0N0 p0V0 x6) (pCons Sel.hc (pApp Sel.ha pNil)) (fun _ _ => trivial)) rfl ?_
  rintro _ _ ⟨_, ⟨o6_0a0, o6_0n0, o6_0c0, o6_0B0, o6_0N0, o6_0V0, rfl, rfl⟩, rfl⟩
  refine wl_nil ?_
  simp only [Option.some.injEq] at h
  obtain rfl := h
  exact wx_spD tt_ok (.inr rfl) Try.results33 Res.nil ⟨o6_0a0, o6_0n0, o6_0c0, o6_0B0, o6_0N0, o6_0V0, rfl, rfl⟩ (fun F => by simp) (pSub (pCons Sel.hc (pApp Sel.ha pNil)))

theorem k_codec_put_uint32 {F : Nat} {p0 : T_codec_Writer} {p0b p0t : Nat} {p0a0 : Option Addr} {p0n0 p0c0 : Nat} {p0B0 : List Blk} {p1 : Int} {p2 : Int} {r0 : T_codec_Writer} (p0N0 : p0n0 = p0.b.length) (p0V0 : Own 5 1 p0a0 p0n0 p0c0 (flat (e1 .u8) p0.b) p0B0) (h : m_codec_put_uint32 F p0 p1 p2 = some r0) :
    SpD Try.prog 50 [.pointer (some ⟨p0b, 0, none⟩), .int .u32 p1, .int .i64 p2] (⟨p0b, [.slice p0a0 p0n0 p0c0], p0t, (0, 0)⟩ :: (p0B0 ++ [])) (fun w => True) (fun v D => ∃ (r0a0 : Option Addr) (r0n0 r0c0 : Nat) (r0B0 : List Blk), r0n0 = r0.b.length ∧ Own 5 1 r0a0 r0n0 r0c0 (flat (e1 .u8) r0.b) r0B0 ∧ v = .tuple #[] ∧ D = fun F => (⟨p0b, [.slice r0a0 r0n0 r0c0], p0t, (0, 0)⟩ :: (r0B0 ++ F))) := by
  unfold m_codec_put_uint32 at h
  refine sp_of_wc Try.func50 rfl Try.ntmps50 rfl rfl (fun w0 hR => ?_)
  refine wc_seq ?_
  refine wc_seq ?_
  refine wc_region ?_
  refine wl_pure tt_ok rfl rfl ?_
  refine wl_pure (v := .bool false) tt_ok rfl rfl ?_
  refine wl_nil ?_
  refine wx_then ?_
  refine wc_cond_false rfl ?_
  refine wc_skip ?_
  refine wx_then ?_
  refine wc_seq ?_
  refine wc_region ?_
  refine wl_pure tt_ok rfl rfl ?_
  refine wl_pure tt_ok rfl rfl ?_
  refine wl_nil ?_
  refine wx_then ?_
  refine wc_block ?_
  replace h := bsome h; obtain ⟨l10_p0_f0, h, hl10⟩ := h
  refine wc_loop (fun m E L => ∃ (j10_10 : Int) (j10_p0_f0 : (List Int)) (j10_p0_f0a0 : Option Addr) (j10_p0_f0n0 : Nat) (j10_p0_f0c0 : Nat) (j10_p0_f0B0 : List Blk), m_codec_put_uint32_L9 F p1 p2 m j10_10 j10_p0_f0 = some l10_p0_f0 ∧ j10_p0_f0n0 = j10_p0_f0.length ∧ Own 5 1 j10_p0_f0a0 j10_p0_f0n0 j10_p0_f0c0 (flat (e1 .u8) j10_p0_f0) j10_p0_f0B0 ∧ E = [(0, .pointer (some ⟨p0b, 0, none⟩)), (1, .int .u32 p1), (9, .int .i64 p2), (10, .int .i64 j10_10)] ∧ L = (⟨p0b, [.slice j10_p0_f0a0 j10_p0_f0n0 j10_p0_f0c0], p0t, (0, 0)⟩ :: (j10_p0_f0B0 ++ []))) F ⟨(0 : Int), p0.b, p0a0, p0n0, p0c0, p0B0, h, p0N0, p0V0, rfl, rfl⟩ (agree_cons rfl (agree_cons rfl (agree_cons rfl (agree_cons rfl agree_nil)))) (pSub (pCons Sel.hc (pApp Sel.ha pNil))) ?_
  clear h
  rintro m10 _ _ ⟨j10_10, j10_p0_f0, j10_p0_f0a0, j10_p0_f0n0, j10_p0_f0c0, j10_p0_f0B0, h, j10_p0_f0N0, j10_p0_f0V0, rfl, rfl⟩
  rcases m10 with _ | m10
  · rw [m_codec_put_uint32_L9.eq_1] at h; cases h
  rw [m_codec_put_uint32_L9.eq_2] at h
  refine wc_seq ?_
  refine wc_region ?_
  refine wl_pure (v := .bool (decide (j10_10 < p2))) tt_ok rfl rfl ?_
  refine wl_nil ?_
  refine wx_then ?_
  refine wc_seq ?_
  refine wc_cond rfl (fun hc => ?_) (fun hc => ?_)
  · replace h := ct hc h
    refine wc_skip ?_
    refine wx_then ?_
    refine wc_seq ?_
    refine wc_block ?_
    refine wc_seq ?_
    refine wc_region ?_
    refine wl_pure tt_ok rfl rfl ?_
    refine wl_pure tt_ok rfl rfl ?_
    refine wl_nil ?_
    refine wx_then ?_
    refine wc_k2 (Ls := (⟨p0b, [.slice j10_p0_f0a0 j10_p0_f0n0 j10_p0_f0c0], p0t, (0, 0)⟩ :: [])) [11, 12, 13, 14, 15] [13, 14, 15] [0, 0, 2, 6, 14, 0, 32, 0, 128, 480, 992, 2016, 4094, 8191, 16383, 32767] [0, 1, 2, 3, 4, 5, 6, 7, 8, 9, 10, 11, 12, 13, 14, 15] (by kernel_rfl) (by kernel_rfl) (by kernel_rfl) ?_
    refine k_val rfl rfl rfl (pSub (pCons Sel.hc pNil)) (stepV_ok tt_ok rfl) rfl ?_
    refine k_val rfl rfl rfl (pSub (pCons Sel.hc pNil)) (stepV_ok tt_ok rfl) rfl ?_
    refine k_val rfl rfl rfl (pSub (pCons Sel.hc pNil)) (stepV_ok tt_ok rfl) rfl ?_
    refine k_val (v := .pointer (some ⟨p0b, 0, none⟩)) rfl rfl rfl (pSub (pCons Sel.hc pNil)) (stepV_ok tt_ok rfl) rfl ?_
    refine k_val (v := .slice j10_p0_f0a0 j10_p0_f0n0 j10_p0_f0c0) rfl rfl rfl (pSub (pCons Sel.hc pNil)) (val_load tt_ok rfl (List.Mem.head _) rfl) rfl ?_
    refine k_val rfl rfl rfl (pSub (pCons Sel.hc pNil)) (stepV_ok tt_ok rfl) rfl ?_
    refine k_val (v := .int .u64 (IntKind.wrap .u64 p1)) rfl rfl rfl (pSub (pCons Sel.hc pNil)) (stepV_ok tt_ok rfl) rfl ?_
    refine k_val rfl rfl rfl (pSub (pCons Sel.hc pNil)) (stepV_ok tt_ok rfl) rfl ?_
    refine k_val (v := .int .i64 (IntKind.wrap .i64 ((8 : Int) * j10_10))) rfl rfl rfl (pSub (pCons Sel.hc pNil)) (stepV_ok tt_ok rfl) rfl ?_
    replace h := bsome h; obtain ⟨v22, x22, h⟩ := h
    refine k_val (v := .int .u64 v22) rfl rfl rfl (pSub (pCons Sel.hc pNil)) (val_shr rfl rfl x22) rfl ?_
    refine k_val (v := .int .u8 (IntKind.wrap .u8 v22)) rfl rfl rfl (pSub (pCons Sel.hc pNil)) (stepV_ok tt_ok rfl) rfl ?_
    refine k_chg rfl rfl rfl (chg_bsv (enc := (e1 .u8)) (xs := ([(IntKind.wrap .u8 v22)] : List Int)) tt_ok rfl rfl rfl rfl rfl rfl rfl rfl (e1_len _)) rfl (.inr (by rintro _ _ ⟨_, _, _, _, rfl, _, _, rfl⟩; exact ⟨_, (pCons (Sel.sa Sel.hc) pNil)⟩)) ?_
    rintro _ _ ⟨a24, n24_, c24, B24, rfl, N24, V24, rfl⟩
    replace h := bsome h; obtain ⟨v25, x25, h⟩ := h
    refine k_chg rfl rfl rfl (chg_app (enc := (e1 .u8)) (ys := ([(IntKind.wrap .u8 v22)] : List Int)) tt_ok rfl rfl rfl rfl rfl rfl j10_p0_f0N0 N24 j10_p0_f0V0 (Sel.sa (Sel.sc Sel.ha)) (Rds.of_vec V24) ⟨_, Sel.ha⟩ (e1_len _) (fun _ => rfl) rfl x25) rfl (.inr (by rintro _ _ ⟨_, _, _, _, rfl, _, _, rfl⟩; exact ⟨_, (pCons (Sel.sa (Sel.sa Sel.hc)) pNil)⟩)) ?_
    rintro _ _ ⟨a25, n25_, c25, B25, rfl, N25, V25, rfl⟩
    refine k_chg rfl rfl rfl (Chg.of_val (stepV_ok tt_ok rfl)) rfl (.inl rfl) ?_
    rintro _ _ ⟨rfl, rfl⟩
    refine k_chg rfl rfl rfl (Chg.of_val (v := .pointer (some ⟨p0b, 0, none⟩)) (stepV_ok tt_ok rfl)) rfl (.inl rfl) ?_
    rintro _ _ ⟨rfl, rfl⟩
    refine k_chg0 rfl rfl rfl (chg_store tt_ok rfl (Upd.right (Upd.right Upd.here)) rfl rfl rfl rfl rfl rfl) (.inl rfl) ?_
    rintro _ _ rfl
    refine k_end (by kernel_rfl) ?_
    refine wx_block ?_
    refine wx_then ?_
    refine wc_region ?_
    refine wl_pure (v := .int .i64 (IntKind.wrap .i64 (j10_10 + (1 : Int)))) tt_ok rfl rfl ?_
    refine wl_pure tt_ok rfl rfl ?_
    refine wl_nil ?_
    exact wx_round m10 (Nat.lt_succ_self m10) ⟨(IntKind.wrap .i64 (j10_10 + (1 : Int))), v25, a25, n25_, c25, B25, h, N25, V25, rfl, rfl⟩ (agree_cons rfl (agree_cons rfl (agree_cons rfl (agree_cons rfl agree_nil)))) (pSub (pCons (Sel.sa (Sel.sa Sel.hc)) (pApp Sel.ha pNil)))
  replace h := cf hc h
  refine wc_exit ?_
  refine wx_then_exit ?_
  simp only [Option.some.injEq] at h
  obtain rfl := h
  have h := hl10; clear hl10; try dsimp only [orE_l, orE_r] at h
  refine wx_then_exit ?_
  refine wx_block_exit ?_
  simp only [Option.some.injEq] at h
  obtain rfl := h
  exact wx_spD tt_ok (.inr rfl) Try.results50 Res.nil ⟨j10_p0_f0a0, j10_p0_f0n0, j10_p0_f0c0, j10_p0_f0B0, j10_p0_f0N0, j10_p0_f0V0, rfl, rfl⟩ (fun F => by simp) (pSub (pCons Sel.hc (pApp Sel.ha pNil)))

theorem k_codec_Writer_U32 {F : Nat} {p0 : T_codec_Writer} {p0b p0t : Nat} {p0a0 : Option Addr} {p0n0 p0c0 : Nat} {p0B0 : List Blk} {p1 : Int} {r0 : T_codec_Writer} (p0N0 : p0n0 = p0.b.length) (p0V0 : Own 5 1 p0a0 p0n0 p0c0 (flat (e1 .u8) p0.b) p0B0) (h : m_codec_Writer_U32 F p0 p1 = some r0) :
    SpD Try.prog 34 [.pointer (some ⟨p0b, 0, none⟩), .int .u32 p1] (⟨p0b, [.slice p0a0 p0n0 p0c0], p0t, (0, 0)⟩ :: (p0B0 ++ [])) (fun w => True) (fun v D => ∃ (r0a0 : Option Addr) (r0n0 r0c0 : Nat) (r0B0 : List Blk), r0n0 = r0.b.length ∧ Own 5 1 r0a0 r0n0 r0c0 (flat (e1 .u8) r0.b) r0B0 ∧ v = .tuple #[] ∧ D = fun F => (⟨p0b, [.slice r0a0 r0n0 r0c0], p0t, (0, 0)⟩ :: (r0B0 ++ F))) := by
  unfold m_codec_Writer_U32 at h
  refine sp_of_wc Try.func34 rfl Try.ntmps34 rfl rfl (fun w0 hR => ?_)
  refine wc_region ?_
  refine wl_pure tt_ok rfl rfl ?_
  refine wl_pure tt_ok rfl rfl ?_
  replace h := bsome h; obtain ⟨o6_0, x6, h⟩ := h
  refine wl_cs Try.call50 rfl rfl rfl (s_sp (k_codec_put_uint32 (p0 := p0) p0N0 p0V0 x6) (pCons Sel.hc (pApp Sel.ha pNil)) (fun _ _ => trivial)) rfl ?_
  rintro _ _ ⟨_, ⟨o6_0a0, o6_0n0, o6_0c0, o6_0B0, o6_0N0, o6_0V0, rfl, rfl⟩, rfl⟩
  refine wl_nil ?_
  simp only [Option.some.injEq] at h
  obtain rfl := h
  exact wx_spD tt_ok (.inr rfl) Try.results34 Res.nil ⟨o6_0a0, o6_0n0, o6_0c0, o6_0B0, o6_0N0, o6_0V0, rfl, rfl⟩ (fun F => by simp) (pSub (pCons Sel.hc (pApp Sel.ha pNil)))

theorem k_codec_Writer_I32 {F : Nat} {p0 : T_codec_Writer} {p0b p0t : Nat} {p0a0 : Option Addr} {p0n0 p0c0 : Nat} {p0B0 : List Blk} {p1 : Int} {r0 : T_codec_Writer} (p0N0 : p0n0 = p0.b.length) (p0V0 : Own 5 1 p0a0 p0n0 p0c0 (flat (e1 .u8) p0.b) p0B0) (h : m_codec_Writer_I32 F p0 p1 = some r0) :
    SpD Try.prog 36 [.pointer (some ⟨p0b, 0, none⟩), .int .i32 p1] (⟨p0b, [.slice p0a0 p0n0 p0c0], p0t, (0, 0)⟩ :: (p0B0 ++ [])) (fun w => True) (fun v D => ∃ (r0a0 : Option Addr) (r0n0 r0c0 : Nat) (r0B0 : List Blk), r0n0 = r0.b.length ∧ Own 5 1 r0a0 r0n0 r0c0 (flat (e1 .u8) r0.b) r0B0 ∧ v = .tuple #[] ∧ D = fun F => (⟨p0b, [.slice r0a0 r0n0 r0c0], p0t, (0, 0)⟩ :: (r0B0 ++ F))) := by
  unfold m_codec_Writer_I32 at h
  refine sp_of_wc Try.func36 rfl Try.ntmps36 rfl rfl (fun w0 hR => ?_)
  refine wc_region ?_
  refine wl_pure tt_ok rfl rfl ?_
  refine wl_pure tt_ok rfl rfl ?_
  refine wl_pure (v := .int .u32 (IntKind.wrap .u32 p1)) tt_ok rfl rfl ?_
  replace h := bsome h; obtain ⟨o7_0, x7, h⟩ := h
  refine wl_cs Try.call50 rfl rfl rfl (s_sp (k_codec_put_uint32 (p0 := p0) p0N0 p0V0 x7) (pCons Sel.hc (pApp Sel.ha pNil)) (fun _ _ => trivial)) rfl ?_
  rintro _ _ ⟨_, ⟨o7_0a0, o7_0n0, o7_0c0, o7_0B0, o7_0N0, o7_0V0, rfl, rfl⟩, rfl⟩
  refine wl_nil ?_
  simp only [Option.some.injEq] at h
  obtain rfl := h
  exact wx_spD tt_ok (.inr rfl) Try.results36 Res.nil ⟨o7_0a0, o7_0n0, o7_0c0, o7_0B0, o7_0N0, o7_0V0, rfl, rfl⟩ (fun F => by simp) (pSub (pCons Sel.hc (pApp Sel.ha pNil)))

theorem k_codec_Writer_Bytes {F : Nat} {p0 : T_codec_Writer} {p0b p0t : Nat} {p0a0 : Option Addr} {p0n0 p0c0 : Nat} {p0B0 : List Blk} {r0 : (List UInt8)} (p0N0 : p0n0 = p0.b.length) (p0V0 : Own 5 1 p0a0 p0n0 p0c0 (flat (e1 .u8) p0.b) p0B0) (h : m_codec_Writer_Bytes F p0 = some r0) :
    Rd2 Try.prog 12 [.pointer (some ⟨p0b, 0, none⟩)] (⟨p0b, [.slice p0a0 p0n0 p0c0], p0t, (0, 0)⟩ :: (p0B0 ++ [])) (fun w => True) (.string ⟨r0.toArray⟩) := by
  unfold m_codec_Writer_Bytes at h
  refine sp_of_wc Try.func12 rfl Try.ntmps12 rfl rfl (fun w0 hR => ?_)
  refine wc_seq ?_
  refine wc_region ?_
  refine wl_pure tt_ok rfl rfl ?_
  refine wl_nil ?_
  refine wx_then ?_
  refine wc_seq ?_
  refine wc_seq ?_
  refine wc_region ?_
  refine wl_pure tt_ok rfl rfl ?_
  refine wl_pure (v := .bool false) tt_ok rfl rfl ?_
  refine wl_nil ?_
  refine wx_then ?_
  refine wc_cond_false rfl ?_
  refine wc_skip ?_
  refine wx_then ?_
  refine wc_seq ?_
  refine wc_region ?_
  refine wl_pure tt_ok rfl rfl ?_
  refine wl_pure tt_ok rfl rfl ?_
  refine wl_pure (v := .pointer (some ⟨p0b, 0, none⟩)) tt_ok rfl rfl ?_
  refine wl_val (v := .slice p0a0 p0n0 p0c0) (val_load tt_ok rfl (List.Mem.head _) rfl) rfl ?_
  refine wl_val (v := .string ⟨(toB p0.b).toArray⟩) (val_b2s (xs := p0.b) tt_ok rfl rfl rfl rfl p0N0 (Rds.of_vec p0V0) ⟨_, (Sel.sc Sel.ha)⟩) rfl ?_
  refine wl_pure tt_ok rfl rfl ?_
  refine wl_nil ?_
  refine wx_then ?_
  refine wc_ret ?_
  simp only [Option.some.injEq] at h
  obtain rfl := h
  exact wx_rd tt_ok (.inl rfl) Try.results12 (Res.tmp rfl Res.nil) (pSub (pCons Sel.hc (pApp Sel.ha pNil))) rfl

theorem k_codec_Writer_Var {F : Nat} {p0 : T_codec_Writer} {p0b p0t : Nat} {p0a0 : Option Addr} {p0n0 p0c0 : Nat} {p0B0 : List Blk} {p1 : Int} {r0 : T_codec_Writer} (p0N0 : p0n0 = p0.b.length) (p0V0 : Own 5 1 p0a0 p0n0 p0c0 (flat (e1 .u8) p0.b) p0B0) (h : m_codec_Writer_Var F p0 p1 = some r0) :
    SpD Try.prog 37 [.pointer (some ⟨p0b, 0, none⟩), .int .u64 p1] (⟨p0b, [.slice p0a0 p0n0 p0c0], p0t, (0, 0)⟩ :: (p0B0 ++ [])) (fun w => True) (fun v D => ∃ (r0a0 : Option Addr) (r0n0 r0c0 : Nat) (r0B0 : List Blk), r0n0 = r0.b.length ∧ Own 5 1 r0a0 r0n0 r0c0 (flat (e1 .u8) r0.b) r0B0 ∧ v = .tuple #[] ∧ D = fun F => (⟨p0b, [.slice r0a0 r0n0 r0c0], p0t, (0, 0)⟩ :: (r0B0 ++ F))) := by
  unfold m_codec_Writer_Var at h
  refine sp_of_wc Try.func37 rfl Try.ntmps37 rfl rfl (fun w0 hR => ?_)
  refine wc_seq ?_
  refine wc_block ?_
  replace h := bsome h; obtain ⟨⟨l3_1, l3_p0_f0⟩, h, hl3⟩ := h; try dsimp only at hl3
  refine wc_loop (fun m E L => ∃ (j3_1 : Int) (j3_p0_f0 : (List Int)) (j3_p0_f0a0 : Option Addr) (j3_p0_f0n0 : Nat) (j3_p0_f0c0 : Nat) (j3_p0_f0B0 : List Blk), m_codec_Writer_Var_L2 F m j3_1 j3_p0_f0 = some (l3_1, l3_p0_f0) ∧ j3_p0_f0n0 = j3_p0_f0.length ∧ Own 5 1 j3_p0_f0a0 j3_p0_f0n0 j3_p0_f0c0 (flat (e1 .u8) j3_p0_f0) j3_p0_f0B0 ∧ E = [(0, .pointer (some ⟨p0b, 0, none⟩)), (1, .int .u64 j3_1)] ∧ L = (⟨p0b, [.slice j3_p0_f0a0 j3_p0_f0n0 j3_p0_f0c0], p0t, (0, 0)⟩ :: (j3_p0_f0B0 ++ []))) F ⟨p1, p0.b, p0a0, p0n0, p0c0, p0B0, h, p0N0, p0V0, rfl, rfl⟩ (agree_cons rfl (agree_cons rfl agree_nil)) (pSub (pCons Sel.hc (pApp Sel.ha pNil))) ?_
  clear h
  rintro m3 _ _ ⟨j3_1, j3_p0_f0, j3_p0_f0a0, j3_p0_f0n0, j3_p0_f0c0, j3_p0_f0B0, h, j3_p0_f0N0, j3_p0_f0V0, rfl, rfl⟩
  rcases m3 with _ | m3
  · rw [m_codec_Writer_Var_L2.eq_1] at h; cases h
  rw [m_codec_Writer_Var_L2.eq_2] at h
  refine wc_seq ?_
  refine wc_seq ?_
  refine wc_region ?_
  refine wl_pure tt_ok rfl rfl ?_
  refine wl_pure (v := .bool (decide ((127 : Int) < j3_1))) tt_ok rfl rfl ?_
  refine wl_nil ?_
  refine wx_then ?_
  refine wc_cond rfl (fun hc => ?_) (fun hc => ?_)
  · replace h := ct hc h
    refine wc_skip ?_
    refine wx_then ?_
    refine wc_block ?_
    refine wc_seq ?_
    refine wc_region ?_
    refine wl_pure tt_ok rfl rfl ?_
    refine wl_pure tt_ok rfl rfl ?_
    refine wl_pure (v := .int .u8 (IntKind.wrap .u8 j3_1)) tt_ok rfl rfl ?_
    refine wl_pure (v := .int .u8 (bits .or .u8 (IntKind.wrap .u8 j3_1) (128 : Int))) tt_ok rfl rfl ?_
    replace h := bsome h; obtain ⟨o10_0, x10, h⟩ := h
    refine wl_cs Try.call31 rfl rfl rfl (s_sp (k_codec_Writer_U8 (p0 := (T_codec_Writer.mk j3_p0_f0)) j3_p0_f0N0 j3_p0_f0V0 x10) (pCons Sel.hc (pApp Sel.ha pNil)) (fun _ _ => trivial)) rfl ?_
    rintro _ _ ⟨_, ⟨o10_0a0, o10_0n0, o10_0c0, o10_0B0, o10_0N0, o10_0V0, rfl, rfl⟩, rfl⟩
    refine wl_nil ?_
    refine wx_then ?_
    refine wc_region ?_
    refine wl_pure tt_ok rfl rfl ?_
    refine wl_pure (v := .int .u64 (j3_1 / 2 ^ (min 7 (IntKind.bits .u64)))) tt_ok rfl rfl ?_
    refine wl_pure tt_ok rfl rfl ?_
    refine wl_nil ?_
    refine wx_block ?_
    exact wx_round m3 (Nat.lt_succ_self m3) ⟨(j3_1 / 2 ^ (min 7 (IntKind.bits .u64))), o10_0.b, o10_0a0, o10_0n0, o10_0c0, o10_0B0, h, o10_0N0, o10_0V0, rfl, rfl⟩ (agree_cons rfl (agree_cons rfl agree_nil)) (pSub (pCons Sel.hc (pApp Sel.ha pNil)))
  replace h := cf hc h
  refine wc_exit ?_
  refine wx_then_exit ?_
  simp only [Option.some.injEq, Prod.mk.injEq] at h
  obtain ⟨rfl, rfl⟩ := h
  have h := hl3; clear hl3; try dsimp only [orE_l, orE_r] at h
  refine wx_then_exit ?_
  refine wx_block_exit ?_
  refine wx_then ?_
  refine wc_region ?_
  refine wl_pure tt_ok rfl rfl ?_
  refine wl_pure tt_ok rfl rfl ?_
  refine wl_pure (v := .int .u8 (IntKind.wrap .u8 j3_1)) tt_ok rfl rfl ?_
  replace h := bsome h; obtain ⟨o16_0, x16, h⟩ := h
  refine wl_cs Try.call31 rfl rfl rfl (s_sp (k_codec_Writer_U8 (p0 := (T_codec_Writer.mk j3_p0_f0)) j3_p0_f0N0 j3_p0_f0V0 x16) (pCons Sel.hc (pApp Sel.ha pNil)) (fun _ _ => trivial)) rfl ?_
  rintro _ _ ⟨_, ⟨o16_0a0, o16_0n0, o16_0c0, o16_0B0, o16_0N0, o16_0V0, rfl, rfl⟩, rfl⟩
  refine wl_nil ?_
  simp only [Option.some.injEq] at h
  obtain rfl := h
  exact wx_spD tt_ok (.inr rfl) Try.results37 Res.nil ⟨o16_0a0, o16_0n0, o16_0c0, o16_0B0, o16_0N0, o16_0V0, rfl, rfl⟩ (fun F => by simp) (pSub (pCons Sel.hc (pApp Sel.ha pNil)))

theorem k_hindcastlaw02_vars {F : Nat} {p0 : Int} {r0 : (List UInt8)} (h : m_hindcastlaw02_vars F p0 = some r0) :
    Pf Try.prog 27 [.int .u64 p0] (fun w => True) (.string ⟨r0.toArray⟩) := by
  unfold m_hindcastlaw02_vars at h
  refine pf_of_wc Try.func27 rfl Try.ntmps27 rfl rfl (fun w0 hR => ?_)
  refine wc_seq ?_
  refine wc_region ?_
  refine wl_pure tt_ok rfl rfl ?_
  refine wl_nil ?_
  refine wx_then ?_
  refine wc_seq ?_
  refine wc_region ?_
  refine wl_pure (v := .agg #[.slice none 0 0]) tt_ok rfl rfl ?_
  refine wl_box rfl rfl rfl (fun b5 => ?_)
  refine wl_pure tt_ok rfl rfl ?_
  refine wl_nil ?_
  refine wx_then ?_
  refine wc_seq ?_
  refine wc_region ?_
  refine wl_pure tt_ok rfl rfl ?_
  refine wl_pure tt_ok rfl rfl ?_
  replace h := bsome h; obtain ⟨o8_0, x8, h⟩ := h
  refine wl_cs Try.call37 rfl rfl rfl (s_sp (k_codec_Writer_Var (p0 := (T_codec_Writer.mk ([] : List Int))) rfl Own.zero x8) (pCons Sel.hc (pNo pNil)) (fun _ _ => trivial)) rfl ?_
  rintro _ _ ⟨_, ⟨o8_0a0, o8_0n0, o8_0c0, o8_0B0, o8_0N0, o8_0V0, rfl, rfl⟩, rfl⟩
  refine wl_nil ?_
  refine wx_then ?_
  refine wc_seq ?_
  refine wc_region ?_
  refine wl_pure tt_ok rfl rfl ?_
  replace h := bsome h; obtain ⟨v10, x10, h⟩ := h
  refine wl_cq Try.call12 rfl rfl rfl (q_rd (k_codec_Writer_Bytes (p0 := o8_0) o8_0N0 o8_0V0 x10) (pCons Sel.hc (pApp Sel.ha pNil)) (fun _ _ => trivial)) rfl ?_
  refine wl_pure tt_ok rfl rfl ?_
  refine wl_nil ?_
  refine wx_then ?_
  refine wc_ret ?_
  simp only [Option.some.injEq] at h
  obtain rfl := h
  exact wx_pf tt_ok (.inl rfl) Try.results27 (Res.tmp rfl Res.nil) rfl

theorem k_codec_New {F : Nat} {p0 : (List UInt8)} {r0 : T_codec_Reader} (h : m_codec_New F p0 = some r0) :
    SpD Try.prog 13 [.string ⟨p0.toArray⟩] [] (fun w => True) (fun v D => ∃ (r0b : Nat), v = .pointer (some ⟨r0b, 0, none⟩) ∧ D = fun F => (⟨r0b, [.string ⟨r0.left.s.toArray⟩, .int .i64 r0.left.e], 67, (0, 0)⟩ :: F)) := by
  unfold m_codec_New at h
  refine sp_of_wc Try.func13 rfl Try.ntmps13 rfl rfl (fun w0 hR => ?_)
  refine wc_seq ?_
  refine wc_region ?_
  refine wl_pure tt_ok rfl rfl ?_
  refine wl_nil ?_
  refine wx_then ?_
  refine wc_seq ?_
  refine wc_region ?_
  refine wl_pure tt_ok rfl rfl ?_
  refine wl_pure (v := .agg #[.string ⟨p0.toArray⟩, .int .i64 (0 : Int)]) tt_ok rfl rfl ?_
  refine wl_pure (v := .agg #[.string ⟨p0.toArray⟩, .int .i64 (0 : Int)]) tt_ok rfl rfl ?_
  refine wl_box rfl rfl rfl (fun b6 => ?_)
  refine wl_pure tt_ok rfl rfl ?_
  refine wl_nil ?_
  refine wx_then ?_
  refine wc_ret ?_
  simp only [Option.some.injEq] at h
  obtain rfl := h
  exact wx_spD tt_ok (.inl rfl) Try.results13 (Res.tmp rfl Res.nil) ⟨b6, rfl, rfl⟩ (fun F => by simp) (pSub (pCons Sel.hc pNil))

theorem k_codec_left_fail {F : Nat} {p0 : T_codec_left} {p0b p0t : Nat} {p1 : Int} {r0 : T_codec_left} (h : m_codec_left_fail F p0 p1 = some r0) :
    SpD Try.prog 47 [.pointer (some ⟨p0b, 0, none⟩), .int .i64 p1] (⟨p0b, [.string ⟨p0.s.toArray⟩, .int .i64 p0.e], p0t, (0, 0)⟩ :: []) (fun w => True) (fun v D => v = .tuple #[] ∧ D = fun F => (⟨p0b, [.string ⟨r0.s.toArray⟩, .int .i64 r0.e], p0t, (0, 0)⟩ :: F)) := by
  unfold m_codec_left_fail at h
  refine sp_of_wc Try.func47 rfl Try.ntmps47 rfl rfl (fun w0 hR => ?_)
  refine wc_seq ?_
  refine wc_region ?_
  refine wl_pure tt_ok rfl rfl ?_
  refine wl_pure tt_ok rfl rfl ?_
  refine wl_pure (v := .pointer (some ⟨p0b, 1, none⟩)) tt_ok rfl rfl ?_
  refine wl_val (v := .int .i64 p0.e) (val_load tt_ok rfl (List.Mem.head _) rfl) rfl ?_
  refine wl_pure (v := .bool (p0.e == (0 : Int))) tt_ok rfl rfl ?_
  refine wl_nil ?_
  refine wx_then ?_
  refine wc_cond rfl (fun hc => ?_) (fun hc => ?_)
  · replace h := ct hc h
    refine wc_region ?_
    refine wl_pure tt_ok rfl rfl ?_
    refine wl_pure tt_ok rfl rfl ?_
    refine wl_pure tt_ok rfl rfl ?_
    refine wl_pure tt_ok rfl rfl ?_
    refine wl_pure (v := .pointer (some ⟨p0b, 0, none⟩)) tt_ok rfl rfl ?_
    apply wl_store tt_ok; rfl; exact Upd.here; rfl; rfl; rfl; rfl; rfl; rfl
    refine wl_pure tt_ok rfl rfl ?_
    refine wl_pure (v := .pointer (some ⟨p0b, 1, none⟩)) tt_ok rfl rfl ?_
    apply wl_store tt_ok; rfl; exact Upd.here; rfl; rfl; rfl; rfl; rfl; rfl
    refine wl_nil ?_
    simp only [Option.some.injEq] at h
    obtain rfl := h
    exact wx_spD tt_ok (.inr rfl) Try.results47 Res.nil ⟨rfl, rfl⟩ (fun F => by simp) (pSub (pCons Sel.hc pNil))
  replace h := cf hc h
  refine wc_skip ?_
  simp only [Option.some.injEq] at h
  obtain rfl := h
  exact wx_spD tt_ok (.inr rfl) Try.results47 Res.nil ⟨rfl, rfl⟩ (fun F => by simp) (pSub (pCons Sel.hc pNil))

theorem k_codec_left_take {F : Nat} {p0 : T_codec_left} {p0b p0t : Nat} {p1 : Int} {r0 : T_codec_left} {r1 : (List UInt8)} {r2 : Bool} (h : m_codec_left_take F p0 p1 = some (r0, r1, r2)) :
    SpD Try.prog 46 [.pointer (some ⟨p0b, 0, none⟩), .int .u64 p1] (⟨p0b, [.string ⟨p0.s.toArray⟩, .int .i64 p0.e], p0t, (0, 0)⟩ :: []) (fun w => True) (fun v D => v = .tuple #[.string ⟨r1.toArray⟩, .bool r2] ∧ D = fun F => (⟨p0b, [.string ⟨r0.s.toArray⟩, .int .i64 r0.e], p0t, (0, 0)⟩ :: F)) := by
  unfold m_codec_left_take at h
  refine sp_of_wc Try.func46 rfl Try.ntmps46 rfl rfl (fun w0 hR => ?_)
  refine wc_seq ?_
  refine wc_region ?_
  refine wl_pure tt_ok rfl rfl ?_
  refine wl_pure tt_ok rfl rfl ?_
  refine wl_nil ?_
  refine wx_then ?_
  refine wc_seq ?_
  refine wc_seq ?_
  refine wc_region ?_
  refine wl_pure tt_ok rfl rfl ?_
  refine wl_pure tt_ok rfl rfl ?_
  refine wl_pure (v := .pointer (some ⟨p0b, 1, none⟩)) tt_ok rfl rfl ?_
  refine wl_val (v := .int .i64 p0.e) (val_load tt_ok rfl (List.Mem.head _) rfl) rfl ?_
  refine wl_pure (v := .bool (p0.e != (0 : Int))) tt_ok rfl rfl ?_
  refine wl_nil ?_
  refine wx_then ?_
  refine wc_cond rfl (fun hc => ?_) (fun hc => ?_)
  · replace h := ct hc h
    refine wc_seq ?_
    refine wc_region ?_
    refine wl_pure tt_ok rfl rfl ?_
    refine wl_pure tt_ok rfl rfl ?_
    refine wl_nil ?_
    refine wx_then ?_
    refine wc_ret ?_
    refine wx_then_ret ?_
    simp only [Option.some.injEq, Prod.mk.injEq] at h
    obtain ⟨rfl, rfl, rfl⟩ := h
    exact wx_spD tt_ok (.inl rfl) Try.results46 (Res.tmp rfl (Res.tmp rfl Res.nil)) ⟨rfl, rfl⟩ (fun F => by simp) (pSub (pCons Sel.hc pNil))
  replace h := cf hc h
  refine wc_skip ?_
  refine wx_then ?_
  refine wc_seq ?_
  refine wc_seq ?_
  refine wc_region ?_
  refine wl_pure tt_ok rfl rfl ?_
  refine wl_pure tt_ok rfl rfl ?_
  refine wl_pure tt_ok rfl rfl ?_
  refine wl_pure (v := .pointer (some ⟨p0b, 0, none⟩)) tt_ok rfl rfl ?_
  refine wl_val (v := .string ⟨p0.s.toArray⟩) (val_load tt_ok rfl (List.Mem.head _) rfl) rfl ?_
  refine wl_pure (v := .int .i64 (p0.s.length : Int)) tt_ok rfl rfl ?_
  refine wl_pure (v := .int .u64 (IntKind.wrap .u64 (p0.s.length : Int))) tt_ok rfl rfl ?_
  refine wl_pure (v := .bool (decide ((IntKind.wrap .u64 (p0.s.length : Int)) < p1))) tt_ok rfl rfl ?_
  refine wl_nil ?_
  refine wx_then ?_
  refine wc_cond rfl (fun hc => ?_) (fun hc => ?_)
  · replace h := ct hc h
    refine wc_seq ?_
    refine wc_region ?_
    refine wl_pure tt_ok rfl rfl ?_
    replace h := bsome h; obtain ⟨o21_0, x21, h⟩ := h
    refine wl_cs Try.call47 rfl rfl rfl (s_sp (k_codec_left_fail x21) (pCons Sel.hc pNil) (fun _ _ => trivial)) rfl ?_
    rintro _ _ ⟨_, ⟨rfl, rfl⟩, rfl⟩
    refine wl_nil ?_
    refine wx_then ?_
    refine wc_seq ?_
    refine wc_region ?_
    refine wl_pure tt_ok rfl rfl ?_
    refine wl_pure tt_ok rfl rfl ?_
    refine wl_nil ?_
    refine wx_then ?_
    refine wc_ret ?_
    refine wx_then_ret ?_
    simp only [Option.some.injEq, Prod.mk.injEq] at h
    obtain ⟨rfl, rfl, rfl⟩ := h
    exact wx_spD tt_ok (.inl rfl) Try.results46 (Res.tmp rfl (Res.tmp rfl Res.nil)) ⟨rfl, rfl⟩ (fun F => by simp) (pSub (pCons Sel.hc pNil))
  replace h := cf hc h
  refine wc_skip ?_
  refine wx_then ?_
  refine wc_seq ?_
  refine wc_region ?_
  refine wl_pure tt_ok rfl rfl ?_
  refine wl_pure tt_ok rfl rfl ?_
  refine wl_pure (v := .pointer (some ⟨p0b, 0, none⟩)) tt_ok rfl rfl ?_
  refine wl_val (v := .string ⟨p0.s.toArray⟩) (val_load tt_ok rfl (List.Mem.head _) rfl) rfl ?_
  refine wl_pure tt_ok rfl rfl ?_
  replace h := bsome h; obtain ⟨v27, x27, h⟩ := h
  refine wl_val (v := .string ⟨v27.toArray⟩) (val_ss tt_ok rfl rfl (.inl ⟨rfl, rfl⟩) (.inr ⟨_, _, rfl, rfl⟩) x27) rfl ?_
  refine wl_pure tt_ok rfl rfl ?_
  refine wl_nil ?_
  refine wx_then ?_
  refine wc_seq ?_
  refine wc_region ?_
  refine wl_pure tt_ok rfl rfl ?_
  refine wl_pure tt_ok rfl rfl ?_
  refine wl_pure tt_ok rfl rfl ?_
  refine wl_pure (v := .pointer (some ⟨p0b, 0, none⟩)) tt_ok rfl rfl ?_
  refine wl_val (v := .string ⟨p0.s.toArray⟩) (val_load tt_ok rfl (List.Mem.head _) rfl) rfl ?_
  refine wl_pure tt_ok rfl rfl ?_
  replace h := bsome h; obtain ⟨v34, x34, h⟩ := h
  refine wl_val (v := .string ⟨v34.toArray⟩) (val_ss tt_ok rfl rfl (.inr ⟨_, _, rfl, rfl⟩) (.inl ⟨rfl, rfl⟩) x34) rfl ?_
  refine wl_pure tt_ok rfl rfl ?_
  refine wl_pure (v := .pointer (some ⟨p0b, 0, none⟩)) tt_ok rfl rfl ?_
  apply wl_store tt_ok; rfl; exact Upd.here; rfl; rfl; rfl; rfl; rfl; rfl
  refine wl_nil ?_
  refine wx_then ?_
  refine wc_seq ?_
  refine wc_region ?_
  refine wl_pure tt_ok rfl rfl ?_
  refine wl_pure tt_ok rfl rfl ?_
  refine wl_pure tt_ok rfl rfl ?_
  refine wl_nil ?_
  refine wx_then ?_
  refine wc_ret ?_
  simp only [Option.some.injEq, Prod.mk.injEq] at h
  obtain ⟨rfl, rfl, rfl⟩ := h
  exact wx_spD tt_ok (.inl rfl) Try.results46 (Res.tmp rfl (Res.tmp rfl Res.nil)) ⟨rfl, rfl⟩ (fun F => by simp) (pSub (pCons Sel.hc pNil))

theorem k_codec_Reader_Var {F : Nat} {p0 : T_codec_Reader} {p0b p0t : Nat} {r0 : T_codec_Reader} {r1 : Int} (h : m_codec_Reader_Var F p0 = some (r0, r1)) :
    SpD Try.prog 20 [.pointer (some ⟨p0b, 0, none⟩)] (⟨p0b, [.string ⟨p0.left.s.toArray⟩, .int .i64 p0.left.e], p0t, (0, 0)⟩ :: []) (fun w => True) (fun v D => v = .int .u64 r1 ∧ D = fun F => (⟨p0b, [.string ⟨r0.left.s.toArray⟩, .int .i64 r0.left.e], p0t, (0, 0)⟩ :: F)) := by
  unfold m_codec_Reader_Var at h
  refine sp_of_wc Try.func20 rfl Try.ntmps20 rfl rfl (fun w0 hR => ?_)
  refine wc_seq ?_
  refine wc_region ?_
  refine wl_pure tt_ok rfl rfl ?_
  refine wl_nil ?_
  refine wx_then ?_
  refine wc_seq ?_
  refine wc_seq ?_
  refine wc_region ?_
  refine wl_pure tt_ok rfl rfl ?_
  refine wl_pure (v := .bool false) tt_ok rfl rfl ?_
  refine wl_nil ?_
  refine wx_then ?_
  refine wc_cond_false rfl ?_
  refine wc_skip ?_
  refine wx_then ?_
  refine wc_seq ?_
  refine wc_seq ?_
  refine wc_region ?_
  refine wl_pure tt_ok rfl rfl ?_
  refine wl_nil ?_
  refine wx_then ?_
  refine wc_block ?_
  replace h := bsome h; obtain ⟨o15, h, hl15⟩ := h
  refine wc_loop (fun m E L => ∃ (j15_2 : Int) (j15_9 : Int) (j15_p0 : T_codec_Reader), m_codec_Reader_Var_L14 F m j15_2 j15_9 j15_p0 = some o15 ∧ E = [(0, .pointer (some ⟨p0b, 0, none⟩)), (2, .int .u64 j15_2), (9, .int .i64 j15_9)] ∧ L = (⟨p0b, [.string ⟨j15_p0.left.s.toArray⟩, .int .i64 j15_p0.left.e], p0t, (0, 0)⟩ :: [])) F ⟨(0 : Int), (0 : Int), p0, h, rfl, rfl⟩ (agree_cons rfl (agree_cons rfl (agree_cons rfl agree_nil))) (pSub (pCons Sel.hc pNil)) ?_
  clear h
  rintro m15 _ _ ⟨j15_2, j15_9, j15_p0, h, rfl, rfl⟩
  rcases m15 with _ | m15
  · rw [m_codec_Reader_Var_L14.eq_1] at h; cases h
  rw [m_codec_Reader_Var_L14.eq_2] at h
  refine wc_seq ?_
  refine wc_region ?_
  refine wl_pure (v := .bool (decide (j15_9 < (10 : Int)))) tt_ok rfl rfl ?_
  refine wl_nil ?_
  refine wx_then ?_
  refine wc_seq ?_
  refine wc_cond rfl (fun hc => ?_) (fun hc => ?_)
  · replace h := ct hc h
    refine wc_skip ?_
    refine wx_then ?_
    refine wc_seq ?_
    refine wc_block ?_
    refine wc_seq ?_
    refine wc_region ?_
    refine wl_pure tt_ok rfl rfl ?_
    refine wl_pure tt_ok rfl rfl ?_
    refine wl_nil ?_
    refine wx_then ?_
    refine wc_seq ?_
    refine wc_region ?_
    refine wl_pure tt_ok rfl rfl ?_
    refine wl_pure tt_ok rfl rfl ?_
    refine wl_pure (v := .pointer (some ⟨p0b, 0, none⟩)) tt_ok rfl rfl ?_
    replace h := bsome h; obtain ⟨⟨o16_0, v16_0, v16_1⟩, x16, h⟩ := h; try dsimp only at h
    refine wl_cs Try.call46 rfl rfl rfl (s_sp (k_codec_left_take x16) (pCons Sel.hc pNil) (fun _ _ => trivial)) rfl ?_
    rintro _ _ ⟨_, ⟨rfl, rfl⟩, rfl⟩
    refine wl_pure tt_ok rfl rfl ?_
    refine wl_pure tt_ok rfl rfl ?_
    refine wl_pure tt_ok rfl rfl ?_
    refine wl_pure tt_ok rfl rfl ?_
    refine wl_pure tt_ok rfl rfl ?_
    refine wl_nil ?_
    refine wx_then ?_
    refine wc_seq ?_
    refine wc_seq ?_
    refine wc_region ?_
    refine wl_pure tt_ok rfl rfl ?_
    refine wl_pure (v := .bool (!v16_1)) tt_ok rfl rfl ?_
    refine wl_nil ?_
    refine wx_then ?_
    refine wc_cond rfl (fun hc => ?_) (fun hc => ?_)
    · replace h := ct hc h
      refine wc_seq ?_
      refine wc_region ?_
      refine wl_pure tt_ok rfl rfl ?_
      refine wl_nil ?_
      refine wx_then ?_
      refine wc_ret ?_
      refine wx_then_ret ?_
      refine wx_block_ret ?_
      refine wx_then_ret ?_
      obtain rfl := Option.some.inj h
      have h := hl15; clear hl15; try dsimp only [orE_l, orE_r] at h
      refine wx_then_ret ?_
      refine wx_block_ret ?_
      refine wx_then_ret ?_
      simp only [Option.some.injEq, Prod.mk.injEq] at h
      obtain ⟨rfl, rfl⟩ := h
      exact wx_spD tt_ok (.inl rfl) Try.results20 (Res.tmp rfl Res.nil) ⟨rfl, rfl⟩ (fun F => by simp) (pSub (pCons Sel.hc pNil))
    replace h := cf hc h
    refine wc_skip ?_
    refine wx_then ?_
    refine wc_seq ?_
    refine wc_region ?_
    refine wl_pure tt_ok rfl rfl ?_
    replace h := bsome h; obtain ⟨v22, x22, h⟩ := h
    refine wl_val (v := .int .u8 (v22.toNat : Int)) (val_sx tt_ok rfl rfl rfl x22) rfl ?_
    refine wl_pure tt_ok rfl rfl ?_
    refine wl_nil ?_
    refine wx_then ?_
    refine wc_seq ?_
    refine wc_block ?_
    refine wc_seq ?_
    refine wc_region ?_
    refine wl_pure tt_ok rfl rfl ?_
    refine wl_pure (v := .bool (j15_9 == (9 : Int))) tt_ok rfl rfl ?_
    refine wl_pure tt_ok rfl rfl ?_
    replace h := bsome h; obtain ⟨v29, h, hg29⟩ := h
    refine wl_split (t := 26) rfl (fun hc => ?_) (fun hc => ?_)
    · replace h := ct hc h
      refine wl_run rfl ?_
      refine wl_pure tt_ok rfl rfl ?_
      refine wl_run rfl ?_
      refine wl_pure (v := .bool (decide ((1 : Int) < (v22.toNat : Int)))) tt_ok rfl rfl ?_
      simp only [Option.some.injEq, Prod.mk.injEq] at h
      obtain rfl := h
      have h := hg29; clear hg29
      refine wl_pure (v := .bool (decide ((1 : Int) < (v22.toNat : Int)))) tt_ok rfl rfl ?_
      refine wl_pure tt_ok rfl rfl ?_
      refine wl_nil ?_
      refine wx_then ?_
      refine wc_cond rfl (fun hc => ?_) (fun hc => ?_)
      · replace h := ct hc h
        refine wc_seq ?_
        refine wc_region ?_
        refine wl_pure tt_ok rfl rfl ?_
        refine wl_pure tt_ok rfl rfl ?_
        refine wl_pure (v := .pointer (some ⟨p0b, 0, none⟩)) tt_ok rfl rfl ?_
        replace h := bsome h; obtain ⟨o33_0, x33, h⟩ := h
        refine wl_cs Try.call47 rfl rfl rfl (s_sp (k_codec_left_fail x33) (pCons Sel.hc pNil) (fun _ _ => trivial)) rfl ?_
        rintro _ _ ⟨_, ⟨rfl, rfl⟩, rfl⟩
        refine wl_nil ?_
        refine wx_then ?_
        refine wc_seq ?_
        refine wc_region ?_
        refine wl_pure tt_ok rfl rfl ?_
        refine wl_nil ?_
        refine wx_then ?_
        refine wc_ret ?_
        refine wx_block_ret ?_
        refine wx_then_ret ?_
        refine wx_block_ret ?_
        refine wx_then_ret ?_
        obtain rfl := Option.some.inj h
        have h := hl15; clear hl15; try dsimp only [orE_l, orE_r] at h
        refine wx_then_ret ?_
        refine wx_block_ret ?_
        refine wx_then_ret ?_
        simp only [Option.some.injEq, Prod.mk.injEq] at h
        obtain ⟨rfl, rfl⟩ := h
        exact wx_spD tt_ok (.inl rfl) Try.results20 (Res.tmp rfl Res.nil) ⟨rfl, rfl⟩ (fun F => by simp) (pSub (pCons Sel.hc pNil))
      replace h := cf hc h
      refine wc_seq ?_
      refine wc_region ?_
      refine wl_pure tt_ok rfl rfl ?_
      refine wl_pure (v := .bool ((v22.toNat : Int) == (0 : Int))) tt_ok rfl rfl ?_
      refine wl_pure tt_ok rfl rfl ?_
      replace h := bsome h; obtain ⟨v40, h, hg40⟩ := h
      refine wl_split (t := 37) rfl (fun hc => ?_) (fun hc => ?_)
      · replace h := ct hc h
        refine wl_run rfl ?_
        refine wl_pure tt_ok rfl rfl ?_
        refine wl_run rfl ?_
        refine wl_pure (v := .bool (decide ((0 : Int) < j15_9))) tt_ok rfl rfl ?_
        simp only [Option.some.injEq, Prod.mk.injEq] at h
        obtain rfl := h
        have h := hg40; clear hg40
        refine wl_pure (v := .bool (decide ((0 : Int) < j15_9))) tt_ok rfl rfl ?_
        refine wl_pure tt_ok rfl rfl ?_
        refine wl_nil ?_
        refine wx_then ?_
        refine wc_cond rfl (fun hc => ?_) (fun hc => ?_)
        · replace h := ct hc h
          refine wc_seq ?_
          refine wc_region ?_
          refine wl_pure tt_ok rfl rfl ?_
          refine wl_pure tt_ok rfl rfl ?_
          refine wl_pure (v := .pointer (some ⟨p0b, 0, none⟩)) tt_ok rfl rfl ?_
          replace h := bsome h; obtain ⟨o44_0, x44, h⟩ := h
          refine wl_cs Try.call47 rfl rfl rfl (s_sp (k_codec_left_fail x44) (pCons Sel.hc pNil) (fun _ _ => trivial)) rfl ?_
          rintro _ _ ⟨_, ⟨rfl, rfl⟩, rfl⟩
          refine wl_nil ?_
          refine wx_then ?_
          refine wc_seq ?_
          refine wc_region ?_
          refine wl_pure tt_ok rfl rfl ?_
          refine wl_nil ?_
          refine wx_then ?_
          refine wc_ret ?_
          refine wx_block_ret ?_
          refine wx_then_ret ?_
          refine wx_block_ret ?_
          refine wx_then_ret ?_
          obtain rfl := Option.some.inj h
          have h := hl15; clear hl15; try dsimp only [orE_l, orE_r] at h
          refine wx_then_ret ?_
          refine wx_block_ret ?_
          refine wx_then_ret ?_
          simp only [Option.some.injEq, Prod.mk.injEq] at h
          obtain ⟨rfl, rfl⟩ := h
          exact wx_spD tt_ok (.inl rfl) Try.results20 (Res.tmp rfl Res.nil) ⟨rfl, rfl⟩ (fun F => by simp) (pSub (pCons Sel.hc pNil))
        replace h := cf hc h
        refine wc_skip ?_
        refine wx_block ?_
        refine wx_then ?_
        refine wc_seq ?_
        refine wc_region ?_
        refine wl_pure tt_ok rfl rfl ?_
        refine wl_pure tt_ok rfl rfl ?_
        refine wl_pure (v := .int .u8 (bits .and .u8 (v22.toNat : Int) (127 : Int))) tt_ok rfl rfl ?_
        refine wl_pure (v := .int .u64 (IntKind.wrap .u64 (bits .and .u8 (v22.toNat : Int) (127 : Int)))) tt_ok rfl rfl ?_
        refine wl_pure tt_ok rfl rfl ?_
        refine wl_pure (v := .int .i64 (IntKind.wrap .i64 ((7 : Int) * j15_9))) tt_ok rfl rfl ?_
        replace h := bsome h; obtain ⟨v51, x51, h⟩ := h
        refine wl_val (v := .int .u64 v51) (val_shl rfl rfl x51) rfl ?_
        refine wl_pure (v := .int .u64 (bits .or .u64 j15_2 v51)) tt_ok rfl rfl ?_
        refine wl_pure tt_ok rfl rfl ?_
        refine wl_nil ?_
        refine wx_then ?_
        refine wc_seq ?_
        refine wc_region ?_
        refine wl_pure tt_ok rfl rfl ?_
        refine wl_pure (v := .bool (decide ((v22.toNat : Int) < (128 : Int)))) tt_ok rfl rfl ?_
        refine wl_nil ?_
        refine wx_then ?_
        refine wc_cond rfl (fun hc => ?_) (fun hc => ?_)
        · replace h := ct hc h
          refine wc_seq ?_
          refine wc_region ?_
          refine wl_pure tt_ok rfl rfl ?_
          refine wl_pure tt_ok rfl rfl ?_
          refine wl_nil ?_
          refine wx_then ?_
          refine wc_ret ?_
          refine wx_block_ret ?_
          refine wx_then_ret ?_
          obtain rfl := Option.some.inj h
          have h := hl15; clear hl15; try dsimp only [orE_l, orE_r] at h
          refine wx_then_ret ?_
          refine wx_block_ret ?_
          refine wx_then_ret ?_
          simp only [Option.some.injEq, Prod.mk.injEq] at h
          obtain ⟨rfl, rfl⟩ := h
          exact wx_spD tt_ok (.inl rfl) Try.results20 (Res.tmp rfl Res.nil) ⟨rfl, rfl⟩ (fun F => by simp) (pSub (pCons Sel.hc pNil))
        replace h := cf hc h
        refine wc_skip ?_
        refine wx_block ?_
        refine wx_then ?_
        refine wc_region ?_
        refine wl_pure (v := .int .i64 (IntKind.wrap .i64 (j15_9 + (1 : Int)))) tt_ok rfl rfl ?_
        refine wl_pure tt_ok rfl rfl ?_
        refine wl_nil ?_
        exact wx_round m15 (Nat.lt_succ_self m15) ⟨(bits .or .u64 j15_2 v51), (IntKind.wrap .i64 (j15_9 + (1 : Int))), (T_codec_Reader.mk o16_0), h, rfl, rfl⟩ (agree_cons rfl (agree_cons rfl (agree_cons rfl agree_nil))) (pSub (pCons Sel.hc pNil))
      replace h := cf hc h
      refine wl_skip rfl rfl ?_
      refine wl_skip rfl rfl ?_
      simp only [Option.some.injEq, Prod.mk.injEq] at h
      obtain rfl := h
      have h := hg40; clear hg40
      refine wl_pure (v := .bool false) tt_ok rfl rfl ?_
      refine wl_pure tt_ok rfl rfl ?_
      refine wl_nil ?_
      refine wx_then ?_
      replace h := cf rfl h
      refine wc_cond_false rfl ?_
      refine wc_skip ?_
      refine wx_block ?_
      refine wx_then ?_
      refine wc_seq ?_
      refine wc_region ?_
      refine wl_pure tt_ok rfl rfl ?_
      refine wl_pure tt_ok rfl rfl ?_
      refine wl_pure (v := .int .u8 (bits .and .u8 (v22.toNat : Int) (127 : Int))) tt_ok rfl rfl ?_
      refine wl_pure (v := .int .u64 (IntKind.wrap .u64 (bits .and .u8 (v22.toNat : Int) (127 : Int)))) tt_ok rfl rfl ?_
      refine wl_pure tt_ok rfl rfl ?_
      refine wl_pure (v := .int .i64 (IntKind.wrap .i64 ((7 : Int) * j15_9))) tt_ok rfl rfl ?_
      replace h := bsome h; obtain ⟨v51, x51, h⟩ := h
      refine wl_val (v := .int .u64 v51) (val_shl rfl rfl x51) rfl ?_
      refine wl_pure (v := .int .u64 (bits .or .u64 j15_2 v51)) tt_ok rfl rfl ?_
      refine wl_pure tt_ok rfl rfl ?_
      refine wl_nil ?_
      refine wx_then ?_
      refine wc_seq ?_
      refine wc_region ?_
      refine wl_pure tt_ok rfl rfl ?_
      refine wl_pure (v := .bool (decide ((v22.toNat : Int) < (128 : Int)))) tt_ok rfl rfl ?_
      refine wl_nil ?_
      refine wx_then ?_
      refine wc_cond rfl (fun hc => ?_) (fun hc => ?_)
      · replace h := ct hc h
        refine wc_seq ?_
        refine wc_region ?_
        refine wl_pure tt_ok rfl rfl ?_
        refine wl_pure tt_ok rfl rfl ?_
        refine wl_nil ?_
        refine wx_then ?_
        refine wc_ret ?_
        refine wx_block_ret ?_
        refine wx_then_ret ?_
        obtain rfl := Option.some.inj h
        have h := hl15; clear hl15; try dsimp only [orE_l, orE_r] at h
        refine wx_then_ret ?_
        refine wx_block_ret ?_
        refine wx_then_ret ?_
        simp only [Option.some.injEq, Prod.mk.injEq] at h
        obtain ⟨rfl, rfl⟩ := h
        exact wx_spD tt_ok (.inl rfl) Try.results20 (Res.tmp rfl Res.nil) ⟨rfl, rfl⟩ (fun F => by simp) (pSub (pCons Sel.hc pNil))
      replace h := cf hc h
      refine wc_skip ?_
      refine wx_block ?_
      refine wx_then ?_
      refine wc_region ?_
      refine wl_pure (v := .int .i64 (IntKind.wrap .i64 (j15_9 + (1 : Int)))) tt_ok rfl rfl ?_
      refine wl_pure tt_ok rfl rfl ?_
      refine wl_nil ?_
      exact wx_round m15 (Nat.lt_succ_self m15) ⟨(bits .or .u64 j15_2 v51), (IntKind.wrap .i64 (j15_9 + (1 : Int))), (T_codec_Reader.mk o16_0), h, rfl, rfl⟩ (agree_cons rfl (agree_cons rfl (agree_cons rfl agree_nil))) (pSub (pCons Sel.hc pNil))
    replace h := cf hc h
    refine wl_skip rfl rfl ?_
    refine wl_skip rfl rfl ?_
    simp only [Option.some.injEq, Prod.mk.injEq] at h
    obtain rfl := h
    have h := hg29; clear hg29
    refine wl_pure (v := .bool false) tt_ok rfl rfl ?_
    refine wl_pure tt_ok rfl rfl ?_
    refine wl_nil ?_
    refine wx_then ?_
    replace h := cf rfl h
    refine wc_cond_false rfl ?_
    refine wc_seq ?_
    refine wc_region ?_
    refine wl_pure tt_ok rfl rfl ?_
    refine wl_pure (v := .bool ((v22.toNat : Int) == (0 : Int))) tt_ok rfl rfl ?_
    refine wl_pure tt_ok rfl rfl ?_
    replace h := bsome h; obtain ⟨v40, h, hg40⟩ := h
    refine wl_split (t := 37) rfl (fun hc => ?_) (fun hc => ?_)
    · replace h := ct hc h
      refine wl_run rfl ?_
      refine wl_pure tt_ok rfl rfl ?_
      refine wl_run rfl ?_
      refine wl_pure (v := .bool (decide ((0 : Int) < j15_9))) tt_ok rfl rfl ?_
      simp only [Option.some.injEq, Prod.mk.injEq] at h
      obtain rfl := h
      have h := hg40; clear hg40
      refine wl_pure (v := .bool (decide ((0 : Int) < j15_9))) tt_ok rfl rfl ?_
      refine wl_pure tt_ok rfl rfl ?_
      refine wl_nil ?_
      refine wx_then ?_
      refine wc_cond rfl (fun hc => ?_) (fun hc => ?_)
      · replace h := ct hc h
        refine wc_seq ?_
        refine wc_region ?_
        refine wl_pure tt_ok rfl rfl ?_
        refine wl_pure tt_ok rfl rfl ?_
        refine wl_pure (v := .pointer (some ⟨p0b, 0, none⟩)) tt_ok rfl rfl ?_
        replace h := bsome h; obtain ⟨o44_0, x44, h⟩ := h
        refine wl_cs Try.call47 rfl rfl rfl (s_sp (k_codec_left_fail x44) (pCons Sel.hc pNil) (fun _ _ => trivial)) rfl ?_
        rintro _ _ ⟨_, ⟨rfl, rfl⟩, rfl⟩
        refine wl_nil ?_
        refine wx_then ?_
        refine wc_seq ?_
        refine wc_region ?_
        refine wl_pure tt_ok rfl rfl ?_
        refine wl_nil ?_
        refine wx_then ?_
        refine wc_ret ?_
        refine wx_block_ret ?_
        refine wx_then_ret ?_
        refine wx_block_ret ?_
        refine wx_then_ret ?_
        obtain rfl := Option.some.inj h
        have h := hl15; clear hl15; try dsimp only [orE_l, orE_r] at h
        refine wx_then_ret ?_
        refine wx_block_ret ?_
        refine wx_then_ret ?_
        simp only [Option.some.injEq, Prod.mk.injEq] at h
        obtain ⟨rfl, rfl⟩ := h
        exact wx_spD tt_ok (.inl rfl) Try.results20 (Res.tmp rfl Res.nil) ⟨rfl, rfl⟩ (fun F => by simp) (pSub (pCons Sel.hc pNil))
      replace h := cf hc h
      refine wc_skip ?_
      refine wx_block ?_
      refine wx_then ?_
      refine wc_seq ?_
      refine wc_region ?_
      refine wl_pure tt_ok rfl rfl ?_
      refine wl_pure tt_ok rfl rfl ?_
      refine wl_pure (v := .int .u8 (bits .and .u8 (v22.toNat : Int) (127 : Int))) tt_ok rfl rfl ?_
      refine wl_pure (v := .int .u64 (IntKind.wrap .u64 (bits .and .u8 (v22.toNat : Int) (127 : Int)))) tt_ok rfl rfl ?_
      refine wl_pure tt_ok rfl rfl ?_
      refine wl_pure (v := .int .i64 (IntKind.wrap .i64 ((7 : Int) * j15_9))) tt_ok rfl rfl ?_
      replace h := bsome h; obtain ⟨v51, x51, h⟩ := h
      refine wl_val (v := .int .u64 v51) (val_shl rfl rfl x51) rfl ?_
      refine wl_pure (v := .int .u64 (bits .or .u64 j15_2 v51)) tt_ok rfl rfl ?_
      refine wl_pure tt_ok rfl rfl ?_
      refine wl_nil ?_
      refine wx_then ?_
      refine wc_seq ?_
      refine wc_region ?_
      refine wl_pure tt_ok rfl rfl ?_
      refine wl_pure (v := .bool (decide ((v22.toNat : Int) < (128 : Int)))) tt_ok rfl rfl ?_
      refine wl_nil ?_
      refine wx_then ?_
      refine wc_cond rfl (fun hc => ?_) (fun hc => ?_)
      · replace h := ct hc h
        refine wc_seq ?_
        refine wc_region ?_
        refine wl_pure tt_ok rfl rfl ?_
        refine wl_pure tt_ok rfl rfl ?_
        refine wl_nil ?_
        refine wx_then ?_
        refine wc_ret ?_
        refine wx_block_ret ?_
        refine wx_then_ret ?_
        obtain rfl := Option.some.inj h
        have h := hl15; clear hl15; try dsimp only [orE_l, orE_r] at h
        refine wx_then_ret ?_
        refine wx_block_ret ?_
        refine wx_then_ret ?_
        simp only [Option.some.injEq, Prod.mk.injEq] at h
        obtain ⟨rfl, rfl⟩ := h
        exact wx_spD tt_ok (.inl rfl) Try.results20 (Res.tmp rfl Res.nil) ⟨rfl, rfl⟩ (fun F => by simp) (pSub (pCons Sel.hc pNil))
      replace h := cf hc h
      refine wc_skip ?_
      refine wx_block ?_
      refine wx_then ?_
      refine wc_region ?_
      refine wl_pure (v := .int .i64 (IntKind.wrap .i64 (j15_9 + (1 : Int)))) tt_ok rfl rfl ?_
      refine wl_pure tt_ok rfl rfl ?_
      refine wl_nil ?_
      exact wx_round m15 (Nat.lt_succ_self m15) ⟨(bits .or .u64 j15_2 v51), (IntKind.wrap .i64 (j15_9 + (1 : Int))), (T_codec_Reader.mk o16_0), h, rfl, rfl⟩ (agree_cons rfl (agree_cons rfl (agree_cons rfl agree_nil))) (pSub (pCons Sel.hc pNil))
    replace h := cf hc h
    refine wl_skip rfl rfl ?_
    refine wl_skip rfl rfl ?_
    simp only [Option.some.injEq, Prod.mk.injEq] at h
    obtain rfl := h
    have h := hg40; clear hg40
    refine wl_pure (v := .bool false) tt_ok rfl rfl ?_
    refine wl_pure tt_ok rfl rfl ?_
    refine wl_nil ?_
    refine wx_then ?_
    replace h := cf rfl h
    refine wc_cond_false rfl ?_
    refine wc_skip ?_
    refine wx_block ?_
    refine wx_then ?_
    refine wc_seq ?_
    refine wc_region ?_
    refine wl_pure tt_ok rfl rfl ?_
    refine wl_pure tt_ok rfl rfl ?_
    refine wl_pure (v := .int .u8 (bits .and .u8 (v22.toNat : Int) (127 : Int))) tt_ok rfl rfl ?_
    refine wl_pure (v := .int .u64 (IntKind.wrap .u64 (bits .and .u8 (v22.toNat : Int) (127 : Int)))) tt_ok rfl rfl ?_
    refine wl_pure tt_ok rfl rfl ?_
    refine wl_pure (v := .int .i64 (IntKind.wrap .i64 ((7 : Int) * j15_9))) tt_ok rfl rfl ?_
    replace h := bsome h; obtain ⟨v51, x51, h⟩ := h
    refine wl_val (v := .int .u64 v51) (val_shl rfl rfl x51) rfl ?_
    refine wl_pure (v := .int .u64 (bits .or .u64 j15_2 v51)) tt_ok rfl rfl ?_
    refine wl_pure tt_ok rfl rfl ?_
    refine wl_nil ?_
    refine wx_then ?_
    refine wc_seq ?_
    refine wc_region ?_
    refine wl_pure tt_ok rfl rfl ?_
    refine wl_pure (v := .bool (decide ((v22.toNat : Int) < (128 : Int)))) tt_ok rfl rfl ?_
    refine wl_nil ?_
    refine wx_then ?_
    refine wc_cond rfl (fun hc => ?_) (fun hc => ?_)
    · replace h := ct hc h
      refine wc_seq ?_
      refine wc_region ?_
      refine wl_pure tt_ok rfl rfl ?_
      refine wl_pure tt_ok rfl rfl ?_
      refine wl_nil ?_
      refine wx_then ?_
      refine wc_ret ?_
      refine wx_block_ret ?_
      refine wx_then_ret ?_
      obtain rfl := Option.some.inj h
      have h := hl15; clear hl15; try dsimp only [orE_l, orE_r] at h
      refine wx_then_ret ?_
      refine wx_block_ret ?_
      refine wx_then_ret ?_
      simp only [Option.some.injEq, Prod.mk.injEq] at h
      obtain ⟨rfl, rfl⟩ := h
      exact wx_spD tt_ok (.inl rfl) Try.results20 (Res.tmp rfl Res.nil) ⟨rfl, rfl⟩ (fun F => by simp) (pSub (pCons Sel.hc pNil))
    replace h := cf hc h
    refine wc_skip ?_
    refine wx_block ?_
    refine wx_then ?_
    refine wc_region ?_
    refine wl_pure (v := .int .i64 (IntKind.wrap .i64 (j15_9 + (1 : Int)))) tt_ok rfl rfl ?_
    refine wl_pure tt_ok rfl rfl ?_
    refine wl_nil ?_
    exact wx_round m15 (Nat.lt_succ_self m15) ⟨(bits .or .u64 j15_2 v51), (IntKind.wrap .i64 (j15_9 + (1 : Int))), (T_codec_Reader.mk o16_0), h, rfl, rfl⟩ (agree_cons rfl (agree_cons rfl (agree_cons rfl agree_nil))) (pSub (pCons Sel.hc pNil))
  replace h := cf hc h
  refine wc_exit ?_
  refine wx_then_exit ?_
  obtain rfl := Option.some.inj h
  have h := hl15; clear hl15; try dsimp only [orE_l, orE_r] at h
  refine wx_then_exit ?_
  refine wx_block_exit ?_
  refine wx_then ?_
  refine wc_seq ?_
  refine wc_region ?_
  refine wl_pure tt_ok rfl rfl ?_
  refine wl_pure tt_ok rfl rfl ?_
  refine wl_nil ?_
  refine wx_then ?_
  refine wc_ret ?_
  simp only [Option.some.injEq, Prod.mk.injEq] at h
  obtain ⟨rfl, rfl⟩ := h
  exact wx_spD tt_ok (.inl rfl) Try.results20 (Res.tmp rfl Res.nil) ⟨rfl, rfl⟩ (fun F => by simp) (pSub (pCons Sel.hc pNil))

theorem k_codec_Reader_Err {F : Nat} {p0 : T_codec_Reader} {p0b p0t : Nat} {r0 : Int} (h : m_codec_Reader_Err F p0 = some r0) :
    Rd2 Try.prog 24 [.pointer (some ⟨p0b, 0, none⟩)] (⟨p0b, [.string ⟨p0.left.s.toArray⟩, .int .i64 p0.left.e], p0t, (0, 0)⟩ :: []) (fun w => True) (.int .i64 r0) := by
  unfold m_codec_Reader_Err at h
  refine sp_of_wc Try.func24 rfl Try.ntmps24 rfl rfl (fun w0 hR => ?_)
  refine wc_seq ?_
  refine wc_region ?_
  refine wl_pure tt_ok rfl rfl ?_
  refine wl_nil ?_
  refine wx_then ?_
  refine wc_seq ?_
  refine wc_seq ?_
  refine wc_region ?_
  refine wl_pure tt_ok rfl rfl ?_
  refine wl_pure (v := .bool false) tt_ok rfl rfl ?_
  refine wl_nil ?_
  refine wx_then ?_
  refine wc_cond_false rfl ?_
  refine wc_skip ?_
  refine wx_then ?_
  refine wc_seq ?_
  refine wc_region ?_
  refine wl_pure tt_ok rfl rfl ?_
  refine wl_pure tt_ok rfl rfl ?_
  refine wl_pure (v := .pointer (some ⟨p0b, 0, none⟩)) tt_ok rfl rfl ?_
  refine wl_pure (v := .pointer (some ⟨p0b, 1, none⟩)) tt_ok rfl rfl ?_
  refine wl_val (v := .int .i64 p0.left.e) (val_load tt_ok rfl (List.Mem.head _) rfl) rfl ?_
  refine wl_pure tt_ok rfl rfl ?_
  refine wl_nil ?_
  refine wx_then ?_
  refine wc_ret ?_
  simp only [Option.some.injEq] at h
  obtain rfl := h
  exact wx_rd tt_ok (.inl rfl) Try.results24 (Res.tmp rfl Res.nil) (pSub (pCons Sel.hc pNil)) rfl

theorem k_codec_Reader_Rest {F : Nat} {p0 : T_codec_Reader} {p0b p0t : Nat} {r0 : (List UInt8)} (h : m_codec_Reader_Rest F p0 = some r0) :
    Rd2 Try.prog 25 [.pointer (some ⟨p0b, 0, none⟩)] (⟨p0b, [.string ⟨p0.left.s.toArray⟩, .int .i64 p0.left.e], p0t, (0, 0)⟩ :: []) (fun w => True) (.string ⟨r0.toArray⟩) := by
  unfold m_codec_Reader_Rest at h
  refine sp_of_wc Try.func25 rfl Try.ntmps25 rfl rfl (fun w0 hR => ?_)
  refine wc_seq ?_
  refine wc_region ?_
  refine wl_pure tt_ok rfl rfl ?_
  refine wl_nil ?_
  refine wx_then ?_
  refine wc_seq ?_
  refine wc_seq ?_
  refine wc_region ?_
  refine wl_pure tt_ok rfl rfl ?_
  refine wl_pure (v := .bool false) tt_ok rfl rfl ?_
  refine wl_nil ?_
  refine wx_then ?_
  refine wc_cond_false rfl ?_
  refine wc_skip ?_
  refine wx_then ?_
  refine wc_seq ?_
  refine wc_region ?_
  refine wl_pure tt_ok rfl rfl ?_
  refine wl_pure tt_ok rfl rfl ?_
  refine wl_pure (v := .pointer (some ⟨p0b, 0, none⟩)) tt_ok rfl rfl ?_
  refine wl_pure (v := .pointer (some ⟨p0b, 0, none⟩)) tt_ok rfl rfl ?_
  refine wl_val (v := .string ⟨p0.left.s.toArray⟩) (val_load tt_ok rfl (List.Mem.head _) rfl) rfl ?_
  refine wl_pure tt_ok rfl rfl ?_
  refine wl_nil ?_
  refine wx_then ?_
  refine wc_ret ?_
  simp only [Option.some.injEq] at h
  obtain rfl := h
  exact wx_rd tt_ok (.inl rfl) Try.results25 (Res.tmp rfl Res.nil) (pSub (pCons Sel.hc pNil)) rfl

theorem k_hindcastlaw02_reads {F : Nat} {p0 : (List UInt8)} {p1 : Int} {p2 : Int} {r0 : Bool} (h : m_hindcastlaw02_reads F p0 p1 p2 = some r0) :
    Pf Try.prog 29 [.string ⟨p0.toArray⟩, .int .u64 p1, .int .i64 p2] (fun w => True) (.bool r0) := by
  unfold m_hindcastlaw02_reads at h
  refine pf_of_wc Try.func29 rfl Try.ntmps29 rfl rfl (fun w0 hR => ?_)
  refine wc_seq ?_
  refine wc_region ?_
  refine wl_pure tt_ok rfl rfl ?_
  refine wl_nil ?_
  refine wx_then ?_
  refine wc_seq ?_
  refine wc_region ?_
  refine wl_pure tt_ok rfl rfl ?_
  replace h := bsome h; obtain ⟨v10, x10, h⟩ := h
  refine wl_cs Try.call13 rfl rfl rfl (s_sp (k_codec_New x10) pNil (fun _ _ => trivial)) rfl ?_
  rintro _ _ ⟨_, ⟨b10_0, rfl, rfl⟩, rfl⟩
  refine wl_pure tt_ok rfl rfl ?_
  refine wl_nil ?_
  refine wx_then ?_
  refine wc_seq ?_
  refine wc_seq ?_
  refine wc_region ?_
  refine wl_pure tt_ok rfl rfl ?_
  refine wl_pure (v := .bool false) tt_ok rfl rfl ?_
  refine wl_nil ?_
  refine wx_then ?_
  refine wc_cond_false rfl ?_
  refine wc_skip ?_
  refine wx_then ?_
  refine wc_seq ?_
  refine wc_region ?_
  refine wl_pure tt_ok rfl rfl ?_
  replace h := bsome h; obtain ⟨⟨o14_0, v14⟩, x14, h⟩ := h; try dsimp only at h
  refine wl_cs Try.call20 rfl rfl rfl (s_sp (k_codec_Reader_Var x14) (pCons Sel.hc pNil) (fun _ _ => trivial)) rfl ?_
  rintro _ _ ⟨_, ⟨rfl, rfl⟩, rfl⟩
  refine wl_pure tt_ok rfl rfl ?_
  refine wl_nil ?_
  refine wx_then ?_
  refine wc_seq ?_
  refine wc_region ?_
  refine wl_pure tt_ok rfl rfl ?_
  refine wl_pure tt_ok rfl rfl ?_
  refine wl_pure (v := .bool (v14 == p1)) tt_ok rfl rfl ?_
  refine wl_pure tt_ok rfl rfl ?_
  replace h := bsome h; obtain ⟨v23, h, hg23⟩ := h
  refine wl_split (t := 18) rfl (fun hc => ?_) (fun hc => ?_)
  · replace h := ct hc h
    refine wl_run rfl ?_
    refine wl_pure tt_ok rfl rfl ?_
    replace h := bsome h; obtain ⟨v20, x20, h⟩ := h
    refine wl_run rfl ?_
    refine wl_cq Try.call24 rfl rfl rfl (q_rd (k_codec_Reader_Err x20) (pCons Sel.hc pNil) (fun _ _ => trivial)) rfl ?_
    refine wl_run rfl ?_
    refine wl_pure tt_ok rfl rfl ?_
    refine wl_run rfl ?_
    refine wl_pure (v := .bool (v20 == p2)) tt_ok rfl rfl ?_
    simp only [Option.some.injEq, Prod.mk.injEq] at h
    obtain rfl := h
    have h := hg23; clear hg23
    refine wl_pure (v := .bool (v20 == p2)) tt_ok rfl rfl ?_
    refine wl_pure tt_ok rfl rfl ?_
    replace h := bsome h; obtain ⟨v28, h, hg28⟩ := h
    refine wl_split (t := 24) rfl (fun hc => ?_) (fun hc => ?_)
    · replace h := ct hc h
      refine wl_run rfl ?_
      refine wl_pure tt_ok rfl rfl ?_
      replace h := bsome h; obtain ⟨v26, x26, h⟩ := h
      refine wl_run rfl ?_
      refine wl_cq Try.call25 rfl rfl rfl (q_rd (k_codec_Reader_Rest x26) (pCons Sel.hc pNil) (fun _ _ => trivial)) rfl ?_
      refine wl_run rfl ?_
      refine wl_val (v := .bool (v26 == ([] : List UInt8))) (val_seq tt_ok rfl rfl) rfl ?_
      simp only [Option.some.injEq, Prod.mk.injEq] at h
      obtain rfl := h
      have h := hg28; clear hg28
      refine wl_pure (v := .bool (v26 == ([] : List UInt8))) tt_ok rfl rfl ?_
      refine wl_pure tt_ok rfl rfl ?_
      refine wl_nil ?_
      refine wx_then ?_
      refine wc_ret ?_
      simp only [Option.some.injEq] at h
      obtain rfl := h
      exact wx_pf tt_ok (.inl rfl) Try.results29 (Res.tmp rfl Res.nil) rfl
    replace h := cf hc h
    refine wl_skip rfl rfl ?_
    refine wl_skip rfl rfl ?_
    refine wl_skip rfl rfl ?_
    simp only [Option.some.injEq, Prod.mk.injEq] at h
    obtain rfl := h
    have h := hg28; clear hg28
    refine wl_pure (v := .bool false) tt_ok rfl rfl ?_
    refine wl_pure tt_ok rfl rfl ?_
    refine wl_nil ?_
    refine wx_then ?_
    refine wc_ret ?_
    simp only [Option.some.injEq] at h
    obtain rfl := h
    exact wx_pf tt_ok (.inl rfl) Try.results29 (Res.tmp rfl Res.nil) rfl
  replace h := cf hc h
  refine wl_skip rfl rfl ?_
  refine wl_skip rfl rfl ?_
  refine wl_skip rfl rfl ?_
  refine wl_skip rfl rfl ?_
  simp only [Option.some.injEq, Prod.mk.injEq] at h
  obtain rfl := h
  have h := hg23; clear hg23
  refine wl_pure (v := .bool false) tt_ok rfl rfl ?_
  refine wl_pure tt_ok rfl rfl ?_
  replace h := bsome h; obtain ⟨v28, h, hg28⟩ := h
  replace h := cf rfl h
  refine wl_skip rfl rfl ?_
  refine wl_skip rfl rfl ?_
  refine wl_skip rfl rfl ?_
  simp only [Option.some.injEq, Prod.mk.injEq] at h
  obtain rfl := h
  have h := hg28; clear hg28
  refine wl_pure (v := .bool false) tt_ok rfl rfl ?_
  refine wl_pure tt_ok rfl rfl ?_
  refine wl_nil ?_
  refine wx_then ?_
  refine wc_ret ?_
  simp only [Option.some.injEq] at h
  obtain rfl := h
  exact wx_pf tt_ok (.inl rfl) Try.results29 (Res.tmp rfl Res.nil) rfl

theorem k_hindcastlaw02_works {F : Nat} {r0 : Bool} (h : m_hindcastlaw02_works F = some r0) :
    Pf Try.prog 9 [] (fun w => True) (.bool r0) := by
  unfold m_hindcastlaw02_works at h
  refine pf_of_wc Try.func9 rfl Try.ntmps9 rfl rfl (fun w0 hR => ?_)
  refine wc_seq ?_
  refine wc_region ?_
  refine wl_pure tt_ok rfl rfl ?_
  refine wl_nil ?_
  refine wx_then ?_
  refine wc_seq ?_
  refine wc_region ?_
  refine wl_pure (v := .agg #[.slice none 0 0]) tt_ok rfl rfl ?_
  refine wl_box rfl rfl rfl (fun b3 => ?_)
  refine wl_pure tt_ok rfl rfl ?_
  refine wl_nil ?_
  refine wx_then ?_
  refine wc_seq ?_
  refine wc_region ?_
  refine wl_pure tt_ok rfl rfl ?_
  replace h := bsome h; obtain ⟨o5_0, x5, h⟩ := h
  refine wl_cs Try.call31 rfl rfl rfl (s_sp (k_codec_Writer_U8 (p0 := (T_codec_Writer.mk ([] : List Int))) rfl Own.zero x5) (pCons Sel.hc (pNo pNil)) (fun _ _ => trivial)) rfl ?_
  rintro _ _ ⟨_, ⟨o5_0a0, o5_0n0, o5_0c0, o5_0B0, o5_0N0, o5_0V0, rfl, rfl⟩, rfl⟩
  refine wl_nil ?_
  refine wx_then ?_
  refine wc_seq ?_
  refine wc_region ?_
  refine wl_pure tt_ok rfl rfl ?_
  replace h := bsome h; obtain ⟨o7_0, x7, h⟩ := h
  refine wl_cs Try.call33 rfl rfl rfl (s_sp (k_codec_Writer_U16 (p0 := o5_0) o5_0N0 o5_0V0 x7) (pCons Sel.hc (pApp Sel.ha pNil)) (fun _ _ => trivial)) rfl ?_
  rintro _ _ ⟨_, ⟨o7_0a0, o7_0n0, o7_0c0, o7_0B0, o7_0N0, o7_0V0, rfl, rfl⟩, rfl⟩
  refine wl_nil ?_
  refine wx_then ?_
  refine wc_seq ?_
  refine wc_region ?_
  refine wl_pure tt_ok rfl rfl ?_
  replace h := bsome h; obtain ⟨o9_0, x9, h⟩ := h
  refine wl_cs Try.call34 rfl rfl rfl (s_sp (k_codec_Writer_U32 (p0 := o7_0) o7_0N0 o7_0V0 x9) (pCons Sel.hc (pApp Sel.ha pNil)) (fun _ _ => trivial)) rfl ?_
  rintro _ _ ⟨_, ⟨o9_0a0, o9_0n0, o9_0c0, o9_0B0, o9_0N0, o9_0V0, rfl, rfl⟩, rfl⟩
  refine wl_nil ?_
  refine wx_then ?_
  refine wc_seq ?_
  refine wc_region ?_
  refine wl_pure tt_ok rfl rfl ?_
  replace h := bsome h; obtain ⟨o11_0, x11, h⟩ := h
  refine wl_cs Try.call36 rfl rfl rfl (s_sp (k_codec_Writer_I32 (p0 := o9_0) o9_0N0 o9_0V0 x11) (pCons Sel.hc (pApp Sel.ha pNil)) (fun _ _ => trivial)) rfl ?_
  rintro _ _ ⟨_, ⟨o11_0a0, o11_0n0, o11_0c0, o11_0B0, o11_0N0, o11_0V0, rfl, rfl⟩, rfl⟩
  refine wl_nil ?_
  refine wx_then ?_
  refine wc_seq ?_
  refine wc_region ?_
  refine wl_pure tt_ok rfl rfl ?_
  replace h := bsome h; obtain ⟨v13, x13, h⟩ := h
  refine wl_cq Try.call12 rfl rfl rfl (q_rd (k_codec_Writer_Bytes (p0 := o11_0) o11_0N0 o11_0V0 x13) (pCons Sel.hc (pApp Sel.ha pNil)) (fun _ _ => trivial)) rfl ?_
  refine wl_val (v := .bool (v13 == ([1, 2, 1, 1, 0, 0, 0, 254, 255, 255, 255] : List UInt8))) (val_seq tt_ok rfl rfl) rfl ?_
  refine wl_pure tt_ok rfl rfl ?_
  replace h := bsome h; obtain ⟨v18, h, hg18⟩ := h
  refine wl_split (t := 15) rfl (fun hc => ?_) (fun hc => ?_)
  · replace h := ct hc h
    replace h := bsome h; obtain ⟨v16, x16, h⟩ := h
    refine wl_run rfl ?_
    refine wl_cq Try.call27 rfl rfl rfl (q_pf (k_hindcastlaw02_vars x16) (fun _ _ => trivial)) rfl ?_
    refine wl_run rfl ?_
    refine wl_val (v := .bool (v16 == ([172, 2] : List UInt8))) (val_seq tt_ok rfl rfl) rfl ?_
    simp only [Option.some.injEq, Prod.mk.injEq] at h
    obtain rfl := h
    have h := hg18; clear hg18
    refine wl_pure (v := .bool (v16 == ([172, 2] : List UInt8))) tt_ok rfl rfl ?_
    refine wl_pure tt_ok rfl rfl ?_
    replace h := bsome h; obtain ⟨v21, h, hg21⟩ := h
    refine wl_split (t := 19) rfl (fun hc => ?_) (fun hc => ?_)
    · replace h := ct hc h
      replace h := bsome h; obtain ⟨v20, x20, h⟩ := h
      refine wl_run rfl ?_
      refine wl_cq Try.call29 rfl rfl rfl (q_pf (k_hindcastlaw02_reads x20) (fun _ _ => trivial)) rfl ?_
      simp only [Option.some.injEq, Prod.mk.injEq] at h
      obtain rfl := h
      have h := hg21; clear hg21
      refine wl_pure (v := .bool v20) tt_ok rfl rfl ?_
      refine wl_pure tt_ok rfl rfl ?_
      replace h := bsome h; obtain ⟨v24, h, hg24⟩ := h
      refine wl_split (t := 22) rfl (fun hc => ?_) (fun hc => ?_)
      · replace h := ct hc h
        replace h := bsome h; obtain ⟨v23, x23, h⟩ := h
        refine wl_run rfl ?_
        refine wl_cq Try.call29 rfl rfl rfl (q_pf (k_hindcastlaw02_reads x23) (fun _ _ => trivial)) rfl ?_
        simp only [Option.some.injEq, Prod.mk.injEq] at h
        obtain rfl := h
        have h := hg24; clear hg24
        refine wl_pure (v := .bool v23) tt_ok rfl rfl ?_
        refine wl_pure tt_ok rfl rfl ?_
        refine wl_nil ?_
        refine wx_then ?_
        refine wc_ret ?_
        simp only [Option.some.injEq] at h
        obtain rfl := h
        exact wx_pf tt_ok (.inl rfl) Try.results9 (Res.tmp rfl Res.nil) rfl
      replace h := cf hc h
      refine wl_skip rfl rfl ?_
      simp only [Option.some.injEq, Prod.mk.injEq] at h
      obtain rfl := h
      have h := hg24; clear hg24
      refine wl_pure (v := .bool false) tt_ok rfl rfl ?_
      refine wl_pure tt_ok rfl rfl ?_
      refine wl_nil ?_
      refine wx_then ?_
      refine wc_ret ?_
      simp only [Option.some.injEq] at h
      obtain rfl := h
      exact wx_pf tt_ok (.inl rfl) Try.results9 (Res.tmp rfl Res.nil) rfl
    replace h := cf hc h
    refine wl_skip rfl rfl ?_
    simp only [Option.some.injEq, Prod.mk.injEq] at h
    obtain rfl := h
    have h := hg21; clear hg21
    refine wl_pure (v := .bool false) tt_ok rfl rfl ?_
    refine wl_pure tt_ok rfl rfl ?_
    replace h := bsome h; obtain ⟨v24, h, hg24⟩ := h
    replace h := cf rfl h
    refine wl_skip rfl rfl ?_
    simp only [Option.some.injEq, Prod.mk.injEq] at h
    obtain rfl := h
    have h := hg24; clear hg24
    refine wl_pure (v := .bool false) tt_ok rfl rfl ?_
    refine wl_pure tt_ok rfl rfl ?_
    refine wl_nil ?_
    refine wx_then ?_
    refine wc_ret ?_
    simp only [Option.some.injEq] at h
    obtain rfl := h
    exact wx_pf tt_ok (.inl rfl) Try.results9 (Res.tmp rfl Res.nil) rfl
  replace h := cf hc h
  refine wl_skip rfl rfl ?_
  refine wl_skip rfl rfl ?_
  simp only [Option.some.injEq, Prod.mk.injEq] at h
  obtain rfl := h
  have h := hg18; clear hg18
  refine wl_pure (v := .bool false) tt_ok rfl rfl ?_
  refine wl_pure tt_ok rfl rfl ?_
  replace h := bsome h; obtain ⟨v21, h, hg21⟩ := h
  replace h := cf rfl h
  refine wl_skip rfl rfl ?_
  simp only [Option.some.injEq, Prod.mk.injEq] at h
  obtain rfl := h
  have h := hg21; clear hg21
  refine wl_pure (v := .bool false) tt_ok rfl rfl ?_
  refine wl_pure tt_ok rfl rfl ?_
  replace h := bsome h; obtain ⟨v24, h, hg24⟩ := h
  replace h := cf rfl h
  refine wl_skip rfl rfl ?_
  simp only [Option.some.injEq, Prod.mk.injEq] at h
  obtain rfl := h
  have h := hg24; clear hg24
  refine wl_pure (v := .bool false) tt_ok rfl rfl ?_
  refine wl_pure tt_ok rfl rfl ?_
  refine wl_nil ?_
  refine wx_then ?_
  refine wc_ret ?_
  simp only [Option.some.injEq] at h
  obtain rfl := h
  exact wx_pf tt_ok (.inl rfl) Try.results9 (Res.tmp rfl Res.nil) rfl

theorem k_codec_get_uint8 {F : Nat} {p0 : T_codec_Reader} {p0b p0t : Nat} {p1 : Int} {r0 : T_codec_Reader} {r1 : Int} (h : m_codec_get_uint8 F p0 p1 = some (r0, r1)) :
    SpD Try.prog 41 [.pointer (some ⟨p0b, 0, none⟩), .int .i64 p1] (⟨p0b, [.string ⟨p0.left.s.toArray⟩, .int .i64 p0.left.e], p0t, (0, 0)⟩ :: []) (fun w => True) (fun v D => v = .int .u8 r1 ∧ D = fun F => (⟨p0b, [.string ⟨r0.left.s.toArray⟩, .int .i64 r0.left.e], p0t, (0, 0)⟩ :: F)) := by
  unfold m_codec_get_uint8 at h
  refine sp_of_wc Try.func41 rfl Try.ntmps41 rfl rfl (fun w0 hR => ?_)
  refine wc_seq ?_
  refine wc_region ?_
  refine wl_pure tt_ok rfl rfl ?_
  refine wl_nil ?_
  refine wx_then ?_
  refine wc_seq ?_
  refine wc_seq ?_
  refine wc_region ?_
  refine wl_pure tt_ok rfl rfl ?_
  refine wl_pure (v := .bool false) tt_ok rfl rfl ?_
  refine wl_nil ?_
  refine wx_then ?_
  refine wc_cond_false rfl ?_
  refine wc_skip ?_
  refine wx_then ?_
  refine wc_seq ?_
  refine wc_region ?_
  refine wl_pure tt_ok rfl rfl ?_
  refine wl_pure tt_ok rfl rfl ?_
  refine wl_pure (v := .pointer (some ⟨p0b, 0, none⟩)) tt_ok rfl rfl ?_
  refine wl_pure tt_ok rfl rfl ?_
  refine wl_pure (v := .int .u64 (IntKind.wrap .u64 p1)) tt_ok rfl rfl ?_
  replace h := bsome h; obtain ⟨⟨o16_0, v16_0, v16_1⟩, x16, h⟩ := h; try dsimp only at h
  refine wl_cs Try.call46 rfl rfl rfl (s_sp (k_codec_left_take x16) (pCons Sel.hc pNil) (fun _ _ => trivial)) rfl ?_
  rintro _ _ ⟨_, ⟨rfl, rfl⟩, rfl⟩
  refine wl_pure tt_ok rfl rfl ?_
  refine wl_pure tt_ok rfl rfl ?_
  refine wl_pure tt_ok rfl rfl ?_
  refine wl_pure tt_ok rfl rfl ?_
  refine wl_pure tt_ok rfl rfl ?_
  refine wl_nil ?_
  refine wx_then ?_
  refine wc_seq ?_
  refine wc_seq ?_
  refine wc_region ?_
  refine wl_pure tt_ok rfl rfl ?_
  refine wl_pure (v := .int .i64 (v16_0.length : Int)) tt_ok rfl rfl ?_
  refine wl_pure tt_ok rfl rfl ?_
  refine wl_nil ?_
  refine wx_then ?_
  refine wc_block ?_
  replace h := bsome h; obtain ⟨l17_4, h, hl17⟩ := h
  refine wc_loop (fun m E L => ∃ (j17_4 : Int) (j17_21 : Int), m_codec_get_uint8_L16 F v16_0 m j17_4 j17_21 = some l17_4 ∧ E = [(4, .int .u8 j17_4), (5, .string ⟨v16_0.toArray⟩), (20, .int .i64 (v16_0.length : Int)), (21, .int .i64 j17_21)] ∧ L = (⟨p0b, [.string ⟨o16_0.s.toArray⟩, .int .i64 o16_0.e], p0t, (0, 0)⟩ :: [])) F ⟨(0 : Int), (0 : Int), h, rfl, rfl⟩ (agree_cons rfl (agree_cons rfl (agree_cons rfl (agree_cons rfl agree_nil)))) (pSub (pCons Sel.hc pNil)) ?_
  clear h
  rintro m17 _ _ ⟨j17_4, j17_21, h, rfl, rfl⟩
  rcases m17 with _ | m17
  · rw [m_codec_get_uint8_L16.eq_1] at h; cases h
  rw [m_codec_get_uint8_L16.eq_2] at h
  refine wc_seq ?_
  refine wc_region ?_
  refine wl_pure (v := .bool (decide (j17_21 < (v16_0.length : Int)))) tt_ok rfl rfl ?_
  refine wl_nil ?_
  refine wx_then ?_
  refine wc_seq ?_
  refine wc_cond rfl (fun hc => ?_) (fun hc => ?_)
  · replace h := ct hc h
    refine wc_skip ?_
    refine wx_then ?_
    refine wc_seq ?_
    refine wc_block ?_
    refine wc_seq ?_
    refine wc_region ?_
    refine wl_pure tt_ok rfl rfl ?_
    refine wl_pure tt_ok rfl rfl ?_
    refine wl_nil ?_
    refine wx_then ?_
    refine wc_region ?_
    refine wl_pure tt_ok rfl rfl ?_
    refine wl_pure tt_ok rfl rfl ?_
    refine wl_pure tt_ok rfl rfl ?_
    replace h := bsome h; obtain ⟨v27, x27, h⟩ := h
    refine wl_val (v := .int .u8 (v27.toNat : Int)) (val_sx tt_ok rfl rfl rfl x27) rfl ?_
    refine wl_pure (v := .int .u64 (IntKind.wrap .u64 (v27.toNat : Int))) tt_ok rfl rfl ?_
    refine wl_pure tt_ok rfl rfl ?_
    refine wl_pure (v := .int .i64 (IntKind.wrap .i64 ((8 : Int) * j17_21))) tt_ok rfl rfl ?_
    replace h := bsome h; obtain ⟨v31, x31, h⟩ := h
    refine wl_val (v := .int .u64 v31) (val_shl rfl rfl x31) rfl ?_
    refine wl_pure (v := .int .u8 (IntKind.wrap .u8 v31)) tt_ok rfl rfl ?_
    refine wl_pure (v := .int .u8 (bits .or .u8 j17_4 (IntKind.wrap .u8 v31))) tt_ok rfl rfl ?_
    refine wl_pure tt_ok rfl rfl ?_
    refine wl_nil ?_
    refine wx_block ?_
    refine wx_then ?_
    refine wc_region ?_
    refine wl_pure (v := .int .i64 (IntKind.wrap .i64 (j17_21 + (1 : Int)))) tt_ok rfl rfl ?_
    refine wl_pure tt_ok rfl rfl ?_
    refine wl_nil ?_
    exact wx_round m17 (Nat.lt_succ_self m17) ⟨(bits .or .u8 j17_4 (IntKind.wrap .u8 v31)), (IntKind.wrap .i64 (j17_21 + (1 : Int))), h, rfl, rfl⟩ (agree_cons rfl (agree_cons rfl (agree_cons rfl (agree_cons rfl agree_nil)))) (pSub (pCons Sel.hc pNil))
  replace h := cf hc h
  refine wc_exit ?_
  refine wx_then_exit ?_
  simp only [Option.some.injEq] at h
  obtain rfl := h
  have h := hl17; clear hl17; try dsimp only [orE_l, orE_r] at h
  refine wx_then_exit ?_
  refine wx_block_exit ?_
  refine wx_then ?_
  refine wc_seq ?_
  refine wc_region ?_
  refine wl_pure tt_ok rfl rfl ?_
  refine wl_pure tt_ok rfl rfl ?_
  refine wl_nil ?_
  refine wx_then ?_
  refine wc_ret ?_
  simp only [Option.some.injEq, Prod.mk.injEq] at h
  obtain ⟨rfl, rfl⟩ := h
  exact wx_spD tt_ok (.inl rfl) Try.results41 (Res.tmp rfl Res.nil) ⟨rfl, rfl⟩ (fun F => by simp) (pSub (pCons Sel.hc pNil))

theorem k_codec_Reader_U8 {F : Nat} {p0 : T_codec_Reader} {p0b p0t : Nat} {r0 : T_codec_Reader} {r1 : Int} (h : m_codec_Reader_U8 F p0 = some (r0, r1)) :
    SpD Try.prog 14 [.pointer (some ⟨p0b, 0, none⟩)] (⟨p0b, [.string ⟨p0.left.s.toArray⟩, .int .i64 p0.left.e], p0t, (0, 0)⟩ :: []) (fun w => True) (fun v D => v = .int .u8 r1 ∧ D = fun F => (⟨p0b, [.string ⟨r0.left.s.toArray⟩, .int .i64 r0.left.e], p0t, (0, 0)⟩ :: F)) := by
  unfold m_codec_Reader_U8 at h
  refine sp_of_wc Try.func14 rfl Try.ntmps14 rfl rfl (fun w0 hR => ?_)
  refine wc_seq ?_
  refine wc_region ?_
  refine wl_pure tt_ok rfl rfl ?_
  refine wl_nil ?_
  refine wx_then ?_
  refine wc_seq ?_
  refine wc_region ?_
  refine wl_pure tt_ok rfl rfl ?_
  replace h := bsome h; obtain ⟨⟨o4_0, v4⟩, x4, h⟩ := h; try dsimp only at h
  refine wl_cs Try.call41 rfl rfl rfl (s_sp (k_codec_get_uint8 x4) (pCons Sel.hc pNil) (fun _ _ => trivial)) rfl ?_
  rintro _ _ ⟨_, ⟨rfl, rfl⟩, rfl⟩
  refine wl_pure tt_ok rfl rfl ?_
  refine wl_nil ?_
  refine wx_then ?_
  refine wc_ret ?_
  simp only [Option.some.injEq, Prod.mk.injEq] at h
  obtain ⟨rfl, rfl⟩ := h
  exact wx_spD tt_ok (.inl rfl) Try.results14 (Res.tmp rfl Res.nil) ⟨rfl, rfl⟩ (fun F => by simp) (pSub (pCons Sel.hc pNil))

theorem k_codec_get_uint16 {F : Nat} {p0 : T_codec_Reader} {p0b p0t : Nat} {p1 : Int} {r0 : T_codec_Reader} {r1 : Int} (h : m_codec_get_uint16 F p0 p1 = some (r0, r1)) :
    SpD Try.prog 43 [.pointer (some ⟨p0b, 0, none⟩), .int .i64 p1] (⟨p0b, [.string ⟨p0.left.s.toArray⟩, .int .i64 p0.left.e], p0t, (0, 0)⟩ :: []) (fun w => True) (fun v D => v = .int .u16 r1 ∧ D = fun F => (⟨p0b, [.string ⟨r0.left.s.toArray⟩, .int .i64 r0.left.e], p0t, (0, 0)⟩ :: F)) := by
  unfold m_codec_get_uint16 at h
  refine sp_of_wc Try.func43 rfl Try.ntmps43 rfl rfl (fun w0 hR => ?_)
  refine wc_seq ?_
  refine wc_region ?_
  refine wl_pure tt_ok rfl rfl ?_
  refine wl_nil ?_
  refine wx_then ?_
  refine wc_seq ?_
  refine wc_seq ?_
  refine wc_region ?_
  refine wl_pure tt_ok rfl rfl ?_
  refine wl_pure (v := .bool false) tt_ok rfl rfl ?_
  refine wl_nil ?_
  refine wx_then ?_
  refine wc_cond_false rfl ?_
  refine wc_skip ?_
  refine wx_then ?_
  refine wc_seq ?_
  refine wc_region ?_
  refine wl_pure tt_ok rfl rfl ?_
  refine wl_pure tt_ok rfl rfl ?_
  refine wl_pure (v := .pointer (some ⟨p0b, 0, none⟩)) tt_ok rfl rfl ?_
  refine wl_pure tt_ok rfl rfl ?_
  refine wl_pure (v := .int .u64 (IntKind.wrap .u64 p1)) tt_ok rfl rfl ?_
  replace h := bsome h; obtain ⟨⟨o16_0, v16_0, v16_1⟩, x16, h⟩ := h; try dsimp only at h
  refine wl_cs Try.call46 rfl rfl rfl (s_sp (k_codec_left_take x16) (pCons Sel.hc pNil) (fun _ _ => trivial)) rfl ?_
  rintro _ _ ⟨_, ⟨rfl, rfl⟩, rfl⟩
  refine wl_pure tt_ok rfl rfl ?_
  refine wl_pure tt_ok rfl rfl ?_
  refine wl_pure tt_ok rfl rfl ?_
  refine wl_pure tt_ok rfl rfl ?_
  refine wl_pure tt_ok rfl rfl ?_
  refine wl_nil ?_
  refine wx_then ?_
  refine wc_seq ?_
  refine wc_seq ?_
  refine wc_region ?_
  refine wl_pure tt_ok rfl rfl ?_
  refine wl_pure (v := .int .i64 (v16_0.length : Int)) tt_ok rfl rfl ?_
  refine wl_pure tt_ok rfl rfl ?_
  refine wl_nil ?_
  refine wx_then ?_
  refine wc_block ?_
  replace h := bsome h; obtain ⟨l17_4, h, hl17⟩ := h
  refine wc_loop (fun m E L => ∃ (j17_4 : Int) (j17_21 : Int), m_codec_get_uint16_L16 F v16_0 m j17_4 j17_21 = some l17_4 ∧ E = [(4, .int .u16 j17_4), (5, .string ⟨v16_0.toArray⟩), (20, .int .i64 (v16_0.length : Int)), (21, .int .i64 j17_21)] ∧ L = (⟨p0b, [.string ⟨o16_0.s.toArray⟩, .int .i64 o16_0.e], p0t, (0, 0)⟩ :: [])) F ⟨(0 : Int), (0 : Int), h, rfl, rfl⟩ (agree_cons rfl (agree_cons rfl (agree_cons rfl (agree_cons rfl agree_nil)))) (pSub (pCons Sel.hc pNil)) ?_
  clear h
  rintro m17 _ _ ⟨j17_4, j17_21, h, rfl, rfl⟩
  rcases m17 with _ | m17
  · rw [m_codec_get_uint16_L16.eq_1] at h; cases h
  rw [m_codec_get_uint16_L16.eq_2] at h
  refine wc_seq ?_
  refine wc_region ?_
  refine wl_pure (v := .bool (decide (j17_21 < (v16_0.length : Int)))) tt_ok rfl rfl ?_
  refine wl_nil ?_
  refine wx_then ?_
  refine wc_seq ?_
  refine wc_cond rfl (fun hc => ?_) (fun hc => ?_)
  · replace h := ct hc h
    refine wc_skip ?_
    refine wx_then ?_
    refine wc_seq ?_
    refine wc_block ?_
    refine wc_seq ?_
    refine wc_region ?_
    refine wl_pure tt_ok rfl rfl ?_
    refine wl_pure tt_ok rfl rfl ?_
    refine wl_nil ?_
    refine wx_then ?_
    refine wc_region ?_
    refine wl_pure tt_ok rfl rfl ?_
    refine wl_pure tt_ok rfl rfl ?_
    refine wl_pure tt_ok rfl rfl ?_
    replace h := bsome h; obtain ⟨v27, x27, h⟩ := h
    refine wl_val (v := .int .u8 (v27.toNat : Int)) (val_sx tt_ok rfl rfl rfl x27) rfl ?_
    refine wl_pure (v := .int .u64 (IntKind.wrap .u64 (v27.toNat : Int))) tt_ok rfl rfl ?_
    refine wl_pure tt_ok rfl rfl ?_
    refine wl_pure (v := .int .i64 (IntKind.wrap .i64 ((8 : Int) * j17_21))) tt_ok rfl rfl ?_
    replace h := bsome h; obtain ⟨v31, x31, h⟩ := h
    refine wl_val (v := .int .u64 v31) (val_shl rfl rfl x31) rfl ?_
    refine wl_pure (v := .int .u16 (IntKind.wrap .u16 v31)) tt_ok rfl rfl ?_
    refine wl_pure (v := .int .u16 (bits .or .u16 j17_4 (IntKind.wrap .u16 v31))) tt_ok rfl rfl ?_
    refine wl_pure tt_ok rfl rfl ?_
    refine wl_nil ?_
    refine wx_block ?_
    refine wx_then ?_
    refine wc_region ?_
    refine wl_pure (v := .int .i64 (IntKind.wrap .i64 (j17_21 + (1 : Int)))) tt_ok rfl rfl ?_
    refine wl_pure tt_ok rfl rfl ?_
    refine wl_nil ?_
    exact wx_round m17 (Nat.lt_succ_self m17) ⟨(bits .or .u16 j17_4 (IntKind.wrap .u16 v31)), (IntKind.wrap .i64 (j17_21 + (1 : Int))), h, rfl, rfl⟩ (agree_cons rfl (agree_cons rfl (agree_cons rfl (agree_cons rfl agree_nil)))) (pSub (pCons Sel.hc pNil))
  replace h := cf hc h
  refine wc_exit ?_
  refine wx_then_exit ?_
  simp only [Option.some.injEq] at h
  obtain rfl := h
  have h := hl17; clear hl17; try dsimp only [orE_l, orE_r] at h
  refine wx_then_exit ?_
  refine wx_block_exit ?_
  refine wx_then ?_
  refine wc_seq ?_
  refine wc_region ?_
  refine wl_pure tt_ok rfl rfl ?_
  refine wl_pure tt_ok rfl rfl ?_
  refine wl_nil ?_
  refine wx_then ?_
  refine wc_ret ?_
  simp only [Option.some.injEq, Prod.mk.injEq] at h
  obtain ⟨rfl, rfl⟩ := h
  exact wx_spD tt_ok (.inl rfl) Try.results43 (Res.tmp rfl Res.nil) ⟨rfl, rfl⟩ (fun F => by simp) (pSub (pCons Sel.hc pNil))

theorem k_codec_Reader_U16 {F : Nat} {p0 : T_codec_Reader} {p0b p0t : Nat} {r0 : T_codec_Reader} {r1 : Int} (h : m_codec_Reader_U16 F p0 = some (r0, r1)) :
    SpD Try.prog 16 [.pointer (some ⟨p0b, 0, none⟩)] (⟨p0b, [.string ⟨p0.left.s.toArray⟩, .int .i64 p0.left.e], p0t, (0, 0)⟩ :: []) (fun w => True) (fun v D => v = .int .u16 r1 ∧ D = fun F => (⟨p0b, [.string ⟨r0.left.s.toArray⟩, .int .i64 r0.left.e], p0t, (0, 0)⟩ :: F)) := by
  unfold m_codec_Reader_U16 at h
  refine sp_of_wc Try.func16 rfl Try.ntmps16 rfl rfl (fun w0 hR => ?_)
  refine wc_seq ?_
  refine wc_region ?_
  refine wl_pure tt_ok rfl rfl ?_
  refine wl_nil ?_
  refine wx_then ?_
  refine wc_seq ?_
  refine wc_region ?_
  refine wl_pure tt_ok rfl rfl ?_
  replace h := bsome h; obtain ⟨⟨o4_0, v4⟩, x4, h⟩ := h; try dsimp only at h
  refine wl_cs Try.call43 rfl rfl rfl (s_sp (k_codec_get_uint16 x4) (pCons Sel.hc pNil) (fun _ _ => trivial)) rfl ?_
  rintro _ _ ⟨_, ⟨rfl, rfl⟩, rfl⟩
  refine wl_pure tt_ok rfl rfl ?_
  refine wl_nil ?_
  refine wx_then ?_
  refine wc_ret ?_
  simp only [Option.some.injEq, Prod.mk.injEq] at h
  obtain ⟨rfl, rfl⟩ := h
  exact wx_spD tt_ok (.inl rfl) Try.results16 (Res.tmp rfl Res.nil) ⟨rfl, rfl⟩ (fun F => by simp) (pSub (pCons Sel.hc pNil))

theorem k_codec_get_uint32 {F : Nat} {p0 : T_codec_Reader} {p0b p0t : Nat} {p1 : Int} {r0 : T_codec_Reader} {r1 : Int} (h : m_codec_get_uint32 F p0 p1 = some (r0, r1)) :
    SpD Try.prog 44 [.pointer (some ⟨p0b, 0, none⟩), .int .i64 p1] (⟨p0b, [.string ⟨p0.left.s.toArray⟩, .int .i64 p0.left.e], p0t, (0, 0)⟩ :: []) (fun w => True) (fun v D => v = .int .u32 r1 ∧ D = fun F => (⟨p0b, [.string ⟨r0.left.s.toArray⟩, .int .i64 r0.left.e], p0t, (0, 0)⟩ :: F)) := by
  unfold m_codec_get_uint32 at h
  refine sp_of_wc Try.func44 rfl Try.ntmps44 rfl rfl (fun w0 hR => ?_)
  refine wc_seq ?_
  refine wc_region ?_
  refine wl_pure tt_ok rfl rfl ?_
  refine wl_nil ?_
  refine wx_then ?_
  refine wc_seq ?_
  refine wc_seq ?_
  refine wc_region ?_
  refine wl_pure tt_ok rfl rfl ?_
  refine wl_pure (v := .bool false) tt_ok rfl rfl ?_
  refine wl_nil ?_
  refine wx_then ?_
  refine wc_cond_false rfl ?_
  refine wc_skip ?_
  refine wx_then ?_
  refine wc_seq ?_
  refine wc_region ?_
  refine wl_pure tt_ok rfl rfl ?_
  refine wl_pure tt_ok rfl rfl ?_
  refine wl_pure (v := .pointer (some ⟨p0b, 0, none⟩)) tt_ok rfl rfl ?_
  refine wl_pure tt_ok rfl rfl ?_
  refine wl_pure (v := .int .u64 (IntKind.wrap .u64 p1)) tt_ok rfl rfl ?_
  replace h := bsome h; obtain ⟨⟨o16_0, v16_0, v16_1⟩, x16, h⟩ := h; try dsimp only at h
  refine wl_cs Try.call46 rfl rfl rfl (s_sp (k_codec_left_take x16) (pCons Sel.hc pNil) (fun _ _ => trivial)) rfl ?_
  rintro _ _ ⟨_, ⟨rfl, rfl⟩, rfl⟩
  refine wl_pure tt_ok rfl rfl ?_
  refine wl_pure tt_ok rfl rfl ?_
  refine wl_pure tt_ok rfl rfl ?_
  refine wl_pure tt_ok rfl rfl ?_
  refine wl_pure tt_ok rfl rfl ?_
  refine wl_nil ?_
  refine wx_then ?_
  refine wc_seq ?_
  refine wc_seq ?_
  refine wc_region ?_
  refine wl_pure tt_ok rfl rfl ?_
  refine wl_pure (v := .int .i64 (v16_0.length : Int)) tt_ok rfl rfl ?_
  refine wl_pure tt_ok rfl rfl ?_
  refine wl_nil ?_
  refine wx_then ?_
  refine wc_block ?_
  replace h := bsome h; obtain ⟨l17_4, h, hl17⟩ := h
  refine wc_loop (fun m E L => ∃ (j17_4 : Int) (j17_21 : Int), m_codec_get_uint32_L16 F v16_0 m j17_4 j17_21 = some l17_4 ∧ E = [(4, .int .u32 j17_4), (5, .string ⟨v16_0.toArray⟩), (20, .int .i64 (v16_0.length : Int)), (21, .int .i64 j17_21)] ∧ L = (⟨p0b, [.string ⟨o16_0.s.toArray⟩, .int .i64 o16_0.e], p0t, (0, 0)⟩ :: [])) F ⟨(0 : Int), (0 : Int), h, rfl, rfl⟩ (agree_cons rfl (agree_cons rfl (agree_cons rfl (agree_cons rfl agree_nil)))) (pSub (pCons Sel.hc pNil)) ?_
  clear h
  rintro m17 _ _ ⟨j17_4, j17_21, h, rfl, rfl⟩
  rcases m17 with _ | m17
  · rw [m_codec_get_uint32_L16.eq_1] at h; cases h
  rw [m_codec_get_uint32_L16.eq_2] at h
  refine wc_seq ?_
  refine wc_region ?_
  refine wl_pure (v := .bool (decide (j17_21 < (v16_0.length : Int)))) tt_ok rfl rfl ?_
  refine wl_nil ?_
  refine wx_then ?_
  refine wc_seq ?_
  refine wc_cond rfl (fun hc => ?_) (fun hc => ?_)
  · replace h := ct hc h
    refine wc_skip ?_
    refine wx_then ?_
    refine wc_seq ?_
    refine wc_block ?_
    refine wc_seq ?_
    refine wc_region ?_
    refine wl_pure tt_ok rfl rfl ?_
    refine wl_pure tt_ok rfl rfl ?_
    refine wl_nil ?_
    refine wx_then ?_
    refine wc_region ?_
    refine wl_pure tt_ok rfl rfl ?_
    refine wl_pure tt_ok rfl rfl ?_
    refine wl_pure tt_ok rfl rfl ?_
    replace h := bsome h; obtain ⟨v27, x27, h⟩ := h
    refine wl_val (v := .int .u8 (v27.toNat : Int)) (val_sx tt_ok rfl rfl rfl x27) rfl ?_
    refine wl_pure (v := .int .u64 (IntKind.wrap .u64 (v27.toNat : Int))) tt_ok rfl rfl ?_
    refine wl_pure tt_ok rfl rfl ?_
    refine wl_pure (v := .int .i64 (IntKind.wrap .i64 ((8 : Int) * j17_21))) tt_ok rfl rfl ?_
    replace h := bsome h; obtain ⟨v31, x31, h⟩ := h
    refine wl_val (v := .int .u64 v31) (val_shl rfl rfl x31) rfl ?_
    refine wl_pure (v := .int .u32 (IntKind.wrap .u32 v31)) tt_ok rfl rfl ?_
    refine wl_pure (v := .int .u32 (bits .or .u32 j17_4 (IntKind.wrap .u32 v31))) tt_ok rfl rfl ?_
    refine wl_pure tt_ok rfl rfl ?_
    refine wl_nil ?_
    refine wx_block ?_
    refine wx_then ?_
    refine wc_region ?_
    refine wl_pure (v := .int .i64 (IntKind.wrap .i64 (j17_21 + (1 : Int)))) tt_ok rfl rfl ?_
    refine wl_pure tt_ok rfl rfl ?_
    refine wl_nil ?_
    exact wx_round m17 (Nat.lt_succ_self m17) ⟨(bits .or .u32 j17_4 (IntKind.wrap .u32 v31)), (IntKind.wrap .i64 (j17_21 + (1 : Int))), h, rfl, rfl⟩ (agree_cons rfl (agree_cons rfl (agree_cons rfl (agree_cons rfl agree_nil)))) (pSub (pCons Sel.hc pNil))
  replace h := cf hc h
  refine wc_exit ?_
  refine wx_then_exit ?_
  simp only [Option.some.injEq] at h
  obtain rfl := h
  have h := hl17; clear hl17; try dsimp only [orE_l, orE_r] at h
  refine wx_then_exit ?_
  refine wx_block_exit ?_
  refine wx_then ?_
  refine wc_seq ?_
  refine wc_region ?_
  refine wl_pure tt_ok rfl rfl ?_
  refine wl_pure tt_ok rfl rfl ?_
  refine wl_nil ?_
  refine wx_then ?_
  refine wc_ret ?_
  simp only [Option.some.injEq, Prod.mk.injEq] at h
  obtain ⟨rfl, rfl⟩ := h
  exact wx_spD tt_ok (.inl rfl) Try.results44 (Res.tmp rfl Res.nil) ⟨rfl, rfl⟩ (fun F => by simp) (pSub (pCons Sel.hc pNil))

theorem k_codec_Reader_U32 {F : Nat} {p0 : T_codec_Reader} {p0b p0t : Nat} {r0 : T_codec_Reader} {r1 : Int} (h : m_codec_Reader_U32 F p0 = some (r0, r1)) :
    SpD Try.prog 17 [.pointer (some ⟨p0b, 0, none⟩)] (⟨p0b, [.string ⟨p0.left.s.toArray⟩, .int .i64 p0.left.e], p0t, (0, 0)⟩ :: []) (fun w => True) (fun v D => v = .int .u32 r1 ∧ D = fun F => (⟨p0b, [.string ⟨r0.left.s.toArray⟩, .int .i64 r0.left.e], p0t, (0, 0)⟩ :: F)) := by
  unfold m_codec_Reader_U32 at h
  refine sp_of_wc Try.func17 rfl Try.ntmps17 rfl rfl (fun w0 hR => ?_)
  refine wc_seq ?_
  refine wc_region ?_
  refine wl_pure tt_ok rfl rfl ?_
  refine wl_nil ?_
  refine wx_then ?_
  refine wc_seq ?_
  refine wc_region ?_
  refine wl_pure tt_ok rfl rfl ?_
  replace h := bsome h; obtain ⟨⟨o4_0, v4⟩, x4, h⟩ := h; try dsimp only at h
  refine wl_cs Try.call44 rfl rfl rfl (s_sp (k_codec_get_uint32 x4) (pCons Sel.hc pNil) (fun _ _ => trivial)) rfl ?_
  rintro _ _ ⟨_, ⟨rfl, rfl⟩, rfl⟩
  refine wl_pure tt_ok rfl rfl ?_
  refine wl_nil ?_
  refine wx_then ?_
  refine wc_ret ?_
  simp only [Option.some.injEq, Prod.mk.injEq] at h
  obtain ⟨rfl, rfl⟩ := h
  exact wx_spD tt_ok (.inl rfl) Try.results17 (Res.tmp rfl Res.nil) ⟨rfl, rfl⟩ (fun F => by simp) (pSub (pCons Sel.hc pNil))

theorem k_codec_get_uint64 {F : Nat} {p0 : T_codec_Reader} {p0b p0t : Nat} {p1 : Int} {r0 : T_codec_Reader} {r1 : Int} (h : m_codec_get_uint64 F p0 p1 = some (r0, r1)) :
    SpD Try.prog 45 [.pointer (some ⟨p0b, 0, none⟩), .int .i64 p1] (⟨p0b, [.string ⟨p0.left.s.toArray⟩, .int .i64 p0.left.e], p0t, (0, 0)⟩ :: []) (fun w => True) (fun v D => v = .int .u64 r1 ∧ D = fun F => (⟨p0b, [.string ⟨r0.left.s.toArray⟩, .int .i64 r0.left.e], p0t, (0, 0)⟩ :: F)) := by
  unfold m_codec_get_uint64 at h
  refine sp_of_wc Try.func45 rfl Try.ntmps45 rfl rfl (fun w0 hR => ?_)
  refine wc_seq ?_
  refine wc_region ?_
  refine wl_pure tt_ok rfl rfl ?_
  refine wl_nil ?_
  refine wx_then ?_
  refine wc_seq ?_
  refine wc_seq ?_
  refine wc_region ?_
  refine wl_pure tt_ok rfl rfl ?_
  refine wl_pure (v := .bool false) tt_ok rfl rfl ?_
  refine wl_nil ?_
  refine wx_then ?_
  refine wc_cond_false rfl ?_
  refine wc_skip ?_
  refine wx_then ?_
  refine wc_seq ?_
  refine wc_region ?_
  refine wl_pure tt_ok rfl rfl ?_
  refine wl_pure tt_ok rfl rfl ?_
  refine wl_pure (v := .pointer (some ⟨p0b, 0, none⟩)) tt_ok rfl rfl ?_
  refine wl_pure tt_ok rfl rfl ?_
  refine wl_pure (v := .int .u64 (IntKind.wrap .u64 p1)) tt_ok rfl rfl ?_
  replace h := bsome h; obtain ⟨⟨o16_0, v16_0, v16_1⟩, x16, h⟩ := h; try dsimp only at h
  refine wl_cs Try.call46 rfl rfl rfl (s_sp (k_codec_left_take x16) (pCons Sel.hc pNil) (fun _ _ => trivial)) rfl ?_
  rintro _ _ ⟨_, ⟨rfl, rfl⟩, rfl⟩
  refine wl_pure tt_ok rfl rfl ?_
  refine wl_pure tt_ok rfl rfl ?_
  refine wl_pure tt_ok rfl rfl ?_
  refine wl_pure tt_ok rfl rfl ?_
  refine wl_pure tt_ok rfl rfl ?_
  refine wl_nil ?_
  refine wx_then ?_
  refine wc_seq ?_
  refine wc_seq ?_
  refine wc_region ?_
  refine wl_pure tt_ok rfl rfl ?_
  refine wl_pure (v := .int .i64 (v16_0.length : Int)) tt_ok rfl rfl ?_
  refine wl_pure tt_ok rfl rfl ?_
  refine wl_nil ?_
  refine wx_then ?_
  refine wc_block ?_
  replace h := bsome h; obtain ⟨l17_4, h, hl17⟩ := h
  refine wc_loop (fun m E L => ∃ (j17_4 : Int) (j17_21 : Int), m_codec_get_uint64_L16 F v16_0 m j17_4 j17_21 = some l17_4 ∧ E = [(4, .int .u64 j17_4), (5, .string ⟨v16_0.toArray⟩), (20, .int .i64 (v16_0.length : Int)), (21, .int .i64 j17_21)] ∧ L = (⟨p0b, [.string ⟨o16_0.s.toArray⟩, .int .i64 o16_0.e], p0t, (0, 0)⟩ :: [])) F ⟨(0 : Int), (0 : Int), h, rfl, rfl⟩ (agree_cons rfl (agree_cons rfl (agree_cons rfl (agree_cons rfl agree_nil)))) (pSub (pCons Sel.hc pNil)) ?_
  clear h
  rintro m17 _ _ ⟨j17_4, j17_21, h, rfl, rfl⟩
  rcases m17 with _ | m17
  · rw [m_codec_get_uint64_L16.eq_1] at h; cases h
  rw [m_codec_get_uint64_L16.eq_2] at h
  refine wc_seq ?_
  refine wc_region ?_
  refine wl_pure (v := .bool (decide (j17_21 < (v16_0.length : Int)))) tt_ok rfl rfl ?_
  refine wl_nil ?_
  refine wx_then ?_
  refine wc_seq ?_
  refine wc_cond rfl (fun hc => ?_) (fun hc => ?_)
  · replace h := ct hc h
    refine wc_skip ?_
    refine wx_then ?_
    refine wc_seq ?_
    refine wc_block ?_
    refine wc_seq ?_
    refine wc_region ?_
    refine wl_pure tt_ok rfl rfl ?_
    refine wl_pure tt_ok rfl rfl ?_
    refine wl_nil ?_
    refine wx_then ?_
    refine wc_region ?_
    refine wl_pure tt_ok rfl rfl ?_
    refine wl_pure tt_ok rfl rfl ?_
    refine wl_pure tt_ok rfl rfl ?_
    replace h := bsome h; obtain ⟨v27, x27, h⟩ := h
    refine wl_val (v := .int .u8 (v27.toNat : Int)) (val_sx tt_ok rfl rfl rfl x27) rfl ?_
    refine wl_pure (v := .int .u64 (IntKind.wrap .u64 (v27.toNat : Int))) tt_ok rfl rfl ?_
    refine wl_pure tt_ok rfl rfl ?_
    refine wl_pure (v := .int .i64 (IntKind.wrap .i64 ((8 : Int) * j17_21))) tt_ok rfl rfl ?_
    replace h := bsome h; obtain ⟨v31, x31, h⟩ := h
    refine wl_val (v := .int .u64 v31) (val_shl rfl rfl x31) rfl ?_
    refine wl_pure (v := .int .u64 (bits .or .u64 j17_4 v31)) tt_ok rfl rfl ?_
    refine wl_pure tt_ok rfl rfl ?_
    refine wl_nil ?_
    refine wx_block ?_
    refine wx_then ?_
    refine wc_region ?_
    refine wl_pure (v := .int .i64 (IntKind.wrap .i64 (j17_21 + (1 : Int)))) tt_ok rfl rfl ?_
    refine wl_pure tt_ok rfl rfl ?_
    refine wl_nil ?_
    exact wx_round m17 (Nat.lt_succ_self m17) ⟨(bits .or .u64 j17_4 v31), (IntKind.wrap .i64 (j17_21 + (1 : Int))), h, rfl, rfl⟩ (agree_cons rfl (agree_cons rfl (agree_cons rfl (agree_cons rfl agree_nil)))) (pSub (pCons Sel.hc pNil))
  replace h := cf hc h
  refine wc_exit ?_
  refine wx_then_exit ?_
  simp only [Option.some.injEq] at h
  obtain rfl := h
  have h := hl17; clear hl17; try dsimp only [orE_l, orE_r] at h
  refine wx_then_exit ?_
  refine wx_block_exit ?_
  refine wx_then ?_
  refine wc_seq ?_
  refine wc_region ?_
  refine wl_pure tt_ok rfl rfl ?_
  refine wl_pure tt_ok rfl rfl ?_
  refine wl_nil ?_
  refine wx_then ?_
  refine wc_ret ?_
  simp only [Option.some.injEq, Prod.mk.injEq] at h
  obtain ⟨rfl, rfl⟩ := h
  exact wx_spD tt_ok (.inl rfl) Try.results45 (Res.tmp rfl Res.nil) ⟨rfl, rfl⟩ (fun F => by simp) (pSub (pCons Sel.hc pNil))

theorem k_codec_Reader_U64 {F : Nat} {p0 : T_codec_Reader} {p0b p0t : Nat} {r0 : T_codec_Reader} {r1 : Int} (h : m_codec_Reader_U64 F p0 = some (r0, r1)) :
    SpD Try.prog 18 [.pointer (some ⟨p0b, 0, none⟩)] (⟨p0b, [.string ⟨p0.left.s.toArray⟩, .int .i64 p0.left.e], p0t, (0, 0)⟩ :: []) (fun w => True) (fun v D => v = .int .u64 r1 ∧ D = fun F => (⟨p0b, [.string ⟨r0.left.s.toArray⟩, .int .i64 r0.left.e], p0t, (0, 0)⟩ :: F)) := by
  unfold m_codec_Reader_U64 at h
  refine sp_of_wc Try.func18 rfl Try.ntmps18 rfl rfl (fun w0 hR => ?_)
  refine wc_seq ?_
  refine wc_region ?_
  refine wl_pure tt_ok rfl rfl ?_
  refine wl_nil ?_
  refine wx_then ?_
  refine wc_seq ?_
  refine wc_region ?_
  refine wl_pure tt_ok rfl rfl ?_
  replace h := bsome h; obtain ⟨⟨o4_0, v4⟩, x4, h⟩ := h; try dsimp only at h
  refine wl_cs Try.call45 rfl rfl rfl (s_sp (k_codec_get_uint64 x4) (pCons Sel.hc pNil) (fun _ _ => trivial)) rfl ?_
  rintro _ _ ⟨_, ⟨rfl, rfl⟩, rfl⟩
  refine wl_pure tt_ok rfl rfl ?_
  refine wl_nil ?_
  refine wx_then ?_
  refine wc_ret ?_
  simp only [Option.some.injEq, Prod.mk.injEq] at h
  obtain ⟨rfl, rfl⟩ := h
  exact wx_spD tt_ok (.inl rfl) Try.results18 (Res.tmp rfl Res.nil) ⟨rfl, rfl⟩ (fun F => by simp) (pSub (pCons Sel.hc pNil))

theorem k_codec_put_uint64 {F : Nat} {p0 : T_codec_Writer} {p0b p0t : Nat} {p0a0 : Option Addr} {p0n0 p0c0 : Nat} {p0B0 : List Blk} {p1 : Int} {p2 : Int} {r0 : T_codec_Writer} (p0N0 : p0n0 = p0.b.length) (p0V0 : Own 5 1 p0a0 p0n0 p0c0 (flat (e1 .u8) p0.b) p0B0) (h : m_codec_put_uint64 F p0 p1 p2 = some r0) :
    SpD Try.prog 51 [.pointer (some ⟨p0b, 0, none⟩), .int .u64 p1, .int .i64 p2] (⟨p0b, [.slice p0a0 p0n0 p0c0], p0t, (0, 0)⟩ :: (p0B0 ++ [])) (fun w => True) (fun v D => ∃ (r0a0 : Option Addr) (r0n0 r0c0 : Nat) (r0B0 : List Blk), r0n0 = r0.b.length ∧ Own 5 1 r0a0 r0n0 r0c0 (flat (e1 .u8) r0.b) r0B0 ∧ v = .tuple #[] ∧ D = fun F => (⟨p0b, [.slice r0a0 r0n0 r0c0], p0t, (0, 0)⟩ :: (r0B0 ++ F))) := by
  unfold m_codec_put_uint64 at h
  refine sp_of_wc Try.func51 rfl Try.ntmps51 rfl rfl (fun w0 hR => ?_)
  refine wc_seq ?_
  refine wc_seq ?_
  refine wc_region ?_
  refine wl_pure tt_ok rfl rfl ?_
  refine wl_pure (v := .bool false) tt_ok rfl rfl ?_
  refine wl_nil ?_
  refine wx_then ?_
  refine wc_cond_false rfl ?_
  refine wc_skip ?_
  refine wx_then ?_
  refine wc_seq ?_
  refine wc_region ?_
  refine wl_pure tt_ok rfl rfl ?_
  refine wl_pure tt_ok rfl rfl ?_
  refine wl_nil ?_
  refine wx_then ?_
  refine wc_block ?_
  replace h := bsome h; obtain ⟨l10_p0_f0, h, hl10⟩ := h
  refine wc_loop (fun m E L => ∃ (j10_10 : Int) (j10_p0_f0 : (List Int)) (j10_p0_f0a0 : Option Addr) (j10_p0_f0n0 : Nat) (j10_p0_f0c0 : Nat) (j10_p0_f0B0 : List Blk), m_codec_put_uint64_L9 F p1 p2 m j10_10 j10_p0_f0 = some l10_p0_f0 ∧ j10_p0_f0n0 = j10_p0_f0.length ∧ Own 5 1 j10_p0_f0a0 j10_p0_f0n0 j10_p0_f0c0 (flat (e1 .u8) j10_p0_f0) j10_p0_f0B0 ∧ E = [(0, .pointer (some ⟨p0b, 0, none⟩)), (1, .int .u64 p1), (9, .int .i64 p2), (10, .int .i64 j10_10)] ∧ L = (⟨p0b, [.slice j10_p0_f0a0 j10_p0_f0n0 j10_p0_f0c0], p0t, (0, 0)⟩ :: (j10_p0_f0B0 ++ []))) F ⟨(0 : Int), p0.b, p0a0, p0n0, p0c0, p0B0, h, p0N0, p0V0, rfl, rfl⟩ (agree_cons rfl (agree_cons rfl (agree_cons rfl (agree_cons rfl agree_nil)))) (pSub (pCons Sel.hc (pApp Sel.ha pNil))) ?_
  clear h
  rintro m10 _ _ ⟨j10_10, j10_p0_f0, j10_p0_f0a0, j10_p0_f0n0, j10_p0_f0c0, j10_p0_f0B0, h, j10_p0_f0N0, j10_p0_f0V0, rfl, rfl⟩
  rcases m10 with _ | m10
  · rw [m_codec_put_uint64_L9.eq_1] at h; cases h
  rw [m_codec_put_uint64_L9.eq_2] at h
  refine wc_seq ?_
  refine wc_region ?_
  refine wl_pure (v := .bool (decide (j10_10 < p2))) tt_ok rfl rfl ?_
  refine wl_nil ?_
  refine wx_then ?_
  refine wc_seq ?_
  refine wc_cond rfl (fun hc => ?_) (fun hc => ?_)
  · replace h := ct hc h
    refine wc_skip ?_
    refine wx_then ?_
    refine wc_seq ?_
    refine wc_block ?_
    refine wc_seq ?_
    refine wc_region ?_
    refine wl_pure tt_ok rfl rfl ?_
    refine wl_pure tt_ok rfl rfl ?_
    refine wl_nil ?_
    refine wx_then ?_
    refine wc_k2 (Ls := (⟨p0b, [.slice j10_p0_f0a0 j10_p0_f0n0 j10_p0_f0c0], p0t, (0, 0)⟩ :: [])) [10, 11, 12, 13, 14] [12, 13, 14] [0, 0, 2, 6, 14, 0, 0, 64, 224, 480, 992, 2046, 4095, 8191, 16383] [0, 1, 2, 3, 4, 5, 6, 7, 8, 9, 10, 11, 12, 13, 14] (by kernel_rfl) (by kernel_rfl) (by kernel_rfl) ?_
    refine k_val rfl rfl rfl (pSub (pCons Sel.hc pNil)) (stepV_ok tt_ok rfl) rfl ?_
    refine k_val rfl rfl rfl (pSub (pCons Sel.hc pNil)) (stepV_ok tt_ok rfl) rfl ?_
    refine k_val rfl rfl rfl (pSub (pCons Sel.hc pNil)) (stepV_ok tt_ok rfl) rfl ?_
    refine k_val (v := .pointer (some ⟨p0b, 0, none⟩)) rfl rfl rfl (pSub (pCons Sel.hc pNil)) (stepV_ok tt_ok rfl) rfl ?_
    refine k_val (v := .slice j10_p0_f0a0 j10_p0_f0n0 j10_p0_f0c0) rfl rfl rfl (pSub (pCons Sel.hc pNil)) (val_load tt_ok rfl (List.Mem.head _) rfl) rfl ?_
    refine k_val rfl rfl rfl (pSub (pCons Sel.hc pNil)) (stepV_ok tt_ok rfl) rfl ?_
    refine k_val rfl rfl rfl (pSub (pCons Sel.hc pNil)) (stepV_ok tt_ok rfl) rfl ?_
    refine k_val (v := .int .i64 (IntKind.wrap .i64 ((8 : Int) * j10_10))) rfl rfl rfl (pSub (pCons Sel.hc pNil)) (stepV_ok tt_ok rfl) rfl ?_
    replace h := bsome h; obtain ⟨v21, x21, h⟩ := h
    refine k_val (v := .int .u64 v21) rfl rfl rfl (pSub (pCons Sel.hc pNil)) (val_shr rfl rfl x21) rfl ?_
    refine k_val (v := .int .u8 (IntKind.wrap .u8 v21)) rfl rfl rfl (pSub (pCons Sel.hc pNil)) (stepV_ok tt_ok rfl) rfl ?_
    refine k_chg rfl rfl rfl (chg_bsv (enc := (e1 .u8)) (xs := ([(IntKind.wrap .u8 v21)] : List Int)) tt_ok rfl rfl rfl rfl rfl rfl rfl rfl (e1_len _)) rfl (.inr (by rintro _ _ ⟨_, _, _, _, rfl, _, _, rfl⟩; exact ⟨_, (pCons (Sel.sa Sel.hc) pNil)⟩)) ?_
    rintro _ _ ⟨a23, n23_, c23, B23, rfl, N23, V23, rfl⟩
    replace h := bsome h; obtain ⟨v24, x24, h⟩ := h
    refine k_chg rfl rfl rfl (chg_app (enc := (e1 .u8)) (ys := ([(IntKind.wrap .u8 v21)] : List Int)) tt_ok rfl rfl rfl rfl rfl rfl j10_p0_f0N0 N23 j10_p0_f0V0 (Sel.sa (Sel.sc Sel.ha)) (Rds.of_vec V23) ⟨_, Sel.ha⟩ (e1_len _) (fun _ => rfl) rfl x24) rfl (.inr (by rintro _ _ ⟨_, _, _, _, rfl, _, _, rfl⟩; exact ⟨_, (pCons (Sel.sa (Sel.sa Sel.hc)) pNil)⟩)) ?_
    rintro _ _ ⟨a24, n24_, c24, B24, rfl, N24, V24, rfl⟩
    refine k_chg rfl rfl rfl (Chg.of_val (stepV_ok tt_ok rfl)) rfl (.inl rfl) ?_
    rintro _ _ ⟨rfl, rfl⟩
    refine k_chg rfl rfl rfl (Chg.of_val (v := .pointer (some ⟨p0b, 0, none⟩)) (stepV_ok tt_ok rfl)) rfl (.inl rfl) ?_
    rintro _ _ ⟨rfl, rfl⟩
    refine k_chg0 rfl rfl rfl (chg_store tt_ok rfl (Upd.right (Upd.right Upd.here)) rfl rfl rfl rfl rfl rfl) (.inl rfl) ?_
    rintro _ _ rfl
    refine k_end (by kernel_rfl) ?_
    refine wx_block ?_
    refine wx_then ?_
    refine wc_region ?_
    refine wl_pure (v := .int .i64 (IntKind.wrap .i64 (j10_10 + (1 : Int)))) tt_ok rfl rfl ?_
    refine wl_pure tt_ok rfl rfl ?_
    refine wl_nil ?_
    exact wx_round m10 (Nat.lt_succ_self m10) ⟨(IntKind.wrap .i64 (j10_10 + (1 : Int))), v24, a24, n24_, c24, B24, h, N24, V24, rfl, rfl⟩ (agree_cons rfl (agree_cons rfl (agree_cons rfl (agree_cons rfl agree_nil)))) (pSub (pCons (Sel.sa (Sel.sa Sel.hc)) (pApp Sel.ha pNil)))
  replace h := cf hc h
  refine wc_exit ?_
  refine wx_then_exit ?_
  simp only [Option.some.injEq] at h
  obtain rfl := h
  have h := hl10; clear hl10; try dsimp only [orE_l, orE_r] at h
  refine wx_then_exit ?_
  refine wx_block_exit ?_
  simp only [Option.some.injEq] at h
  obtain rfl := h
  exact wx_spD tt_ok (.inr rfl) Try.results51 Res.nil ⟨j10_p0_f0a0, j10_p0_f0n0, j10_p0_f0c0, j10_p0_f0B0, j10_p0_f0N0, j10_p0_f0V0, rfl, rfl⟩ (fun F => by simp) (pSub (pCons Sel.hc (pApp Sel.ha pNil)))

theorem k_codec_Writer_U64 {F : Nat} {p0 : T_codec_Writer} {p0b p0t : Nat} {p0a0 : Option Addr} {p0n0 p0c0 : Nat} {p0B0 : List Blk} {p1 : Int} {r0 : T_codec_Writer} (p0N0 : p0n0 = p0.b.length) (p0V0 : Own 5 1 p0a0 p0n0 p0c0 (flat (e1 .u8) p0.b) p0B0) (h : m_codec_Writer_U64 F p0 p1 = some r0) :
    SpD Try.prog 35 [.pointer (some ⟨p0b, 0, none⟩), .int .u64 p1] (⟨p0b, [.slice p0a0 p0n0 p0c0], p0t, (0, 0)⟩ :: (p0B0 ++ [])) (fun w => True) (fun v D => ∃ (r0a0 : Option Addr) (r0n0 r0c0 : Nat) (r0B0 : List Blk), r0n0 = r0.b.length ∧ Own 5 1 r0a0 r0n0 r0c0 (flat (e1 .u8) r0.b) r0B0 ∧ v = .tuple #[] ∧ D = fun F => (⟨p0b, [.slice r0a0 r0n0 r0c0], p0t, (0, 0)⟩ :: (r0B0 ++ F))) := by
  unfold m_codec_Writer_U64 at h
  refine sp_of_wc Try.func35 rfl Try.ntmps35 rfl rfl (fun w0 hR => ?_)
  refine wc_region ?_
  refine wl_pure tt_ok rfl rfl ?_
  refine wl_pure tt_ok rfl rfl ?_
  replace h := bsome h; obtain ⟨o6_0, x6, h⟩ := h
  refine wl_cs Try.call51 rfl rfl rfl (s_sp (k_codec_put_uint64 (p0 := p0) p0N0 p0V0 x6) (pCons Sel.hc (pApp Sel.ha pNil)) (fun _ _ => trivial)) rfl ?_
  rintro _ _ ⟨_, ⟨o6_0a0, o6_0n0, o6_0c0, o6_0B0, o6_0N0, o6_0V0, rfl, rfl⟩, rfl⟩
  refine wl_nil ?_
  simp only [Option.some.injEq] at h
  obtain rfl := h
  exact wx_spD tt_ok (.inr rfl) Try.results35 Res.nil ⟨o6_0a0, o6_0n0, o6_0c0, o6_0B0, o6_0N0, o6_0V0, rfl, rfl⟩ (fun F => by simp) (pSub (pCons Sel.hc (pApp Sel.ha pNil)))

theorem k_codec_Reader_I32 {F : Nat} {p0 : T_codec_Reader} {p0b p0t : Nat} {r0 : T_codec_Reader} {r1 : Int} (h : m_codec_Reader_I32 F p0 = some (r0, r1)) :
    SpD Try.prog 19 [.pointer (some ⟨p0b, 0, none⟩)] (⟨p0b, [.string ⟨p0.left.s.toArray⟩, .int .i64 p0.left.e], p0t, (0, 0)⟩ :: []) (fun w => True) (fun v D => v = .int .i32 r1 ∧ D = fun F => (⟨p0b, [.string ⟨r0.left.s.toArray⟩, .int .i64 r0.left.e], p0t, (0, 0)⟩ :: F)) := by
  unfold m_codec_Reader_I32 at h
  refine sp_of_wc Try.func19 rfl Try.ntmps19 rfl rfl (fun w0 hR => ?_)
  refine wc_seq ?_
  refine wc_region ?_
  refine wl_pure tt_ok rfl rfl ?_
  refine wl_nil ?_
  refine wx_then ?_
  refine wc_seq ?_
  refine wc_region ?_
  refine wl_pure tt_ok rfl rfl ?_
  replace h := bsome h; obtain ⟨⟨o4_0, v4⟩, x4, h⟩ := h; try dsimp only at h
  refine wl_cs Try.call44 rfl rfl rfl (s_sp (k_codec_get_uint32 x4) (pCons Sel.hc pNil) (fun _ _ => trivial)) rfl ?_
  rintro _ _ ⟨_, ⟨rfl, rfl⟩, rfl⟩
  refine wl_pure (v := .int .i32 (IntKind.wrap .i32 v4)) tt_ok rfl rfl ?_
  refine wl_pure tt_ok rfl rfl ?_
  refine wl_nil ?_
  refine wx_then ?_
  refine wc_ret ?_
  simp only [Option.some.injEq, Prod.mk.injEq] at h
  obtain ⟨rfl, rfl⟩ := h
  exact wx_spD tt_ok (.inl rfl) Try.results19 (Res.tmp rfl Res.nil) ⟨rfl, rfl⟩ (fun F => by simp) (pSub (pCons Sel.hc pNil))

theorem k_codec_Reader_Text {F : Nat} {p0 : T_codec_Reader} {p0b p0t : Nat} {r0 : T_codec_Reader} {r1 : (List UInt8)} (h : m_codec_Reader_Text F p0 = some (r0, r1)) :
    SpD Try.prog 22 [.pointer (some ⟨p0b, 0, none⟩)] (⟨p0b, [.string ⟨p0.left.s.toArray⟩, .int .i64 p0.left.e], p0t, (0, 0)⟩ :: []) (fun w => True) (fun v D => v = .string ⟨r1.toArray⟩ ∧ D = fun F => (⟨p0b, [.string ⟨r0.left.s.toArray⟩, .int .i64 r0.left.e], p0t, (0, 0)⟩ :: F)) := by
  unfold m_codec_Reader_Text at h
  refine sp_of_wc Try.func22 rfl Try.ntmps22 rfl rfl (fun w0 hR => ?_)
  refine wc_seq ?_
  refine wc_region ?_
  refine wl_pure tt_ok rfl rfl ?_
  refine wl_nil ?_
  refine wx_then ?_
  refine wc_seq ?_
  refine wc_region ?_
  refine wl_pure tt_ok rfl rfl ?_
  replace h := bsome h; obtain ⟨⟨o7_0, v7⟩, x7, h⟩ := h; try dsimp only at h
  refine wl_cs Try.call20 rfl rfl rfl (s_sp (k_codec_Reader_Var x7) (pCons Sel.hc pNil) (fun _ _ => trivial)) rfl ?_
  rintro _ _ ⟨_, ⟨rfl, rfl⟩, rfl⟩
  refine wl_pure tt_ok rfl rfl ?_
  refine wl_nil ?_
  refine wx_then ?_
  refine wc_seq ?_
  refine wc_seq ?_
  refine wc_region ?_
  refine wl_pure tt_ok rfl rfl ?_
  refine wl_pure (v := .bool false) tt_ok rfl rfl ?_
  refine wl_pure tt_ok rfl rfl ?_
  refine wl_run rfl ?_
  refine wl_pure tt_ok rfl rfl ?_
  refine wl_run rfl ?_
  refine wl_pure tt_ok rfl rfl ?_
  refine wl_run rfl ?_
  refine wl_pure (v := .pointer (some ⟨p0b, 0, none⟩)) tt_ok rfl rfl ?_
  refine wl_run rfl ?_
  refine wl_pure (v := .pointer (some ⟨p0b, 1, none⟩)) tt_ok rfl rfl ?_
  refine wl_run rfl ?_
  refine wl_val (v := .int .i64 o7_0.left.e) (val_load tt_ok rfl (List.Mem.head _) rfl) rfl ?_
  refine wl_run rfl ?_
  refine wl_pure (v := .bool (o7_0.left.e != (0 : Int))) tt_ok rfl rfl ?_
  refine wl_pure (v := .bool (o7_0.left.e != (0 : Int))) tt_ok rfl rfl ?_
  refine wl_nil ?_
  refine wx_then ?_
  refine wc_cond rfl (fun hc => ?_) (fun hc => ?_)
  · replace h := ct hc h
    refine wc_seq ?_
    refine wc_region ?_
    refine wl_pure tt_ok rfl rfl ?_
    refine wl_nil ?_
    refine wx_then ?_
    refine wc_ret ?_
    refine wx_then_ret ?_
    simp only [Option.some.injEq, Prod.mk.injEq] at h
    obtain ⟨rfl, rfl⟩ := h
    exact wx_spD tt_ok (.inl rfl) Try.results22 (Res.tmp rfl Res.nil) ⟨rfl, rfl⟩ (fun F => by simp) (pSub (pCons Sel.hc pNil))
  replace h := cf hc h
  refine wc_skip ?_
  refine wx_then ?_
  refine wc_seq ?_
  refine wc_region ?_
  refine wl_pure tt_ok rfl rfl ?_
  refine wl_pure tt_ok rfl rfl ?_
  refine wl_pure (v := .pointer (some ⟨p0b, 0, none⟩)) tt_ok rfl rfl ?_
  refine wl_pure tt_ok rfl rfl ?_
  replace h := bsome h; obtain ⟨⟨o23_0, v23_0, v23_1⟩, x23, h⟩ := h; try dsimp only at h
  refine wl_cs Try.call46 rfl rfl rfl (s_sp (k_codec_left_take x23) (pCons Sel.hc pNil) (fun _ _ => trivial)) rfl ?_
  rintro _ _ ⟨_, ⟨rfl, rfl⟩, rfl⟩
  refine wl_pure tt_ok rfl rfl ?_
  refine wl_pure tt_ok rfl rfl ?_
  refine wl_pure tt_ok rfl rfl ?_
  refine wl_pure tt_ok rfl rfl ?_
  refine wl_pure tt_ok rfl rfl ?_
  refine wl_nil ?_
  refine wx_then ?_
  refine wc_seq ?_
  refine wc_region ?_
  refine wl_pure tt_ok rfl rfl ?_
  refine wl_pure tt_ok rfl rfl ?_
  refine wl_nil ?_
  refine wx_then ?_
  refine wc_ret ?_
  simp only [Option.some.injEq, Prod.mk.injEq] at h
  obtain ⟨rfl, rfl⟩ := h
  exact wx_spD tt_ok (.inl rfl) Try.results22 (Res.tmp rfl Res.nil) ⟨rfl, rfl⟩ (fun F => by simp) (pSub (pCons Sel.hc pNil))

theorem k_codec_Writer_Text {F : Nat} {p0 : T_codec_Writer} {p0b p0t : Nat} {p0a0 : Option Addr} {p0n0 p0c0 : Nat} {p0B0 : List Blk} {p1 : (List UInt8)} {r0 : T_codec_Writer} (p0N0 : p0n0 = p0.b.length) (p0V0 : Own 5 1 p0a0 p0n0 p0c0 (flat (e1 .u8) p0.b) p0B0) (h : m_codec_Writer_Text F p0 p1 = some r0) :
    SpD Try.prog 30 [.pointer (some ⟨p0b, 0, none⟩), .string ⟨p1.toArray⟩] (⟨p0b, [.slice p0a0 p0n0 p0c0], p0t, (0, 0)⟩ :: (p0B0 ++ [])) (fun w => True) (fun v D => ∃ (r0a0 : Option Addr) (r0n0 r0c0 : Nat) (r0B0 : List Blk), r0n0 = r0.b.length ∧ Own 5 1 r0a0 r0n0 r0c0 (flat (e1 .u8) r0.b) r0B0 ∧ v = .tuple #[] ∧ D = fun F => (⟨p0b, [.slice r0a0 r0n0 r0c0], p0t, (0, 0)⟩ :: (r0B0 ++ F))) := by
  unfold m_codec_Writer_Text at h
  refine sp_of_wc Try.func30 rfl Try.ntmps30 rfl rfl (fun w0 hR => ?_)
  refine wc_seq ?_
  refine wc_region ?_
  refine wl_pure tt_ok rfl rfl ?_
  refine wl_pure tt_ok rfl rfl ?_
  refine wl_pure (v := .int .i64 (p1.length : Int)) tt_ok rfl rfl ?_
  refine wl_pure (v := .int .u64 (IntKind.wrap .u64 (p1.length : Int))) tt_ok rfl rfl ?_
  replace h := bsome h; obtain ⟨o8_0, x8, h⟩ := h
  refine wl_cs Try.call37 rfl rfl rfl (s_sp (k_codec_Writer_Var (p0 := p0) p0N0 p0V0 x8) (pCons Sel.hc (pApp Sel.ha pNil)) (fun _ _ => trivial)) rfl ?_
  rintro _ _ ⟨_, ⟨o8_0a0, o8_0n0, o8_0c0, o8_0B0, o8_0N0, o8_0V0, rfl, rfl⟩, rfl⟩
  refine wl_nil ?_
  refine wx_then ?_
  refine wc_seq ?_
  refine wc_region ?_
  refine wl_pure tt_ok rfl rfl ?_
  refine wl_pure (v := .bool true) tt_ok rfl rfl ?_
  refine wl_nil ?_
  refine wx_then ?_
  refine wc_cond_true rfl ?_
  refine wc_region ?_
  refine wl_pure tt_ok rfl rfl ?_
  refine wl_pure tt_ok rfl rfl ?_
  refine wl_pure tt_ok rfl rfl ?_
  refine wl_pure (v := .pointer (some ⟨p0b, 0, none⟩)) tt_ok rfl rfl ?_
  refine wl_val (v := .slice o8_0a0 o8_0n0 o8_0c0) (val_load tt_ok rfl (List.Mem.head _) rfl) rfl ?_
  refine wl_pure tt_ok rfl rfl ?_
  replace h := bsome h; obtain ⟨v17, x17, h⟩ := h
  refine wl_chg (chg_apps tt_ok rfl rfl rfl rfl rfl rfl rfl o8_0N0 o8_0V0 (Sel.sc Sel.ha) x17) rfl ?_
  rintro _ _ ⟨a17, n17_, c17, B17, rfl, N17, V17, rfl⟩
  refine wl_pure tt_ok rfl rfl ?_
  refine wl_pure (v := .pointer (some ⟨p0b, 0, none⟩)) tt_ok rfl rfl ?_
  apply wl_store tt_ok; rfl; exact (Upd.right Upd.here); rfl; rfl; rfl; rfl; rfl; rfl
  refine wl_nil ?_
  simp only [Option.some.injEq] at h
  obtain rfl := h
  exact wx_spD tt_ok (.inr rfl) Try.results30 Res.nil ⟨a17, n17_, c17, B17, N17, V17, rfl, rfl⟩ (fun F => by simp) (pSub (pCons (Sel.sa Sel.hc) (pApp Sel.ha pNil)))

theorem k_hindcastlaw02_CodecOne {F : Nat} {p0 : (List UInt8)} {p1 : (List Int)} {p1a0 : Option Addr} {p1n0 p1c0 : Nat} {r0 : Bool} (p1N0 : p1n0 = p1.length) (p1H0 : p1n0 ≤ p1c0) (h : m_hindcastlaw02_CodecOne F p0 p1 = some r0) :
    Pf Try.prog 7 [.string ⟨p0.toArray⟩, .slice p1a0 p1n0 p1c0] (fun w => Rds w [] [] p1a0 (flat (e1 .u8) p1)) (.bool r0) := by
  unfold m_hindcastlaw02_CodecOne at h
  refine pf_of_wc Try.func7 rfl Try.ntmps7 rfl rfl (fun w0 hR => ?_)
  have p1S0 := hR
  refine wc_seq ?_
  refine wc_region ?_
  refine wl_pure tt_ok rfl rfl ?_
  refine wl_nil ?_
  refine wx_then ?_
  refine wc_seq ?_
  refine wc_seq ?_
  refine wc_region ?_
  refine wl_pure tt_ok rfl rfl ?_
  refine wl_pure (v := .int .i64 (p0.length : Int)) tt_ok rfl rfl ?_
  refine wl_pure (v := .bool (decide ((1000 : Int) < (p0.length : Int)))) tt_ok rfl rfl ?_
  refine wl_pure tt_ok rfl rfl ?_
  replace h := bsome h; obtain ⟨v16, h, hg16⟩ := h
  refine wl_split (t := 12) rfl (fun hc => ?_) (fun hc => ?_)
  · replace h := ct hc h
    refine wl_skip rfl rfl ?_
    refine wl_skip rfl rfl ?_
    refine wl_skip rfl rfl ?_
    simp only [Option.some.injEq, Prod.mk.injEq] at h
    obtain rfl := h
    have h := hg16; clear hg16
    refine wl_pure (v := .bool true) tt_ok rfl rfl ?_
    refine wl_nil ?_
    refine wx_then ?_
    replace h := ct rfl h
    refine wc_cond_true rfl ?_
    refine wc_seq ?_
    refine wc_region ?_
    replace h := bsome h; obtain ⟨v17, x17, h⟩ := h
    refine wl_cq Try.call9 rfl rfl rfl (q_pf (k_hindcastlaw02_works x17) (fun _ _ => trivial)) rfl ?_
    refine wl_pure tt_ok rfl rfl ?_
    refine wl_nil ?_
    refine wx_then ?_
    refine wc_ret ?_
    refine wx_then_ret ?_
    simp only [Option.some.injEq] at h
    obtain rfl := h
    exact wx_pf tt_ok (.inl rfl) Try.results7 (Res.tmp rfl Res.nil) rfl
  replace h := cf hc h
  refine wl_run rfl ?_
  refine wl_pure tt_ok rfl rfl ?_
  refine wl_run rfl ?_
  refine wl_val (v := .int .i64 (p1.length : Int)) (val_len tt_ok rfl rfl p1N0) rfl ?_
  refine wl_run rfl ?_
  refine wl_pure (v := .bool (decide ((60 : Int) < (p1.length : Int)))) tt_ok rfl rfl ?_
  simp only [Option.some.injEq, Prod.mk.injEq] at h
  obtain rfl := h
  have h := hg16; clear hg16
  refine wl_pure (v := .bool (decide ((60 : Int) < (p1.length : Int)))) tt_ok rfl rfl ?_
  refine wl_nil ?_
  refine wx_then ?_
  refine wc_cond rfl (fun hc => ?_) (fun hc => ?_)
  · replace h := ct hc h
    refine wc_seq ?_
    refine wc_region ?_
    replace h := bsome h; obtain ⟨v17, x17, h⟩ := h
    refine wl_cq Try.call9 rfl rfl rfl (q_pf (k_hindcastlaw02_works x17) (fun _ _ => trivial)) rfl ?_
    refine wl_pure tt_ok rfl rfl ?_
    refine wl_nil ?_
    refine wx_then ?_
    refine wc_ret ?_
    refine wx_then_ret ?_
    simp only [Option.some.injEq] at h
    obtain rfl := h
    exact wx_pf tt_ok (.inl rfl) Try.results7 (Res.tmp rfl Res.nil) rfl
  replace h := cf hc h
  refine wc_skip ?_
  refine wx_then ?_
  refine wc_seq ?_
  refine wc_region ?_
  refine wl_pure tt_ok rfl rfl ?_
  replace h := bsome h; obtain ⟨v19, x19, h⟩ := h
  refine wl_cs Try.call13 rfl rfl rfl (s_sp (k_codec_New x19) pNil (fun _ _ => trivial)) rfl ?_
  rintro _ _ ⟨_, ⟨b19_0, rfl, rfl⟩, rfl⟩
  refine wl_pure tt_ok rfl rfl ?_
  refine wl_nil ?_
  refine wx_then ?_
  refine wc_seq ?_
  refine wc_seq ?_
  refine wc_region ?_
  refine wl_pure tt_ok rfl rfl ?_
  refine wl_pure (v := .bool false) tt_ok rfl rfl ?_
  refine wl_nil ?_
  refine wx_then ?_
  refine wc_cond_false rfl ?_
  refine wc_skip ?_
  refine wx_then ?_
  refine wc_seq ?_
  refine wc_region ?_
  refine wl_pure (v := .agg #[.slice none 0 0]) tt_ok rfl rfl ?_
  refine wl_box rfl rfl rfl (fun b23 => ?_)
  refine wl_pure tt_ok rfl rfl ?_
  refine wl_nil ?_
  refine wx_then ?_
  refine wc_seq ?_
  refine wc_seq ?_
  refine wc_region ?_
  refine wl_pure tt_ok rfl rfl ?_
  refine wl_nil ?_
  refine wx_then ?_
  refine wc_block ?_
  replace h := bsome h; obtain ⟨o27, h, hl27⟩ := h
  refine wc_loop (fun m E L => ∃ (j27_7 : Int) (j27_n19_0 : T_codec_Reader) (j27_n23_f0 : (List Int)) (j27_n23_f0a0 : Option Addr) (j27_n23_f0n0 : Nat) (j27_n23_f0c0 : Nat) (j27_n23_f0B0 : List Blk), m_hindcastlaw02_CodecOne_L26 F p0 p1 m j27_7 j27_n19_0 j27_n23_f0 = some o27 ∧ j27_n23_f0n0 = j27_n23_f0.length ∧ Own 5 1 j27_n23_f0a0 j27_n23_f0n0 j27_n23_f0c0 (flat (e1 .u8) j27_n23_f0) j27_n23_f0B0 ∧ E = [(0, .string ⟨p0.toArray⟩), (1, .slice p1a0 p1n0 p1c0), (4, .bool false), (5, .pointer (some ⟨b19_0, 0, none⟩)), (6, .pointer (some ⟨b23, 0, none⟩)), (7, .int .i64 j27_7)] ∧ L = (⟨b19_0, [.string ⟨j27_n19_0.left.s.toArray⟩, .int .i64 j27_n19_0.left.e], 67, (0, 0)⟩ :: (⟨b23, [.slice j27_n23_f0a0 j27_n23_f0n0 j27_n23_f0c0], 28, (0, 0)⟩ :: (j27_n23_f0B0 ++ [])))) F ⟨(0 : Int), v19, ([] : List Int), none, 0, 0, [], h, rfl, Own.zero, rfl, rfl⟩ (agree_cons rfl (agree_cons rfl (agree_cons rfl (agree_cons rfl (agree_cons rfl (agree_cons rfl agree_nil)))))) (pSub (pCons (Sel.sc Sel.hc) (pCons Sel.hc (pNo pNil)))) ?_
  clear h
  rintro m27 _ _ ⟨j27_7, j27_n19_0, j27_n23_f0, j27_n23_f0a0, j27_n23_f0n0, j27_n23_f0c0, j27_n23_f0B0, h, j27_n23_f0N0, j27_n23_f0V0, rfl, rfl⟩
  rcases m27 with _ | m27
  · rw [m_hindcastlaw02_CodecOne_L26.eq_1] at h; cases h
  rw [m_hindcastlaw02_CodecOne_L26.eq_2] at h
  refine wc_seq ?_
  refine wc_seq ?_
  refine wc_region ?_
  refine wl_pure tt_ok rfl rfl ?_
  refine wl_pure tt_ok rfl rfl ?_
  refine wl_val (v := .int .i64 (p1.length : Int)) (val_len tt_ok rfl rfl p1N0) rfl ?_
  refine wl_pure (v := .bool (decide (j27_7 < (p1.length : Int)))) tt_ok rfl rfl ?_
  refine wl_nil ?_
  refine wx_then ?_
  refine wc_cond rfl (fun hc => ?_) (fun hc => ?_)
  · replace h := ct hc h
    refine wc_skip ?_
    refine wx_then ?_
    refine wc_seq ?_
    refine wc_block ?_
    refine wc_seq ?_
    refine wc_region ?_
    refine wl_pure tt_ok rfl rfl ?_
    replace h := bsome h; obtain ⟨v31, x31, h⟩ := h
    refine wl_cq Try.call12 rfl rfl rfl (q_rd (k_codec_Writer_Bytes (p0 := (T_codec_Writer.mk j27_n23_f0)) j27_n23_f0N0 j27_n23_f0V0 x31) (pCons (Sel.sc Sel.hc) (pApp (Sel.sc Sel.ha) pNil)) (fun _ _ => trivial)) rfl ?_
    refine wl_pure tt_ok rfl rfl ?_
    refine wl_nil ?_
    refine wx_then ?_
    refine wc_seq ?_
    refine wc_seq ?_
    refine wc_region ?_
    refine wl_pure tt_ok rfl rfl ?_
    refine wl_pure tt_ok rfl rfl ?_
    replace h := bsome h; obtain ⟨v34, x34, h⟩ := h
    refine wl_val (v := .pointer (some ((adOf p1a0).add (j27_7.toNat * 1 + 0)))) (val_ix (enc := (e1 .u8)) tt_ok rfl rfl rfl rfl p1N0 p1S0 (e1_len _) rfl x34) rfl ?_
    refine wl_val (v := .int .u8 v34) (val_le (enc := (e1 .u8)) (xs := p1) tt_ok rfl p1S0 rsub_nil (e1_len _) x34 rfl) rfl ?_
    refine wl_pure (v := .int .u8 (Int.tmod v34 7)) tt_ok rfl rfl ?_
    refine wl_nil ?_
    refine wx_then ?_
    replace h := bsome h; obtain ⟨⟨j41_n19_0, j41_n23_f0⟩, h, hj41⟩ := h; try dsimp only at hj41
    refine wc_join2 (fun E L => ∃ (j41_n23_f0a0 : Option Addr) (j41_n23_f0n0 : Nat) (j41_n23_f0c0 : Nat) (j41_n23_f0B0 : List Blk), j41_n23_f0n0 = j41_n23_f0.length ∧ Own 5 1 j41_n23_f0a0 j41_n23_f0n0 j41_n23_f0c0 (flat (e1 .u8) j41_n23_f0) j41_n23_f0B0 ∧ E = [(0, .string ⟨p0.toArray⟩), (1, .slice p1a0 p1n0 p1c0), (4, .bool false), (5, .pointer (some ⟨b19_0, 0, none⟩)), (6, .pointer (some ⟨b23, 0, none⟩)), (7, .int .i64 j27_7), (8, .string ⟨v31.toArray⟩)] ∧ L = (⟨b19_0, [.string ⟨j41_n19_0.left.s.toArray⟩, .int .i64 j41_n19_0.left.e], 67, (0, 0)⟩ :: (⟨b23, [.slice j41_n23_f0a0 j41_n23_f0n0 j41_n23_f0c0], 28, (0, 0)⟩ :: (j41_n23_f0B0 ++ [])))) ?_ ?_
    · refine wc_block ?_
      refine wc_seq ?_
      refine wc_region ?_
      refine wl_pure (v := .bool ((Int.tmod v34 7) == (0 : Int))) tt_ok rfl rfl ?_
      refine wl_pure tt_ok rfl rfl ?_
      refine wl_nil ?_
      refine wx_then ?_
      refine wc_cond rfl (fun hc => ?_) (fun hc => ?_)
      · replace h := ct hc h
        refine wc_region ?_
        refine wl_pure tt_ok rfl rfl ?_
        refine wl_pure tt_ok rfl rfl ?_
        replace h := bsome h; obtain ⟨⟨o45_0, v45⟩, x45, h⟩ := h; try dsimp only at h
        refine wl_cs Try.call14 rfl rfl rfl (s_sp (k_codec_Reader_U8 x45) (pCons Sel.hc pNil) (fun _ _ => trivial)) rfl ?_
        rintro _ _ ⟨_, ⟨rfl, rfl⟩, rfl⟩
        replace h := bsome h; obtain ⟨o46_0, x46, h⟩ := h
        refine wl_cs Try.call31 rfl rfl rfl (s_sp (k_codec_Writer_U8 (p0 := (T_codec_Writer.mk j27_n23_f0)) j27_n23_f0N0 j27_n23_f0V0 x46) (pCons (Sel.sc Sel.hc) (pApp (Sel.sc Sel.ha) pNil)) (fun _ _ => trivial)) rfl ?_
        rintro _ _ ⟨_, ⟨o46_0a0, o46_0n0, o46_0c0, o46_0B0, o46_0N0, o46_0V0, rfl, rfl⟩, rfl⟩
        refine wl_nil ?_
        refine wx_block ?_
        simp only [Option.some.injEq, Prod.mk.injEq] at h
        obtain ⟨rfl, rfl⟩ := h
        exact wx_join ⟨o46_0a0, o46_0n0, o46_0c0, o46_0B0, o46_0N0, o46_0V0, rfl, rfl⟩ (agree_cons rfl (agree_cons rfl (agree_cons rfl (agree_cons rfl (agree_cons rfl (agree_cons rfl (agree_cons rfl agree_nil))))))) (pSub (pCons (Sel.sc (Sel.sa Sel.hc)) (pCons Sel.hc (pApp Sel.ha pNil))))
      replace h := cf hc h
      refine wc_seq ?_
      refine wc_region ?_
      refine wl_pure (v := .bool ((Int.tmod v34 7) == (1 : Int))) tt_ok rfl rfl ?_
      refine wl_pure tt_ok rfl rfl ?_
      refine wl_nil ?_
      refine wx_then ?_
      refine wc_cond rfl (fun hc => ?_) (fun hc => ?_)
      · replace h := ct hc h
        refine wc_region ?_
        refine wl_pure tt_ok rfl rfl ?_
        refine wl_pure tt_ok rfl rfl ?_
        replace h := bsome h; obtain ⟨⟨o51_0, v51⟩, x51, h⟩ := h; try dsimp only at h
        refine wl_cs Try.call16 rfl rfl rfl (s_sp (k_codec_Reader_U16 x51) (pCons Sel.hc pNil) (fun _ _ => trivial)) rfl ?_
        rintro _ _ ⟨_, ⟨rfl, rfl⟩, rfl⟩
        replace h := bsome h; obtain ⟨o52_0, x52, h⟩ := h
        refine wl_cs Try.call33 rfl rfl rfl (s_sp (k_codec_Writer_U16 (p0 := (T_codec_Writer.mk j27_n23_f0)) j27_n23_f0N0 j27_n23_f0V0 x52) (pCons (Sel.sc Sel.hc) (pApp (Sel.sc Sel.ha) pNil)) (fun _ _ => trivial)) rfl ?_
        rintro _ _ ⟨_, ⟨o52_0a0, o52_0n0, o52_0c0, o52_0B0, o52_0N0, o52_0V0, rfl, rfl⟩, rfl⟩
        refine wl_nil ?_
        refine wx_block ?_
        simp only [Option.some.injEq, Prod.mk.injEq] at h
        obtain ⟨rfl, rfl⟩ := h
        exact wx_join ⟨o52_0a0, o52_0n0, o52_0c0, o52_0B0, o52_0N0, o52_0V0, rfl, rfl⟩ (agree_cons rfl (agree_cons rfl (agree_cons rfl (agree_cons rfl (agree_cons rfl (agree_cons rfl (agree_cons rfl agree_nil))))))) (pSub (pCons (Sel.sc (Sel.sa Sel.hc)) (pCons Sel.hc (pApp Sel.ha pNil))))
      replace h := cf hc h
      refine wc_seq ?_
      refine wc_region ?_
      refine wl_pure (v := .bool ((Int.tmod v34 7) == (2 : Int))) tt_ok rfl rfl ?_
      refine wl_pure tt_ok rfl rfl ?_
      refine wl_nil ?_
      refine wx_then ?_
      refine wc_cond rfl (fun hc => ?_) (fun hc => ?_)
      · replace h := ct hc h
        refine wc_region ?_
        refine wl_pure tt_ok rfl rfl ?_
        refine wl_pure tt_ok rfl rfl ?_
        replace h := bsome h; obtain ⟨⟨o57_0, v57⟩, x57, h⟩ := h; try dsimp only at h
        refine wl_cs Try.call17 rfl rfl rfl (s_sp (k_codec_Reader_U32 x57) (pCons Sel.hc pNil) (fun _ _ => trivial)) rfl ?_
        rintro _ _ ⟨_, ⟨rfl, rfl⟩, rfl⟩
        replace h := bsome h; obtain ⟨o58_0, x58, h⟩ := h
        refine wl_cs Try.call34 rfl rfl rfl (s_sp (k_codec_Writer_U32 (p0 := (T_codec_Writer.mk j27_n23_f0)) j27_n23_f0N0 j27_n23_f0V0 x58) (pCons (Sel.sc Sel.hc) (pApp (Sel.sc Sel.ha) pNil)) (fun _ _ => trivial)) rfl ?_
        rintro _ _ ⟨_, ⟨o58_0a0, o58_0n0, o58_0c0, o58_0B0, o58_0N0, o58_0V0, rfl, rfl⟩, rfl⟩
        refine wl_nil ?_
        refine wx_block ?_
        simp only [Option.some.injEq, Prod.mk.injEq] at h
        obtain ⟨rfl, rfl⟩ := h
        exact wx_join ⟨o58_0a0, o58_0n0, o58_0c0, o58_0B0, o58_0N0, o58_0V0, rfl, rfl⟩ (agree_cons rfl (agree_cons rfl (agree_cons rfl (agree_cons rfl (agree_cons rfl (agree_cons rfl (agree_cons rfl agree_nil))))))) (pSub (pCons (Sel.sc (Sel.sa Sel.hc)) (pCons Sel.hc (pApp Sel.ha pNil))))
      replace h := cf hc h
      refine wc_seq ?_
      refine wc_region ?_
      refine wl_pure (v := .bool ((Int.tmod v34 7) == (3 : Int))) tt_ok rfl rfl ?_
      refine wl_pure tt_ok rfl rfl ?_
      refine wl_nil ?_
      refine wx_then ?_
      refine wc_cond rfl (fun hc => ?_) (fun hc => ?_)
      · replace h := ct hc h
        refine wc_region ?_
        refine wl_pure tt_ok rfl rfl ?_
        refine wl_pure tt_ok rfl rfl ?_
        replace h := bsome h; obtain ⟨⟨o63_0, v63⟩, x63, h⟩ := h; try dsimp only at h
        refine wl_cs Try.call18 rfl rfl rfl (s_sp (k_codec_Reader_U64 x63) (pCons Sel.hc pNil) (fun _ _ => trivial)) rfl ?_
        rintro _ _ ⟨_, ⟨rfl, rfl⟩, rfl⟩
        replace h := bsome h; obtain ⟨o64_0, x64, h⟩ := h
        refine wl_cs Try.call35 rfl rfl rfl (s_sp (k_codec_Writer_U64 (p0 := (T_codec_Writer.mk j27_n23_f0)) j27_n23_f0N0 j27_n23_f0V0 x64) (pCons (Sel.sc Sel.hc) (pApp (Sel.sc Sel.ha) pNil)) (fun _ _ => trivial)) rfl ?_
        rintro _ _ ⟨_, ⟨o64_0a0, o64_0n0, o64_0c0, o64_0B0, o64_0N0, o64_0V0, rfl, rfl⟩, rfl⟩
        refine wl_nil ?_
        refine wx_block ?_
        simp only [Option.some.injEq, Prod.mk.injEq] at h
        obtain ⟨rfl, rfl⟩ := h
        exact wx_join ⟨o64_0a0, o64_0n0, o64_0c0, o64_0B0, o64_0N0, o64_0V0, rfl, rfl⟩ (agree_cons rfl (agree_cons rfl (agree_cons rfl (agree_cons rfl (agree_cons rfl (agree_cons rfl (agree_cons rfl agree_nil))))))) (pSub (pCons (Sel.sc (Sel.sa Sel.hc)) (pCons Sel.hc (pApp Sel.ha pNil))))
      replace h := cf hc h
      refine wc_seq ?_
      refine wc_region ?_
      refine wl_pure (v := .bool ((Int.tmod v34 7) == (4 : Int))) tt_ok rfl rfl ?_
      refine wl_pure tt_ok rfl rfl ?_
      refine wl_nil ?_
      refine wx_then ?_
      refine wc_cond rfl (fun hc => ?_) (fun hc => ?_)
      · replace h := ct hc h
        refine wc_region ?_
        refine wl_pure tt_ok rfl rfl ?_
        refine wl_pure tt_ok rfl rfl ?_
        replace h := bsome h; obtain ⟨⟨o69_0, v69⟩, x69, h⟩ := h; try dsimp only at h
        refine wl_cs Try.call19 rfl rfl rfl (s_sp (k_codec_Reader_I32 x69) (pCons Sel.hc pNil) (fun _ _ => trivial)) rfl ?_
        rintro _ _ ⟨_, ⟨rfl, rfl⟩, rfl⟩
        replace h := bsome h; obtain ⟨o70_0, x70, h⟩ := h
        refine wl_cs Try.call36 rfl rfl rfl (s_sp (k_codec_Writer_I32 (p0 := (T_codec_Writer.mk j27_n23_f0)) j27_n23_f0N0 j27_n23_f0V0 x70) (pCons (Sel.sc Sel.hc) (pApp (Sel.sc Sel.ha) pNil)) (fun _ _ => trivial)) rfl ?_
        rintro _ _ ⟨_, ⟨o70_0a0, o70_0n0, o70_0c0, o70_0B0, o70_0N0, o70_0V0, rfl, rfl⟩, rfl⟩
        refine wl_nil ?_
        refine wx_block ?_
        simp only [Option.some.injEq, Prod.mk.injEq] at h
        obtain ⟨rfl, rfl⟩ := h
        exact wx_join ⟨o70_0a0, o70_0n0, o70_0c0, o70_0B0, o70_0N0, o70_0V0, rfl, rfl⟩ (agree_cons rfl (agree_cons rfl (agree_cons rfl (agree_cons rfl (agree_cons rfl (agree_cons rfl (agree_cons rfl agree_nil))))))) (pSub (pCons (Sel.sc (Sel.sa Sel.hc)) (pCons Sel.hc (pApp Sel.ha pNil))))
      replace h := cf hc h
      refine wc_seq ?_
      refine wc_region ?_
      refine wl_pure (v := .bool ((Int.tmod v34 7) == (5 : Int))) tt_ok rfl rfl ?_
      refine wl_pure tt_ok rfl rfl ?_
      refine wl_nil ?_
      refine wx_then ?_
      refine wc_cond rfl (fun hc => ?_) (fun hc => ?_)
      · replace h := ct hc h
        refine wc_region ?_
        refine wl_pure tt_ok rfl rfl ?_
        refine wl_pure tt_ok rfl rfl ?_
        replace h := bsome h; obtain ⟨⟨o75_0, v75⟩, x75, h⟩ := h; try dsimp only at h
        refine wl_cs Try.call20 rfl rfl rfl (s_sp (k_codec_Reader_Var x75) (pCons Sel.hc pNil) (fun _ _ => trivial)) rfl ?_
        rintro _ _ ⟨_, ⟨rfl, rfl⟩, rfl⟩
        replace h := bsome h; obtain ⟨o76_0, x76, h⟩ := h
        refine wl_cs Try.call37 rfl rfl rfl (s_sp (k_codec_Writer_Var (p0 := (T_codec_Writer.mk j27_n23_f0)) j27_n23_f0N0 j27_n23_f0V0 x76) (pCons (Sel.sc Sel.hc) (pApp (Sel.sc Sel.ha) pNil)) (fun _ _ => trivial)) rfl ?_
        rintro _ _ ⟨_, ⟨o76_0a0, o76_0n0, o76_0c0, o76_0B0, o76_0N0, o76_0V0, rfl, rfl⟩, rfl⟩
        refine wl_nil ?_
        refine wx_block ?_
        simp only [Option.some.injEq, Prod.mk.injEq] at h
        obtain ⟨rfl, rfl⟩ := h
        exact wx_join ⟨o76_0a0, o76_0n0, o76_0c0, o76_0B0, o76_0N0, o76_0V0, rfl, rfl⟩ (agree_cons rfl (agree_cons rfl (agree_cons rfl (agree_cons rfl (agree_cons rfl (agree_cons rfl (agree_cons rfl agree_nil))))))) (pSub (pCons (Sel.sc (Sel.sa Sel.hc)) (pCons Sel.hc (pApp Sel.ha pNil))))
      replace h := cf hc h
      refine wc_region ?_
      refine wl_pure tt_ok rfl rfl ?_
      refine wl_pure tt_ok rfl rfl ?_
      replace h := bsome h; obtain ⟨⟨o39_0, v39⟩, x39, h⟩ := h; try dsimp only at h
      refine wl_cs Try.call22 rfl rfl rfl (s_sp (k_codec_Reader_Text x39) (pCons Sel.hc pNil) (fun _ _ => trivial)) rfl ?_
      rintro _ _ ⟨_, ⟨rfl, rfl⟩, rfl⟩
      replace h := bsome h; obtain ⟨o40_0, x40, h⟩ := h
      refine wl_cs Try.call30 rfl rfl rfl (s_sp (k_codec_Writer_Text (p0 := (T_codec_Writer.mk j27_n23_f0)) j27_n23_f0N0 j27_n23_f0V0 x40) (pCons (Sel.sc Sel.hc) (pApp (Sel.sc Sel.ha) pNil)) (fun _ _ => trivial)) rfl ?_
      rintro _ _ ⟨_, ⟨o40_0a0, o40_0n0, o40_0c0, o40_0B0, o40_0N0, o40_0V0, rfl, rfl⟩, rfl⟩
      refine wl_nil ?_
      refine wx_block ?_
      simp only [Option.some.injEq, Prod.mk.injEq] at h
      obtain ⟨rfl, rfl⟩ := h
      exact wx_join ⟨o40_0a0, o40_0n0, o40_0c0, o40_0B0, o40_0N0, o40_0V0, rfl, rfl⟩ (agree_cons rfl (agree_cons rfl (agree_cons rfl (agree_cons rfl (agree_cons rfl (agree_cons rfl (agree_cons rfl agree_nil))))))) (pSub (pCons (Sel.sc (Sel.sa Sel.hc)) (pCons Sel.hc (pApp Sel.ha pNil))))
    rintro _ _ ⟨j41_n23_f0a0, j41_n23_f0n0, j41_n23_f0c0, j41_n23_f0B0, j41_n23_f0N0, j41_n23_f0V0, rfl, rfl⟩
    have h := hj41; clear hj41
    refine wc_seq ?_
    refine wc_region ?_
    refine wl_pure tt_ok rfl rfl ?_
    replace h := bsome h; obtain ⟨v78, x78, h⟩ := h
    refine wl_cq Try.call24 rfl rfl rfl (q_rd (k_codec_Reader_Err x78) (pCons Sel.hc pNil) (fun _ _ => trivial)) rfl ?_
    refine wl_pure (v := .bool (v78 != (0 : Int))) tt_ok rfl rfl ?_
    refine wl_nil ?_
    refine wx_then ?_
    refine wc_cond rfl (fun hc => ?_) (fun hc => ?_)
    · replace h := ct hc h
      refine wc_seq ?_
      refine wc_region ?_
      refine wl_pure tt_ok rfl rfl ?_
      refine wl_pure (v := .int .i64 (v31.length : Int)) tt_ok rfl rfl ?_
      refine wl_pure tt_ok rfl rfl ?_
      refine wl_pure (v := .int .i64 (p0.length : Int)) tt_ok rfl rfl ?_
      refine wl_pure (v := .bool (decide ((v31.length : Int) ≤ (p0.length : Int)))) tt_ok rfl rfl ?_
      refine wl_pure tt_ok rfl rfl ?_
      replace h := bsome h; obtain ⟨v92, h, hg92⟩ := h
      refine wl_split (t := 85) rfl (fun hc => ?_) (fun hc => ?_)
      · replace h := ct hc h
        refine wl_run rfl ?_
        refine wl_pure tt_ok rfl rfl ?_
        refine wl_run rfl ?_
        refine wl_pure tt_ok rfl rfl ?_
        refine wl_run rfl ?_
        refine wl_pure tt_ok rfl rfl ?_
        refine wl_run rfl ?_
        refine wl_pure (v := .int .i64 (v31.length : Int)) tt_ok rfl rfl ?_
        replace h := bsome h; obtain ⟨v90, x90, h⟩ := h
        refine wl_run rfl ?_
        refine wl_val (v := .string ⟨v90.toArray⟩) (val_ss tt_ok rfl rfl (.inl ⟨rfl, rfl⟩) (.inr ⟨_, _, rfl, rfl⟩) x90) rfl ?_
        refine wl_run rfl ?_
        refine wl_val (v := .bool (v31 == v90)) (val_seq tt_ok rfl rfl) rfl ?_
        simp only [Option.some.injEq, Prod.mk.injEq] at h
        obtain rfl := h
        have h := hg92; clear hg92
        refine wl_pure (v := .bool (v31 == v90)) tt_ok rfl rfl ?_
        refine wl_pure tt_ok rfl rfl ?_
        replace h := bsome h; obtain ⟨v95, h, hg95⟩ := h
        refine wl_split (t := 93) rfl (fun hc => ?_) (fun hc => ?_)
        · replace h := ct hc h
          replace h := bsome h; obtain ⟨v94, x94, h⟩ := h
          refine wl_run rfl ?_
          refine wl_cq Try.call9 rfl rfl rfl (q_pf (k_hindcastlaw02_works x94) (fun _ _ => trivial)) rfl ?_
          simp only [Option.some.injEq, Prod.mk.injEq] at h
          obtain rfl := h
          have h := hg95; clear hg95
          refine wl_pure (v := .bool v94) tt_ok rfl rfl ?_
          refine wl_pure tt_ok rfl rfl ?_
          refine wl_nil ?_
          refine wx_then ?_
          refine wc_ret ?_
          refine wx_block_ret ?_
          refine wx_then_ret ?_
          obtain rfl := Option.some.inj h
          have h := hl27; clear hl27; try dsimp only [orE_l, orE_r] at h
          refine wx_then_ret ?_
          refine wx_block_ret ?_
          refine wx_then_ret ?_
          simp only [Option.some.injEq] at h
          obtain rfl := h
          exact wx_pf tt_ok (.inl rfl) Try.results7 (Res.tmp rfl Res.nil) rfl
        replace h := cf hc h
        refine wl_skip rfl rfl ?_
        simp only [Option.some.injEq, Prod.mk.injEq] at h
        obtain rfl := h
        have h := hg95; clear hg95
        refine wl_pure (v := .bool false) tt_ok rfl rfl ?_
        refine wl_pure tt_ok rfl rfl ?_
        refine wl_nil ?_
        refine wx_then ?_
        refine wc_ret ?_
        refine wx_block_ret ?_
        refine wx_then_ret ?_
        obtain rfl := Option.some.inj h
        have h := hl27; clear hl27; try dsimp only [orE_l, orE_r] at h
        refine wx_then_ret ?_
        refine wx_block_ret ?_
        refine wx_then_ret ?_
        simp only [Option.some.injEq] at h
        obtain rfl := h
        exact wx_pf tt_ok (.inl rfl) Try.results7 (Res.tmp rfl Res.nil) rfl
      replace h := cf hc h
      refine wl_skip rfl rfl ?_
      refine wl_skip rfl rfl ?_
      refine wl_skip rfl rfl ?_
      refine wl_skip rfl rfl ?_
      refine wl_skip rfl rfl ?_
      refine wl_skip rfl rfl ?_
      simp only [Option.some.injEq, Prod.mk.injEq] at h
      obtain rfl := h
      have h := hg92; clear hg92
      refine wl_pure (v := .bool false) tt_ok rfl rfl ?_
      refine wl_pure tt_ok rfl rfl ?_
      replace h := bsome h; obtain ⟨v95, h, hg95⟩ := h
      replace h := cf rfl h
      refine wl_skip rfl rfl ?_
      simp only [Option.some.injEq, Prod.mk.injEq] at h
      obtain rfl := h
      have h := hg95; clear hg95
      refine wl_pure (v := .bool false) tt_ok rfl rfl ?_
      refine wl_pure tt_ok rfl rfl ?_
      refine wl_nil ?_
      refine wx_then ?_
      refine wc_ret ?_
      refine wx_block_ret ?_
      refine wx_then_ret ?_
      obtain rfl := Option.some.inj h
      have h := hl27; clear hl27; try dsimp only [orE_l, orE_r] at h
      refine wx_then_ret ?_
      refine wx_block_ret ?_
      refine wx_then_ret ?_
      simp only [Option.some.injEq] at h
      obtain rfl := h
      exact wx_pf tt_ok (.inl rfl) Try.results7 (Res.tmp rfl Res.nil) rfl
    replace h := cf hc h
    refine wc_skip ?_
    refine wx_block ?_
    refine wx_then ?_
    refine wc_region ?_
    refine wl_pure tt_ok rfl rfl ?_
    refine wl_pure (v := .int .i64 (IntKind.wrap .i64 (j27_7 + (1 : Int)))) tt_ok rfl rfl ?_
    refine wl_pure tt_ok rfl rfl ?_
    refine wl_nil ?_
    exact wx_round m27 (Nat.lt_succ_self m27) ⟨(IntKind.wrap .i64 (j27_7 + (1 : Int))), j41_n19_0, j41_n23_f0, j41_n23_f0a0, j41_n23_f0n0, j41_n23_f0c0, j41_n23_f0B0, h, j41_n23_f0N0, j41_n23_f0V0, rfl, rfl⟩ (agree_cons rfl (agree_cons rfl (agree_cons rfl (agree_cons rfl (agree_cons rfl (agree_cons rfl agree_nil)))))) (pSub (pCons Sel.hc (pCons Sel.hc (pApp Sel.ha pNil))))
  replace h := cf hc h
  refine wc_exit ?_
  refine wx_then_exit ?_
  obtain rfl := Option.some.inj h
  have h := hl27; clear hl27; try dsimp only [orE_l, orE_r] at h
  refine wx_then_exit ?_
  refine wx_block_exit ?_
  refine wx_then ?_
  refine wc_seq ?_
  refine wc_region ?_
  refine wl_pure tt_ok rfl rfl ?_
  replace h := bsome h; obtain ⟨v97, x97, h⟩ := h
  refine wl_cq Try.call12 rfl rfl rfl (q_rd (k_codec_Writer_Bytes (p0 := (T_codec_Writer.mk j27_n23_f0)) j27_n23_f0N0 j27_n23_f0V0 x97) (pCons (Sel.sc Sel.hc) (pApp (Sel.sc Sel.ha) pNil)) (fun _ _ => trivial)) rfl ?_
  refine wl_pure tt_ok rfl rfl ?_
  replace h := bsome h; obtain ⟨v99, x99, h⟩ := h
  refine wl_cq Try.call25 rfl rfl rfl (q_rd (k_codec_Reader_Rest x99) (pCons Sel.hc pNil) (fun _ _ => trivial)) rfl ?_
  replace h := bsome h; obtain ⟨v100, x100, h⟩ := h
  refine wl_val (v := .string ⟨v100.toArray⟩) (val_cat tt_ok rfl rfl x100) rfl ?_
  refine wl_pure tt_ok rfl rfl ?_
  refine wl_val (v := .bool (v100 == p0)) (val_seq tt_ok rfl rfl) rfl ?_
  refine wl_pure tt_ok rfl rfl ?_
  replace h := bsome h; obtain ⟨v105, h, hg105⟩ := h
  refine wl_split (t := 103) rfl (fun hc => ?_) (fun hc => ?_)
  · replace h := ct hc h
    replace h := bsome h; obtain ⟨v104, x104, h⟩ := h
    refine wl_run rfl ?_
    refine wl_cq Try.call9 rfl rfl rfl (q_pf (k_hindcastlaw02_works x104) (fun _ _ => trivial)) rfl ?_
    simp only [Option.some.injEq, Prod.mk.injEq] at h
    obtain rfl := h
    have h := hg105; clear hg105
    refine wl_pure (v := .bool v104) tt_ok rfl rfl ?_
    refine wl_pure tt_ok rfl rfl ?_
    refine wl_nil ?_
    refine wx_then ?_
    refine wc_ret ?_
    simp only [Option.some.injEq] at h
    obtain rfl := h
    exact wx_pf tt_ok (.inl rfl) Try.results7 (Res.tmp rfl Res.nil) rfl
  replace h := cf hc h
  refine wl_skip rfl rfl ?_
  simp only [Option.some.injEq, Prod.mk.injEq] at h
  obtain rfl := h
  have h := hg105; clear hg105
  refine wl_pure (v := .bool false) tt_ok rfl rfl ?_
  refine wl_pure tt_ok rfl rfl ?_
  refine wl_nil ?_
  refine wx_then ?_
  refine wc_ret ?_
  simp only [Option.some.injEq] at h
  obtain rfl := h
  exact wx_pf tt_ok (.inl rfl) Try.results7 (Res.tmp rfl Res.nil) rfl

end Go.Proofs.Ytpcaiefefanpoaa
