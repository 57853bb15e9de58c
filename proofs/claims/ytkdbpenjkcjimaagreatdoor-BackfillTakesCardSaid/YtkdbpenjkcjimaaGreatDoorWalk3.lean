/-
  Each function computes what its model says. Printed by a program of this claim's own.
-/
import Derived.Test.YtkdbpenjkcjimaaGreatDoorTab
import Derived.Test.YtkdbpenjkcjimaaGreatDoorMod
import Derived.Test.YtkdbpenjkcjimaaGreatDoorWalk2
namespace Go.Proofs.YtkdbpenjkcjimaaGreatDoor
open Go.Proofs.YtkdbpenjkcjimaaGreatDoor.Eng
set_option linter.unusedVariables false
set_option linter.unusedSimpArgs false
set_option maxHeartbeats 4000000
set_option maxRecDepth 20000
set_option synthInstance.maxHeartbeats 400000
set_option synthInstance.maxSize 4000
variable {F p0_4b p0_4c0 p0_4n0 p0_4t p0_5b p0_5t p0b p0c0 p0c1 p0n0 p0n1 p0t p1_4b p1_4c0 p1_4n0 p1_4t p1b p1c0 p1c1 p1n0 p1n1 p1t p2_o_4b p2_o_4c0 p2_o_4n0 p2_o_4t p2_o_5b p2_o_5t p2_ob p2_oc0 p2_oc1 p2_on0 p2_on1 p2_ot p2b p2t p3_ob p3_ot p3b p3t p4b p4c0 p4n0 p4t : Nat}
variable {p0B0 p0B1 p0P0 p0_4B0 p0_5P0 p1B0 p1B1 p1_4B0 p2_oB0 p2_oB1 p2_o_4B0 p2_o_5P0 : List Blk}
variable {p0_4a0 p0a0 p0a1 p1_4a0 p1a0 p1a1 p2_o_4a0 p2_oa0 p2_oa1 p4a0 : Option Addr}

theorem k_hindcastref09_four {p0 : T_api_State} {r0 : T_api_State} (p0N0 : p0n0 = p0.Shots.length) (p0H0 : p0n0 ≤ p0c0) (h : m_hindcastref09_four F p0 = some r0) :
    SpD Tryz.prog 105 [agS p0 p0a0 p0n0 p0c0] [] (fun w => Rds w (ids []) [] p0a0 (flat c_T_api_Shot p0.Shots)) (fun v D => ∃ r0a0 r0n0 r0c0 r0B0, r0n0 = r0.Shots.length ∧ Own 119 6 r0a0 r0n0 r0c0 (flat c_T_api_Shot r0.Shots) r0B0 ∧ v = agS r0 r0a0 r0n0 r0c0 ∧ D = fun F => (r0B0 ++ F)) := by
 unfold m_hindcastref09_four at h
 refine sp_of_wc Tryz.func105 rfl Tryz.ntmps105 rfl rfl (fun w0 hR => ?_)
 have p0S0 := hR
 refine wSR (wl_box rfl rfl rfl (fun b1 => (wl_alloc tt_ok rfl rfl (fun b2 => (wNT (wSR (wM 1 rfl (wLd rfl (mT mH) rfl rfl (wM 1 rfl (wNT (wSR (wM 1 rfl (lSt (Upd.there Upd.here) ?_)))))))))))))
 refine wNT (wc_seq (wSR (wM 1 rfl (wNT (wc_block ?_)))))
 replace h := bsome h; obtain ⟨⟨zl, zm, zn⟩, h, hl11⟩ := h; try dsimp only at hl11
 refine wc_loop (fun m E L => ∃ zj zb za zc ze zd zf zg, m_hindcastref09_four_L10 F p0 m zj zb za zc = some (zl, zm, zn) ∧ zd = za.length ∧ Own 119 6 ze zd zf (flat c_T_api_Shot za) zg ∧ E = [(1, .pointer (some ⟨b1, 0, none⟩)), (2, .pointer (some ⟨b2, 0, none⟩)), (3, .slice p0a0 p0n0 p0c0), (4, .int .i64 zj)] ∧ L = (⟨b1, (.int .u64 p0.Frame :: .int .u64 p0.Seed :: pl14 zb [.slice ze zd zf, .int .u16 zc.1, .int .u16 zc.2]), 64, (0, 0)⟩ :: (⟨b2, [.int .u64 0, .int .u64 0, .int .i32 0, .int .i32 0, .int .i32 0, .int .i32 0, .int .u8 0, .int .u8 0, .int .u8 0, .int .i32 0, .int .i32 0, .int .i32 0, .int .i32 0, .int .u8 0, .int .u8 0, .int .u8 0, .slice none 0 0, .int .u16 0, .int .u16 0], 64, (0, 0)⟩ :: (zg ++ [])))) F ⟨(0 : Int), p0.Players, ([] : List T_api_Shot), p0.Score, none, 0, 0, [], h, rfl, Own.zero, rfl, rfl⟩ (ag4 rfl rfl rfl rfl) pI ?_
 clear h
 rintro m11 _ _ ⟨zj, zb, za, zc, ze, zd, zf, zg, h, zh, zi, rfl, rfl⟩
 rcases m11 with _ | m11
 ·rw [m_hindcastref09_four_L10.eq_1] at h; cases h
 rw [m_hindcastref09_four_L10.eq_2] at h
 refine wc_seq (wSR (wM 2 rfl (wl_val (v := .int .i64 (p0.Shots.length : Int)) (val_len tt_ok rfl rfl p0N0) rfl (wM 1 rfl (wNT (wcc h rfl ?_ ?_)))))) <;> clear h <;> intro h
 ·refine wc_skip (wx_then (wc_seq (wc_block (wSR (wM 2 rfl ?_)))))
  obtain ⟨v20, x20, h⟩ := bsome h
  refine wl_val (v := .pointer (some ((adOf p0a0).add (zj.toNat * 6 + 0)))) (val_ix (enc := c_T_api_Shot) tt_ok rfl rfl rfl rfl p0N0 p0S0 c_T_api_Shot_len rfl x20) rfl ?_
  refine wl_val (v := .agg #[.int .i32 v20.X, .int .i32 v20.Y, .int .i32 v20.VX, .int .i32 v20.VY, .int .u8 v20.Owner, .int .u8 v20.Life]) (val_le (enc := c_T_api_Shot) (xs := p0.Shots) tt_ok rfl p0S0 rsub_nil c_T_api_Shot_len x20 rfl) rfl ?_
  refine wl_alloc tt_ok rfl rfl (fun b5 => ?_)
  refine lSt Upd.here ?_
  refine wNT (wSR (wM 1 rfl (wLd rfl mH rfl rfl (wM 1 rfl (wLd rfl mH rfl rfl (wM 2 rfl (lSt Upd.here ?_)))))))
  refine wNT (wSR (wM 1 rfl (wLd rfl mH rfl rfl (wM 1 rfl (wLd rfl mH rfl rfl (wM 2 rfl (lSt Upd.here ?_)))))))
  refine wNT (wSR (wM 1 rfl (wLd rfl mH rfl rfl (wM 2 rfl (lSt Upd.here ?_)))))
  refine wNT (wSR (wM 1 rfl (wLd rfl mH rfl rfl (wM 1 rfl (wLd rfl mH rfl rfl (wM 1 rfl (wl_alloc tt_ok rfl rfl (fun b6 => (lSt Upd.here ?_)))))))))
  refine wNT (wSR (wM 1 rfl (wLd rfl (mT mH) rfl rfl (wM 2 rfl (wNT (wc_seq (wSR (wLd (v := .agg #[.int .i32 (IntKind.wrap .i32 (v20.X + v20.VX)), .int .i32 (IntKind.wrap .i32 (v20.Y + v20.VY)), .int .i32 512, .int .i32 512]) rfl mH rfl rfl (wM 1 rfl ?_)))))))))
  obtain ⟨v48, x48, h⟩ := bsome h
  refine wl_cq Tryz.call128 rfl rfl rfl (q_pf (k_hindcastref07_Inside x48) (fun _ _ => trivial)) rfl ?_
  refine wM 1 rfl (wNT (wcc h rfl ?_ ?_)) <;> clear h <;> intro h
  ·refine wc_exit (wx_then_exit (wx_block_exit (wx_then (wc_region ?_))))
   refine wM 3 rfl (wl_nil ?_)
   exact wx_round m11 (Nat.lt_succ_self m11) ⟨(IntKind.wrap .i64 (zj + (1 : Int))), zb, za, zc, ze, zd, zf, zg, h, zh, zi, rfl, rfl⟩ (ag4 rfl rfl rfl rfl) pI
  refine wc_skip (wx_then (wc_seq (wc_seq (wc_quiet (by kernel_rfl) (by kernel_rfl) (qLd (v := .agg #[.int .i32 (IntKind.wrap .i32 (v20.X + v20.VX)), .int .i32 (IntKind.wrap .i32 (v20.Y + v20.VY)), .int .i32 512, .int .i32 512]) rfl mH rfl rfl (qM 2 rfl ?_))))))
  rcases Bool.eq_false_or_eq_true ((IntKind.wrap .u8 ((1 : Int) - v20.Owner)) == (0 : Int)) with hx530 | hx530
  ·replace h := ct hx530 h
   refine wq_val (v := .pointer (some ⟨b1, 2, none⟩)) (val_ia (j := 0) tt_ok rfl rfl rfl rfl (by simpa using hx530) rfl rfl) rfl ?_
   refine qLd (v := agP zb.1) rfl (mTT mH) rfl rfl ?_
   obtain ⟨v55, x55, h⟩ := bsome h
   refine wq_cq Tryz.call127 rfl rfl rfl (q_pf (k_hindcastref09_Box x55) (fun _ _ => trivial)) rfl ?_
   obtain ⟨v56, x56, h⟩ := bsome h
   refine wq_cq Tryz.call126 rfl rfl rfl (q_pf (k_hindcastref07_Over x56) (fun _ _ => trivial)) rfl ?_
   refine wq_nil (wx_then (wcc h rfl ?_ ?_)) <;> clear h <;> intro h
   ·refine wSR (wM 2 rfl (wl_val (v := .pointer (some ⟨b1, 2, none⟩)) (val_ia (j := 0) tt_ok rfl rfl rfl rfl (by simpa using hx530) rfl rfl) rfl (wM 1 rfl (wLd rfl (mTT mH) rfl rfl (wM 1 rfl (wNT (wc_seq (wSR (wM 2 rfl (wNT ?_))))))))))
    obtain ⟨zk, h, hj47⟩ := bsome h
    refine wc_join2 (fun E L => E = [(1, .pointer (some ⟨b1, 0, none⟩)), (2, .pointer (some ⟨b2, 0, none⟩)), (3, .slice p0a0 p0n0 p0c0), (4, .int .i64 zj), (5, .pointer (some ⟨b5, 0, none⟩)), (7, .int .u8 (IntKind.wrap .u8 ((1 : Int) - v20.Owner))), (8, .int .u8 zk)] ∧ L = (⟨b1, (.int .u64 p0.Frame :: .int .u64 p0.Seed :: pl14 zb [.slice ze zd zf, .int .u16 zc.1, .int .u16 zc.2]), 64, (0, 0)⟩ :: (⟨b2, [.int .u64 0, .int .u64 0, .int .i32 0, .int .i32 0, .int .i32 0, .int .i32 0, .int .u8 0, .int .u8 0, .int .u8 0, .int .i32 0, .int .i32 0, .int .i32 0, .int .i32 0, .int .u8 0, .int .u8 0, .int .u8 0, .slice none 0 0, .int .u16 0, .int .u16 0], 64, (0, 0)⟩ :: (⟨b5, [.int .i32 (IntKind.wrap .i32 (v20.X + v20.VX)), .int .i32 (IntKind.wrap .i32 (v20.Y + v20.VY)), .int .i32 v20.VX, .int .i32 v20.VY, .int .u8 v20.Owner, .int .u8 (IntKind.wrap .u8 (v20.Life - (1 : Int)))], 119, (0, 0)⟩ :: (zg ++ []))))) ?_ ?_
    ·refine wcc h rfl ?_ ?_ <;> clear h <;> intro h
     ·refine wc_region (wM 1 rfl (wl_nil ?_))
      obtain rfl := sI h
      exact wx_join ⟨rfl, rfl⟩ (ag7 rfl rfl rfl rfl rfl rfl rfl) pI
     refine wc_skip ?_
     obtain rfl := sI h
     exact wx_join ⟨rfl, rfl⟩ (ag7 rfl rfl rfl rfl rfl rfl rfl) pI
    rintro _ _ ⟨rfl, rfl⟩
    have h := hj47; clear hj47
    refine wSR (wM 4 rfl (wl_val (v := .pointer (some ⟨b1, 2, none⟩)) (val_ia (j := 0) tt_ok rfl rfl rfl rfl (by simpa using hx530) rfl rfl) rfl (wM 1 rfl (lSt Upd.here ?_))))
    refine wNT (wc_seq (wSR (wM 1 rfl (wLd rfl (mTT mH) rfl rfl (wM 1 rfl ?_)))))
    rcases Bool.eq_false_or_eq_true (v20.Owner == (0 : Int)) with hx730 | hx730
    ·replace h := ct hx730 h
     refine wl_val (v := .pointer (some ⟨b1, 17, none⟩)) (val_ia (j := 0) tt_ok rfl rfl rfl rfl (by simpa using hx730) rfl rfl) rfl ?_
     refine wLd rfl mH rfl rfl (wM 1 rfl (wNT (wcc h rfl ?_ ?_))) <;> clear h <;> intro h
     ·refine wc_k2 (Ls := (⟨b1, (.int .u64 p0.Frame :: .int .u64 p0.Seed :: .int .i32 zb.1.X :: .int .i32 zb.1.Y :: .int .i32 zb.1.VX :: .int .i32 zb.1.VY :: .int .u8 (IntKind.wrap .u8 (zk - (10 : Int))) :: .int .u8 zb.1.Cool :: .int .u8 zb.1.Face :: pl7 zb.2 [.slice ze zd zf, .int .u16 zc.1, .int .u16 zc.2]), 64, (0, 0)⟩ :: (⟨b2, [.int .u64 0, .int .u64 0, .int .i32 0, .int .i32 0, .int .i32 0, .int .i32 0, .int .u8 0, .int .u8 0, .int .u8 0, .int .i32 0, .int .i32 0, .int .i32 0, .int .i32 0, .int .u8 0, .int .u8 0, .int .u8 0, .slice none 0 0, .int .u16 0, .int .u16 0], 64, (0, 0)⟩ :: (⟨b5, [.int .i32 (IntKind.wrap .i32 (v20.X + v20.VX)), .int .i32 (IntKind.wrap .i32 (v20.Y + v20.VY)), .int .i32 v20.VX, .int .i32 v20.VY, .int .u8 v20.Owner, .int .u8 (IntKind.wrap .u8 (v20.Life - (1 : Int)))], 119, (0, 0)⟩ :: (zg ++ []))))) [10] [10] [0, 1, 0, 4, 0, 28, 60, 124, 0, 511, 1023] [0, 1, 2, 3, 4, 5, 6, 7, 8, 9, 10] (by kernel_rfl) (by kernel_rfl) (by kernel_rfl) ?_
      refine kM pI 1 rfl (k_val (v := .int .u8 v20.Owner) rfl rfl rfl pI (val_load tt_ok rfl (mTT mH) rfl) rfl (kM pI 1 rfl (k_val (v := .int .u8 v20.Owner) rfl rfl rfl pI (val_load tt_ok rfl (mTT mH) rfl) rfl (kM pI 1 rfl (k_val (v := .pointer (some ⟨b1, 17, none⟩)) rfl rfl rfl pI (val_ia (j := 0) tt_ok rfl rfl rfl rfl (by simpa using hx730) rfl rfl) rfl ?_)))))
      refine k_val (v := .int .u16 zc.1) rfl rfl rfl pI (val_load tt_ok rfl mH rfl) rfl (kM pI 2 rfl (k_val (v := .pointer (some ⟨b1, 17, none⟩)) rfl rfl rfl pI (val_ia (j := 0) tt_ok rfl rfl rfl rfl (by simpa using hx730) rfl rfl) rfl (k_chg0 rfl rfl rfl (chg_store tt_ok rfl Upd.here rfl rfl rfl rfl rfl rfl) (.inl rfl) ?_)))
      rintro _ _ rfl
      refine k_end (by kernel_rfl) ?_
      refine wx_then (wc_exit (wx_then_exit (wx_block_exit (wx_then (wc_region (wM 3 rfl (wl_nil ?_)))))))
      exact wx_round m11 (Nat.lt_succ_self m11) ⟨(IntKind.wrap .i64 (zj + (1 : Int))), ((T_api_Player.mk zb.1.X zb.1.Y zb.1.VX zb.1.VY (IntKind.wrap .u8 (zk - (10 : Int))) zb.1.Cool zb.1.Face), zb.2), za, ((IntKind.wrap .u16 (zc.1 + (1 : Int))), zc.2), ze, zd, zf, zg, h, zh, zi, rfl, rfl⟩ (ag4 rfl rfl rfl rfl) pI
     refine wc_skip (wx_then (wc_exit (wx_then_exit (wx_block_exit (wx_then (wc_region (wM 3 rfl (wl_nil ?_))))))))
     exact wx_round m11 (Nat.lt_succ_self m11) ⟨(IntKind.wrap .i64 (zj + (1 : Int))), ((T_api_Player.mk zb.1.X zb.1.Y zb.1.VX zb.1.VY (IntKind.wrap .u8 (zk - (10 : Int))) zb.1.Cool zb.1.Face), zb.2), za, zc, ze, zd, zf, zg, h, zh, zi, rfl, rfl⟩ (ag4 rfl rfl rfl rfl) pI
    replace h := cf hx730 h
    rcases Bool.eq_false_or_eq_true (v20.Owner == (1 : Int)) with hx731 | hx731
    ·replace h := ct hx731 h
     refine wl_val (v := .pointer (some ⟨b1, 18, none⟩)) (val_ia (j := 1) tt_ok rfl rfl rfl rfl (by simpa using hx731) rfl rfl) rfl ?_
     refine wLd rfl mH rfl rfl (wM 1 rfl (wNT (wcc h rfl ?_ ?_))) <;> clear h <;> intro h
     ·refine wc_k2 (Ls := (⟨b1, (.int .u64 p0.Frame :: .int .u64 p0.Seed :: .int .i32 zb.1.X :: .int .i32 zb.1.Y :: .int .i32 zb.1.VX :: .int .i32 zb.1.VY :: .int .u8 (IntKind.wrap .u8 (zk - (10 : Int))) :: .int .u8 zb.1.Cool :: .int .u8 zb.1.Face :: pl7 zb.2 [.slice ze zd zf, .int .u16 zc.1, .int .u16 zc.2]), 64, (0, 0)⟩ :: (⟨b2, [.int .u64 0, .int .u64 0, .int .i32 0, .int .i32 0, .int .i32 0, .int .i32 0, .int .u8 0, .int .u8 0, .int .u8 0, .int .i32 0, .int .i32 0, .int .i32 0, .int .i32 0, .int .u8 0, .int .u8 0, .int .u8 0, .slice none 0 0, .int .u16 0, .int .u16 0], 64, (0, 0)⟩ :: (⟨b5, [.int .i32 (IntKind.wrap .i32 (v20.X + v20.VX)), .int .i32 (IntKind.wrap .i32 (v20.Y + v20.VY)), .int .i32 v20.VX, .int .i32 v20.VY, .int .u8 v20.Owner, .int .u8 (IntKind.wrap .u8 (v20.Life - (1 : Int)))], 119, (0, 0)⟩ :: (zg ++ []))))) [10] [10] [0, 1, 0, 4, 0, 28, 60, 124, 0, 511, 1023] [0, 1, 2, 3, 4, 5, 6, 7, 8, 9, 10] (by kernel_rfl) (by kernel_rfl) (by kernel_rfl) ?_
      refine kM pI 1 rfl (k_val (v := .int .u8 v20.Owner) rfl rfl rfl pI (val_load tt_ok rfl (mTT mH) rfl) rfl (kM pI 1 rfl (k_val (v := .int .u8 v20.Owner) rfl rfl rfl pI (val_load tt_ok rfl (mTT mH) rfl) rfl (kM pI 1 rfl (k_val (v := .pointer (some ⟨b1, 18, none⟩)) rfl rfl rfl pI (val_ia (j := 1) tt_ok rfl rfl rfl rfl (by simpa using hx731) rfl rfl) rfl ?_)))))
      refine k_val (v := .int .u16 zc.2) rfl rfl rfl pI (val_load tt_ok rfl mH rfl) rfl (kM pI 2 rfl (k_val (v := .pointer (some ⟨b1, 18, none⟩)) rfl rfl rfl pI (val_ia (j := 1) tt_ok rfl rfl rfl rfl (by simpa using hx731) rfl rfl) rfl (k_chg0 rfl rfl rfl (chg_store tt_ok rfl Upd.here rfl rfl rfl rfl rfl rfl) (.inl rfl) ?_)))
      rintro _ _ rfl
      refine k_end (by kernel_rfl) ?_
      refine wx_then (wc_exit (wx_then_exit (wx_block_exit (wx_then (wc_region (wM 3 rfl (wl_nil ?_)))))))
      exact wx_round m11 (Nat.lt_succ_self m11) ⟨(IntKind.wrap .i64 (zj + (1 : Int))), ((T_api_Player.mk zb.1.X zb.1.Y zb.1.VX zb.1.VY (IntKind.wrap .u8 (zk - (10 : Int))) zb.1.Cool zb.1.Face), zb.2), za, (zc.1, (IntKind.wrap .u16 (zc.2 + (1 : Int)))), ze, zd, zf, zg, h, zh, zi, rfl, rfl⟩ (ag4 rfl rfl rfl rfl) pI
     refine wc_skip (wx_then (wc_exit (wx_then_exit (wx_block_exit (wx_then (wc_region (wM 3 rfl (wl_nil ?_))))))))
     exact wx_round m11 (Nat.lt_succ_self m11) ⟨(IntKind.wrap .i64 (zj + (1 : Int))), ((T_api_Player.mk zb.1.X zb.1.Y zb.1.VX zb.1.VY (IntKind.wrap .u8 (zk - (10 : Int))) zb.1.Cool zb.1.Face), zb.2), za, zc, ze, zd, zf, zg, h, zh, zi, rfl, rfl⟩ (ag4 rfl rfl rfl rfl) pI
    replace h := cf hx731 h
    cases h
   refine wc_skip (wx_then (wSR (wM 1 rfl (wLd rfl (mT mH) rfl rfl (wM 1 rfl (wNT (wcc h rfl ?_ ?_))))))) <;> clear h <;> intro h
   ·refine wc_region (wM 1 rfl (wLd rfl (mTT mH) rfl rfl (wLd (v := .agg #[.int .i32 (IntKind.wrap .i32 (v20.X + v20.VX)), .int .i32 (IntKind.wrap .i32 (v20.Y + v20.VY)), .int .i32 v20.VX, .int .i32 v20.VY, .int .u8 v20.Owner, .int .u8 (IntKind.wrap .u8 (v20.Life - (1 : Int)))]) rfl (mT mH) rfl rfl (wl_chg (chg_bsv (enc := c_T_api_Shot) (xs := ([(T_api_Shot.mk (IntKind.wrap .i32 (v20.X + v20.VX)) (IntKind.wrap .i32 (v20.Y + v20.VY)) v20.VX v20.VY v20.Owner (IntKind.wrap .u8 (v20.Life - (1 : Int))))] : List T_api_Shot)) tt_ok rfl rfl rfl rfl rfl rfl rfl rfl c_T_api_Shot_len) rfl ?_))))
    rintro _ _ ⟨a92, n92_, c92, B92, rfl, N92, V92, rfl⟩
    obtain ⟨v93, x93, h⟩ := bsome h
    refine wl_chg (chg_app (enc := c_T_api_Shot) (ys := ([(T_api_Shot.mk (IntKind.wrap .i32 (v20.X + v20.VX)) (IntKind.wrap .i32 (v20.Y + v20.VY)) v20.VX v20.VY v20.Owner (IntKind.wrap .u8 (v20.Life - (1 : Int))))] : List T_api_Shot)) tt_ok rfl rfl rfl rfl rfl rfl zh N92 zi (sA (sCC (sCC hA'))) (Rds.of_vec V92) ⟨_, hA'⟩ c_T_api_Shot_len (fun _ => rfl) rfl x93) rfl ?_
    rintro _ _ ⟨a93, n93_, c93, B93, rfl, N93, V93, rfl⟩
    refine wM 1 rfl (lSt (Upd.right (Upd.right (Upd.there (Upd.there Upd.here)))) ?_)
    refine wl_nil (wx_block (wx_then (wc_region (wM 3 rfl (wl_nil ?_)))))
    exact wx_round m11 (Nat.lt_succ_self m11) ⟨(IntKind.wrap .i64 (zj + (1 : Int))), zb, v93, zc, a93, n93_, c93, B93, h, N93, V93, rfl, rfl⟩ (ag4 rfl rfl rfl rfl) pI
   refine wc_skip (wx_block (wx_then (wc_region (wM 3 rfl (wl_nil ?_)))))
   exact wx_round m11 (Nat.lt_succ_self m11) ⟨(IntKind.wrap .i64 (zj + (1 : Int))), zb, za, zc, ze, zd, zf, zg, h, zh, zi, rfl, rfl⟩ (ag4 rfl rfl rfl rfl) pI
  replace h := cf hx530 h
  rcases Bool.eq_false_or_eq_true ((IntKind.wrap .u8 ((1 : Int) - v20.Owner)) == (1 : Int)) with hx531 | hx531
  ·replace h := ct hx531 h
   refine wq_val (v := .pointer (some ⟨b1, 9, none⟩)) (val_ia (j := 1) tt_ok rfl rfl rfl rfl (by simpa using hx531) rfl rfl) rfl ?_
   refine qLd (v := agP zb.2) rfl (mTT mH) rfl rfl ?_
   obtain ⟨v55, x55, h⟩ := bsome h
   refine wq_cq Tryz.call127 rfl rfl rfl (q_pf (k_hindcastref09_Box x55) (fun _ _ => trivial)) rfl ?_
   obtain ⟨v56, x56, h⟩ := bsome h
   refine wq_cq Tryz.call126 rfl rfl rfl (q_pf (k_hindcastref07_Over x56) (fun _ _ => trivial)) rfl ?_
   refine wq_nil (wx_then (wcc h rfl ?_ ?_)) <;> clear h <;> intro h
   ·refine wSR (wM 2 rfl (wl_val (v := .pointer (some ⟨b1, 9, none⟩)) (val_ia (j := 1) tt_ok rfl rfl rfl rfl (by simpa using hx531) rfl rfl) rfl (wM 1 rfl (wLd rfl (mTT mH) rfl rfl (wM 1 rfl (wNT (wc_seq (wSR (wM 2 rfl (wNT ?_))))))))))
    obtain ⟨zk, h, hj47⟩ := bsome h
    refine wc_join2 (fun E L => E = [(1, .pointer (some ⟨b1, 0, none⟩)), (2, .pointer (some ⟨b2, 0, none⟩)), (3, .slice p0a0 p0n0 p0c0), (4, .int .i64 zj), (5, .pointer (some ⟨b5, 0, none⟩)), (7, .int .u8 (IntKind.wrap .u8 ((1 : Int) - v20.Owner))), (8, .int .u8 zk)] ∧ L = (⟨b1, (.int .u64 p0.Frame :: .int .u64 p0.Seed :: pl14 zb [.slice ze zd zf, .int .u16 zc.1, .int .u16 zc.2]), 64, (0, 0)⟩ :: (⟨b2, [.int .u64 0, .int .u64 0, .int .i32 0, .int .i32 0, .int .i32 0, .int .i32 0, .int .u8 0, .int .u8 0, .int .u8 0, .int .i32 0, .int .i32 0, .int .i32 0, .int .i32 0, .int .u8 0, .int .u8 0, .int .u8 0, .slice none 0 0, .int .u16 0, .int .u16 0], 64, (0, 0)⟩ :: (⟨b5, [.int .i32 (IntKind.wrap .i32 (v20.X + v20.VX)), .int .i32 (IntKind.wrap .i32 (v20.Y + v20.VY)), .int .i32 v20.VX, .int .i32 v20.VY, .int .u8 v20.Owner, .int .u8 (IntKind.wrap .u8 (v20.Life - (1 : Int)))], 119, (0, 0)⟩ :: (zg ++ []))))) ?_ ?_
    ·refine wcc h rfl ?_ ?_ <;> clear h <;> intro h
     ·refine wc_region (wM 1 rfl (wl_nil ?_))
      obtain rfl := sI h
      exact wx_join ⟨rfl, rfl⟩ (ag7 rfl rfl rfl rfl rfl rfl rfl) pI
     refine wc_skip ?_
     obtain rfl := sI h
     exact wx_join ⟨rfl, rfl⟩ (ag7 rfl rfl rfl rfl rfl rfl rfl) pI
    rintro _ _ ⟨rfl, rfl⟩
    have h := hj47; clear hj47
    refine wSR (wM 4 rfl (wl_val (v := .pointer (some ⟨b1, 9, none⟩)) (val_ia (j := 1) tt_ok rfl rfl rfl rfl (by simpa using hx531) rfl rfl) rfl (wM 1 rfl (lSt Upd.here ?_))))
    refine wNT (wc_seq (wSR (wM 1 rfl (wLd rfl (mTT mH) rfl rfl (wM 1 rfl ?_)))))
    rcases Bool.eq_false_or_eq_true (v20.Owner == (0 : Int)) with hx730 | hx730
    ·replace h := ct hx730 h
     refine wl_val (v := .pointer (some ⟨b1, 17, none⟩)) (val_ia (j := 0) tt_ok rfl rfl rfl rfl (by simpa using hx730) rfl rfl) rfl ?_
     refine wLd rfl mH rfl rfl (wM 1 rfl (wNT (wcc h rfl ?_ ?_))) <;> clear h <;> intro h
     ·refine wc_k2 (Ls := (⟨b1, (.int .u64 p0.Frame :: .int .u64 p0.Seed :: pl7 zb.1 [.int .i32 zb.2.X, .int .i32 zb.2.Y, .int .i32 zb.2.VX, .int .i32 zb.2.VY, .int .u8 (IntKind.wrap .u8 (zk - (10 : Int))), .int .u8 zb.2.Cool, .int .u8 zb.2.Face, .slice ze zd zf, .int .u16 zc.1, .int .u16 zc.2]), 64, (0, 0)⟩ :: (⟨b2, [.int .u64 0, .int .u64 0, .int .i32 0, .int .i32 0, .int .i32 0, .int .i32 0, .int .u8 0, .int .u8 0, .int .u8 0, .int .i32 0, .int .i32 0, .int .i32 0, .int .i32 0, .int .u8 0, .int .u8 0, .int .u8 0, .slice none 0 0, .int .u16 0, .int .u16 0], 64, (0, 0)⟩ :: (⟨b5, [.int .i32 (IntKind.wrap .i32 (v20.X + v20.VX)), .int .i32 (IntKind.wrap .i32 (v20.Y + v20.VY)), .int .i32 v20.VX, .int .i32 v20.VY, .int .u8 v20.Owner, .int .u8 (IntKind.wrap .u8 (v20.Life - (1 : Int)))], 119, (0, 0)⟩ :: (zg ++ []))))) [10] [10] [0, 1, 0, 4, 0, 28, 60, 124, 0, 511, 1023] [0, 1, 2, 3, 4, 5, 6, 7, 8, 9, 10] (by kernel_rfl) (by kernel_rfl) (by kernel_rfl) ?_
      refine kM pI 1 rfl (k_val (v := .int .u8 v20.Owner) rfl rfl rfl pI (val_load tt_ok rfl (mTT mH) rfl) rfl (kM pI 1 rfl (k_val (v := .int .u8 v20.Owner) rfl rfl rfl pI (val_load tt_ok rfl (mTT mH) rfl) rfl (kM pI 1 rfl (k_val (v := .pointer (some ⟨b1, 17, none⟩)) rfl rfl rfl pI (val_ia (j := 0) tt_ok rfl rfl rfl rfl (by simpa using hx730) rfl rfl) rfl ?_)))))
      refine k_val (v := .int .u16 zc.1) rfl rfl rfl pI (val_load tt_ok rfl mH rfl) rfl (kM pI 2 rfl (k_val (v := .pointer (some ⟨b1, 17, none⟩)) rfl rfl rfl pI (val_ia (j := 0) tt_ok rfl rfl rfl rfl (by simpa using hx730) rfl rfl) rfl (k_chg0 rfl rfl rfl (chg_store tt_ok rfl Upd.here rfl rfl rfl rfl rfl rfl) (.inl rfl) ?_)))
      rintro _ _ rfl
      refine k_end (by kernel_rfl) ?_
      refine wx_then (wc_exit (wx_then_exit (wx_block_exit (wx_then (wc_region (wM 3 rfl (wl_nil ?_)))))))
      exact wx_round m11 (Nat.lt_succ_self m11) ⟨(IntKind.wrap .i64 (zj + (1 : Int))), (zb.1, (T_api_Player.mk zb.2.X zb.2.Y zb.2.VX zb.2.VY (IntKind.wrap .u8 (zk - (10 : Int))) zb.2.Cool zb.2.Face)), za, ((IntKind.wrap .u16 (zc.1 + (1 : Int))), zc.2), ze, zd, zf, zg, h, zh, zi, rfl, rfl⟩ (ag4 rfl rfl rfl rfl) pI
     refine wc_skip (wx_then (wc_exit (wx_then_exit (wx_block_exit (wx_then (wc_region (wM 3 rfl (wl_nil ?_))))))))
     exact wx_round m11 (Nat.lt_succ_self m11) ⟨(IntKind.wrap .i64 (zj + (1 : Int))), (zb.1, (T_api_Player.mk zb.2.X zb.2.Y zb.2.VX zb.2.VY (IntKind.wrap .u8 (zk - (10 : Int))) zb.2.Cool zb.2.Face)), za, zc, ze, zd, zf, zg, h, zh, zi, rfl, rfl⟩ (ag4 rfl rfl rfl rfl) pI
    replace h := cf hx730 h
    rcases Bool.eq_false_or_eq_true (v20.Owner == (1 : Int)) with hx731 | hx731
    ·replace h := ct hx731 h
     refine wl_val (v := .pointer (some ⟨b1, 18, none⟩)) (val_ia (j := 1) tt_ok rfl rfl rfl rfl (by simpa using hx731) rfl rfl) rfl ?_
     refine wLd rfl mH rfl rfl (wM 1 rfl (wNT (wcc h rfl ?_ ?_))) <;> clear h <;> intro h
     ·refine wc_k2 (Ls := (⟨b1, (.int .u64 p0.Frame :: .int .u64 p0.Seed :: pl7 zb.1 [.int .i32 zb.2.X, .int .i32 zb.2.Y, .int .i32 zb.2.VX, .int .i32 zb.2.VY, .int .u8 (IntKind.wrap .u8 (zk - (10 : Int))), .int .u8 zb.2.Cool, .int .u8 zb.2.Face, .slice ze zd zf, .int .u16 zc.1, .int .u16 zc.2]), 64, (0, 0)⟩ :: (⟨b2, [.int .u64 0, .int .u64 0, .int .i32 0, .int .i32 0, .int .i32 0, .int .i32 0, .int .u8 0, .int .u8 0, .int .u8 0, .int .i32 0, .int .i32 0, .int .i32 0, .int .i32 0, .int .u8 0, .int .u8 0, .int .u8 0, .slice none 0 0, .int .u16 0, .int .u16 0], 64, (0, 0)⟩ :: (⟨b5, [.int .i32 (IntKind.wrap .i32 (v20.X + v20.VX)), .int .i32 (IntKind.wrap .i32 (v20.Y + v20.VY)), .int .i32 v20.VX, .int .i32 v20.VY, .int .u8 v20.Owner, .int .u8 (IntKind.wrap .u8 (v20.Life - (1 : Int)))], 119, (0, 0)⟩ :: (zg ++ []))))) [10] [10] [0, 1, 0, 4, 0, 28, 60, 124, 0, 511, 1023] [0, 1, 2, 3, 4, 5, 6, 7, 8, 9, 10] (by kernel_rfl) (by kernel_rfl) (by kernel_rfl) ?_
      refine kM pI 1 rfl (k_val (v := .int .u8 v20.Owner) rfl rfl rfl pI (val_load tt_ok rfl (mTT mH) rfl) rfl (kM pI 1 rfl (k_val (v := .int .u8 v20.Owner) rfl rfl rfl pI (val_load tt_ok rfl (mTT mH) rfl) rfl (kM pI 1 rfl (k_val (v := .pointer (some ⟨b1, 18, none⟩)) rfl rfl rfl pI (val_ia (j := 1) tt_ok rfl rfl rfl rfl (by simpa using hx731) rfl rfl) rfl ?_)))))
      refine k_val (v := .int .u16 zc.2) rfl rfl rfl pI (val_load tt_ok rfl mH rfl) rfl (kM pI 2 rfl (k_val (v := .pointer (some ⟨b1, 18, none⟩)) rfl rfl rfl pI (val_ia (j := 1) tt_ok rfl rfl rfl rfl (by simpa using hx731) rfl rfl) rfl (k_chg0 rfl rfl rfl (chg_store tt_ok rfl Upd.here rfl rfl rfl rfl rfl rfl) (.inl rfl) ?_)))
      rintro _ _ rfl
      refine k_end (by kernel_rfl) ?_
      refine wx_then (wc_exit (wx_then_exit (wx_block_exit (wx_then (wc_region (wM 3 rfl (wl_nil ?_)))))))
      exact wx_round m11 (Nat.lt_succ_self m11) ⟨(IntKind.wrap .i64 (zj + (1 : Int))), (zb.1, (T_api_Player.mk zb.2.X zb.2.Y zb.2.VX zb.2.VY (IntKind.wrap .u8 (zk - (10 : Int))) zb.2.Cool zb.2.Face)), za, (zc.1, (IntKind.wrap .u16 (zc.2 + (1 : Int)))), ze, zd, zf, zg, h, zh, zi, rfl, rfl⟩ (ag4 rfl rfl rfl rfl) pI
     refine wc_skip (wx_then (wc_exit (wx_then_exit (wx_block_exit (wx_then (wc_region (wM 3 rfl (wl_nil ?_))))))))
     exact wx_round m11 (Nat.lt_succ_self m11) ⟨(IntKind.wrap .i64 (zj + (1 : Int))), (zb.1, (T_api_Player.mk zb.2.X zb.2.Y zb.2.VX zb.2.VY (IntKind.wrap .u8 (zk - (10 : Int))) zb.2.Cool zb.2.Face)), za, zc, ze, zd, zf, zg, h, zh, zi, rfl, rfl⟩ (ag4 rfl rfl rfl rfl) pI
    replace h := cf hx731 h
    cases h
   refine wc_skip (wx_then (wSR (wM 1 rfl (wLd rfl (mT mH) rfl rfl (wM 1 rfl (wNT (wcc h rfl ?_ ?_))))))) <;> clear h <;> intro h
   ·refine wc_region (wM 1 rfl (wLd rfl (mTT mH) rfl rfl (wLd (v := .agg #[.int .i32 (IntKind.wrap .i32 (v20.X + v20.VX)), .int .i32 (IntKind.wrap .i32 (v20.Y + v20.VY)), .int .i32 v20.VX, .int .i32 v20.VY, .int .u8 v20.Owner, .int .u8 (IntKind.wrap .u8 (v20.Life - (1 : Int)))]) rfl (mT mH) rfl rfl (wl_chg (chg_bsv (enc := c_T_api_Shot) (xs := ([(T_api_Shot.mk (IntKind.wrap .i32 (v20.X + v20.VX)) (IntKind.wrap .i32 (v20.Y + v20.VY)) v20.VX v20.VY v20.Owner (IntKind.wrap .u8 (v20.Life - (1 : Int))))] : List T_api_Shot)) tt_ok rfl rfl rfl rfl rfl rfl rfl rfl c_T_api_Shot_len) rfl ?_))))
    rintro _ _ ⟨a92, n92_, c92, B92, rfl, N92, V92, rfl⟩
    obtain ⟨v93, x93, h⟩ := bsome h
    refine wl_chg (chg_app (enc := c_T_api_Shot) (ys := ([(T_api_Shot.mk (IntKind.wrap .i32 (v20.X + v20.VX)) (IntKind.wrap .i32 (v20.Y + v20.VY)) v20.VX v20.VY v20.Owner (IntKind.wrap .u8 (v20.Life - (1 : Int))))] : List T_api_Shot)) tt_ok rfl rfl rfl rfl rfl rfl zh N92 zi (sA (sCC (sCC hA'))) (Rds.of_vec V92) ⟨_, hA'⟩ c_T_api_Shot_len (fun _ => rfl) rfl x93) rfl ?_
    rintro _ _ ⟨a93, n93_, c93, B93, rfl, N93, V93, rfl⟩
    refine wM 1 rfl (lSt (Upd.right (Upd.right (Upd.there (Upd.there Upd.here)))) ?_)
    refine wl_nil (wx_block (wx_then (wc_region (wM 3 rfl (wl_nil ?_)))))
    exact wx_round m11 (Nat.lt_succ_self m11) ⟨(IntKind.wrap .i64 (zj + (1 : Int))), zb, v93, zc, a93, n93_, c93, B93, h, N93, V93, rfl, rfl⟩ (ag4 rfl rfl rfl rfl) pI
   refine wc_skip (wx_block (wx_then (wc_region (wM 3 rfl (wl_nil ?_)))))
   exact wx_round m11 (Nat.lt_succ_self m11) ⟨(IntKind.wrap .i64 (zj + (1 : Int))), zb, za, zc, ze, zd, zf, zg, h, zh, zi, rfl, rfl⟩ (ag4 rfl rfl rfl rfl) pI
  replace h := cf hx531 h
  cases h
 refine wc_exit (wx_then_exit ?_)
 obtain ⟨rfl, rfl, rfl⟩ := pJ3 h
 have h := hl11; clear hl11; try dsimp only [orE_l, orE_r] at h
 refine wx_then_exit (wx_block_exit (wx_then (wSR ?_)))
 refine wLd (v := .agg #[.int .u64 p0.Frame, .int .u64 p0.Seed, .int .i32 zb.1.X, .int .i32 zb.1.Y, .int .i32 zb.1.VX, .int .i32 zb.1.VY, .int .u8 zb.1.Health, .int .u8 zb.1.Cool, .int .u8 zb.1.Face, .int .i32 zb.2.X, .int .i32 zb.2.Y, .int .i32 zb.2.VX, .int .i32 zb.2.VY, .int .u8 zb.2.Health, .int .u8 zb.2.Cool, .int .u8 zb.2.Face, .slice ze zd zf, .int .u16 zc.1, .int .u16 zc.2]) rfl mH rfl rfl (lSt (Upd.there Upd.here) ?_)
 refine wNT (wc_ret ?_)
 obtain rfl := sI h
 exact wE Tryz.results105 (Res.cell rfl (mT mH) rfl Res.nil) ⟨ze, zd, zf, zg, zh, zi, rfl, rfl⟩ pI

theorem k_hindcastref05_Stride {r0 : Int} (h : m_hindcastref05_Stride F = some r0) :
    Pf Tryz.prog 142 [] (fun w => True) (.int .u64 r0) := by
 unfold m_hindcastref05_Stride at h
 refine pf_of_wc Tryz.func142 rfl Tryz.ntmps142 rfl rfl (fun w0 hR => ?_)
 refine wSR (wM 1 rfl (wNT (wSR (wM 1 rfl (wNT (wc_ret ?_))))))
 obtain rfl := sI h
 exact pE Tryz.results142 rfl

theorem k_hindcastref05_Mix {p0 : Int} {r0 : Int} (h : m_hindcastref05_Mix F p0 = some r0) :
    Pf Tryz.prog 143 [.int .u64 p0] (fun w => True) (.int .u64 r0) := by
 unfold m_hindcastref05_Mix at h
 refine pf_of_wc Tryz.func143 rfl Tryz.ntmps143 rfl rfl (fun w0 hR => ?_)
 refine wSR (wM 1 rfl (wNT (wSR (wM 5 rfl (wNT (wSR (wM 3 rfl (wNT (wSR (wM 5 rfl (wNT (wSR (wM 3 rfl (wNT (wSR (wM 5 rfl (wNT (wc_ret ?_))))))))))))))))))
 obtain rfl := sI h
 exact pE Tryz.results143 rfl

theorem k_hindcastref05_Next {p0 : Int} {r0 : Int} {r1 : Int} (h : m_hindcastref05_Next F p0 = some (r0, r1)) :
    Pf Tryz.prog 138 [.int .u64 p0] (fun w => True) (.tuple #[.int .u64 r0, .int .u64 r1]) := by
 unfold m_hindcastref05_Next at h
 refine pf_of_wc Tryz.func138 rfl Tryz.ntmps138 rfl rfl (fun w0 hR => ?_)
 refine wSR (wM 2 rfl (wNT (wSR (wM 1 rfl ?_))))
 obtain ⟨v5, x5, h⟩ := bsome h
 refine wl_cq Tryz.call142 rfl rfl rfl (q_pf (k_hindcastref05_Stride x5) (fun _ _ => trivial)) rfl ?_
 refine wM 2 rfl (wNT (wSR (wM 1 rfl ?_)))
 obtain ⟨v8, x8, h⟩ := bsome h
 refine wl_cq Tryz.call143 rfl rfl rfl (q_pf (k_hindcastref05_Mix x8) (fun _ _ => trivial)) rfl ?_
 refine wM 3 rfl (wNT (wc_ret ?_))
 obtain ⟨rfl, rfl⟩ := pJ2 h
 exact wx_pf tt_ok (.inl rfl) Tryz.results138 (rs2 rfl rfl) rfl

theorem k_hindcastref05_Below {p0 : Int} {p1 : Int} {r0 : Int} {r1 : Int} (h : m_hindcastref05_Below F p0 p1 = some (r0, r1)) :
    Pf Tryz.prog 129 [.int .u64 p0, .int .i64 p1] (fun w => True) (.tuple #[.int .i64 r0, .int .u64 r1]) := by
 unfold m_hindcastref05_Below at h
 refine pf_of_wc Tryz.func129 rfl Tryz.ntmps129 rfl rfl (fun w0 hR => ?_)
 refine wSR (wM 2 rfl (wNT (wc_seq (wSR (wM 2 rfl (wNT (wcc h rfl ?_ ?_))))))) <;> clear h <;> intro h
 ·refine wSR (wM 3 rfl (wNT (wc_ret (wx_then_ret ?_))))
  obtain ⟨rfl, rfl⟩ := pJ2 h
  exact wx_pf tt_ok (.inl rfl) Tryz.results129 (rs2 rfl rfl) rfl
 refine wc_skip (wx_then (wc_seq (wSR (wM 2 rfl (wNT ?_)))))
 obtain ⟨za, h, hj14⟩ := bsome h
 refine wc_join2 (fun E L => E = [(0, .int .u64 p0), (1, .int .i64 za), (4, .int .i64 0), (5, .int .u64 0)] ∧ L = []) ?_ ?_
 ·refine wcc h rfl ?_ ?_ <;> clear h <;> intro h
  ·refine wc_region (wM 1 rfl (wl_nil ?_))
   obtain rfl := sI h
   exact wx_join ⟨rfl, rfl⟩ (ag4 rfl rfl rfl rfl) pI
  refine wc_skip ?_
  obtain rfl := sI h
  exact wx_join ⟨rfl, rfl⟩ (ag4 rfl rfl rfl rfl) pI
 rintro _ _ ⟨rfl, rfl⟩
 have h := hj14; clear hj14
 refine wSR (wM 1 rfl ?_)
 replace h := bsome h; obtain ⟨⟨zb, zc⟩, x15, h⟩ := h; try dsimp only at h
 refine wl_cq Tryz.call138 rfl rfl rfl (q_pf (k_hindcastref05_Next x15) (fun _ _ => trivial)) rfl ?_
 refine wM 5 rfl (wNT (wSR (wM 3 rfl (wNT (wSR (wM 5 rfl (wNT (wSR (wM 6 rfl (wNT (wc_ret ?_)))))))))))
 obtain ⟨rfl, rfl⟩ := pJ2 h
 exact wx_pf tt_ok (.inl rfl) Tryz.results129 (rs2 rfl rfl) rfl

theorem k_hindcastref09_five_o0 {p0 : T_api_State} {p1 : Int} {r0 : T_api_State} (p0N0 : p0n0 = p0.Shots.length) (p0V0 : Own 119 6 p0a0 p0n0 p0c0 (flat c_T_api_Shot p0.Shots) p0B0) (h : m_hindcastref09_five_o0 F p0 p1 = some r0) :
    SpD Tryz.prog 106 [agS p0 p0a0 p0n0 p0c0, .int .i64 p1] (p0B0 ++ []) (fun w => True) (fun v D => ∃ r0a0 r0n0 r0c0 r0B0, r0n0 = r0.Shots.length ∧ Own 119 6 r0a0 r0n0 r0c0 (flat c_T_api_Shot r0.Shots) r0B0 ∧ v = agS r0 r0a0 r0n0 r0c0 ∧ D = fun F => (r0B0 ++ F)) := by
 unfold m_hindcastref09_five_o0 at h
 refine sp_of_wc Tryz.func106 rfl Tryz.ntmps106 rfl rfl (fun w0 hR => ?_)
 refine wSR (wl_box rfl rfl rfl (fun b2 => (wl_alloc tt_ok rfl rfl (fun b4 => (wNT (wc_seq (wSR (wM 2 rfl ?_))))))))
 rcases Bool.eq_false_or_eq_true (p1 == (0 : Int)) with hx130 | hx130
 ·replace h := ct hx130 h
  refine wl_val (v := .pointer (some ⟨b2, 2, none⟩)) (val_ia (j := 0) tt_ok rfl rfl rfl rfl (by simpa using hx130) rfl rfl) rfl ?_
  refine wM 1 rfl (wLd rfl (mT mH) rfl rfl (wM 1 rfl (wNT (wcc h rfl ?_ ?_)))) <;> clear h <;> intro h
  ·refine wSR (wLd (v := agS p0 p0a0 p0n0 p0c0) rfl (mT mH) rfl rfl (lSt Upd.here ?_))
   refine wNT (wc_ret (wx_then_ret ?_))
   obtain rfl := sI h
   exact wE Tryz.results106 (Res.cell rfl mH rfl Res.nil) ⟨p0a0, p0n0, p0c0, p0B0, p0N0, p0V0, rfl, rfl⟩ pI
  refine wc_skip (wx_then (wSR (wM 2 rfl (wl_val (v := .pointer (some ⟨b2, 2, none⟩)) (val_ia (j := 0) tt_ok rfl rfl rfl rfl (by simpa using hx130) rfl rfl) rfl (wLd (v := agP p0.Players.1) rfl (mT mH) rfl rfl (wl_alloc tt_ok rfl rfl (fun b5 => (lSt Upd.here ?_))))))))
  refine wNT (wSR (wM 1 rfl (lSt Upd.here ?_)))
  refine wNT (wSR (wM 1 rfl (lSt Upd.here ?_)))
  refine wNT (wSR (wM 1 rfl (lSt Upd.here ?_)))
  refine wNT (wSR (wM 1 rfl (wLd rfl (mTT mH) rfl rfl ?_)))
  replace h := bsome h; obtain ⟨⟨zc, ze⟩, x28, h⟩ := h; try dsimp only at h
  refine wl_cq Tryz.call129 rfl rfl rfl (q_pf (k_hindcastref05_Below x28) (fun _ _ => trivial)) rfl ?_
  refine wM 5 rfl (wNT (wSR (wM 1 rfl ?_)))
  replace h := bsome h; obtain ⟨⟨zd, zb⟩, x33, h⟩ := h; try dsimp only at h
  refine wl_cq Tryz.call129 rfl rfl rfl (q_pf (k_hindcastref05_Below x33) (fun _ _ => trivial)) rfl ?_
  refine wM 5 rfl (wNT (wSR (wM 2 rfl (lSt (Upd.there (Upd.there Upd.here)) ?_))))
  refine wNT (wSR (wLd (v := .agg #[.int .i32 p0.Players.1.X, .int .i32 p0.Players.1.Y, .int .i32 0, .int .i32 0, .int .u8 100, .int .u8 p0.Players.1.Cool, .int .u8 p0.Players.1.Face]) rfl mH rfl rfl (wl_alloc tt_ok rfl rfl (fun b10 => (lSt Upd.here ?_)))))
  refine wNT (wSR (wM 3 rfl (lSt Upd.here ?_)))
  refine wNT (wSR (wM 3 rfl (lSt Upd.here ?_)))
  refine wNT (wSR (wM 1 rfl (wLd (v := .agg #[.int .i32 (IntKind.wrap .i32 zc), .int .i32 (IntKind.wrap .i32 zd), .int .i32 0, .int .i32 0, .int .u8 100, .int .u8 p0.Players.1.Cool, .int .u8 p0.Players.1.Face]) rfl mH rfl rfl (wM 1 rfl (wl_val (v := .pointer (some ⟨b2, 2, none⟩)) (val_ia (j := 0) tt_ok rfl rfl rfl rfl (by simpa using hx130) rfl rfl) rfl (lSt (Upd.there (Upd.there (Upd.there Upd.here))) ?_))))))
  refine wNT (wc_seq (wc_seq (wc_quiet (by kernel_rfl) (by kernel_rfl) (qLd (v := .agg #[.int .i32 (IntKind.wrap .i32 zc), .int .i32 (IntKind.wrap .i32 zd), .int .i32 0, .int .i32 0, .int .u8 100, .int .u8 p0.Players.1.Cool, .int .u8 p0.Players.1.Face]) rfl mH rfl rfl ?_))))
  obtain ⟨v50, x50, h⟩ := bsome h
  refine wq_cq Tryz.call127 rfl rfl rfl (q_pf (k_hindcastref09_Box x50) (fun _ _ => trivial)) rfl ?_
  refine qM 3 rfl ?_
  rcases Bool.eq_false_or_eq_true ((IntKind.wrap .i64 ((1 : Int) - p1)) == (0 : Int)) with hx540 | hx540
  ·replace h := ct hx540 h
   refine wq_val (v := .pointer (some ⟨b2, 2, none⟩)) (val_ia (j := 0) tt_ok rfl rfl rfl rfl (by simpa using hx540) rfl rfl) rfl ?_
   refine qLd (v := .agg #[.int .i32 (IntKind.wrap .i32 zc), .int .i32 (IntKind.wrap .i32 zd), .int .i32 0, .int .i32 0, .int .u8 100, .int .u8 p0.Players.1.Cool, .int .u8 p0.Players.1.Face]) rfl (mTT (mT mH)) rfl rfl ?_
   obtain ⟨v56, x56, h⟩ := bsome h
   refine wq_cq Tryz.call127 rfl rfl rfl (q_pf (k_hindcastref09_Box x56) (fun _ _ => trivial)) rfl ?_
   obtain ⟨v57, x57, h⟩ := bsome h
   refine wq_cq Tryz.call126 rfl rfl rfl (q_pf (k_hindcastref07_Over x57) (fun _ _ => trivial)) rfl ?_
   refine wq_nil (wx_then ?_)
   obtain ⟨za, h, hj36⟩ := bsome h
   refine wc_join2 (fun E L => E = [(2, .pointer (some ⟨b2, 0, none⟩)), (4, .pointer (some ⟨b4, 0, none⟩))] ∧ L = (⟨b2, (.int .u64 p0.Frame :: .int .u64 zb :: pl14 za [.slice p0a0 p0n0 p0c0, .int .u16 p0.Score.1, .int .u16 p0.Score.2]), 64, (0, 0)⟩ :: (⟨b4, [.int .u64 0, .int .u64 0, .int .i32 0, .int .i32 0, .int .i32 0, .int .i32 0, .int .u8 0, .int .u8 0, .int .u8 0, .int .i32 0, .int .i32 0, .int .i32 0, .int .i32 0, .int .u8 0, .int .u8 0, .int .u8 0, .slice none 0 0, .int .u16 0, .int .u16 0], 64, (0, 0)⟩ :: (p0B0 ++ [])))) ?_ ?_
   ·refine wcc h rfl ?_ ?_ <;> clear h <;> intro h
    ·refine wc_region (wM 1 rfl (wLd (v := .agg #[.int .i32 p0.Players.1.X, .int .i32 p0.Players.1.Y, .int .i32 0, .int .i32 0, .int .u8 100, .int .u8 p0.Players.1.Cool, .int .u8 p0.Players.1.Face]) rfl (mT mH) rfl rfl (wM 1 rfl (wl_val (v := .pointer (some ⟨b2, 2, none⟩)) (val_ia (j := 0) tt_ok rfl rfl rfl rfl (by simpa using hx130) rfl rfl) rfl (lSt (Upd.there (Upd.there (Upd.there Upd.here))) ?_)))))
     refine wl_nil ?_
     obtain rfl := sI h
     exact wx_join ⟨rfl, rfl⟩ (ag2 rfl rfl) pI
    refine wc_skip ?_
    obtain rfl := sI h
    exact wx_join ⟨rfl, rfl⟩ (ag2 rfl rfl) pI
   rintro _ _ ⟨rfl, rfl⟩
   have h := hj36; clear hj36
   refine wSR (wLd (v := .agg #[.int .u64 p0.Frame, .int .u64 zb, .int .i32 za.1.X, .int .i32 za.1.Y, .int .i32 za.1.VX, .int .i32 za.1.VY, .int .u8 za.1.Health, .int .u8 za.1.Cool, .int .u8 za.1.Face, .int .i32 za.2.X, .int .i32 za.2.Y, .int .i32 za.2.VX, .int .i32 za.2.VY, .int .u8 za.2.Health, .int .u8 za.2.Cool, .int .u8 za.2.Face, .slice p0a0 p0n0 p0c0, .int .u16 p0.Score.1, .int .u16 p0.Score.2]) rfl mH rfl rfl (lSt (Upd.there Upd.here) ?_))
   refine wNT (wc_ret ?_)
   obtain rfl := sI h
   exact wE Tryz.results106 (Res.cell rfl (mT mH) rfl Res.nil) ⟨p0a0, p0n0, p0c0, p0B0, p0N0, p0V0, rfl, rfl⟩ pI
  replace h := cf hx540 h
  rcases Bool.eq_false_or_eq_true ((IntKind.wrap .i64 ((1 : Int) - p1)) == (1 : Int)) with hx541 | hx541
  ·replace h := ct hx541 h
   refine wq_val (v := .pointer (some ⟨b2, 9, none⟩)) (val_ia (j := 1) tt_ok rfl rfl rfl rfl (by simpa using hx541) rfl rfl) rfl ?_
   refine qLd (v := agP p0.Players.2) rfl (mTT (mT mH)) rfl rfl ?_
   obtain ⟨v56, x56, h⟩ := bsome h
   refine wq_cq Tryz.call127 rfl rfl rfl (q_pf (k_hindcastref09_Box x56) (fun _ _ => trivial)) rfl ?_
   obtain ⟨v57, x57, h⟩ := bsome h
   refine wq_cq Tryz.call126 rfl rfl rfl (q_pf (k_hindcastref07_Over x57) (fun _ _ => trivial)) rfl ?_
   refine wq_nil (wx_then ?_)
   obtain ⟨za, h, hj36⟩ := bsome h
   refine wc_join2 (fun E L => E = [(2, .pointer (some ⟨b2, 0, none⟩)), (4, .pointer (some ⟨b4, 0, none⟩))] ∧ L = (⟨b2, (.int .u64 p0.Frame :: .int .u64 zb :: pl14 za [.slice p0a0 p0n0 p0c0, .int .u16 p0.Score.1, .int .u16 p0.Score.2]), 64, (0, 0)⟩ :: (⟨b4, [.int .u64 0, .int .u64 0, .int .i32 0, .int .i32 0, .int .i32 0, .int .i32 0, .int .u8 0, .int .u8 0, .int .u8 0, .int .i32 0, .int .i32 0, .int .i32 0, .int .i32 0, .int .u8 0, .int .u8 0, .int .u8 0, .slice none 0 0, .int .u16 0, .int .u16 0], 64, (0, 0)⟩ :: (p0B0 ++ [])))) ?_ ?_
   ·refine wcc h rfl ?_ ?_ <;> clear h <;> intro h
    ·refine wc_region (wM 1 rfl (wLd (v := .agg #[.int .i32 p0.Players.1.X, .int .i32 p0.Players.1.Y, .int .i32 0, .int .i32 0, .int .u8 100, .int .u8 p0.Players.1.Cool, .int .u8 p0.Players.1.Face]) rfl (mT mH) rfl rfl (wM 1 rfl (wl_val (v := .pointer (some ⟨b2, 2, none⟩)) (val_ia (j := 0) tt_ok rfl rfl rfl rfl (by simpa using hx130) rfl rfl) rfl (lSt (Upd.there (Upd.there (Upd.there Upd.here))) ?_)))))
     refine wl_nil ?_
     obtain rfl := sI h
     exact wx_join ⟨rfl, rfl⟩ (ag2 rfl rfl) pI
    refine wc_skip ?_
    obtain rfl := sI h
    exact wx_join ⟨rfl, rfl⟩ (ag2 rfl rfl) pI
   rintro _ _ ⟨rfl, rfl⟩
   have h := hj36; clear hj36
   refine wSR (wLd (v := .agg #[.int .u64 p0.Frame, .int .u64 zb, .int .i32 za.1.X, .int .i32 za.1.Y, .int .i32 za.1.VX, .int .i32 za.1.VY, .int .u8 za.1.Health, .int .u8 za.1.Cool, .int .u8 za.1.Face, .int .i32 za.2.X, .int .i32 za.2.Y, .int .i32 za.2.VX, .int .i32 za.2.VY, .int .u8 za.2.Health, .int .u8 za.2.Cool, .int .u8 za.2.Face, .slice p0a0 p0n0 p0c0, .int .u16 p0.Score.1, .int .u16 p0.Score.2]) rfl mH rfl rfl (lSt (Upd.there Upd.here) ?_))
   refine wNT (wc_ret ?_)
   obtain rfl := sI h
   exact wE Tryz.results106 (Res.cell rfl (mT mH) rfl Res.nil) ⟨p0a0, p0n0, p0c0, p0B0, p0N0, p0V0, rfl, rfl⟩ pI
  replace h := cf hx541 h
  cases h
 replace h := cf hx130 h
 rcases Bool.eq_false_or_eq_true (p1 == (1 : Int)) with hx131 | hx131
 ·replace h := ct hx131 h
  refine wl_val (v := .pointer (some ⟨b2, 9, none⟩)) (val_ia (j := 1) tt_ok rfl rfl rfl rfl (by simpa using hx131) rfl rfl) rfl ?_
  refine wM 1 rfl (wLd rfl (mT mH) rfl rfl (wM 1 rfl (wNT (wcc h rfl ?_ ?_)))) <;> clear h <;> intro h
  ·refine wSR (wLd (v := agS p0 p0a0 p0n0 p0c0) rfl (mT mH) rfl rfl (lSt Upd.here ?_))
   refine wNT (wc_ret (wx_then_ret ?_))
   obtain rfl := sI h
   exact wE Tryz.results106 (Res.cell rfl mH rfl Res.nil) ⟨p0a0, p0n0, p0c0, p0B0, p0N0, p0V0, rfl, rfl⟩ pI
  refine wc_skip (wx_then (wSR (wM 2 rfl (wl_val (v := .pointer (some ⟨b2, 9, none⟩)) (val_ia (j := 1) tt_ok rfl rfl rfl rfl (by simpa using hx131) rfl rfl) rfl (wLd (v := agP p0.Players.2) rfl (mT mH) rfl rfl (wl_alloc tt_ok rfl rfl (fun b5 => (lSt Upd.here ?_))))))))
  refine wNT (wSR (wM 1 rfl (lSt Upd.here ?_)))
  refine wNT (wSR (wM 1 rfl (lSt Upd.here ?_)))
  refine wNT (wSR (wM 1 rfl (lSt Upd.here ?_)))
  refine wNT (wSR (wM 1 rfl (wLd rfl (mTT mH) rfl rfl ?_)))
  replace h := bsome h; obtain ⟨⟨zc, ze⟩, x28, h⟩ := h; try dsimp only at h
  refine wl_cq Tryz.call129 rfl rfl rfl (q_pf (k_hindcastref05_Below x28) (fun _ _ => trivial)) rfl ?_
  refine wM 5 rfl (wNT (wSR (wM 1 rfl ?_)))
  replace h := bsome h; obtain ⟨⟨zd, zb⟩, x33, h⟩ := h; try dsimp only at h
  refine wl_cq Tryz.call129 rfl rfl rfl (q_pf (k_hindcastref05_Below x33) (fun _ _ => trivial)) rfl ?_
  refine wM 5 rfl (wNT (wSR (wM 2 rfl (lSt (Upd.there (Upd.there Upd.here)) ?_))))
  refine wNT (wSR (wLd (v := .agg #[.int .i32 p0.Players.2.X, .int .i32 p0.Players.2.Y, .int .i32 0, .int .i32 0, .int .u8 100, .int .u8 p0.Players.2.Cool, .int .u8 p0.Players.2.Face]) rfl mH rfl rfl (wl_alloc tt_ok rfl rfl (fun b10 => (lSt Upd.here ?_)))))
  refine wNT (wSR (wM 3 rfl (lSt Upd.here ?_)))
  refine wNT (wSR (wM 3 rfl (lSt Upd.here ?_)))
  refine wNT (wSR (wM 1 rfl (wLd (v := .agg #[.int .i32 (IntKind.wrap .i32 zc), .int .i32 (IntKind.wrap .i32 zd), .int .i32 0, .int .i32 0, .int .u8 100, .int .u8 p0.Players.2.Cool, .int .u8 p0.Players.2.Face]) rfl mH rfl rfl (wM 1 rfl (wl_val (v := .pointer (some ⟨b2, 9, none⟩)) (val_ia (j := 1) tt_ok rfl rfl rfl rfl (by simpa using hx131) rfl rfl) rfl (lSt (Upd.there (Upd.there (Upd.there Upd.here))) ?_))))))
  refine wNT (wc_seq (wc_seq (wc_quiet (by kernel_rfl) (by kernel_rfl) (qLd (v := .agg #[.int .i32 (IntKind.wrap .i32 zc), .int .i32 (IntKind.wrap .i32 zd), .int .i32 0, .int .i32 0, .int .u8 100, .int .u8 p0.Players.2.Cool, .int .u8 p0.Players.2.Face]) rfl mH rfl rfl ?_))))
  obtain ⟨v50, x50, h⟩ := bsome h
  refine wq_cq Tryz.call127 rfl rfl rfl (q_pf (k_hindcastref09_Box x50) (fun _ _ => trivial)) rfl ?_
  refine qM 3 rfl ?_
  rcases Bool.eq_false_or_eq_true ((IntKind.wrap .i64 ((1 : Int) - p1)) == (0 : Int)) with hx540 | hx540
  ·replace h := ct hx540 h
   refine wq_val (v := .pointer (some ⟨b2, 2, none⟩)) (val_ia (j := 0) tt_ok rfl rfl rfl rfl (by simpa using hx540) rfl rfl) rfl ?_
   refine qLd (v := agP p0.Players.1) rfl (mTT (mT mH)) rfl rfl ?_
   obtain ⟨v56, x56, h⟩ := bsome h
   refine wq_cq Tryz.call127 rfl rfl rfl (q_pf (k_hindcastref09_Box x56) (fun _ _ => trivial)) rfl ?_
   obtain ⟨v57, x57, h⟩ := bsome h
   refine wq_cq Tryz.call126 rfl rfl rfl (q_pf (k_hindcastref07_Over x57) (fun _ _ => trivial)) rfl ?_
   refine wq_nil (wx_then ?_)
   obtain ⟨za, h, hj36⟩ := bsome h
   refine wc_join2 (fun E L => E = [(2, .pointer (some ⟨b2, 0, none⟩)), (4, .pointer (some ⟨b4, 0, none⟩))] ∧ L = (⟨b2, (.int .u64 p0.Frame :: .int .u64 zb :: pl14 za [.slice p0a0 p0n0 p0c0, .int .u16 p0.Score.1, .int .u16 p0.Score.2]), 64, (0, 0)⟩ :: (⟨b4, [.int .u64 0, .int .u64 0, .int .i32 0, .int .i32 0, .int .i32 0, .int .i32 0, .int .u8 0, .int .u8 0, .int .u8 0, .int .i32 0, .int .i32 0, .int .i32 0, .int .i32 0, .int .u8 0, .int .u8 0, .int .u8 0, .slice none 0 0, .int .u16 0, .int .u16 0], 64, (0, 0)⟩ :: (p0B0 ++ [])))) ?_ ?_
   ·refine wcc h rfl ?_ ?_ <;> clear h <;> intro h
    ·refine wc_region (wM 1 rfl (wLd (v := .agg #[.int .i32 p0.Players.2.X, .int .i32 p0.Players.2.Y, .int .i32 0, .int .i32 0, .int .u8 100, .int .u8 p0.Players.2.Cool, .int .u8 p0.Players.2.Face]) rfl (mT mH) rfl rfl (wM 1 rfl (wl_val (v := .pointer (some ⟨b2, 9, none⟩)) (val_ia (j := 1) tt_ok rfl rfl rfl rfl (by simpa using hx131) rfl rfl) rfl (lSt (Upd.there (Upd.there (Upd.there Upd.here))) ?_)))))
     refine wl_nil ?_
     obtain rfl := sI h
     exact wx_join ⟨rfl, rfl⟩ (ag2 rfl rfl) pI
    refine wc_skip ?_
    obtain rfl := sI h
    exact wx_join ⟨rfl, rfl⟩ (ag2 rfl rfl) pI
   rintro _ _ ⟨rfl, rfl⟩
   have h := hj36; clear hj36
   refine wSR (wLd (v := .agg #[.int .u64 p0.Frame, .int .u64 zb, .int .i32 za.1.X, .int .i32 za.1.Y, .int .i32 za.1.VX, .int .i32 za.1.VY, .int .u8 za.1.Health, .int .u8 za.1.Cool, .int .u8 za.1.Face, .int .i32 za.2.X, .int .i32 za.2.Y, .int .i32 za.2.VX, .int .i32 za.2.VY, .int .u8 za.2.Health, .int .u8 za.2.Cool, .int .u8 za.2.Face, .slice p0a0 p0n0 p0c0, .int .u16 p0.Score.1, .int .u16 p0.Score.2]) rfl mH rfl rfl (lSt (Upd.there Upd.here) ?_))
   refine wNT (wc_ret ?_)
   obtain rfl := sI h
   exact wE Tryz.results106 (Res.cell rfl (mT mH) rfl Res.nil) ⟨p0a0, p0n0, p0c0, p0B0, p0N0, p0V0, rfl, rfl⟩ pI
  replace h := cf hx540 h
  rcases Bool.eq_false_or_eq_true ((IntKind.wrap .i64 ((1 : Int) - p1)) == (1 : Int)) with hx541 | hx541
  ·replace h := ct hx541 h
   refine wq_val (v := .pointer (some ⟨b2, 9, none⟩)) (val_ia (j := 1) tt_ok rfl rfl rfl rfl (by simpa using hx541) rfl rfl) rfl ?_
   refine qLd (v := .agg #[.int .i32 (IntKind.wrap .i32 zc), .int .i32 (IntKind.wrap .i32 zd), .int .i32 0, .int .i32 0, .int .u8 100, .int .u8 p0.Players.2.Cool, .int .u8 p0.Players.2.Face]) rfl (mTT (mT mH)) rfl rfl ?_
   obtain ⟨v56, x56, h⟩ := bsome h
   refine wq_cq Tryz.call127 rfl rfl rfl (q_pf (k_hindcastref09_Box x56) (fun _ _ => trivial)) rfl ?_
   obtain ⟨v57, x57, h⟩ := bsome h
   refine wq_cq Tryz.call126 rfl rfl rfl (q_pf (k_hindcastref07_Over x57) (fun _ _ => trivial)) rfl ?_
   refine wq_nil (wx_then ?_)
   obtain ⟨za, h, hj36⟩ := bsome h
   refine wc_join2 (fun E L => E = [(2, .pointer (some ⟨b2, 0, none⟩)), (4, .pointer (some ⟨b4, 0, none⟩))] ∧ L = (⟨b2, (.int .u64 p0.Frame :: .int .u64 zb :: pl14 za [.slice p0a0 p0n0 p0c0, .int .u16 p0.Score.1, .int .u16 p0.Score.2]), 64, (0, 0)⟩ :: (⟨b4, [.int .u64 0, .int .u64 0, .int .i32 0, .int .i32 0, .int .i32 0, .int .i32 0, .int .u8 0, .int .u8 0, .int .u8 0, .int .i32 0, .int .i32 0, .int .i32 0, .int .i32 0, .int .u8 0, .int .u8 0, .int .u8 0, .slice none 0 0, .int .u16 0, .int .u16 0], 64, (0, 0)⟩ :: (p0B0 ++ [])))) ?_ ?_
   ·refine wcc h rfl ?_ ?_ <;> clear h <;> intro h
    ·refine wc_region (wM 1 rfl (wLd (v := .agg #[.int .i32 p0.Players.2.X, .int .i32 p0.Players.2.Y, .int .i32 0, .int .i32 0, .int .u8 100, .int .u8 p0.Players.2.Cool, .int .u8 p0.Players.2.Face]) rfl (mT mH) rfl rfl (wM 1 rfl (wl_val (v := .pointer (some ⟨b2, 9, none⟩)) (val_ia (j := 1) tt_ok rfl rfl rfl rfl (by simpa using hx131) rfl rfl) rfl (lSt (Upd.there (Upd.there (Upd.there Upd.here))) ?_)))))
     refine wl_nil ?_
     obtain rfl := sI h
     exact wx_join ⟨rfl, rfl⟩ (ag2 rfl rfl) pI
    refine wc_skip ?_
    obtain rfl := sI h
    exact wx_join ⟨rfl, rfl⟩ (ag2 rfl rfl) pI
   rintro _ _ ⟨rfl, rfl⟩
   have h := hj36; clear hj36
   refine wSR (wLd (v := .agg #[.int .u64 p0.Frame, .int .u64 zb, .int .i32 za.1.X, .int .i32 za.1.Y, .int .i32 za.1.VX, .int .i32 za.1.VY, .int .u8 za.1.Health, .int .u8 za.1.Cool, .int .u8 za.1.Face, .int .i32 za.2.X, .int .i32 za.2.Y, .int .i32 za.2.VX, .int .i32 za.2.VY, .int .u8 za.2.Health, .int .u8 za.2.Cool, .int .u8 za.2.Face, .slice p0a0 p0n0 p0c0, .int .u16 p0.Score.1, .int .u16 p0.Score.2]) rfl mH rfl rfl (lSt (Upd.there Upd.here) ?_))
   refine wNT (wc_ret ?_)
   obtain rfl := sI h
   exact wE Tryz.results106 (Res.cell rfl (mT mH) rfl Res.nil) ⟨p0a0, p0n0, p0c0, p0B0, p0N0, p0V0, rfl, rfl⟩ pI
  replace h := cf hx541 h
  cases h
 replace h := cf hx131 h
 cases h

theorem k_hindcastref09_Step {p0 : T_api_State} {p1 : (Int × Int)} {r0 : T_api_State} (p0N0 : p0n0 = p0.Shots.length) (p0H0 : p0n0 ≤ p0c0) (h : m_hindcastref09_Step F p0 p1 = some r0) :
    SpD Tryz.prog 72 [agS p0 p0a0 p0n0 p0c0, .agg #[.int .u8 p1.1, .int .u8 p1.2]] [] (fun w => Rds w (ids []) [] p0a0 (flat c_T_api_Shot p0.Shots)) (fun v D => ∃ r0a0 r0n0 r0c0 r0B0, r0n0 = r0.Shots.length ∧ Own 119 6 r0a0 r0n0 r0c0 (flat c_T_api_Shot r0.Shots) r0B0 ∧ v = agS r0 r0a0 r0n0 r0c0 ∧ D = fun F => (r0B0 ++ F)) := by
 unfold m_hindcastref09_Step at h
 refine sp_of_wc Tryz.func72 rfl Tryz.ntmps72 rfl rfl (fun w0 hR => ?_)
 have p0S0 := hR
 refine wSR (wl_box rfl rfl rfl (fun b2 => (wl_box rfl rfl rfl (fun b3 => (wl_alloc tt_ok rfl rfl (fun b4 => (wNT (wSR (wLd (v := agS p0 p0a0 p0n0 p0c0) rfl (mTT mH) rfl rfl ?_)))))))))
 obtain ⟨v6, x6, h⟩ := bsome h
 refine wl_cs Tryz.call69 rfl rfl rfl (s_sp (k_hindcastref08_Copy (p0 := p0) p0N0 p0H0 x6) pNil (Rds.call p0S0 pNil rsub_nil)) rfl ?_
 rintro _ _ ⟨_, ⟨v6a0, v6n0, v6c0, v6B0, v6N0, v6V0, rfl, rfl⟩, rfl⟩
 refine lSt (Upd.right (Upd.there (Upd.there Upd.here))) ?_
 refine wNT (wc_seq (wSR (wLd (v := agS v6 v6a0 v6n0 v6c0) rfl (mR (mTT mH)) rfl rfl ?_)))
 obtain ⟨v8, x8, h⟩ := bsome h
 refine wl_cq Tryz.call68 rfl rfl rfl (q_pf (k_hindcastref08_Check (p0 := v6) v6N0 (vec_cap v6V0) x8) (Rds.call (Rds.of_vec v6V0) pNil ⟨_, hA'⟩)) rfl ?_
 refine wM 2 rfl ?_
 obtain ⟨v15, h, hg15⟩ := bsome h
 refine wls 10 h rfl ?_ ?_ <;> clear h <;> intro h
 ·refine wM 4 rfl ?_
  obtain rfl := sI h
  have h := hg15; clear hg15
  refine wM 2 rfl ?_
  obtain ⟨v21, h, hg21⟩ := bsome h
  replace h := ct rfl h
  refine wM 4 rfl ?_
  obtain rfl := sI h
  have h := hg21; clear hg21
  refine wM 1 rfl (wNT ?_)
  replace h := ct rfl h
  refine wc_cond_true rfl ?_
  refine wSR (wLd (v := agS v6 v6a0 v6n0 v6c0) rfl (mR (mTT mH)) rfl rfl (lSt (Upd.right Upd.here) ?_))
  refine wNT (wc_ret (wx_then_ret ?_))
  obtain rfl := sI h
  exact wE Tryz.results72 (Res.cell rfl (mR mH) rfl Res.nil) ⟨v6a0, v6n0, v6c0, v6B0, v6N0, v6V0, rfl, rfl⟩ pI
 refine wl_run rfl (wl_val (v := .pointer (some ⟨b3, 0, none⟩)) (val_ia (j := 0) tt_ok rfl rfl rfl rfl rfl rfl rfl) rfl (wl_run rfl (wLd rfl (mR (mT mH)) rfl rfl ?_)))
 obtain ⟨v13, x13, h⟩ := bsome h
 refine wl_run rfl (wl_cq Tryz.call101 rfl rfl rfl (q_pf (k_hindcastref06_Legal x13) (fun _ _ => trivial)) rfl (wM 1 rfl ?_))
 obtain rfl := sI h
 have h := hg15; clear hg15
 refine wM 2 rfl ?_
 obtain ⟨v21, h, hg21⟩ := bsome h
 refine wls 16 h rfl ?_ ?_ <;> clear h <;> intro h
 ·refine wM 4 rfl ?_
  obtain rfl := sI h
  have h := hg21; clear hg21
  refine wM 1 rfl (wNT ?_)
  replace h := ct rfl h
  refine wc_cond_true rfl ?_
  refine wSR (wLd (v := agS v6 v6a0 v6n0 v6c0) rfl (mR (mTT mH)) rfl rfl (lSt (Upd.right Upd.here) ?_))
  refine wNT (wc_ret (wx_then_ret ?_))
  obtain rfl := sI h
  exact wE Tryz.results72 (Res.cell rfl (mR mH) rfl Res.nil) ⟨v6a0, v6n0, v6c0, v6B0, v6N0, v6V0, rfl, rfl⟩ pI
 refine wl_run rfl (wl_val (v := .pointer (some ⟨b3, 1, none⟩)) (val_ia (j := 1) tt_ok rfl rfl rfl rfl rfl rfl rfl) rfl (wl_run rfl (wLd rfl (mR (mT mH)) rfl rfl ?_)))
 obtain ⟨v19, x19, h⟩ := bsome h
 refine wl_run rfl (wl_cq Tryz.call101 rfl rfl rfl (q_pf (k_hindcastref06_Legal x19) (fun _ _ => trivial)) rfl (wM 1 rfl ?_))
 obtain rfl := sI h
 have h := hg21; clear hg21
 refine wM 1 rfl (wNT (wcc h rfl ?_ ?_)) <;> clear h <;> intro h
 ·refine wSR (wLd (v := agS v6 v6a0 v6n0 v6c0) rfl (mR (mTT mH)) rfl rfl (lSt (Upd.right Upd.here) ?_))
  refine wNT (wc_ret (wx_then_ret ?_))
  obtain rfl := sI h
  exact wE Tryz.results72 (Res.cell rfl (mR mH) rfl Res.nil) ⟨v6a0, v6n0, v6c0, v6B0, v6N0, v6V0, rfl, rfl⟩ pI
 refine wc_skip (wx_then (wSR (wM 1 rfl (wl_val (v := .pointer (some ⟨b2, 2, none⟩)) (val_ia (j := 0) tt_ok rfl rfl rfl rfl rfl rfl rfl) rfl (wLd (v := agP v6.Players.1) rfl (mR (mTT mH)) rfl rfl (wl_val (v := .pointer (some ⟨b3, 0, none⟩)) (val_ia (j := 0) tt_ok rfl rfl rfl rfl rfl rfl rfl) rfl (wLd rfl (mR (mT mH)) rfl rfl ?_)))))))
 obtain ⟨v28, x28, h⟩ := bsome h
 refine wl_cq Tryz.call102 rfl rfl rfl (q_pf (k_hindcastref09_one x28) (fun _ _ => trivial)) rfl ?_
 refine wM 1 rfl (wl_val (v := .pointer (some ⟨b2, 2, none⟩)) (val_ia (j := 0) tt_ok rfl rfl rfl rfl rfl rfl rfl) rfl (lSt (Upd.right (Upd.there (Upd.there Upd.here))) ?_))
 refine wNT (wSR (wM 1 rfl (wl_val (v := .pointer (some ⟨b2, 9, none⟩)) (val_ia (j := 1) tt_ok rfl rfl rfl rfl rfl rfl rfl) rfl (wLd (v := agP v6.Players.2) rfl (mR (mTT mH)) rfl rfl (wl_val (v := .pointer (some ⟨b3, 1, none⟩)) (val_ia (j := 1) tt_ok rfl rfl rfl rfl rfl rfl rfl) rfl (wLd rfl (mR (mT mH)) rfl rfl ?_))))))
 obtain ⟨v36, x36, h⟩ := bsome h
 refine wl_cq Tryz.call102 rfl rfl rfl (q_pf (k_hindcastref09_one x36) (fun _ _ => trivial)) rfl ?_
 refine wM 1 rfl (wl_val (v := .pointer (some ⟨b2, 9, none⟩)) (val_ia (j := 1) tt_ok rfl rfl rfl rfl rfl rfl rfl) rfl (lSt (Upd.right (Upd.there (Upd.there Upd.here))) ?_))
 refine wNT (wSR (wLd (v := .agg #[.int .u64 v6.Frame, .int .u64 v6.Seed, .int .i32 v28.X, .int .i32 v28.Y, .int .i32 v28.VX, .int .i32 v28.VY, .int .u8 v28.Health, .int .u8 v28.Cool, .int .u8 v28.Face, .int .i32 v36.X, .int .i32 v36.Y, .int .i32 v36.VX, .int .i32 v36.VY, .int .u8 v36.Health, .int .u8 v36.Cool, .int .u8 v36.Face, .slice v6a0 v6n0 v6c0, .int .u16 v6.Score.1, .int .u16 v6.Score.2]) rfl (mR (mTT mH)) rfl rfl (wLd (v := .agg #[.int .u8 p1.1, .int .u8 p1.2]) rfl (mR (mT mH)) rfl rfl ?_)))
 obtain ⟨v41, x41, h⟩ := bsome h
 refine wl_cs Tryz.call103 rfl rfl rfl (s_sp (k_hindcastref09_two_o0 (p0 := (T_api_State.mk v6.Frame v6.Seed (v28, v36) v6.Shots v6.Score)) v6N0 v6V0 x41) pP (fun _ _ => trivial)) rfl ?_
 rintro _ _ ⟨_, ⟨v41a0, v41n0, v41c0, v41B0, v41N0, v41V0, rfl, rfl⟩, rfl⟩
 refine lSt (Upd.right (Upd.there (Upd.there Upd.here))) ?_
 refine wNT (wSR (wLd (v := agS v41 v41a0 v41n0 v41c0) rfl (mR (mTT mH)) rfl rfl ?_))
 obtain ⟨v43, x43, h⟩ := bsome h
 refine wl_cs Tryz.call104 rfl rfl rfl (s_sp (k_hindcastref09_three_o0 (p0 := v41) v41N0 v41V0 x43) pP (fun _ _ => trivial)) rfl ?_
 rintro _ _ ⟨_, ⟨v43a0, v43n0, v43c0, v43B0, v43N0, v43V0, rfl, rfl⟩, rfl⟩
 refine lSt (Upd.right (Upd.there (Upd.there Upd.here))) ?_
 refine wNT (wSR (wLd (v := agS v43 v43a0 v43n0 v43c0) rfl (mR (mTT mH)) rfl rfl ?_))
 obtain ⟨v45, x45, h⟩ := bsome h
 refine wl_cs Tryz.call105 rfl rfl rfl (s_sp (k_hindcastref09_four (p0 := v43) v43N0 (vec_cap v43V0) x45) pNil (Rds.call (Rds.of_vec v43V0) pNil ⟨_, hA'⟩)) rfl ?_
 rintro _ _ ⟨_, ⟨v45a0, v45n0, v45c0, v45B0, v45N0, v45V0, rfl, rfl⟩, rfl⟩
 refine lSt (Upd.right (Upd.right (Upd.there (Upd.there Upd.here)))) ?_
 refine wNT (wSR (wLd (v := agS v45 v45a0 v45n0 v45c0) rfl (mR (mR (mTT mH))) rfl rfl ?_))
 obtain ⟨v47, x47, h⟩ := bsome h
 refine wl_cs Tryz.call106 rfl rfl rfl (s_sp (k_hindcastref09_five_o0 (p0 := v45) v45N0 v45V0 x47) pP (fun _ _ => trivial)) rfl ?_
 rintro _ _ ⟨_, ⟨v47a0, v47n0, v47c0, v47B0, v47N0, v47V0, rfl, rfl⟩, rfl⟩
 refine lSt (Upd.right (Upd.right (Upd.there (Upd.there Upd.here)))) ?_
 refine wNT (wSR (wLd (v := agS v47 v47a0 v47n0 v47c0) rfl (mR (mR (mTT mH))) rfl rfl ?_))
 obtain ⟨v49, x49, h⟩ := bsome h
 refine wl_cs Tryz.call106 rfl rfl rfl (s_sp (k_hindcastref09_five_o0 (p0 := v47) v47N0 v47V0 x49) pP (fun _ _ => trivial)) rfl ?_
 rintro _ _ ⟨_, ⟨v49a0, v49n0, v49c0, v49B0, v49N0, v49V0, rfl, rfl⟩, rfl⟩
 refine lSt (Upd.right (Upd.right (Upd.there (Upd.there Upd.here)))) ?_
 refine wNT (wSR (wM 1 rfl (wLd rfl (mR (mR (mTT mH))) rfl rfl (wM 2 rfl (lSt (Upd.right (Upd.right (Upd.there (Upd.there Upd.here)))) ?_)))))
 refine wNT (wSR (wLd (v := .agg #[.int .u64 (IntKind.wrap .u64 (v49.Frame + (1 : Int))), .int .u64 v49.Seed, .int .i32 v49.Players.1.X, .int .i32 v49.Players.1.Y, .int .i32 v49.Players.1.VX, .int .i32 v49.Players.1.VY, .int .u8 v49.Players.1.Health, .int .u8 v49.Players.1.Cool, .int .u8 v49.Players.1.Face, .int .i32 v49.Players.2.X, .int .i32 v49.Players.2.Y, .int .i32 v49.Players.2.VX, .int .i32 v49.Players.2.VY, .int .u8 v49.Players.2.Health, .int .u8 v49.Players.2.Cool, .int .u8 v49.Players.2.Face, .slice v49a0 v49n0 v49c0, .int .u16 v49.Score.1, .int .u16 v49.Score.2]) rfl (mR (mR (mTT mH))) rfl rfl (lSt (Upd.right (Upd.right Upd.here)) ?_)))
 refine wNT (wc_ret ?_)
 obtain rfl := sI h
 exact wE Tryz.results72 (Res.cell rfl (mR (mR mH)) rfl Res.nil) ⟨v49a0, v49n0, v49c0, v49B0, v49N0, v49V0, rfl, rfl⟩ pI

theorem k_hindcastref24_Queue_Drop {p0 : T_hindcastref24_Queue} {p1 : Int} {r0 : T_hindcastref24_Queue} (p0N0 : p0n0 = p0.L.length) (p0V0 : Own 52 1 p0a0 p0n0 p0c0 (flat (e1 .u8) p0.L) p0B0) (h : m_hindcastref24_Queue_Drop F p0 p1 = some r0) :
    SpD Tryz.prog 73 [.pointer (some ⟨p0b, 0, none⟩), .int .u64 p1] (⟨p0b, [.int .u64 p0.Begin, .int .u64 p0.First, .slice p0a0 p0n0 p0c0], p0t, (0, 0)⟩ :: (p0B0 ++ [])) (fun w => True) (fun v D => ∃ r0a0 r0n0 r0c0 r0B0, r0n0 = r0.L.length ∧ Own 52 1 r0a0 r0n0 r0c0 (flat (e1 .u8) r0.L) r0B0 ∧ v = .tuple #[] ∧ D = fun F => (⟨p0b, [.int .u64 r0.Begin, .int .u64 r0.First, .slice r0a0 r0n0 r0c0], p0t, (0, 0)⟩ :: (r0B0 ++ F))) := by
 unfold m_hindcastref24_Queue_Drop at h
 refine sp_of_wc Tryz.func73 rfl Tryz.ntmps73 rfl rfl (fun w0 hR => ?_)
 refine wc_seq (wSR (wM 2 rfl ?_))
 obtain ⟨v6, x6, h⟩ := bsome h
 refine wl_cq Tryz.call46 rfl rfl rfl (q_rd (k_hindcastref24_Queue_Known (p0 := p0) (p0t := p0t) p0N0 p0V0 x6) pP (fun _ _ => trivial)) rfl ?_
 refine wM 1 rfl (wNT ?_)
 obtain ⟨za, h, hj4⟩ := bsome h
 refine wc_join2 (fun E L => E = [(0, .pointer (some ⟨p0b, 0, none⟩)), (1, .int .u64 za)] ∧ L = (⟨p0b, [.int .u64 p0.Begin, .int .u64 p0.First, .slice p0a0 p0n0 p0c0], p0t, (0, 0)⟩ :: (p0B0 ++ []))) ?_ ?_
 ·refine wcc h rfl ?_ ?_ <;> clear h <;> intro h
  ·refine wc_region (wM 1 rfl ?_)
   obtain ⟨v9, x9, h⟩ := bsome h
   refine wl_cq Tryz.call46 rfl rfl rfl (q_rd (k_hindcastref24_Queue_Known (p0 := p0) (p0t := p0t) p0N0 p0V0 x9) pP (fun _ _ => trivial)) rfl ?_
   refine wM 1 rfl (wl_nil ?_)
   obtain rfl := sI h
   exact wx_join ⟨rfl, rfl⟩ (ag2 rfl rfl) pI
  refine wc_skip ?_
  obtain rfl := sI h
  exact wx_join ⟨rfl, rfl⟩ (ag2 rfl rfl) pI
 rintro _ _ ⟨rfl, rfl⟩
 have h := hj4; clear hj4
 refine wSR (wM 4 rfl (wLd rfl mH rfl rfl (wM 1 rfl (wNT (wcc h rfl ?_ ?_))))) <;> clear h <;> intro h
 ·refine wc_region (wM 4 rfl (lSt Upd.here ?_))
  refine wl_nil ?_
  obtain rfl := sI h
  exact wx_spD tt_ok (.inr rfl) Tryz.results73 Res.nil ⟨p0a0, p0n0, p0c0, p0B0, p0N0, p0V0, rfl, rfl⟩ (fun F => by simp) pI
 refine wc_skip ?_
 obtain rfl := sI h
 exact wx_spD tt_ok (.inr rfl) Tryz.results73 Res.nil ⟨p0a0, p0n0, p0c0, p0B0, p0N0, p0V0, rfl, rfl⟩ (fun F => by simp) pI

theorem k_hindcastref26_Engine_Confirm {p0 : T_hindcastref26_Engine} {p0_4 : T_hindcastref24_Queue} {p1 : Int} {r0 : T_hindcastref26_Engine} {r1 : T_hindcastref24_Queue} {r2 : (Int × Int)} {r3 : Bool} (p0N0 : p0n0 = p0.Sure.Shots.length) (p0V0 : Own 119 6 p0a0 p0n0 p0c0 (flat c_T_api_Shot p0.Sure.Shots) p0B0) (p0N1 : p0n1 = p0.Own.length) (p0V1 : Own 52 1 p0a1 p0n1 p0c1 (flat (e1 .u8) p0.Own) p0B1) (p0_4N0 : p0_4n0 = p0_4.L.length) (p0_4V0 : Own 52 1 p0_4a0 p0_4n0 p0_4c0 (flat (e1 .u8) p0_4.L) p0_4B0) (h : m_hindcastref26_Engine_Confirm F p0 p0_4 p1 = some (r0, r1, r2, r3)) :
    SpD Tryz.prog 31 [.pointer (some ⟨p0b, 0, none⟩), .int .u64 p1] (⟨p0b, (.int .u8 p0.Player :: .int .i64 p0.Window :: st19 p0.Sure p0a0 p0n0 p0c0 [.slice p0a1 p0n1 p0c1, .pointer (some ⟨p0_4b, 0, none⟩)]), p0t, (0, 0)⟩ :: (p0B0 ++ (p0B1 ++ (⟨p0_4b, [.int .u64 p0_4.Begin, .int .u64 p0_4.First, .slice p0_4a0 p0_4n0 p0_4c0], p0_4t, (0, 0)⟩ :: (p0_4B0 ++ []))))) (fun w => True) (fun v D => ∃ r0a0 r0n0 r0c0 r0B0 r0a1 r0n1 r0c1 r0B1 r1a0 r1n0 r1c0 r1B0, r0n0 = r0.Sure.Shots.length ∧ Own 119 6 r0a0 r0n0 r0c0 (flat c_T_api_Shot r0.Sure.Shots) r0B0 ∧ r0n1 = r0.Own.length ∧ Own 52 1 r0a1 r0n1 r0c1 (flat (e1 .u8) r0.Own) r0B1 ∧ r1n0 = r1.L.length ∧ Own 52 1 r1a0 r1n0 r1c0 (flat (e1 .u8) r1.L) r1B0 ∧ v = .tuple #[.agg #[.int .u8 r2.1, .int .u8 r2.2], .bool r3] ∧ D = fun F => (⟨p0b, (.int .u8 r0.Player :: .int .i64 r0.Window :: st19 r0.Sure r0a0 r0n0 r0c0 [.slice r0a1 r0n1 r0c1, .pointer (some ⟨p0_4b, 0, none⟩)]), p0t, (0, 0)⟩ :: (r0B0 ++ (r0B1 ++ (⟨p0_4b, [.int .u64 r1.Begin, .int .u64 r1.First, .slice r1a0 r1n0 r1c0], p0_4t, (0, 0)⟩ :: (r1B0 ++ F)))))) := by
 unfold m_hindcastref26_Engine_Confirm at h
 refine sp_of_wc Tryz.func31 rfl Tryz.ntmps31 rfl rfl (fun w0 hR => ?_)
 refine wSR (wl_alloc tt_ok rfl rfl (fun b4 => (wM 1 rfl (wNT (wSR (wM 1 rfl ?_))))))
 replace h := bsome h; obtain ⟨⟨zb, zi⟩, x10, h⟩ := h; try dsimp only at h
 refine wl_cq Tryz.call45 rfl rfl rfl (q_rd (k_hindcastref26_Engine_Next (p0 := p0) (p0_4 := p0_4) (p0t := p0t) (p0_4b := p0_4b) (p0_4t := p0_4t) p0N0 p0V0 p0N1 p0V1 p0_4N0 p0_4V0 x10) pP (fun _ _ => trivial)) rfl ?_
 refine wM 3 rfl (wl_alloc tt_ok rfl rfl (fun b6 => (lSt Upd.here ?_)))
 refine wM 1 rfl (wNT (wc_seq (wSR (wM 4 rfl (wLd rfl (mTT mH) rfl rfl (wM 3 rfl ?_))))))
 obtain ⟨v23, h, hg23⟩ := bsome h
 refine wls 20 h rfl ?_ ?_ <;> clear h <;> intro h
 ·refine wM 2 rfl ?_
  obtain rfl := sI h
  have h := hg23; clear hg23
  refine wM 1 rfl (wNT ?_)
  replace h := ct rfl h
  refine wc_cond_true rfl ?_
  refine wSR (wM 1 rfl (lSt (Upd.there Upd.here) ?_))
  refine wM 1 rfl (wNT (wc_ret (wx_then_ret ?_)))
  obtain ⟨rfl, rfl, rfl, rfl⟩ := pJ4 h
  exact wE Tryz.results31 (Res.cell rfl (mT mH) rfl (rs1 rfl)) ⟨p0a0, p0n0, p0c0, p0B0, p0a1, p0n1, p0c1, p0B1, p0_4a0, p0_4n0, p0_4c0, p0_4B0, p0N0, p0V0, p0N1, p0V1, p0_4N0, p0_4V0, rfl, rfl⟩ pI
 refine wM 2 rfl ?_
 obtain rfl := sI h
 have h := hg23; clear hg23
 refine wM 1 rfl (wNT (wcc h rfl ?_ ?_)) <;> clear h <;> intro h
 ·refine wSR (wM 1 rfl (lSt (Upd.there Upd.here) ?_))
  refine wM 1 rfl (wNT (wc_ret (wx_then_ret ?_)))
  obtain ⟨rfl, rfl, rfl, rfl⟩ := pJ4 h
  exact wE Tryz.results31 (Res.cell rfl (mT mH) rfl (rs1 rfl)) ⟨p0a0, p0n0, p0c0, p0B0, p0a1, p0n1, p0c1, p0B1, p0_4a0, p0_4n0, p0_4c0, p0_4B0, p0N0, p0V0, p0N1, p0V1, p0_4N0, p0_4V0, rfl, rfl⟩ pI
 refine wc_skip (wx_then (wc_seq (wc_k2 (Ls := (⟨b6, [.int .u8 zb.1, .int .u8 zb.2], 54, (0, 0)⟩ :: (⟨b4, [.int .u8 0, .int .u8 0], 54, (0, 0)⟩ :: (⟨p0b, (.int .u8 p0.Player :: .int .i64 p0.Window :: st19 p0.Sure p0a0 p0n0 p0c0 [.slice p0a1 p0n1 p0c1, .pointer (some ⟨p0_4b, 0, none⟩)]), p0t, (0, 0)⟩ :: (p0B0 ++ (p0B1 ++ (⟨p0_4b, [.int .u64 p0_4.Begin, .int .u64 p0_4.First, .slice p0_4a0 p0_4n0 p0_4c0], p0_4t, (0, 0)⟩ :: (p0_4B0 ++ [])))))))) [6, 7, 8, 9] [7, 8, 9] [0, 0, 2, 6, 14, 0, 62, 127, 255, 511] [0, 1, 2, 3, 4, 5, 6, 7, 8, 9] (by kernel_rfl) (by kernel_rfl) (by kernel_rfl) ?_)))
 refine kM pI 4 rfl (k_val (v := agS p0.Sure p0a0 p0n0 p0c0) rfl rfl rfl pI (val_load tt_ok rfl (mTT mH) rfl) rfl ?_)
 refine k_val (v := .agg #[.int .u8 zb.1, .int .u8 zb.2]) rfl rfl rfl pI (val_load tt_ok rfl mH rfl) rfl ?_
 obtain ⟨v31, x31, h⟩ := bsome h
 refine k_cs rfl rfl rfl Tryz.call72 rfl rfl rfl (s_sp (k_hindcastref09_Step (p0 := p0.Sure) p0N0 (vec_cap p0V0) x31) pNil (Rds.call (Rds.of_vec p0V0) pNil ⟨_, (sCC (sC hA'))⟩)) rfl (.inr (by rintro _ _ ⟨_, ⟨_, _, _, _, _, _, rfl, rfl⟩, rfl⟩; exact ⟨_, pP⟩)) ?_
 rintro _ _ ⟨_, ⟨v31a0, v31n0, v31c0, v31B0, v31N0, v31V0, rfl, rfl⟩, rfl⟩
 refine k_chg rfl rfl rfl (Chg.of_val (sV rfl)) rfl (.inl rfl) ?_
 rintro _ _ ⟨rfl, rfl⟩
 refine k_chg rfl rfl rfl (Chg.of_val (v := .pointer (some ⟨p0b, 2, none⟩)) (sV rfl)) rfl (.inl rfl) ?_
 rintro _ _ ⟨rfl, rfl⟩
 refine k_chg0 rfl rfl rfl (chg_store tt_ok rfl (Upd.right (Upd.there (Upd.there Upd.here))) rfl rfl rfl rfl rfl rfl) (.inl rfl) ?_
 rintro _ _ rfl
 refine k_end (by kernel_rfl) ?_
 refine wx_then (wSR (wM 4 rfl (wLd rfl (mR (mTT mH)) rfl rfl ?_)))
 obtain ⟨v39, x39, h⟩ := bsome h
 refine wl_cut (enc := (e1 .u8)) tt_ok rfl rfl rfl p0N1 (vec_some p0V1) (e1_len _) (vec_cap p0V1) (.inr ⟨_, _, rfl, rfl⟩) (.inl ⟨rfl, by rw [p0N1]⟩) (.inl ⟨rfl, rfl⟩) (by intro h; first | rfl | cases h) (cut2 x39 p0N1 (vec_cap p0V1)) x39 rfl ?_
 intro a39 n39_ c39 N39 H39 I39 O39 Z39
 refine wM 2 rfl (lSt (Upd.right (Upd.there (Upd.there Upd.here))) ?_)
 refine wNT (wc_seq (wc_k2 (Ls := (v31B0 ++ (⟨b6, [.int .u8 zb.1, .int .u8 zb.2], 54, (0, 0)⟩ :: (⟨b4, [.int .u8 0, .int .u8 0], 54, (0, 0)⟩ :: (⟨p0b, (.int .u8 p0.Player :: .int .i64 p0.Window :: st19 v31 v31a0 v31n0 v31c0 [.slice a39 n39_ c39, .pointer (some ⟨p0_4b, 0, none⟩)]), p0t, (0, 0)⟩ :: (p0B0 ++ (p0B1 ++ (⟨p0_4b, [.int .u64 p0_4.Begin, .int .u64 p0_4.First, .slice p0_4a0 p0_4n0 p0_4c0], p0_4t, (0, 0)⟩ :: (p0_4B0 ++ []))))))))) [9] [9] [0, 1, 3, 7, 0, 16, 48, 112, 240, 511] [0, 1, 2, 3, 4, 5, 6, 7, 8, 9] (by kernel_rfl) (by kernel_rfl) (by kernel_rfl) ?_))
 refine kM pI 3 rfl (k_val (v := .pointer (some ⟨p0_4b, 0, none⟩)) rfl rfl rfl pI (val_load tt_ok rfl (mR (mTT mH)) rfl) rfl (kM pI 4 rfl (k_val (v := .int .u64 v31.Frame) rfl rfl rfl pI (val_load tt_ok rfl (mR (mTT mH)) rfl) rfl ?_)))
 obtain ⟨za, x51, h⟩ := bsome h
 refine k_cs rfl rfl rfl Tryz.call73 rfl rfl rfl (s_sp (k_hindcastref24_Queue_Drop (p0 := p0_4) (p0t := p0_4t) p0_4N0 p0_4V0 x51) pP (fun _ _ => trivial)) rfl (.inl rfl) ?_
 rintro _ _ ⟨_, ⟨zf, zh, zg, zc, zd, ze, rfl, rfl⟩, rfl⟩
 refine k_end (by kernel_rfl) ?_
 refine wx_then (wSR (wLd (v := .agg #[.int .u8 zb.1, .int .u8 zb.2]) rfl (mT (mR (mR mH))) rfl rfl (lSt (Upd.there (Upd.right (Upd.right (Upd.there Upd.here)))) ?_)))
 refine wM 1 rfl (wNT (wc_ret ?_))
 obtain ⟨rfl, rfl, rfl, rfl⟩ := pJ4 h
 exact wE Tryz.results31 (Res.cell rfl (mT (mR (mR (mT mH)))) rfl (rs1 rfl)) ⟨v31a0, v31n0, v31c0, v31B0, a39, n39_, c39, p0B1, zf, zh, zg, zc, v31N0, v31V0, N39, (O39 _ rfl p0V1), zd, ze, rfl, rfl⟩ pI

theorem k_hindcastref11_History_Count {p0 : T_hindcastref11_History} {r0 : Int} (p0N0 : p0n0 = p0.L.length) (p0V0 : Own 54 2 p0a0 p0n0 p0c0 (flat (e2 .u8) p0.L) p0B0) (h : m_hindcastref11_History_Count F p0 = some r0) :
    Rd2 Tryz.prog 74 [.pointer (some ⟨p0b, 0, none⟩)] (⟨p0b, [.int .u64 p0.From, .int .i64 p0.Most, .slice p0a0 p0n0 p0c0], p0t, (0, 0)⟩ :: (p0B0 ++ [])) (fun w => True) (.int .u64 r0) := by
 unfold m_hindcastref11_History_Count at h
 refine sp_of_wc Tryz.func74 rfl Tryz.ntmps74 rfl rfl (fun w0 hR => ?_)
 refine wSR (wM 1 rfl (wNT (wc_seq (wc_quiet (by kernel_rfl) (by kernel_rfl) (qM 3 rfl (qLd rfl mH rfl rfl (qM 3 rfl (qLd rfl mH rfl rfl (wq_val (v := .int .i64 (p0.L.length : Int)) (val_len tt_ok rfl rfl p0N0) rfl (qM 3 rfl (wq_nil (wx_then (wc_ret ?_)))))))))))))
 obtain rfl := sI h
 exact wx_rd tt_ok (.inl rfl) Tryz.results74 (rs1 rfl) pI rfl

theorem k_hindcastref11_History_Add {p0 : T_hindcastref11_History} {p1 : (Int × Int)} {r0 : T_hindcastref11_History} {r1 : Int} (p0N0 : p0n0 = p0.L.length) (p0V0 : Own 54 2 p0a0 p0n0 p0c0 (flat (e2 .u8) p0.L) p0B0) (h : m_hindcastref11_History_Add F p0 p1 = some (r0, r1)) :
    SpD Tryz.prog 32 [.pointer (some ⟨p0b, 0, none⟩), .agg #[.int .u8 p1.1, .int .u8 p1.2]] (⟨p0b, [.int .u64 p0.From, .int .i64 p0.Most, .slice p0a0 p0n0 p0c0], p0t, (0, 0)⟩ :: (p0B0 ++ [])) (fun w => True) (fun v D => ∃ r0a0 r0n0 r0c0 r0B0, r0n0 = r0.L.length ∧ Own 54 2 r0a0 r0n0 r0c0 (flat (e2 .u8) r0.L) r0B0 ∧ v = .int .i64 r1 ∧ D = fun F => (⟨p0b, [.int .u64 r0.From, .int .i64 r0.Most, .slice r0a0 r0n0 r0c0], p0t, (0, 0)⟩ :: (r0B0 ++ F))) := by
 unfold m_hindcastref11_History_Add at h
 refine sp_of_wc Tryz.func32 rfl Tryz.ntmps32 rfl rfl (fun w0 hR => ?_)
 refine wSR (wl_box rfl rfl rfl (fun b3 => (wM 1 rfl (wNT (wc_seq (wSR (wl_val (v := .pointer (some ⟨b3, 0, none⟩)) (val_ia (j := 0) tt_ok rfl rfl rfl rfl rfl rfl rfl) rfl (wLd rfl mH rfl rfl (wM 2 rfl ?_)))))))))
 obtain ⟨v13, h, hg13⟩ := bsome h
 refine wls 9 h rfl ?_ ?_ <;> clear h <;> intro h
 ·refine wM 3 rfl ?_
  obtain rfl := sI h
  have h := hg13; clear hg13
  refine wM 1 rfl (wNT ?_)
  replace h := ct rfl h
  refine wc_cond_true rfl ?_
  refine wSR (wM 1 rfl (wNT (wc_ret (wx_then_ret ?_))))
  obtain ⟨rfl, rfl⟩ := pJ2 h
  exact wE Tryz.results32 (rs1 rfl) ⟨p0a0, p0n0, p0c0, p0B0, p0N0, p0V0, rfl, rfl⟩ pI
 refine wl_run rfl (wl_val (v := .pointer (some ⟨b3, 1, none⟩)) (val_ia (j := 1) tt_ok rfl rfl rfl rfl rfl rfl rfl) rfl (wl_run rfl (wLd rfl mH rfl rfl (wM 1 rfl ?_))))
 obtain rfl := sI h
 have h := hg13; clear hg13
 refine wM 1 rfl (wNT (wcc h rfl ?_ ?_)) <;> clear h <;> intro h
 ·refine wSR (wM 1 rfl (wNT (wc_ret (wx_then_ret ?_))))
  obtain ⟨rfl, rfl⟩ := pJ2 h
  exact wE Tryz.results32 (rs1 rfl) ⟨p0a0, p0n0, p0c0, p0B0, p0N0, p0V0, rfl, rfl⟩ pI
 refine wc_skip (wx_then (wc_seq (wc_seq (wc_quiet (by kernel_rfl) (by kernel_rfl) (qM 3 rfl (qLd rfl (mT mH) rfl rfl (wq_val (v := .int .i64 (p0.L.length : Int)) (val_len tt_ok rfl rfl p0N0) rfl (qM 3 rfl (qLd rfl (mT mH) rfl rfl (qM 2 rfl ?_))))))))))
 obtain ⟨v28, h, hg28⟩ := bsome h
 refine wqs 24 h rfl ?_ ?_ <;> clear h <;> intro h
 ·refine qM 3 rfl ?_
  obtain rfl := sI h
  have h := hg28; clear hg28
  refine qM 1 rfl (wq_nil (wx_then ?_))
  replace h := ct rfl h
  refine wc_cond_true rfl ?_
  refine wSR (wM 1 rfl (wNT (wc_ret (wx_then_ret ?_))))
  obtain ⟨rfl, rfl⟩ := pJ2 h
  exact wE Tryz.results32 (rs1 rfl) ⟨p0a0, p0n0, p0c0, p0B0, p0N0, p0V0, rfl, rfl⟩ pI
 refine qM 1 rfl ?_
 obtain ⟨v26, x26, h⟩ := bsome h
 refine wq_run rfl (wq_cq Tryz.call74 rfl rfl rfl (q_rd (k_hindcastref11_History_Count (p0 := p0) (p0t := p0t) p0N0 p0V0 x26) pP (fun _ _ => trivial)) rfl (qM 1 rfl ?_))
 obtain rfl := sI h
 have h := hg28; clear hg28
 refine qM 1 rfl (wq_nil (wx_then (wcc h rfl ?_ ?_))) <;> clear h <;> intro h
 ·refine wSR (wM 1 rfl (wNT (wc_ret (wx_then_ret ?_))))
  obtain ⟨rfl, rfl⟩ := pJ2 h
  exact wE Tryz.results32 (rs1 rfl) ⟨p0a0, p0n0, p0c0, p0B0, p0N0, p0V0, rfl, rfl⟩ pI
 refine wc_skip (wx_then (wSR (wM 1 rfl (wNT (wSR (wM 4 rfl (wLd rfl (mT mH) rfl rfl ?_)))))))
 obtain ⟨v34, x34, h⟩ := bsome h
 refine wl_chg (chg_app (enc := (e2 .u8)) (ys := p0.L) tt_ok rfl rfl rfl rfl rfl rfl rfl p0N0 Own.zero pNil (Rds.of_vec p0V0) ⟨_, (sCC hA')⟩ (e2_len _) (fun _ => rfl) rfl x34) rfl ?_
 rintro _ _ ⟨a34, n34_, c34, B34, rfl, N34, V34, rfl⟩
 refine wM 1 rfl (wNT (wSR (wM 2 rfl (wLd (v := .agg #[.int .u8 p1.1, .int .u8 p1.2]) rfl (mR mH) rfl rfl (wl_chg (chg_bsv (enc := (e2 .u8)) (xs := ([p1] : List (Int × Int))) tt_ok rfl rfl rfl rfl rfl rfl rfl rfl (e2_len _)) rfl ?_)))))
 rintro _ _ ⟨a38, n38_, c38, B38, rfl, N38, V38, rfl⟩
 obtain ⟨v39, x39, h⟩ := bsome h
 refine wl_chg (chg_app (enc := (e2 .u8)) (ys := ([p1] : List (Int × Int))) tt_ok rfl rfl rfl rfl rfl rfl N34 N38 V34 (sA hA') (Rds.of_vec V38) ⟨_, hA'⟩ (e2_len _) (fun _ => rfl) rfl x39) rfl ?_
 rintro _ _ ⟨a39, n39_, c39, B39, rfl, N39, V39, rfl⟩
 refine wM 2 rfl (lSt (Upd.right (Upd.right (Upd.there Upd.here))) ?_)
 refine wNT (wSR (wM 1 rfl (wNT (wc_ret ?_))))
 obtain ⟨rfl, rfl⟩ := pJ2 h
 exact wE Tryz.results32 (rs1 rfl) ⟨a39, n39_, c39, B39, N39, V39, rfl, rfl⟩ pI

theorem k_hindcastref11_History_Drop {p0 : T_hindcastref11_History} {p1 : Int} {r0 : T_hindcastref11_History} (p0N0 : p0n0 = p0.L.length) (p0V0 : Own 54 2 p0a0 p0n0 p0c0 (flat (e2 .u8) p0.L) p0B0) (h : m_hindcastref11_History_Drop F p0 p1 = some r0) :
    SpD Tryz.prog 33 [.pointer (some ⟨p0b, 0, none⟩), .int .u64 p1] (⟨p0b, [.int .u64 p0.From, .int .i64 p0.Most, .slice p0a0 p0n0 p0c0], p0t, (0, 0)⟩ :: (p0B0 ++ [])) (fun w => True) (fun v D => ∃ r0a0 r0n0 r0c0 r0B0, r0n0 = r0.L.length ∧ Own 54 2 r0a0 r0n0 r0c0 (flat (e2 .u8) r0.L) r0B0 ∧ v = .tuple #[] ∧ D = fun F => (⟨p0b, [.int .u64 r0.From, .int .i64 r0.Most, .slice r0a0 r0n0 r0c0], p0t, (0, 0)⟩ :: (r0B0 ++ F))) := by
 unfold m_hindcastref11_History_Drop at h
 refine sp_of_wc Tryz.func33 rfl Tryz.ntmps33 rfl rfl (fun w0 hR => ?_)
 refine wc_block ?_
 replace h := bsome h; obtain ⟨⟨zi, zj⟩, h, hl2⟩ := h; try dsimp only at hl2
 refine wc_loop (fun m E L => ∃ zh za zf ze zg zb, m_hindcastref11_History_Drop_L1 F p1 m zh za = some (zi, zj) ∧ ze = za.length ∧ Own 54 2 zf ze zg (flat (e2 .u8) za) zb ∧ E = [(0, .pointer (some ⟨p0b, 0, none⟩)), (1, .int .u64 p1)] ∧ L = (⟨p0b, [.int .u64 zh, .int .i64 p0.Most, .slice zf ze zg], p0t, (0, 0)⟩ :: (zb ++ []))) F ⟨p0.From, p0.L, p0a0, p0n0, p0c0, p0B0, h, p0N0, p0V0, rfl, rfl⟩ (ag2 rfl rfl) pI ?_
 clear h
 rintro m2 _ _ ⟨zh, za, zf, ze, zg, zb, h, zc, zd, rfl, rfl⟩
 rcases m2 with _ | m2
 ·rw [m_hindcastref11_History_Drop_L1.eq_1] at h; cases h
 rw [m_hindcastref11_History_Drop_L1.eq_2] at h
 refine wc_seq (wSR (wM 3 rfl (wLd rfl mH rfl rfl (wl_val (v := .int .i64 (za.length : Int)) (val_len tt_ok rfl rfl zc) rfl (wM 2 rfl ?_)))))
 obtain ⟨v17, h, hg17⟩ := bsome h
 refine wls 10 h rfl ?_ ?_ <;> clear h <;> intro h
 ·refine wM 3 rfl (wl_run rfl (wLd rfl mH rfl rfl (wM 2 rfl ?_)))
  obtain rfl := sI h
  have h := hg17; clear hg17
  refine wM 1 rfl (wNT (wcc h rfl ?_ ?_)) <;> clear h <;> intro h
  ·refine wc_skip (wx_then (wc_block (wSR (wM 4 rfl (wLd rfl mH rfl rfl ?_)))))
   obtain ⟨v23, x23, h⟩ := bsome h
   refine wl_cut (enc := (e2 .u8)) tt_ok rfl rfl rfl zc (vec_some zd) (e2_len _) (vec_cap zd) (.inr ⟨_, _, rfl, rfl⟩) (.inl ⟨rfl, by rw [zc]⟩) (.inl ⟨rfl, rfl⟩) (by intro h; first | rfl | cases h) (cut2 x23 zc (vec_cap zd)) x23 rfl ?_
   intro a23 n23_ c23 N23 H23 I23 O23 Z23
   refine wM 2 rfl (lSt Upd.here ?_)
   refine wNT (wc_region (wM 3 rfl (wLd rfl mH rfl rfl (wM 3 rfl (lSt Upd.here ?_)))))
   refine wl_nil (wx_block ?_)
   exact wx_round m2 (Nat.lt_succ_self m2) ⟨(IntKind.wrap .u64 (zh + (1 : Int))), v23, a23, n23_, c23, zb, h, N23, (O23 _ rfl zd), rfl, rfl⟩ (ag2 rfl rfl) pI
  refine wc_exit (wx_then_exit ?_)
  obtain ⟨rfl, rfl⟩ := pJ2 h
  have h := hl2; clear hl2; try dsimp only [orE_l, orE_r] at h
  refine wx_then_exit (wx_block_exit ?_)
  obtain rfl := sI h
  exact wx_spD tt_ok (.inr rfl) Tryz.results33 Res.nil ⟨zf, ze, zg, zb, zc, zd, rfl, rfl⟩ (fun F => by simp) pI
 refine wM 6 rfl ?_
 obtain rfl := sI h
 have h := hg17; clear hg17
 refine wM 1 rfl (wNT ?_)
 replace h := cf rfl h
 refine wc_cond_false rfl ?_
 refine wc_exit (wx_then_exit ?_)
 obtain ⟨rfl, rfl⟩ := pJ2 h
 have h := hl2; clear hl2; try dsimp only [orE_l, orE_r] at h
 refine wx_then_exit (wx_block_exit ?_)
 obtain rfl := sI h
 exact wx_spD tt_ok (.inr rfl) Tryz.results33 Res.nil ⟨zf, ze, zg, zb, zc, zd, rfl, rfl⟩ (fun F => by simp) pI

theorem k_hindcastref11_History_At {p0 : T_hindcastref11_History} {p1 : Int} {r0 : (Int × Int)} {r1 : Bool} (p0N0 : p0n0 = p0.L.length) (p0V0 : Own 54 2 p0a0 p0n0 p0c0 (flat (e2 .u8) p0.L) p0B0) (h : m_hindcastref11_History_At F p0 p1 = some (r0, r1)) :
    Rd2 Tryz.prog 35 [.pointer (some ⟨p0b, 0, none⟩), .int .u64 p1] (⟨p0b, [.int .u64 p0.From, .int .i64 p0.Most, .slice p0a0 p0n0 p0c0], p0t, (0, 0)⟩ :: (p0B0 ++ [])) (fun w => True) (.tuple #[.agg #[.int .u8 r0.1, .int .u8 r0.2], .bool r1]) := by
 unfold m_hindcastref11_History_At at h
 refine sp_of_wc Tryz.func35 rfl Tryz.ntmps35 rfl rfl (fun w0 hR => ?_)
 refine wSR (wl_alloc tt_ok rfl rfl (fun b4 => (wM 1 rfl (wNT (wc_seq (wSR (wM 4 rfl (wLd rfl (mT mH) rfl rfl (wM 2 rfl ?_)))))))))
 obtain ⟨v17, h, hg17⟩ := bsome h
 refine wls 12 h rfl ?_ ?_ <;> clear h <;> intro h
 ·refine wM 4 rfl ?_
  obtain rfl := sI h
  have h := hg17; clear hg17
  refine wM 1 rfl (wNT ?_)
  replace h := ct rfl h
  refine wc_cond_true rfl ?_
  refine wSR (wM 1 rfl (lSt Upd.here ?_))
  refine wM 1 rfl (wNT (wc_ret (wx_then_ret ?_)))
  obtain ⟨rfl, rfl⟩ := pJ2 h
  exact wx_rd tt_ok (.inl rfl) Tryz.results35 (Res.cell rfl mH rfl (rs1 rfl)) pI rfl
 refine wM 2 rfl ?_
 obtain ⟨v15, x15, h⟩ := bsome h
 refine wl_run rfl (wl_cq Tryz.call74 rfl rfl rfl (q_rd (k_hindcastref11_History_Count (p0 := p0) (p0t := p0t) p0N0 p0V0 x15) pP (fun _ _ => trivial)) rfl (wM 1 rfl ?_))
 obtain rfl := sI h
 have h := hg17; clear hg17
 refine wM 1 rfl (wNT (wcc h rfl ?_ ?_)) <;> clear h <;> intro h
 ·refine wSR (wM 1 rfl (lSt Upd.here ?_))
  refine wM 1 rfl (wNT (wc_ret (wx_then_ret ?_)))
  obtain ⟨rfl, rfl⟩ := pJ2 h
  exact wx_rd tt_ok (.inl rfl) Tryz.results35 (Res.cell rfl mH rfl (rs1 rfl)) pI rfl
 refine wc_skip (wx_then (wc_seq (wc_k2 (Ls := (⟨b4, [.int .u8 0, .int .u8 0], 54, (0, 0)⟩ :: (⟨p0b, [.int .u64 p0.From, .int .i64 p0.Most, .slice p0a0 p0n0 p0c0], p0t, (0, 0)⟩ :: (p0B0 ++ [])))) [12, 13] [12, 13] [0, 1, 3, 7, 0, 0, 32, 96, 224, 496, 1023, 2047, 4095, 8191] [0, 1, 2, 3, 4, 5, 6, 7, 8, 9, 10, 11, 12, 13] (by kernel_rfl) (by kernel_rfl) (by kernel_rfl) (kM pI 3 rfl (k_val (v := .slice p0a0 p0n0 p0c0) rfl rfl rfl pI (val_load tt_ok rfl (mT mH) rfl) rfl (kM pI 4 rfl (k_val (v := .int .u64 p0.From) rfl rfl rfl pI (val_load tt_ok rfl (mT mH) rfl) rfl ?_)))))))
 refine kM pI 1 rfl ?_
 obtain ⟨v29, x29, h⟩ := bsome h
 refine k_val (v := .pointer (some ((adOf p0a0).add ((IntKind.wrap .u64 (p1 - p0.From)).toNat * 2 + 0)))) rfl rfl rfl pI (val_ix (enc := (e2 .u8)) tt_ok rfl rfl rfl rfl p0N0 (Rds.of_vec p0V0) (e2_len _) rfl x29) rfl (k_val (v := .agg #[.int .u8 v29.1, .int .u8 v29.2]) rfl rfl rfl pI (val_le (enc := (e2 .u8)) (xs := p0.L) tt_ok rfl (Rds.of_vec p0V0) ⟨_, (sCC hA')⟩ (e2_len _) x29 rfl) rfl (k_chg0 rfl rfl rfl (chg_store tt_ok rfl Upd.here rfl rfl rfl rfl rfl rfl) (.inl rfl) ?_))
 rintro _ _ rfl
 refine k_chg rfl rfl rfl (Chg.of_val (sV rfl)) rfl (.inl rfl) ?_
 rintro _ _ ⟨rfl, rfl⟩
 refine k_end (by kernel_rfl) ?_
 refine wx_then (wc_ret ?_)
 obtain ⟨rfl, rfl⟩ := pJ2 h
 exact wx_rd tt_ok (.inl rfl) Tryz.results35 (Res.cell rfl mH rfl (rs1 rfl)) pI rfl

theorem k_hindcastref28_Plan {p0 : T_hindcastref11_History} {p1 : Int} {r0 : Int} {r1 : Int} (p0N0 : p0n0 = p0.L.length) (p0V0 : Own 54 2 p0a0 p0n0 p0c0 (flat (e2 .u8) p0.L) p0B0) (h : m_hindcastref28_Plan F p0 p1 = some (r0, r1)) :
    Rd2 Tryz.prog 8 [.pointer (some ⟨p0b, 0, none⟩), .int .u64 p1] (⟨p0b, [.int .u64 p0.From, .int .i64 p0.Most, .slice p0a0 p0n0 p0c0], p0t, (0, 0)⟩ :: (p0B0 ++ [])) (fun w => True) (.tuple #[.int .u64 r0, .int .i64 r1]) := by
 unfold m_hindcastref28_Plan at h
 refine sp_of_wc Tryz.func8 rfl Tryz.ntmps8 rfl rfl (fun w0 hR => ?_)
 refine wSR (wM 2 rfl (wNT (wSR (wM 1 rfl (wNT (wc_seq (wc_block ?_)))))))
 obtain ⟨zb, h, hl7⟩ := bsome h
 refine wc_loop (fun m E L => ∃ za, m_hindcastref28_Plan_L6 F p0 p1 m za = some zb ∧ E = [(0, .pointer (some ⟨p0b, 0, none⟩)), (1, .int .u64 p1), (4, .int .u64 0), (5, .int .i64 0), (6, .int .i64 za)] ∧ L = (⟨p0b, [.int .u64 p0.From, .int .i64 p0.Most, .slice p0a0 p0n0 p0c0], p0t, (0, 0)⟩ :: (p0B0 ++ []))) F ⟨(0 : Int), h, rfl, rfl⟩ (ag5 rfl rfl rfl rfl rfl) pI ?_
 clear h
 rintro m7 _ _ ⟨za, h, rfl, rfl⟩
 rcases m7 with _ | m7
 ·rw [m_hindcastref28_Plan_L6.eq_1] at h; cases h
 rw [m_hindcastref28_Plan_L6.eq_2] at h
 refine wc_seq (wSR (wM 2 rfl (wNT (wcc h rfl ?_ ?_)))) <;> clear h <;> intro h
 ·refine wc_skip (wx_then (wc_block (wSR (wM 5 rfl ?_))))
  replace h := bsome h; obtain ⟨⟨zc, zd⟩, x17, h⟩ := h; try dsimp only at h
  refine wl_cq Tryz.call35 rfl rfl rfl (q_rd (k_hindcastref11_History_At (p0 := p0) (p0t := p0t) p0N0 p0V0 x17) pP (fun _ _ => trivial)) rfl ?_
  refine wM 3 rfl (wl_alloc tt_ok rfl rfl (fun b7 => (lSt Upd.here ?_)))
  refine wM 1 rfl (wNT (wc_seq (wSR (wM 2 rfl (wNT (wcc h rfl ?_ ?_)))))) <;> clear h <;> intro h
  ·refine wc_exit (wx_then_exit ?_)
   refine wx_block_other (by rfl) ?_
   obtain rfl := sI h
   have h := hl7; clear hl7; try dsimp only [orE_l, orE_r] at h
   refine wx_then_exit (wx_block_exit (wx_then (wc_seq (wSR ?_))))
   refine wM 2 rfl (wNT (wcc h rfl ?_ ?_)) <;> clear h <;> intro h
   ·refine wSR (wM 2 rfl (wNT (wc_ret (wx_then_ret ?_))))
    obtain ⟨rfl, rfl⟩ := pJ2 h
    exact wx_rd tt_ok (.inl rfl) Tryz.results8 (rs2 rfl rfl) pI rfl
   refine wc_skip (wx_then (wSR (wM 4 rfl (wNT (wc_ret ?_)))))
   obtain ⟨rfl, rfl⟩ := pJ2 h
   exact wx_rd tt_ok (.inl rfl) Tryz.results8 (rs2 rfl rfl) pI rfl
  refine wc_skip (wx_then (wc_region (wM 3 rfl (wl_nil (wx_block ?_)))))
  exact wx_round m7 (Nat.lt_succ_self m7) ⟨(IntKind.wrap .i64 (za + (1 : Int))), h, rfl, rfl⟩ (ag5 rfl rfl rfl rfl rfl) pI
 refine wc_exit (wx_then_exit ?_)
 obtain rfl := sI h
 have h := hl7; clear hl7; try dsimp only [orE_l, orE_r] at h
 refine wx_then_exit (wx_block_exit (wx_then (wc_seq (wSR ?_))))
 refine wM 2 rfl (wNT (wcc h rfl ?_ ?_)) <;> clear h <;> intro h
 ·refine wSR (wM 2 rfl (wNT (wc_ret (wx_then_ret ?_))))
  obtain ⟨rfl, rfl⟩ := pJ2 h
  exact wx_rd tt_ok (.inl rfl) Tryz.results8 (rs2 rfl rfl) pI rfl
 refine wc_skip (wx_then (wSR (wM 4 rfl (wNT (wc_ret ?_)))))
 obtain ⟨rfl, rfl⟩ := pJ2 h
 exact wx_rd tt_ok (.inl rfl) Tryz.results8 (rs2 rfl rfl) pI rfl

theorem k_hindcastref28_bad {p0 : Int} {p1 : Int} {p2 : Int} {r0 : Int} (h : m_hindcastref28_bad F p0 p1 p2 = some r0) :
    Pf Tryz.prog 42 [.int .u8 p0, .int .u64 p1, .int .i64 p2] (fun w => True) (.int .i64 r0) := by
 unfold m_hindcastref28_bad at h
 refine pf_of_wc Tryz.func42 rfl Tryz.ntmps42 rfl rfl (fun w0 hR => ?_)
 refine wSR (wM 1 rfl (wNT (wc_seq (wSR (wM 3 rfl ?_)))))
 obtain ⟨v16, h, hg16⟩ := bsome h
 refine wls 9 h rfl ?_ ?_ <;> clear h <;> intro h
 ·refine wM 6 rfl ?_
  obtain rfl := sI h
  have h := hg16; clear hg16
  refine wM 1 rfl (wNT ?_)
  replace h := ct rfl h
  refine wc_cond_true rfl ?_
  refine wSR (wM 1 rfl (wNT (wc_ret (wx_then_ret ?_))))
  obtain rfl := sI h
  exact pE Tryz.results42 rfl
 refine wM 6 rfl ?_
 obtain rfl := sI h
 have h := hg16; clear hg16
 refine wM 1 rfl (wNT (wcc h rfl ?_ ?_)) <;> clear h <;> intro h
 ·refine wSR (wM 1 rfl (wNT (wc_ret (wx_then_ret ?_))))
  obtain rfl := sI h
  exact pE Tryz.results42 rfl
 refine wc_skip (wx_then (wSR (wM 1 rfl (wNT (wc_ret ?_)))))
 obtain rfl := sI h
 exact pE Tryz.results42 rfl

theorem k_hindcastref26_Engine_T {p0 : T_hindcastref26_Engine} {p0_4 : T_hindcastref24_Queue} {r0 : Int} (p0N0 : p0n0 = p0.Sure.Shots.length) (p0V0 : Own 119 6 p0a0 p0n0 p0c0 (flat c_T_api_Shot p0.Sure.Shots) p0B0) (p0N1 : p0n1 = p0.Own.length) (p0V1 : Own 52 1 p0a1 p0n1 p0c1 (flat (e1 .u8) p0.Own) p0B1) (p0_4N0 : p0_4n0 = p0_4.L.length) (p0_4V0 : Own 52 1 p0_4a0 p0_4n0 p0_4c0 (flat (e1 .u8) p0_4.L) p0_4B0) (h : m_hindcastref26_Engine_T F p0 p0_4 = some r0) :
    Rd2 Tryz.prog 43 [.pointer (some ⟨p0b, 0, none⟩)] (⟨p0b, (.int .u8 p0.Player :: .int .i64 p0.Window :: st19 p0.Sure p0a0 p0n0 p0c0 [.slice p0a1 p0n1 p0c1, .pointer (some ⟨p0_4b, 0, none⟩)]), p0t, (0, 0)⟩ :: (p0B0 ++ (p0B1 ++ (⟨p0_4b, [.int .u64 p0_4.Begin, .int .u64 p0_4.First, .slice p0_4a0 p0_4n0 p0_4c0], p0_4t, (0, 0)⟩ :: (p0_4B0 ++ []))))) (fun w => True) (.int .u64 r0) := by
 unfold m_hindcastref26_Engine_T at h
 refine sp_of_wc Tryz.func43 rfl Tryz.ntmps43 rfl rfl (fun w0 hR => ?_)
 refine wSR (wM 1 rfl (wNT (wc_seq (wc_quiet (by kernel_rfl) (by kernel_rfl) (qM 4 rfl (qLd rfl mH rfl rfl (qM 3 rfl (qLd rfl mH rfl rfl (wq_val (v := .int .i64 (p0.Own.length : Int)) (val_len tt_ok rfl rfl p0N1) rfl (qM 3 rfl (wq_nil (wx_then (wc_ret ?_)))))))))))))
 obtain rfl := sI h
 exact wx_rd tt_ok (.inl rfl) Tryz.results43 (rs1 rfl) pI rfl

theorem k_hindcastref28_Pairs {p0 : T_hindcastref26_Engine} {p0_4 : T_hindcastref24_Queue} {p1 : T_hindcastref11_History} {p2 : Int} {p3 : Int} {p4 : (List (Int × Int))} {r0 : T_hindcastref24_Queue} {r1 : Int} {r2 : Int} (p0N0 : p0n0 = p0.Sure.Shots.length) (p0V0 : Own 119 6 p0a0 p0n0 p0c0 (flat c_T_api_Shot p0.Sure.Shots) p0B0) (p0N1 : p0n1 = p0.Own.length) (p0V1 : Own 52 1 p0a1 p0n1 p0c1 (flat (e1 .u8) p0.Own) p0B1) (p0_4N0 : p0_4n0 = p0_4.L.length) (p0_4V0 : Own 52 1 p0_4a0 p0_4n0 p0_4c0 (flat (e1 .u8) p0_4.L) p0_4B0) (p1N0 : p1n0 = p1.L.length) (p1V0 : Own 54 2 p1a0 p1n0 p1c0 (flat (e2 .u8) p1.L) p1B0) (p4N0 : p4n0 = p4.length) (p4H0 : p4n0 ≤ p4c0) (h : m_hindcastref28_Pairs F p0 p0_4 p1 p2 p3 p4 = some (r0, r1, r2)) :
    SpD Tryz.prog 10 [.pointer (some ⟨p0b, 0, none⟩), .pointer (some ⟨p1b, 0, none⟩), .int .u8 p2, .int .u64 p3, .slice p4a0 p4n0 p4c0] (⟨p0b, (.int .u8 p0.Player :: .int .i64 p0.Window :: st19 p0.Sure p0a0 p0n0 p0c0 [.slice p0a1 p0n1 p0c1, .pointer (some ⟨p0_4b, 0, none⟩)]), p0t, (0, 0)⟩ :: (p0B0 ++ (p0B1 ++ (⟨p0_4b, [.int .u64 p0_4.Begin, .int .u64 p0_4.First, .slice p0_4a0 p0_4n0 p0_4c0], p0_4t, (0, 0)⟩ :: (p0_4B0 ++ (⟨p1b, [.int .u64 p1.From, .int .i64 p1.Most, .slice p1a0 p1n0 p1c0], p1t, (0, 0)⟩ :: (p1B0 ++ []))))))) (fun w => Rds w (ids (⟨p0b, (.int .u8 p0.Player :: .int .i64 p0.Window :: st19 p0.Sure p0a0 p0n0 p0c0 [.slice p0a1 p0n1 p0c1, .pointer (some ⟨p0_4b, 0, none⟩)]), p0t, (0, 0)⟩ :: (p0B0 ++ (p0B1 ++ (⟨p0_4b, [.int .u64 p0_4.Begin, .int .u64 p0_4.First, .slice p0_4a0 p0_4n0 p0_4c0], p0_4t, (0, 0)⟩ :: (p0_4B0 ++ (⟨p1b, [.int .u64 p1.From, .int .i64 p1.Most, .slice p1a0 p1n0 p1c0], p1t, (0, 0)⟩ :: (p1B0 ++ [])))))))) [] p4a0 (flat (e2 .u8) p4)) (fun v D => ∃ r0a0 r0n0 r0c0 r0B0, r0n0 = r0.L.length ∧ Own 52 1 r0a0 r0n0 r0c0 (flat (e1 .u8) r0.L) r0B0 ∧ v = .tuple #[.int .i64 r1, .int .i64 r2] ∧ D = fun F => (⟨p0b, (.int .u8 p0.Player :: .int .i64 p0.Window :: st19 p0.Sure p0a0 p0n0 p0c0 [.slice p0a1 p0n1 p0c1, .pointer (some ⟨p0_4b, 0, none⟩)]), p0t, (0, 0)⟩ :: (p0B0 ++ (p0B1 ++ (⟨p0_4b, [.int .u64 r0.Begin, .int .u64 r0.First, .slice r0a0 r0n0 r0c0], p0_4t, (0, 0)⟩ :: (r0B0 ++ (⟨p1b, [.int .u64 p1.From, .int .i64 p1.Most, .slice p1a0 p1n0 p1c0], p1t, (0, 0)⟩ :: (p1B0 ++ F)))))))) := by
 unfold m_hindcastref28_Pairs at h
 refine sp_of_wc Tryz.func10 rfl Tryz.ntmps10 rfl rfl (fun w0 hR => ?_)
 have p4S0 := hR
 refine wSR (wM 2 rfl (wNT (wc_seq (wSR (wM 6 rfl (wNT (wc_cond_false rfl (wc_skip (wx_then (wc_seq (wSR (wM 3 rfl (wl_val (v := .int .i64 (p4.length : Int)) (val_len tt_ok rfl rfl p4N0) rfl ?_)))))))))))))
 obtain ⟨v27, x27, h⟩ := bsome h
 refine wl_cq Tryz.call42 rfl rfl rfl (q_pf (k_hindcastref28_bad x27) (fun _ _ => trivial)) rfl ?_
 refine wM 1 rfl (wNT (wcc h rfl ?_ ?_)) <;> clear h <;> intro h
 ·refine wSR (wM 2 rfl (wNT (wc_ret (wx_then_ret ?_))))
  obtain ⟨rfl, rfl, rfl⟩ := pJ3 h
  exact wE Tryz.results10 (rs2 rfl rfl) ⟨p0_4a0, p0_4n0, p0_4c0, p0_4B0, p0_4N0, p0_4V0, rfl, rfl⟩ pI
 refine wc_skip (wx_then (wc_seq (wSR (wM 1 rfl (wNT (wc_block ?_))))))
 obtain ⟨o23, h, hl23⟩ := bsome h
 refine wc_loop (fun m E L => ∃ zi zj zk za zg ze zh zf, m_hindcastref28_Pairs_L22 F p0 p1 p2 p3 p4 m zi zj zk za = some o23 ∧ ze = za.length ∧ Own 52 1 zg ze zh (flat (e1 .u8) za) zf ∧ E = [(0, .pointer (some ⟨p0b, 0, none⟩)), (1, .pointer (some ⟨p1b, 0, none⟩)), (2, .int .u8 p2), (3, .int .u64 p3), (4, .slice p4a0 p4n0 p4c0), (10, .int .i64 0), (11, .int .i64 0), (12, .int .i64 zi)] ∧ L = (⟨p0b, (.int .u8 p0.Player :: .int .i64 p0.Window :: st19 p0.Sure p0a0 p0n0 p0c0 [.slice p0a1 p0n1 p0c1, .pointer (some ⟨p0_4b, 0, none⟩)]), p0t, (0, 0)⟩ :: (⟨p0_4b, [.int .u64 zj, .int .u64 zk, .slice zg ze zh], p0_4t, (0, 0)⟩ :: (⟨p1b, [.int .u64 p1.From, .int .i64 p1.Most, .slice p1a0 p1n0 p1c0], p1t, (0, 0)⟩ :: (p0B0 ++ (p0B1 ++ (zf ++ (p1B0 ++ [])))))))) F ⟨(0 : Int), p0_4.Begin, p0_4.First, p0_4.L, p0_4a0, p0_4n0, p0_4c0, p0_4B0, h, p0_4N0, p0_4V0, rfl, rfl⟩ (ag8 rfl rfl rfl rfl rfl rfl rfl rfl) pI ?_
 clear h
 rintro m23 _ _ ⟨zi, zj, zk, za, zg, ze, zh, zf, h, zc, zd, rfl, rfl⟩
 rcases m23 with _ | m23
 ·rw [m_hindcastref28_Pairs_L22.eq_1] at h; cases h
 rw [m_hindcastref28_Pairs_L22.eq_2] at h
 refine wc_seq (wSR (wM 2 rfl (wl_val (v := .int .i64 (p4.length : Int)) (val_len tt_ok rfl rfl p4N0) rfl (wM 1 rfl (wNT (wcc h rfl ?_ ?_)))))) <;> clear h <;> intro h
 ·refine wc_skip (wx_then (wc_seq (wc_block (wSR (wM 5 rfl (wNT (wc_seq (wSR (wM 5 rfl (wLd rfl mH rfl rfl (wM 1 rfl (wNT (wcc h rfl ?_ ?_))))))))))))) <;> clear h <;> intro h
  ·refine wSR (wM 2 rfl ?_)
   replace h := bsome h; obtain ⟨⟨zr, zs⟩, x49, h⟩ := h; try dsimp only at h
   refine wl_cq Tryz.call35 rfl rfl rfl (q_rd (k_hindcastref11_History_At (p0 := p1) (p0t := p1t) p1N0 p1V0 x49) pP (fun _ _ => trivial)) rfl ?_
   refine wM 3 rfl (wl_alloc tt_ok rfl rfl (fun b14 => (lSt Upd.here ?_)))
   refine wM 1 rfl (wNT (wc_seq (wc_seq (wc_quiet (by kernel_rfl) (by kernel_rfl) (qM 2 rfl ?_)))))
   obtain ⟨v60, h, hg60⟩ := bsome h
   refine wqs 53 h rfl ?_ ?_ <;> clear h <;> intro h
   ·refine wq_run rfl (qLd (v := .agg #[.int .u8 zr.1, .int .u8 zr.2]) rfl mH rfl rfl (qM 2 rfl ?_))
    obtain ⟨v57, x57, h⟩ := bsome h
    refine wq_run rfl (wq_val (v := .pointer (some ((adOf p4a0).add (zi.toNat * 2 + 0)))) (val_ix (enc := (e2 .u8)) tt_ok rfl rfl rfl rfl p4N0 p4S0 (e2_len _) rfl x57) rfl (wq_run rfl (wq_val (v := .agg #[.int .u8 v57.1, .int .u8 v57.2]) (val_le (enc := (e2 .u8)) (xs := p4) tt_ok rfl p4S0 rsub_nil (e2_len _) x57 rfl) rfl (wq_run rfl (wq_val (v := .bool (!((zr.1 == v57.1) && (zr.2 == v57.2)))) (val_nes tt_ok tt_eq tt_one Tryz.eqGuardType54 rfl rfl rfl rfl rfl) rfl ?_)))))
    obtain rfl := sI h
    have h := hg60; clear hg60
    refine qM 1 rfl (wq_nil (wx_then (wcc h rfl ?_ ?_))) <;> clear h <;> intro h
    ·refine wSR (wM 3 rfl (wNT (wc_ret (wx_then_ret (wx_then_ret (wx_block_ret (wx_then_ret ?_)))))))
     obtain rfl := Option.some.inj h
     have h := hl23; clear hl23; try dsimp only [orE_l, orE_r] at h
     refine wx_then_ret (wx_block_ret (wx_then_ret ?_))
     obtain ⟨rfl, rfl, rfl⟩ := pJ3 h
     exact wE Tryz.results10 (rs2 rfl rfl) ⟨zg, ze, zh, zf, zc, zd, rfl, rfl⟩ pI
    refine wc_skip (wx_then (wc_exit (wx_then_exit (wx_block_exit (wx_then (wc_region (wM 3 rfl (wl_nil ?_))))))))
    exact wx_round m23 (Nat.lt_succ_self m23) ⟨(IntKind.wrap .i64 (zi + (1 : Int))), zj, zk, za, zg, ze, zh, zf, h, zc, zd, rfl, rfl⟩ (ag8 rfl rfl rfl rfl rfl rfl rfl rfl) pI
   refine qM 6 rfl ?_
   obtain rfl := sI h
   have h := hg60; clear hg60
   refine qM 1 rfl (wq_nil (wx_then ?_))
   replace h := cf rfl h
   refine wc_cond_false rfl ?_
   refine wc_skip (wx_then (wc_exit (wx_then_exit (wx_block_exit (wx_then (wc_region (wM 3 rfl (wl_nil ?_))))))))
   exact wx_round m23 (Nat.lt_succ_self m23) ⟨(IntKind.wrap .i64 (zi + (1 : Int))), zj, zk, za, zg, ze, zh, zf, h, zc, zd, rfl, rfl⟩ (ag8 rfl rfl rfl rfl rfl rfl rfl rfl) pI
  refine wc_skip (wx_then (wc_seq (wSR (wM 2 rfl ?_))))
  obtain ⟨v64, x64, h⟩ := bsome h
  refine wl_cq Tryz.call43 rfl rfl rfl (q_rd (k_hindcastref26_Engine_T (p0 := p0) (p0_4 := (T_hindcastref24_Queue.mk zj zk za)) (p0t := p0t) (p0_4b := p0_4b) (p0_4t := p0_4t) p0N0 p0V0 p0N1 p0V1 zc zd x64) pP (fun _ _ => trivial)) rfl ?_
  refine wM 1 rfl (wNT (wcc h rfl ?_ ?_)) <;> clear h <;> intro h
  ·refine wSR (wM 3 rfl (wNT (wc_ret (wx_then_ret (wx_block_ret (wx_then_ret ?_))))))
   obtain rfl := Option.some.inj h
   have h := hl23; clear hl23; try dsimp only [orE_l, orE_r] at h
   refine wx_then_ret (wx_block_ret (wx_then_ret ?_))
   obtain ⟨rfl, rfl, rfl⟩ := pJ3 h
   exact wE Tryz.results10 (rs2 rfl rfl) ⟨zg, ze, zh, zf, zc, zd, rfl, rfl⟩ pI
  refine wc_skip (wx_then (wc_seq (wc_seq (wc_quiet (by kernel_rfl) (by kernel_rfl) (qM 3 rfl (qLd rfl mH rfl rfl (qM 5 rfl (qLd rfl mH rfl rfl (qM 1 rfl ?_)))))))))
  obtain ⟨v78, x78, h⟩ := bsome h
  refine wq_val (v := .pointer (some ((adOf p0a1).add ((IntKind.wrap .u64 ((IntKind.wrap .u64 (p3 + (IntKind.wrap .u64 zi))) - p0.Sure.Frame)).toNat * 1 + 0)))) (val_ix (enc := (e1 .u8)) tt_ok rfl rfl rfl rfl p0N1 (Rds.of_vec p0V1) (e1_len _) rfl x78) rfl ?_
  refine wq_val (v := .int .u8 v78) (val_le (enc := (e1 .u8)) (xs := p0.Own) tt_ok rfl (Rds.of_vec p0V1) ⟨_, (sCC (sCA hA'))⟩ (e1_len _) x78 rfl) rfl ?_
  refine qM 3 rfl ?_
  obtain ⟨v83, x83, h⟩ := bsome h
  refine wq_val (v := .pointer (some ((adOf p4a0).add (zi.toNat * 2 + 0)))) (val_ix (enc := (e2 .u8)) tt_ok rfl rfl rfl rfl p4N0 p4S0 (e2_len _) rfl x83) rfl ?_
  rcases Bool.eq_false_or_eq_true (p2 == (0 : Int)) with hx840 | hx840
  ·replace h := ct hx840 h
   refine wq_val (v := .pointer (some ((adOf p4a0).add (zi.toNat * 2 + 0)))) (val_fia (j := 0) tt_ok rfl rfl rfl rfl (by simpa using hx840) rfl rfl) rfl ?_
   refine wq_val (v := .int .u8 v83.1) (val_le (enc := (e2 .u8)) (xs := p4) tt_ok rfl p4S0 rsub_nil (e2_len _) x83 rfl) rfl ?_
   refine qM 1 rfl (wq_nil (wx_then (wcc h rfl ?_ ?_))) <;> clear h <;> intro h
   ·refine wSR (wM 3 rfl (wNT (wc_ret (wx_then_ret (wx_block_ret (wx_then_ret ?_))))))
    obtain rfl := Option.some.inj h
    have h := hl23; clear hl23; try dsimp only [orE_l, orE_r] at h
    refine wx_then_ret (wx_block_ret (wx_then_ret ?_))
    obtain ⟨rfl, rfl, rfl⟩ := pJ3 h
    exact wE Tryz.results10 (rs2 rfl rfl) ⟨zg, ze, zh, zf, zc, zd, rfl, rfl⟩ pI
   refine wc_skip (wx_then (wSR (wM 6 rfl ?_)))
   obtain ⟨v94, x94, h⟩ := bsome h
   refine wl_val (v := .pointer (some ((adOf p4a0).add (zi.toNat * 2 + 0)))) (val_ix (enc := (e2 .u8)) tt_ok rfl rfl rfl rfl p4N0 p4S0 (e2_len _) rfl x94) rfl ?_
   rcases Bool.eq_false_or_eq_true ((IntKind.wrap .u8 ((1 : Int) - p2)) == (0 : Int)) with hx950 | hx950
   ·replace h := ct hx950 h
    refine wl_val (v := .pointer (some ((adOf p4a0).add (zi.toNat * 2 + 0)))) (val_fia (j := 0) tt_ok rfl rfl rfl rfl (by simpa using hx950) rfl rfl) rfl ?_
    refine wl_val (v := .int .u8 v94.1) (val_le (enc := (e2 .u8)) (xs := p4) tt_ok rfl p4S0 rsub_nil (e2_len _) x94 rfl) rfl ?_
    replace h := bsome h; obtain ⟨⟨zb, v97⟩, x97, h⟩ := h; try dsimp only at h
    refine wl_cs Tryz.call30 rfl rfl rfl (s_sp (k_hindcastref26_Engine_Remote (p0 := p0) (p0_4 := (T_hindcastref24_Queue.mk zj zk za)) (p0t := p0t) (p0_4b := p0_4b) (p0_4t := p0_4t) p0N0 p0V0 p0N1 p0V1 zc zd x97) pP (fun _ _ => trivial)) rfl ?_
    rintro _ _ ⟨_, ⟨zo, zq, zp, zl, zm, zn, rfl, rfl⟩, rfl⟩
    refine wM 1 rfl (wNT (wSR (wM 2 rfl (wNT (wcc h rfl ?_ ?_))))) <;> clear h <;> intro h
    ·refine wSR (wM 4 rfl (wNT (wc_ret (wx_block_ret (wx_then_ret ?_)))))
     obtain rfl := Option.some.inj h
     have h := hl23; clear hl23; try dsimp only [orE_l, orE_r] at h
     refine wx_then_ret (wx_block_ret (wx_then_ret ?_))
     obtain ⟨rfl, rfl, rfl⟩ := pJ3 h
     exact wE Tryz.results10 (rs2 rfl rfl) ⟨zo, zq, zp, zl, zm, zn, rfl, rfl⟩ pI
    refine wc_skip (wx_block (wx_then (wc_region (wM 3 rfl (wl_nil ?_)))))
    exact wx_round m23 (Nat.lt_succ_self m23) ⟨(IntKind.wrap .i64 (zi + (1 : Int))), zb.Begin, zb.First, zb.L, zo, zq, zp, zl, h, zm, zn, rfl, rfl⟩ (ag8 rfl rfl rfl rfl rfl rfl rfl rfl) pI
   replace h := cf hx950 h
   rcases Bool.eq_false_or_eq_true ((IntKind.wrap .u8 ((1 : Int) - p2)) == (1 : Int)) with hx951 | hx951
   ·replace h := ct hx951 h
    refine wl_val (v := .pointer (some ((adOf p4a0).add (zi.toNat * 2 + 1)))) (val_fia (j := 1) tt_ok rfl rfl rfl rfl (by simpa using hx951) rfl rfl) rfl ?_
    refine wl_val (v := .int .u8 v94.2) (val_le (enc := (e2 .u8)) (xs := p4) tt_ok rfl p4S0 rsub_nil (e2_len _) x94 rfl) rfl ?_
    replace h := bsome h; obtain ⟨⟨zb, v97⟩, x97, h⟩ := h; try dsimp only at h
    refine wl_cs Tryz.call30 rfl rfl rfl (s_sp (k_hindcastref26_Engine_Remote (p0 := p0) (p0_4 := (T_hindcastref24_Queue.mk zj zk za)) (p0t := p0t) (p0_4b := p0_4b) (p0_4t := p0_4t) p0N0 p0V0 p0N1 p0V1 zc zd x97) pP (fun _ _ => trivial)) rfl ?_
    rintro _ _ ⟨_, ⟨zo, zq, zp, zl, zm, zn, rfl, rfl⟩, rfl⟩
    refine wM 1 rfl (wNT (wSR (wM 2 rfl (wNT (wcc h rfl ?_ ?_))))) <;> clear h <;> intro h
    ·refine wSR (wM 4 rfl (wNT (wc_ret (wx_block_ret (wx_then_ret ?_)))))
     obtain rfl := Option.some.inj h
     have h := hl23; clear hl23; try dsimp only [orE_l, orE_r] at h
     refine wx_then_ret (wx_block_ret (wx_then_ret ?_))
     obtain ⟨rfl, rfl, rfl⟩ := pJ3 h
     exact wE Tryz.results10 (rs2 rfl rfl) ⟨zo, zq, zp, zl, zm, zn, rfl, rfl⟩ pI
    refine wc_skip (wx_block (wx_then (wc_region (wM 3 rfl (wl_nil ?_)))))
    exact wx_round m23 (Nat.lt_succ_self m23) ⟨(IntKind.wrap .i64 (zi + (1 : Int))), zb.Begin, zb.First, zb.L, zo, zq, zp, zl, h, zm, zn, rfl, rfl⟩ (ag8 rfl rfl rfl rfl rfl rfl rfl rfl) pI
   replace h := cf hx951 h
   cases h
  replace h := cf hx840 h
  rcases Bool.eq_false_or_eq_true (p2 == (1 : Int)) with hx841 | hx841
  ·replace h := ct hx841 h
   refine wq_val (v := .pointer (some ((adOf p4a0).add (zi.toNat * 2 + 1)))) (val_fia (j := 1) tt_ok rfl rfl rfl rfl (by simpa using hx841) rfl rfl) rfl ?_
   refine wq_val (v := .int .u8 v83.2) (val_le (enc := (e2 .u8)) (xs := p4) tt_ok rfl p4S0 rsub_nil (e2_len _) x83 rfl) rfl ?_
   refine qM 1 rfl (wq_nil (wx_then (wcc h rfl ?_ ?_))) <;> clear h <;> intro h
   ·refine wSR (wM 3 rfl (wNT (wc_ret (wx_then_ret (wx_block_ret (wx_then_ret ?_))))))
    obtain rfl := Option.some.inj h
    have h := hl23; clear hl23; try dsimp only [orE_l, orE_r] at h
    refine wx_then_ret (wx_block_ret (wx_then_ret ?_))
    obtain ⟨rfl, rfl, rfl⟩ := pJ3 h
    exact wE Tryz.results10 (rs2 rfl rfl) ⟨zg, ze, zh, zf, zc, zd, rfl, rfl⟩ pI
   refine wc_skip (wx_then (wSR (wM 6 rfl ?_)))
   obtain ⟨v94, x94, h⟩ := bsome h
   refine wl_val (v := .pointer (some ((adOf p4a0).add (zi.toNat * 2 + 0)))) (val_ix (enc := (e2 .u8)) tt_ok rfl rfl rfl rfl p4N0 p4S0 (e2_len _) rfl x94) rfl ?_
   rcases Bool.eq_false_or_eq_true ((IntKind.wrap .u8 ((1 : Int) - p2)) == (0 : Int)) with hx950 | hx950
   ·replace h := ct hx950 h
    refine wl_val (v := .pointer (some ((adOf p4a0).add (zi.toNat * 2 + 0)))) (val_fia (j := 0) tt_ok rfl rfl rfl rfl (by simpa using hx950) rfl rfl) rfl ?_
    refine wl_val (v := .int .u8 v94.1) (val_le (enc := (e2 .u8)) (xs := p4) tt_ok rfl p4S0 rsub_nil (e2_len _) x94 rfl) rfl ?_
    replace h := bsome h; obtain ⟨⟨zb, v97⟩, x97, h⟩ := h; try dsimp only at h
    refine wl_cs Tryz.call30 rfl rfl rfl (s_sp (k_hindcastref26_Engine_Remote (p0 := p0) (p0_4 := (T_hindcastref24_Queue.mk zj zk za)) (p0t := p0t) (p0_4b := p0_4b) (p0_4t := p0_4t) p0N0 p0V0 p0N1 p0V1 zc zd x97) pP (fun _ _ => trivial)) rfl ?_
    rintro _ _ ⟨_, ⟨zo, zq, zp, zl, zm, zn, rfl, rfl⟩, rfl⟩
    refine wM 1 rfl (wNT (wSR (wM 2 rfl (wNT (wcc h rfl ?_ ?_))))) <;> clear h <;> intro h
    ·refine wSR (wM 4 rfl (wNT (wc_ret (wx_block_ret (wx_then_ret ?_)))))
     obtain rfl := Option.some.inj h
     have h := hl23; clear hl23; try dsimp only [orE_l, orE_r] at h
     refine wx_then_ret (wx_block_ret (wx_then_ret ?_))
     obtain ⟨rfl, rfl, rfl⟩ := pJ3 h
     exact wE Tryz.results10 (rs2 rfl rfl) ⟨zo, zq, zp, zl, zm, zn, rfl, rfl⟩ pI
    refine wc_skip (wx_block (wx_then (wc_region (wM 3 rfl (wl_nil ?_)))))
    exact wx_round m23 (Nat.lt_succ_self m23) ⟨(IntKind.wrap .i64 (zi + (1 : Int))), zb.Begin, zb.First, zb.L, zo, zq, zp, zl, h, zm, zn, rfl, rfl⟩ (ag8 rfl rfl rfl rfl rfl rfl rfl rfl) pI
   replace h := cf hx950 h
   rcases Bool.eq_false_or_eq_true ((IntKind.wrap .u8 ((1 : Int) - p2)) == (1 : Int)) with hx951 | hx951
   ·replace h := ct hx951 h
    refine wl_val (v := .pointer (some ((adOf p4a0).add (zi.toNat * 2 + 1)))) (val_fia (j := 1) tt_ok rfl rfl rfl rfl (by simpa using hx951) rfl rfl) rfl ?_
    refine wl_val (v := .int .u8 v94.2) (val_le (enc := (e2 .u8)) (xs := p4) tt_ok rfl p4S0 rsub_nil (e2_len _) x94 rfl) rfl ?_
    replace h := bsome h; obtain ⟨⟨zb, v97⟩, x97, h⟩ := h; try dsimp only at h
    refine wl_cs Tryz.call30 rfl rfl rfl (s_sp (k_hindcastref26_Engine_Remote (p0 := p0) (p0_4 := (T_hindcastref24_Queue.mk zj zk za)) (p0t := p0t) (p0_4b := p0_4b) (p0_4t := p0_4t) p0N0 p0V0 p0N1 p0V1 zc zd x97) pP (fun _ _ => trivial)) rfl ?_
    rintro _ _ ⟨_, ⟨zo, zq, zp, zl, zm, zn, rfl, rfl⟩, rfl⟩
    refine wM 1 rfl (wNT (wSR (wM 2 rfl (wNT (wcc h rfl ?_ ?_))))) <;> clear h <;> intro h
    ·refine wSR (wM 4 rfl (wNT (wc_ret (wx_block_ret (wx_then_ret ?_)))))
     obtain rfl := Option.some.inj h
     have h := hl23; clear hl23; try dsimp only [orE_l, orE_r] at h
     refine wx_then_ret (wx_block_ret (wx_then_ret ?_))
     obtain ⟨rfl, rfl, rfl⟩ := pJ3 h
     exact wE Tryz.results10 (rs2 rfl rfl) ⟨zo, zq, zp, zl, zm, zn, rfl, rfl⟩ pI
    refine wc_skip (wx_block (wx_then (wc_region (wM 3 rfl (wl_nil ?_)))))
    exact wx_round m23 (Nat.lt_succ_self m23) ⟨(IntKind.wrap .i64 (zi + (1 : Int))), zb.Begin, zb.First, zb.L, zo, zq, zp, zl, h, zm, zn, rfl, rfl⟩ (ag8 rfl rfl rfl rfl rfl rfl rfl rfl) pI
   replace h := cf hx951 h
   cases h
  replace h := cf hx841 h
  cases h
 refine wc_exit (wx_then_exit ?_)
 obtain rfl := Option.some.inj h
 have h := hl23; clear hl23; try dsimp only [orE_l, orE_r] at h
 refine wx_then_exit (wx_block_exit (wx_then (wSR ?_)))
 refine wM 1 rfl (wl_val (v := .int .i64 (p4.length : Int)) (val_len tt_ok rfl rfl p4N0) rfl (wM 2 rfl (wNT (wc_ret ?_))))
 obtain ⟨rfl, rfl, rfl⟩ := pJ3 h
 exact wE Tryz.results10 (rs2 rfl rfl) ⟨zg, ze, zh, zf, zc, zd, rfl, rfl⟩ pI

theorem k_hindcastref06_Same {p0 : (List Int)} {p1 : (List Int)} {r0 : Bool} (p0N0 : p0n0 = p0.length) (p0H0 : p0n0 ≤ p0c0) (p1N0 : p1n0 = p1.length) (p1H0 : p1n0 ≤ p1c0) (h : m_hindcastref06_Same F p0 p1 = some r0) :
    Pf Tryz.prog 47 [.slice p0a0 p0n0 p0c0, .slice p1a0 p1n0 p1c0] (fun w => Rds w [] [] p0a0 (flat (e1 .u8) p0) ∧ Rds w [] [] p1a0 (flat (e1 .u8) p1)) (.bool r0) := by
 unfold m_hindcastref06_Same at h
 refine pf_of_wc Tryz.func47 rfl Tryz.ntmps47 rfl rfl (fun w0 hR => ?_)
 obtain ⟨p0S0, p1S0⟩ := hR
 refine wSR (wM 1 rfl (wNT (wc_seq (wSR (wM 1 rfl (wl_val (v := .int .i64 (p0.length : Int)) (val_len tt_ok rfl rfl p0N0) rfl (wM 1 rfl (wl_val (v := .int .i64 (p1.length : Int)) (val_len tt_ok rfl rfl p1N0) rfl (wM 1 rfl (wNT (wcc h rfl ?_ ?_))))))))))) <;> clear h <;> intro h
 ·refine wSR (wM 1 rfl (wNT (wc_ret (wx_then_ret ?_))))
  obtain rfl := sI h
  exact pE Tryz.results47 rfl
 refine wc_skip (wx_then (wc_seq (wSR (wM 1 rfl (wNT (wc_block ?_))))))
 obtain ⟨o15, h, hl15⟩ := bsome h
 refine wc_loop (fun m E L => ∃ za, m_hindcastref06_Same_L14 F p0 p1 m za = some o15 ∧ E = [(0, .slice p0a0 p0n0 p0c0), (1, .slice p1a0 p1n0 p1c0), (4, .bool false), (5, .int .i64 za)] ∧ L = []) F ⟨(0 : Int), h, rfl, rfl⟩ (ag4 rfl rfl rfl rfl) pI ?_
 clear h
 rintro m15 _ _ ⟨za, h, rfl, rfl⟩
 rcases m15 with _ | m15
 ·rw [m_hindcastref06_Same_L14.eq_1] at h; cases h
 rw [m_hindcastref06_Same_L14.eq_2] at h
 refine wc_seq (wSR (wM 2 rfl (wl_val (v := .int .i64 (p0.length : Int)) (val_len tt_ok rfl rfl p0N0) rfl (wM 1 rfl (wNT (wcc h rfl ?_ ?_)))))) <;> clear h <;> intro h
 ·refine wc_skip (wx_then (wc_seq (wc_block (wc_seq (wc_quiet (by kernel_rfl) (by kernel_rfl) (qM 2 rfl ?_))))))
  obtain ⟨v19, x19, h⟩ := bsome h
  refine wq_val (v := .pointer (some ((adOf p0a0).add (za.toNat * 1 + 0)))) (val_ix (enc := (e1 .u8)) tt_ok rfl rfl rfl rfl p0N0 p0S0 (e1_len _) rfl x19) rfl ?_
  refine wq_val (v := .int .u8 v19) (val_le (enc := (e1 .u8)) (xs := p0) tt_ok rfl p0S0 rsub_nil (e1_len _) x19 rfl) rfl ?_
  refine qM 2 rfl ?_
  obtain ⟨v23, x23, h⟩ := bsome h
  refine wq_val (v := .pointer (some ((adOf p1a0).add (za.toNat * 1 + 0)))) (val_ix (enc := (e1 .u8)) tt_ok rfl rfl rfl rfl p1N0 p1S0 (e1_len _) rfl x23) rfl ?_
  refine wq_val (v := .int .u8 v23) (val_le (enc := (e1 .u8)) (xs := p1) tt_ok rfl p1S0 rsub_nil (e1_len _) x23 rfl) rfl ?_
  refine qM 1 rfl (wq_nil (wx_then (wcc h rfl ?_ ?_))) <;> clear h <;> intro h
  ·refine wSR (wM 1 rfl (wNT (wc_ret (wx_block_ret (wx_then_ret ?_)))))
   obtain rfl := Option.some.inj h
   have h := hl15; clear hl15; try dsimp only [orE_l, orE_r] at h
   refine wx_then_ret (wx_block_ret (wx_then_ret ?_))
   obtain rfl := sI h
   exact pE Tryz.results47 rfl
  refine wc_skip (wx_block (wx_then (wc_region (wM 3 rfl (wl_nil ?_)))))
  exact wx_round m15 (Nat.lt_succ_self m15) ⟨(IntKind.wrap .i64 (za + (1 : Int))), h, rfl, rfl⟩ (ag4 rfl rfl rfl rfl) pI
 refine wc_exit (wx_then_exit ?_)
 obtain rfl := Option.some.inj h
 have h := hl15; clear hl15; try dsimp only [orE_l, orE_r] at h
 refine wx_then_exit (wx_block_exit (wx_then (wSR ?_)))
 refine wM 1 rfl (wNT (wc_ret ?_))
 obtain rfl := sI h
 exact pE Tryz.results47 rfl

theorem k_ring_Ring_Newest {p0 : T_ring_Ring} {p0g0 : List (T_ring_place × G)} {r0 : T_api_State} {r1 : Bool} (p0G0 : p0.places.1 = unG p0g0) (p0A0 : AllP sh_T_ring_place c_T_api_Shot p0P0 p0g0) (h : m_ring_Ring_Newest F p0 = some (r0, r1)) :
    SpD Tryz.prog 78 [.pointer (some ⟨p0b, 0, none⟩)] (⟨p0b, ([.int .i64 p0.size] ++ flat cg_T_ring_place p0g0), p0t, (0, 0)⟩ :: (p0P0 ++ [])) (fun w => True) (fun v D => ∃ r0a0 r0n0 r0c0 r0B0, r0n0 = r0.Shots.length ∧ Own 119 6 r0a0 r0n0 r0c0 (flat c_T_api_Shot r0.Shots) r0B0 ∧ v = .tuple #[agS r0 r0a0 r0n0 r0c0, .bool r1] ∧ D = fun F => (⟨p0b, ([.int .i64 p0.size] ++ flat cg_T_ring_place p0g0), p0t, (0, 0)⟩ :: (p0P0 ++ (r0B0 ++ F)))) := by
 unfold m_ring_Ring_Newest at h
 refine sp_of_wc Tryz.func78 rfl Tryz.ntmps78 rfl rfl (fun w0 hR => ?_)
 refine wSR (wl_alloc tt_ok rfl rfl (fun b2 => (wM 1 rfl (wNT (wSR (wl_alloc tt_ok rfl rfl (fun b4 => (wNT (wc_seq (wSR (wM 1 rfl ?_)))))))))))
 obtain ⟨v8, x8, h⟩ := bsome h
 refine wl_cq Tryz.call86 rfl rfl rfl (q_rd (k_ring_Ring_is (p0 := p0) (p0t := p0t) p0G0 p0A0 x8) pP (fun _ _ => trivial)) rfl ?_
 refine wNT ?_
 replace h := bsome h; obtain ⟨⟨zu, zv, zc, zb, zj, zw⟩, h, hj8⟩ := h; try dsimp only at hj8
 refine wc_join2 (fun E L => ∃ zg zi zh, zi = zb.length ∧ zi ≤ zh ∧ Rds w0 (ids (⟨p0b, ([.int .i64 p0.size] ++ flat cg_T_ring_place p0g0), p0t, (0, 0)⟩ :: (p0P0 ++ []))) p0P0 zg (flat c_T_api_Shot zb) ∧ (zg = none → zh = 0) ∧ E = [(2, .pointer (some ⟨b2, 0, none⟩)), (3, .bool false), (4, .pointer (some ⟨b4, 0, none⟩))] ∧ L = (⟨b2, [.int .u64 0, .int .u64 0, .int .i32 0, .int .i32 0, .int .i32 0, .int .i32 0, .int .u8 0, .int .u8 0, .int .u8 0, .int .i32 0, .int .i32 0, .int .i32 0, .int .i32 0, .int .u8 0, .int .u8 0, .int .u8 0, .slice none 0 0, .int .u16 0, .int .u16 0], 64, (0, 0)⟩ :: (⟨b4, (.int .u64 zu :: .int .u64 zv :: pl14 zc [.slice zg zi zh, .int .u16 zj.1, .int .u16 zj.2, .bool zw]), 137, (0, 0)⟩ :: (⟨p0b, ([.int .i64 p0.size] ++ flat cg_T_ring_place p0g0), p0t, (0, 0)⟩ :: (p0P0 ++ []))))) ?_ ?_
 ·refine wcc h rfl ?_ ?_ <;> clear h <;> intro h
  ·refine wc_seq (wc_quiet (by kernel_rfl) (by kernel_rfl) (qM 6 rfl (qLd rfl (mTT mH) rfl rfl ?_)))
   obtain ⟨v16, x16, h⟩ := bsome h
   obtain ⟨g16, y16, hG16⟩ := cut_g p0G0 x16
   refine wq_val (v := .slice (some ⟨p0b, 1, none⟩) ((p0.size).toNat) 14) (val_slh (j := (p0.size).toNat) tt_ok rfl rfl rfl rfl (cut_v x16) (cut_len p0G0 y16 p0.places.2) rfl) rfl ?_
   refine wq_val (v := .int .i64 (v16.length : Int)) (val_len tt_ok rfl rfl (cut_n p0.places.1 x16)) rfl ?_
   refine qM 1 rfl (wq_nil (wx_then (wc_block ?_)))
   replace h := bsome h; obtain ⟨⟨zab, zac, zad, zae, zaf, zag⟩, h, hl12⟩ := h; try dsimp only at hl12
   refine wc_loop (fun m E L => ∃ zo zl zm zn za zk zp zd zf ze, m_ring_Ring_Newest_L11 F v16 m zo zl zm zn za zk zp = some (zab, zac, zad, zae, zaf, zag) ∧ zf = za.length ∧ zf ≤ ze ∧ Rds w0 (ids (⟨p0b, ([.int .i64 p0.size] ++ flat cg_T_ring_place p0g0), p0t, (0, 0)⟩ :: (p0P0 ++ []))) p0P0 zd (flat c_T_api_Shot za) ∧ (zd = none → ze = 0) ∧ E = [(2, .pointer (some ⟨b2, 0, none⟩)), (3, .bool false), (4, .pointer (some ⟨b4, 0, none⟩)), (16, .slice (some ⟨p0b, 1, none⟩) ((p0.size).toNat) 14), (17, .int .i64 (v16.length : Int)), (18, .int .i64 zo)] ∧ L = (⟨b2, [.int .u64 0, .int .u64 0, .int .i32 0, .int .i32 0, .int .i32 0, .int .i32 0, .int .u8 0, .int .u8 0, .int .u8 0, .int .i32 0, .int .i32 0, .int .i32 0, .int .i32 0, .int .u8 0, .int .u8 0, .int .u8 0, .slice none 0 0, .int .u16 0, .int .u16 0], 64, (0, 0)⟩ :: (⟨b4, (.int .u64 zl :: .int .u64 zm :: pl14 zn [.slice zd zf ze, .int .u16 zk.1, .int .u16 zk.2, .bool zp]), 137, (0, 0)⟩ :: (⟨p0b, ([.int .i64 p0.size] ++ flat cg_T_ring_place p0g0), p0t, (0, 0)⟩ :: (p0P0 ++ []))))) F ⟨(0 : Int), (0 : Int), (0 : Int), ((T_api_Player.mk (0 : Int) (0 : Int) (0 : Int) (0 : Int) (0 : Int) (0 : Int) (0 : Int)), (T_api_Player.mk (0 : Int) (0 : Int) (0 : Int) (0 : Int) (0 : Int) (0 : Int) (0 : Int))), ([] : List T_api_Shot), ((0 : Int), (0 : Int)), false, none, 0, 0, h, rfl, (Nat.le_refl _), Rds.nil, (fun _ => rfl), rfl, rfl⟩ (ag6 rfl rfl rfl rfl rfl rfl) pI ?_
   clear h
   rintro m12 _ _ ⟨zo, zl, zm, zn, za, zk, zp, zd, zf, ze, h, zr, zq, zs, zt, rfl, rfl⟩
   rcases m12 with _ | m12
   ·rw [m_ring_Ring_Newest_L11.eq_1] at h; cases h
   rw [m_ring_Ring_Newest_L11.eq_2] at h
   refine wSR (wM 1 rfl (wNT (wc_seq (wcc h rfl ?_ ?_)))) <;> clear h <;> intro h
   ·refine wc_skip (wx_then (wc_seq (wc_block (wSR ?_))))
    obtain ⟨v20, x20, h⟩ := bsome h
    obtain ⟨G20, y20⟩ := getI_g hG16 x20
    refine wl_val (v := .pointer (some ((adOf (some ⟨p0b, 1, none⟩)).add (zo.toNat * 20 + 0)))) (val_ix (enc := cg_T_ring_place) tt_ok rfl rfl rfl rfl (len_g (cut_n p0.places.1 x16) hG16) (rds_arr (t := p0t) (fz := (0, 0)) (pre := [.int .i64 p0.size]) (post := []) c_np rfl y16) cg_T_ring_place_len rfl y20) rfl ?_
    refine wl_val (v := .agg #[.int .u64 v20.s.Frame, .int .u64 v20.s.Seed, .int .i32 v20.s.Players.1.X, .int .i32 v20.s.Players.1.Y, .int .i32 v20.s.Players.1.VX, .int .i32 v20.s.Players.1.VY, .int .u8 v20.s.Players.1.Health, .int .u8 v20.s.Players.1.Cool, .int .u8 v20.s.Players.1.Face, .int .i32 v20.s.Players.2.X, .int .i32 v20.s.Players.2.Y, .int .i32 v20.s.Players.2.VX, .int .i32 v20.s.Players.2.VY, .int .u8 v20.s.Players.2.Health, .int .u8 v20.s.Players.2.Cool, .int .u8 v20.s.Players.2.Face, .slice G20.1 G20.2.1 G20.2.2, .int .u16 v20.s.Score.1, .int .u16 v20.s.Score.2, .bool v20.is_]) (val_le (enc := cg_T_ring_place) (xs := g16) tt_ok rfl (rds_arr (t := p0t) (fz := (0, 0)) (pre := [.int .i64 p0.size]) (post := []) c_np rfl y16) ⟨_, (sCC hC)⟩ cg_T_ring_place_len y20 rfl) rfl ?_
    refine wl_alloc tt_ok rfl rfl (fun b6 => ?_)
    refine lSt Upd.here ?_
    refine wNT (wSR (wM 1 rfl (wLd rfl mH rfl rfl (wM 1 rfl ?_))))
    obtain ⟨v37, h, hg37⟩ := bsome h
    refine wls 24 h rfl ?_ ?_ <;> clear h <;> intro h
    ·refine wM 1 rfl (wl_run rfl (wLd rfl (mTT mH) rfl rfl (wM 2 rfl ?_)))
     obtain ⟨v36, h, hg36⟩ := bsome h
     refine wls 28 h rfl ?_ ?_ <;> clear h <;> intro h
     ·refine wM 7 rfl ?_
      obtain rfl := sI h
      have h := hg36; clear hg36
      refine wM 1 rfl ?_
      obtain rfl := sI h
      have h := hg37; clear hg37
      refine wM 1 rfl (wNT ?_)
      replace h := ct rfl h
      refine wc_cond_true rfl ?_
      refine wc_region (wLd (v := .agg #[.int .u64 v20.s.Frame, .int .u64 v20.s.Seed, .int .i32 v20.s.Players.1.X, .int .i32 v20.s.Players.1.Y, .int .i32 v20.s.Players.1.VX, .int .i32 v20.s.Players.1.VY, .int .u8 v20.s.Players.1.Health, .int .u8 v20.s.Players.1.Cool, .int .u8 v20.s.Players.1.Face, .int .i32 v20.s.Players.2.X, .int .i32 v20.s.Players.2.Y, .int .i32 v20.s.Players.2.VX, .int .i32 v20.s.Players.2.VY, .int .u8 v20.s.Players.2.Health, .int .u8 v20.s.Players.2.Cool, .int .u8 v20.s.Players.2.Face, .slice G20.1 G20.2.1 G20.2.2, .int .u16 v20.s.Score.1, .int .u16 v20.s.Score.2, .bool v20.is_]) rfl mH rfl rfl (lSt (Upd.there (Upd.there Upd.here)) ?_))
      refine wl_nil (wx_block (wx_then (wc_region (wM 2 rfl (wl_nil ?_)))))
      exact wx_round m12 (Nat.lt_succ_self m12) ⟨(IntKind.wrap .i64 (zo + (1 : Int))), v20.s.Frame, v20.s.Seed, v20.s.Players, v20.s.Shots, v20.s.Score, v20.is_, G20.1, G20.2.1, G20.2.2, h, (allrd_get (allrd_cut (p0A0 w0 (ids (⟨p0b, ([.int .i64 p0.size] ++ flat cg_T_ring_place p0g0), p0t, (0, 0)⟩ :: (p0P0 ++ [])))) y16) y20).1, (allrd_get (allrd_cut (p0A0 w0 (ids (⟨p0b, ([.int .i64 p0.size] ++ flat cg_T_ring_place p0g0), p0t, (0, 0)⟩ :: (p0P0 ++ [])))) y16) y20).2.1, (allrd_get (allrd_cut (p0A0 w0 (ids (⟨p0b, ([.int .i64 p0.size] ++ flat cg_T_ring_place p0g0), p0t, (0, 0)⟩ :: (p0P0 ++ [])))) y16) y20).2.2.1, (allrd_get (allrd_cut (p0A0 w0 (ids (⟨p0b, ([.int .i64 p0.size] ++ flat cg_T_ring_place p0g0), p0t, (0, 0)⟩ :: (p0P0 ++ [])))) y16) y20).2.2.2, rfl, rfl⟩ (ag6 rfl rfl rfl rfl rfl rfl) pI
     refine wM 2 rfl (wl_run rfl (wLd rfl mH rfl rfl (wM 2 rfl (wl_run rfl (wLd rfl (mTT mH) rfl rfl (wM 1 rfl ?_))))))
     obtain rfl := sI h
     have h := hg36; clear hg36
     refine wM 1 rfl ?_
     obtain rfl := sI h
     have h := hg37; clear hg37
     refine wM 1 rfl (wNT (wcc h rfl ?_ ?_)) <;> clear h <;> intro h
     ·refine wc_region (wLd (v := .agg #[.int .u64 v20.s.Frame, .int .u64 v20.s.Seed, .int .i32 v20.s.Players.1.X, .int .i32 v20.s.Players.1.Y, .int .i32 v20.s.Players.1.VX, .int .i32 v20.s.Players.1.VY, .int .u8 v20.s.Players.1.Health, .int .u8 v20.s.Players.1.Cool, .int .u8 v20.s.Players.1.Face, .int .i32 v20.s.Players.2.X, .int .i32 v20.s.Players.2.Y, .int .i32 v20.s.Players.2.VX, .int .i32 v20.s.Players.2.VY, .int .u8 v20.s.Players.2.Health, .int .u8 v20.s.Players.2.Cool, .int .u8 v20.s.Players.2.Face, .slice G20.1 G20.2.1 G20.2.2, .int .u16 v20.s.Score.1, .int .u16 v20.s.Score.2, .bool v20.is_]) rfl mH rfl rfl (lSt (Upd.there (Upd.there Upd.here)) ?_))
      refine wl_nil (wx_block (wx_then (wc_region (wM 2 rfl (wl_nil ?_)))))
      exact wx_round m12 (Nat.lt_succ_self m12) ⟨(IntKind.wrap .i64 (zo + (1 : Int))), v20.s.Frame, v20.s.Seed, v20.s.Players, v20.s.Shots, v20.s.Score, v20.is_, G20.1, G20.2.1, G20.2.2, h, (allrd_get (allrd_cut (p0A0 w0 (ids (⟨p0b, ([.int .i64 p0.size] ++ flat cg_T_ring_place p0g0), p0t, (0, 0)⟩ :: (p0P0 ++ [])))) y16) y20).1, (allrd_get (allrd_cut (p0A0 w0 (ids (⟨p0b, ([.int .i64 p0.size] ++ flat cg_T_ring_place p0g0), p0t, (0, 0)⟩ :: (p0P0 ++ [])))) y16) y20).2.1, (allrd_get (allrd_cut (p0A0 w0 (ids (⟨p0b, ([.int .i64 p0.size] ++ flat cg_T_ring_place p0g0), p0t, (0, 0)⟩ :: (p0P0 ++ [])))) y16) y20).2.2.1, (allrd_get (allrd_cut (p0A0 w0 (ids (⟨p0b, ([.int .i64 p0.size] ++ flat cg_T_ring_place p0g0), p0t, (0, 0)⟩ :: (p0P0 ++ [])))) y16) y20).2.2.2, rfl, rfl⟩ (ag6 rfl rfl rfl rfl rfl rfl) pI
     refine wc_skip (wx_block (wx_then (wc_region (wM 2 rfl (wl_nil ?_)))))
     exact wx_round m12 (Nat.lt_succ_self m12) ⟨(IntKind.wrap .i64 (zo + (1 : Int))), zl, zm, zn, za, zk, zp, zd, zf, ze, h, zr, zq, zs, zt, rfl, rfl⟩ (ag6 rfl rfl rfl rfl rfl rfl) pI
    refine wM 12 rfl ?_
    obtain rfl := sI h
    have h := hg37; clear hg37
    refine wM 1 rfl (wNT ?_)
    replace h := cf rfl h
    refine wc_cond_false rfl ?_
    refine wc_skip (wx_block (wx_then (wc_region (wM 2 rfl (wl_nil ?_)))))
    exact wx_round m12 (Nat.lt_succ_self m12) ⟨(IntKind.wrap .i64 (zo + (1 : Int))), zl, zm, zn, za, zk, zp, zd, zf, ze, h, zr, zq, zs, zt, rfl, rfl⟩ (ag6 rfl rfl rfl rfl rfl rfl) pI
   refine wc_exit (wx_then_exit ?_)
   obtain ⟨rfl, rfl, rfl, rfl, rfl, rfl⟩ := pJ6 h
   have h := hl12; clear hl12; try dsimp only [orE_l, orE_r] at h
   refine wx_then_exit (wx_block_exit ?_)
   obtain ⟨rfl, rfl, rfl, rfl, rfl, rfl⟩ := pJ6 h
   exact wx_join ⟨zd, zf, ze, zr, zq, zs, zt, rfl, rfl⟩ (ag3 rfl rfl rfl) pI
  refine wc_skip ?_
  obtain ⟨rfl, rfl, rfl, rfl, rfl, rfl⟩ := pJ6 h
  exact wx_join ⟨none, 0, 0, rfl, (Nat.le_refl _), Rds.nil, (fun _ => rfl), rfl, rfl⟩ (ag3 rfl rfl rfl) pI
 rintro _ _ ⟨zg, zi, zh, zy, zx, zz, zaa, rfl, rfl⟩
 have h := hj8; clear hj8
 refine wc_seq (wc_k2 (Ls := (⟨b4, (.int .u64 zu :: .int .u64 zv :: pl14 zc [.slice zg zi zh, .int .u16 zj.1, .int .u16 zj.2, .bool zw]), 137, (0, 0)⟩ :: (⟨p0b, ([.int .i64 p0.size] ++ flat cg_T_ring_place p0g0), p0t, (0, 0)⟩ :: (p0P0 ++ [])))) [2, 5, 6] [6] [0, 1, 3, 0, 8, 7, 63] [0, 1, 3, 4, 2, 5, 6] (by kernel_rfl) (by kernel_rfl) (by kernel_rfl) ?_)
 refine kM pI 1 rfl (k_val (v := .agg #[.int .u64 zu, .int .u64 zv, .int .i32 zc.1.X, .int .i32 zc.1.Y, .int .i32 zc.1.VX, .int .i32 zc.1.VY, .int .u8 zc.1.Health, .int .u8 zc.1.Cool, .int .u8 zc.1.Face, .int .i32 zc.2.X, .int .i32 zc.2.Y, .int .i32 zc.2.VX, .int .i32 zc.2.VY, .int .u8 zc.2.Health, .int .u8 zc.2.Cool, .int .u8 zc.2.Face, .slice zg zi zh, .int .u16 zj.1, .int .u16 zj.2]) rfl rfl rfl pI (val_load tt_ok rfl mH rfl) rfl ?_)
 refine kM pI 1 rfl (k_val (v := .bool zw) rfl rfl rfl pI (val_load tt_ok rfl mH rfl) rfl ?_)
 obtain ⟨v42, x42, h⟩ := bsome h
 refine k_cs rfl rfl rfl Tryz.call88 rfl rfl rfl (s_sp (k_ring_told (p0 := (T_api_State.mk zu zv zc zb zj)) zy zx zaa x42) pNil (Rds.call zz pNil ⟨_, (sCC (sC hA'))⟩)) rfl (.inr (by rintro _ _ ⟨_, ⟨_, _, _, _, _, _, rfl, rfl⟩, rfl⟩; exact ⟨_, pP⟩)) ?_
 rintro _ _ ⟨_, ⟨v42a0, v42n0, v42c0, v42B0, v42N0, v42V0, rfl, rfl⟩, rfl⟩
 refine k_chg0 rfl rfl rfl (chg_store tt_ok rfl (Upd.right Upd.here) rfl rfl rfl rfl rfl rfl) (.inr (by rintro _ _ rfl; exact ⟨_, pP⟩)) ?_
 rintro _ _ rfl
 refine k_chg rfl rfl rfl (Chg.of_val (sV rfl)) rfl (.inl rfl) ?_
 rintro _ _ ⟨rfl, rfl⟩
 refine k_end (by kernel_rfl) ?_
 refine wx_then (wc_ret ?_)
 obtain ⟨rfl, rfl⟩ := pJ2 h
 exact wE Tryz.results78 (Res.cell rfl (mR mH) rfl (rs1 rfl)) ⟨v42a0, v42n0, v42c0, v42B0, v42N0, v42V0, rfl, rfl⟩ pI

theorem k_rollback_Engine_Shown {p0 : T_rollback_Engine} {p0_4 : T_queue_Queue} {p0_5 : T_ring_Ring} {p0_5g0 : List (T_ring_place × G)} {r0 : T_ring_Ring} {r1 : T_api_State} (p0N0 : p0n0 = p0.sure.Shots.length) (p0V0 : Own 119 6 p0a0 p0n0 p0c0 (flat c_T_api_Shot p0.sure.Shots) p0B0) (p0N1 : p0n1 = p0.own.length) (p0V1 : Own 52 1 p0a1 p0n1 p0c1 (flat (e1 .u8) p0.own) p0B1) (p0_4N0 : p0_4n0 = p0_4.l.length) (p0_4V0 : Own 52 1 p0_4a0 p0_4n0 p0_4c0 (flat (e1 .u8) p0_4.l) p0_4B0) (p0_5G0 : p0_5.places.1 = unG p0_5g0) (p0_5A0 : AllP sh_T_ring_place c_T_api_Shot p0_5P0 p0_5g0) (h : m_rollback_Engine_Shown F p0 p0_4 p0_5 = some (r0, r1)) :
    SpD Tryz.prog 49 [.pointer (some ⟨p0b, 0, none⟩)] (⟨p0b, (.int .u8 p0.player :: .int .i64 p0.window :: st19 p0.sure p0a0 p0n0 p0c0 [.slice p0a1 p0n1 p0c1, .pointer (some ⟨p0_4b, 0, none⟩), .pointer (some ⟨p0_5b, 0, none⟩)]), p0t, (0, 0)⟩ :: (p0B0 ++ (p0B1 ++ (⟨p0_4b, [.int .u64 p0_4.first_, .slice p0_4a0 p0_4n0 p0_4c0, .int .u8 p0_4.last], p0_4t, (0, 0)⟩ :: (p0_4B0 ++ (⟨p0_5b, ([.int .i64 p0_5.size] ++ flat cg_T_ring_place p0_5g0), p0_5t, (0, 0)⟩ :: (p0_5P0 ++ []))))))) (fun w => Rds w (ids (⟨p0b, (.int .u8 p0.player :: .int .i64 p0.window :: st19 p0.sure p0a0 p0n0 p0c0 [.slice p0a1 p0n1 p0c1, .pointer (some ⟨p0_4b, 0, none⟩), .pointer (some ⟨p0_5b, 0, none⟩)]), p0t, (0, 0)⟩ :: (p0B0 ++ (p0B1 ++ (⟨p0_4b, [.int .u64 p0_4.first_, .slice p0_4a0 p0_4n0 p0_4c0, .int .u8 p0_4.last], p0_4t, (0, 0)⟩ :: (p0_4B0 ++ (⟨p0_5b, ([.int .i64 p0_5.size] ++ flat cg_T_ring_place p0_5g0), p0_5t, (0, 0)⟩ :: (p0_5P0 ++ [])))))))) [] (some ⟨0, 0, none⟩) (flat (fun _ : Unit => gl_state_playerBounds) [()]) ∧ Rds w (ids (⟨p0b, (.int .u8 p0.player :: .int .i64 p0.window :: st19 p0.sure p0a0 p0n0 p0c0 [.slice p0a1 p0n1 p0c1, .pointer (some ⟨p0_4b, 0, none⟩), .pointer (some ⟨p0_5b, 0, none⟩)]), p0t, (0, 0)⟩ :: (p0B0 ++ (p0B1 ++ (⟨p0_4b, [.int .u64 p0_4.first_, .slice p0_4a0 p0_4n0 p0_4c0, .int .u8 p0_4.last], p0_4t, (0, 0)⟩ :: (p0_4B0 ++ (⟨p0_5b, ([.int .i64 p0_5.size] ++ flat cg_T_ring_place p0_5g0), p0_5t, (0, 0)⟩ :: (p0_5P0 ++ [])))))))) [] (some ⟨1, 0, none⟩) (flat (fun _ : Unit => gl_state_shotBounds) [()])) (fun v D => ∃ r0g0 r0P0 r1a0 r1n0 r1c0 r1B0, r0.places.1 = unG r0g0 ∧ AllP sh_T_ring_place c_T_api_Shot r0P0 r0g0 ∧ r1n0 = r1.Shots.length ∧ Own 119 6 r1a0 r1n0 r1c0 (flat c_T_api_Shot r1.Shots) r1B0 ∧ v = agS r1 r1a0 r1n0 r1c0 ∧ D = fun F => (⟨p0b, (.int .u8 p0.player :: .int .i64 p0.window :: st19 p0.sure p0a0 p0n0 p0c0 [.slice p0a1 p0n1 p0c1, .pointer (some ⟨p0_4b, 0, none⟩), .pointer (some ⟨p0_5b, 0, none⟩)]), p0t, (0, 0)⟩ :: (p0B0 ++ (p0B1 ++ (⟨p0_4b, [.int .u64 p0_4.first_, .slice p0_4a0 p0_4n0 p0_4c0, .int .u8 p0_4.last], p0_4t, (0, 0)⟩ :: (p0_4B0 ++ (⟨p0_5b, ([.int .i64 r0.size] ++ flat cg_T_ring_place r0g0), p0_5t, (0, 0)⟩ :: (r0P0 ++ (r1B0 ++ F))))))))) := by
 unfold m_rollback_Engine_Shown at h
 refine sp_of_wc Tryz.func49 rfl Tryz.ntmps49 rfl rfl (fun w0 hR => ?_)
 obtain ⟨G0S, G1S⟩ := hR
 refine wSR (wl_alloc tt_ok rfl rfl (fun b2 => (wNT (wc_seq (wSR (wM 1 rfl ?_))))))
 obtain ⟨v7, x7, h⟩ := bsome h
 refine wl_cq Tryz.call53 rfl rfl rfl (q_rd (k_rollback_Engine_is (p0 := p0) (p0_4 := p0_4) (p0_5 := p0_5) (p0t := p0t) (p0_4b := p0_4b) (p0_4t := p0_4t) (p0_5b := p0_5b) (p0_5t := p0_5t) p0N0 p0V0 p0N1 p0V1 p0_4N0 p0_4V0 p0_5G0 p0_5A0 x7) pP (fun _ _ => trivial)) rfl ?_
 refine wM 1 rfl (wNT (wcc h rfl ?_ ?_)) <;> clear h <;> intro h
 ·refine wSR (wM 1 rfl (lSt Upd.here ?_))
  refine wNT (wc_ret (wx_then_ret ?_))
  obtain ⟨rfl, rfl⟩ := pJ2 h
  exact wE Tryz.results49 (Res.cell rfl mH rfl Res.nil) ⟨p0_5g0, p0_5P0, none, 0, 0, [], p0_5G0, p0_5A0, rfl, Own.zero, rfl, rfl⟩ pI
 refine wc_skip (wx_then (wSR (wM 3 rfl (wLd rfl (mT mH) rfl rfl ?_))))
 replace h := bsome h; obtain ⟨⟨zf, zbb⟩, x15, h⟩ := h; try dsimp only at h
 refine wl_cs Tryz.call78 rfl rfl rfl (s_sp (k_ring_Ring_Newest (p0 := p0_5) (p0t := p0_5t) p0_5G0 p0_5A0 x15) pP (fun _ _ => trivial)) rfl ?_
 rintro _ _ ⟨_, ⟨zaj, zal, zak, zba, zat, zz, rfl, rfl⟩, rfl⟩
 refine wM 3 rfl (wl_alloc tt_ok rfl rfl (fun b3 => (lSt Upd.here ?_)))
 refine wM 1 rfl (wNT (wSR (wM 1 rfl (wLd (v := agS zf zaj zal zak) rfl mH rfl rfl (wl_inl Tryz.call79 rfl rfl rfl Tryz.func79 rfl Tryz.ntmps79 rfl rfl rfl ?_)))))
 refine wSR (wl_box rfl rfl rfl (fun b100002 => (wl_box rfl rfl rfl (fun b100003 => (wM 1 rfl (wNT (wSR (wM 2 rfl (wNT (wc_ret (wx_inl (v := .func (.func 108) #[] #[.pointer (some ⟨b100003, 0, none⟩), .pointer (some ⟨b100002, 0, none⟩)]) tt_ok (.inl rfl) Tryz.results79 (rs1 rfl) rfl (wM 1 rfl (wNT (wc_seq (wc_block ?_)))))))))))))))
 replace h := bsome h; obtain ⟨⟨zan, zao, zau, zav, zaw, zax, zay, zae, zaf, zag, zah, zai⟩, h, hl17⟩ := h; try dsimp only at hl17
 refine wc_loop (fun m E L => ∃ zn zc zv zw ze zb zl zh zp zd za zg zm zq zt zr zu zs zi zk zj, m_rollback_Engine_Shown_L16 F p0 p0_4 m zn zc zv zw ze zb zl zh zp zd za zg = some (zan, zao, zau, zav, zaw, zax, zay, zae, zaf, zag, zah, zai) ∧ zc.1 = unG zm ∧ AllP sh_T_ring_place c_T_api_Shot zq zm ∧ zr = zb.length ∧ Own 119 6 zt zr zu (flat c_T_api_Shot zb) zs ∧ zk = za.length ∧ zk ≤ zj ∧ Rds w0 (ids (⟨p0b, (.int .u8 p0.player :: .int .i64 p0.window :: st19 p0.sure p0a0 p0n0 p0c0 [.slice p0a1 p0n1 p0c1, .pointer (some ⟨p0_4b, 0, none⟩), .pointer (some ⟨p0_5b, 0, none⟩)]), p0t, (0, 0)⟩ :: (p0B0 ++ (p0B1 ++ (⟨p0_4b, [.int .u64 p0_4.first_, .slice p0_4a0 p0_4n0 p0_4c0, .int .u8 p0_4.last], p0_4t, (0, 0)⟩ :: (p0_4B0 ++ (⟨p0_5b, ([.int .i64 p0_5.size] ++ flat cg_T_ring_place p0_5g0), p0_5t, (0, 0)⟩ :: (p0_5P0 ++ [])))))))) zs zi (flat c_T_api_Shot za) ∧ (zi = none → zj = 0) ∧ E = [(0, .pointer (some ⟨p0b, 0, none⟩)), (2, .pointer (some ⟨b2, 0, none⟩)), (3, .pointer (some ⟨b3, 0, none⟩)), (5, .func (.func 108) #[] #[.pointer (some ⟨b100003, 0, none⟩), .pointer (some ⟨b100002, 0, none⟩)])] ∧ L = (⟨p0b, (.int .u8 p0.player :: .int .i64 p0.window :: st19 p0.sure p0a0 p0n0 p0c0 [.slice p0a1 p0n1 p0c1, .pointer (some ⟨p0_4b, 0, none⟩), .pointer (some ⟨p0_5b, 0, none⟩)]), p0t, (0, 0)⟩ :: (⟨p0_4b, [.int .u64 p0_4.first_, .slice p0_4a0 p0_4n0 p0_4c0, .int .u8 p0_4.last], p0_4t, (0, 0)⟩ :: (⟨p0_5b, ([.int .i64 zn] ++ flat cg_T_ring_place zm), p0_5t, (0, 0)⟩ :: (⟨b2, [.int .u64 0, .int .u64 0, .int .i32 0, .int .i32 0, .int .i32 0, .int .i32 0, .int .u8 0, .int .u8 0, .int .u8 0, .int .i32 0, .int .i32 0, .int .i32 0, .int .i32 0, .int .u8 0, .int .u8 0, .int .u8 0, .slice none 0 0, .int .u16 0, .int .u16 0], 64, (0, 0)⟩ :: (⟨b3, (.int .u64 zv :: .int .u64 zw :: pl14 ze [.slice zt zr zu, .int .u16 zl.1, .int .u16 zl.2]), 64, (0, 0)⟩ :: (⟨b100003, (.int .u64 zh :: .int .u64 zp :: pl14 zd [.slice zi zk zj, .int .u16 zg.1, .int .u16 zg.2]), 64, (0, 0)⟩ :: (⟨b100002, [.pointer (some ⟨p0b, 0, none⟩)], 30, (0, 0)⟩ :: (p0B0 ++ (p0B1 ++ (p0_4B0 ++ (zq ++ (zs ++ []))))))))))))) F ⟨p0_5.size, p0_5.places, zf.Frame, zf.Seed, zf.Players, zf.Shots, zf.Score, zf.Frame, zf.Seed, zf.Players, zf.Shots, zf.Score, p0_5g0, p0_5P0, zaj, zal, zak, zba, zaj, zal, zak, h, p0_5G0, p0_5A0, zat, zz, zat, (vec_cap zz), (Rds.of_vec zz), (own_Z zz), rfl, rfl⟩ (ag4 rfl rfl rfl rfl) pI ?_
 clear h
 rintro m17 _ _ ⟨zn, zc, zv, zw, ze, zb, zl, zh, zp, zd, za, zg, zm, zq, zt, zr, zu, zs, zi, zk, zj, h, zy, zx, zam, zaa, zac, zab, zad, zaz, rfl, rfl⟩
 rcases m17 with _ | m17
 ·rw [m_rollback_Engine_Shown_L16.eq_1] at h; cases h
 rw [m_rollback_Engine_Shown_L16.eq_2] at h
 refine wc_seq (wc_seq (wc_quiet (by kernel_rfl) (by kernel_rfl) (qM 1 rfl (qLd rfl (mTT (mTT mH)) rfl rfl (qM 1 rfl ?_)))))
 obtain ⟨v24, x24, h⟩ := bsome h
 refine wq_cq Tryz.call40 rfl rfl rfl (q_rd (k_rollback_Engine_T (p0 := p0) (p0_4 := p0_4) (p0_5 := (T_ring_Ring.mk zn zc)) (p0t := p0t) (p0_4b := p0_4b) (p0_4t := p0_4t) (p0_5b := p0_5b) (p0_5t := p0_5t) p0N0 p0V0 p0N1 p0V1 p0_4N0 p0_4V0 zy zx x24) pP (fun _ _ => trivial)) rfl ?_
 refine qM 1 rfl (wq_nil (wx_then (wcc h rfl ?_ ?_))) <;> clear h <;> intro h
 ·refine wc_skip (wx_then (wc_block (wc_region (wM 1 rfl (wl_inl Tryz.call108 rfl rfl rfl Tryz.func108 rfl Tryz.ntmps108 rfl rfl rfl (wSR (wl_alloc tt_ok rfl rfl (fun b200002 => (wNT (wc_seq (wc_k2 (Ls := (⟨b200002, [.int .u64 0, .int .u64 0, .int .i32 0, .int .i32 0, .int .i32 0, .int .i32 0, .int .u8 0, .int .u8 0, .int .u8 0, .int .i32 0, .int .i32 0, .int .i32 0, .int .i32 0, .int .u8 0, .int .u8 0, .int .u8 0, .slice none 0 0, .int .u16 0, .int .u16 0], 64, (0, 0)⟩ :: (⟨p0b, (.int .u8 p0.player :: .int .i64 p0.window :: st19 p0.sure p0a0 p0n0 p0c0 [.slice p0a1 p0n1 p0c1, .pointer (some ⟨p0_4b, 0, none⟩), .pointer (some ⟨p0_5b, 0, none⟩)]), p0t, (0, 0)⟩ :: (⟨p0_4b, [.int .u64 p0_4.first_, .slice p0_4a0 p0_4n0 p0_4c0, .int .u8 p0_4.last], p0_4t, (0, 0)⟩ :: (⟨p0_5b, ([.int .i64 zn] ++ flat cg_T_ring_place zm), p0_5t, (0, 0)⟩ :: (⟨b2, [.int .u64 0, .int .u64 0, .int .i32 0, .int .i32 0, .int .i32 0, .int .i32 0, .int .u8 0, .int .u8 0, .int .u8 0, .int .i32 0, .int .i32 0, .int .i32 0, .int .i32 0, .int .u8 0, .int .u8 0, .int .u8 0, .slice none 0 0, .int .u16 0, .int .u16 0], 64, (0, 0)⟩ :: (⟨b3, (.int .u64 zv :: .int .u64 zw :: pl14 ze [.slice zt zr zu, .int .u16 zl.1, .int .u16 zl.2]), 64, (0, 0)⟩ :: (⟨b100003, (.int .u64 zh :: .int .u64 zp :: pl14 zd [.slice zi zk zj, .int .u16 zg.1, .int .u16 zg.2]), 64, (0, 0)⟩ :: (⟨b100002, [.pointer (some ⟨p0b, 0, none⟩)], 30, (0, 0)⟩ :: (p0B0 ++ (p0B1 ++ (p0_4B0 ++ (zq ++ (zs ++ [])))))))))))))) [4, 5, 6] [5, 6] [0, 0, 0, 4, 14, 31, 63] [0, 1, 2, 3, 4, 5, 6] (by kernel_rfl) (by kernel_rfl) (by kernel_rfl) ?_)))))))))))
  refine k_val (v := .agg #[.int .u64 zh, .int .u64 zp, .int .i32 zd.1.X, .int .i32 zd.1.Y, .int .i32 zd.1.VX, .int .i32 zd.1.VY, .int .u8 zd.1.Health, .int .u8 zd.1.Cool, .int .u8 zd.1.Face, .int .i32 zd.2.X, .int .i32 zd.2.Y, .int .i32 zd.2.VX, .int .i32 zd.2.VY, .int .u8 zd.2.Health, .int .u8 zd.2.Cool, .int .u8 zd.2.Face, .slice zi zk zj, .int .u16 zg.1, .int .u16 zg.2]) rfl rfl rfl pI (val_load tt_ok rfl (mTT (mTT (mTT mH))) rfl) rfl ?_
  refine k_val (v := .pointer (some ⟨p0b, 0, none⟩)) rfl rfl rfl pI (val_load tt_ok rfl (mTT (mTT (mTT (mT mH)))) rfl) rfl (kM pI 1 rfl (k_val (v := .int .u64 zh) rfl rfl rfl pI (val_load tt_ok rfl (mTT (mTT (mTT mH))) rfl) rfl ?_))
  obtain ⟨v200007, x200007, h⟩ := bsome h
  refine k_cq rfl rfl rfl Tryz.call75 rfl rfl rfl (q_rd (k_rollback_Engine_pair (p0 := p0) (p0_4 := p0_4) (p0_5 := (T_ring_Ring.mk zn zc)) (p0t := p0t) (p0_4b := p0_4b) (p0_4t := p0_4t) (p0_5b := p0_5b) (p0_5t := p0_5t) p0N0 p0V0 p0N1 p0V1 p0_4N0 p0_4V0 zy zx x200007) pP (fun _ _ => trivial)) rfl pI ?_
  obtain ⟨v200008, x200008, h⟩ := bsome h
  refine k_cs rfl rfl rfl Tryz.call64 rfl rfl rfl (s_sp (k_step_Step (p0 := (T_api_State.mk zh zp zd za zg)) zac zab x200008) pNil (fun w hI => ⟨(Rds.call zad pNil ⟨_, (sCC (sCC (sCC (sCC (sAA (sAA hA'))))))⟩) w hI, (Rds.call G0S pNil rsub_nil) w hI, (Rds.call G1S pNil rsub_nil) w hI⟩)) rfl (.inl rfl) ?_
  rintro _ _ ⟨_, ⟨v200008a0, v200008n0, v200008c0, v200008B0, v200008N0, v200008V0, rfl, rfl⟩, rfl⟩
  refine k_chg0 rfl rfl rfl (chg_store tt_ok rfl (Upd.right (Upd.there (Upd.there (Upd.there (Upd.there (Upd.there (Upd.there Upd.here))))))) rfl rfl rfl rfl rfl rfl) (.inl rfl) ?_
  rintro _ _ rfl
  refine k_end (by kernel_rfl) ?_
  refine wx_then (wc_seq (wc_k2 (Ls := (v200008B0 ++ (⟨b200002, [.int .u64 0, .int .u64 0, .int .i32 0, .int .i32 0, .int .i32 0, .int .i32 0, .int .u8 0, .int .u8 0, .int .u8 0, .int .i32 0, .int .i32 0, .int .i32 0, .int .i32 0, .int .u8 0, .int .u8 0, .int .u8 0, .slice none 0 0, .int .u16 0, .int .u16 0], 64, (0, 0)⟩ :: (⟨p0b, (.int .u8 p0.player :: .int .i64 p0.window :: st19 p0.sure p0a0 p0n0 p0c0 [.slice p0a1 p0n1 p0c1, .pointer (some ⟨p0_4b, 0, none⟩), .pointer (some ⟨p0_5b, 0, none⟩)]), p0t, (0, 0)⟩ :: (⟨p0_4b, [.int .u64 p0_4.first_, .slice p0_4a0 p0_4n0 p0_4c0, .int .u8 p0_4.last], p0_4t, (0, 0)⟩ :: (⟨p0_5b, ([.int .i64 zn] ++ flat cg_T_ring_place zm), p0_5t, (0, 0)⟩ :: (⟨b2, [.int .u64 0, .int .u64 0, .int .i32 0, .int .i32 0, .int .i32 0, .int .i32 0, .int .u8 0, .int .u8 0, .int .u8 0, .int .i32 0, .int .i32 0, .int .i32 0, .int .i32 0, .int .u8 0, .int .u8 0, .int .u8 0, .slice none 0 0, .int .u16 0, .int .u16 0], 64, (0, 0)⟩ :: (⟨b3, (.int .u64 zv :: .int .u64 zw :: pl14 ze [.slice zt zr zu, .int .u16 zl.1, .int .u16 zl.2]), 64, (0, 0)⟩ :: (⟨b100003, (st19 v200008 v200008a0 v200008n0 v200008c0 []), 64, (0, 0)⟩ :: (⟨b100002, [.pointer (some ⟨p0b, 0, none⟩)], 30, (0, 0)⟩ :: (p0B0 ++ (p0B1 ++ (p0_4B0 ++ (zq ++ (zs ++ []))))))))))))))) [5] [5] [0, 1, 3, 7, 0, 31] [0, 1, 2, 3, 4, 5] (by kernel_rfl) (by kernel_rfl) (by kernel_rfl) ?_))
  refine k_val (v := .pointer (some ⟨p0b, 0, none⟩)) rfl rfl rfl pI (val_load tt_ok rfl (mR (mTT (mTT (mTT (mT mH))))) rfl) rfl (kM pI 2 rfl (k_val (v := .pointer (some ⟨p0_5b, 0, none⟩)) rfl rfl rfl pI (val_load tt_ok rfl (mR (mT mH)) rfl) rfl ?_))
  refine k_val (v := agS v200008 v200008a0 v200008n0 v200008c0) rfl rfl rfl pI (val_load tt_ok rfl (mR (mTT (mTT (mTT mH)))) rfl) rfl ?_
  replace h := bsome h; obtain ⟨⟨zo, v200014⟩, x200014, h⟩ := h; try dsimp only at h
  refine k_cs rfl rfl rfl Tryz.call59 rfl rfl rfl (s_sp (k_ring_Ring_Put (p0 := (T_ring_Ring.mk zn zc)) (p1 := v200008) (p0t := p0_5t) zy zx v200008N0 (vec_cap v200008V0) (own_Z v200008V0) x200014) pP (fun w hI => ⟨(Rds.call (Rds.of_vec v200008V0) pP ⟨_, hA'⟩) w hI, (Rds.call G0S pP rsub_nil) w hI, (Rds.call G1S pP rsub_nil) w hI⟩)) rfl (.inl rfl) ?_
  rintro _ _ ⟨_, ⟨zas, zar, zaq, zap, rfl, rfl⟩, rfl⟩
  refine k_end (by kernel_rfl) ?_
  refine wx_then (wSR (wLd (v := agS v200008 v200008a0 v200008n0 v200008c0) rfl (mT (mR (mR (mTT (mTT (mT mH)))))) rfl rfl ?_))
  refine lSt (Upd.there (Upd.right (Upd.right Upd.here))) ?_
  refine wNT (wc_ret (wx_inl (v := agS v200008 v200008a0 v200008n0 v200008c0) tt_ok (.inl rfl) Tryz.results108 (Res.cell rfl (mT (mR (mR mH))) rfl Res.nil) rfl ?_))
  refine lSt (Upd.there (Upd.right (Upd.right (Upd.there (Upd.there (Upd.there (Upd.there Upd.here))))))) ?_
  refine wl_nil (wx_block ?_)
  exact wx_round m17 (Nat.lt_succ_self m17) ⟨zo.size, zo.places, v200008.Frame, v200008.Seed, v200008.Players, v200008.Shots, v200008.Score, v200008.Frame, v200008.Seed, v200008.Players, v200008.Shots, v200008.Score, zas, zar, v200008a0, v200008n0, v200008c0, v200008B0, v200008a0, v200008n0, v200008c0, h, zaq, zap, v200008N0, v200008V0, v200008N0, (vec_cap v200008V0), (Rds.of_vec v200008V0), (own_Z v200008V0), rfl, rfl⟩ (ag4 rfl rfl rfl rfl) pI
 refine wc_exit (wx_then_exit ?_)
 simp only [Option.some.injEq, Prod.mk.injEq] at h
 obtain ⟨rfl, rfl, rfl, rfl, rfl, rfl, rfl, rfl, rfl, rfl, rfl, rfl⟩ := h
 have h := hl17; clear hl17; try dsimp only [orE_l, orE_r] at h
 refine wx_then_exit (wx_block_exit (wx_then (wSR ?_)))
 refine wLd (v := .agg #[.int .u64 zv, .int .u64 zw, .int .i32 ze.1.X, .int .i32 ze.1.Y, .int .i32 ze.1.VX, .int .i32 ze.1.VY, .int .u8 ze.1.Health, .int .u8 ze.1.Cool, .int .u8 ze.1.Face, .int .i32 ze.2.X, .int .i32 ze.2.Y, .int .i32 ze.2.VX, .int .i32 ze.2.VY, .int .u8 ze.2.Health, .int .u8 ze.2.Cool, .int .u8 ze.2.Face, .slice zt zr zu, .int .u16 zl.1, .int .u16 zl.2]) rfl (mTT (mTT mH)) rfl rfl ?_
 obtain ⟨v29, x29, h⟩ := bsome h
 refine wl_cs Tryz.call56 rfl rfl rfl (s_sp (k_state_Copy (p0 := (T_api_State.mk zv zw ze zb zl)) zam (vec_cap zaa) x29) pNil (Rds.call (Rds.of_vec zaa) pNil ⟨_, (sCC (sCC (sCC (sC (sAA (sAA hA'))))))⟩)) rfl ?_
 rintro _ _ ⟨_, ⟨v29a0, v29n0, v29c0, v29B0, v29N0, v29V0, rfl, rfl⟩, rfl⟩
 refine lSt (Upd.right (Upd.there (Upd.there (Upd.there Upd.here)))) ?_
 refine wNT (wc_ret ?_)
 obtain ⟨rfl, rfl⟩ := pJ2 h
 exact wE Tryz.results49 (Res.cell rfl (mR (mTT (mT mH))) rfl Res.nil) ⟨zm, zq, v29a0, v29n0, v29c0, v29B0, zy, zx, v29N0, v29V0, rfl, rfl⟩ pI

theorem k_hindcastref26_Engine_Shown {p0 : T_hindcastref26_Engine} {p0_4 : T_hindcastref24_Queue} {r0 : T_api_State} (p0N0 : p0n0 = p0.Sure.Shots.length) (p0V0 : Own 119 6 p0a0 p0n0 p0c0 (flat c_T_api_Shot p0.Sure.Shots) p0B0) (p0N1 : p0n1 = p0.Own.length) (p0V1 : Own 52 1 p0a1 p0n1 p0c1 (flat (e1 .u8) p0.Own) p0B1) (p0_4N0 : p0_4n0 = p0_4.L.length) (p0_4V0 : Own 52 1 p0_4a0 p0_4n0 p0_4c0 (flat (e1 .u8) p0_4.L) p0_4B0) (h : m_hindcastref26_Engine_Shown F p0 p0_4 = some r0) :
    SpD Tryz.prog 50 [.pointer (some ⟨p0b, 0, none⟩)] (⟨p0b, (.int .u8 p0.Player :: .int .i64 p0.Window :: st19 p0.Sure p0a0 p0n0 p0c0 [.slice p0a1 p0n1 p0c1, .pointer (some ⟨p0_4b, 0, none⟩)]), p0t, (0, 0)⟩ :: (p0B0 ++ (p0B1 ++ (⟨p0_4b, [.int .u64 p0_4.Begin, .int .u64 p0_4.First, .slice p0_4a0 p0_4n0 p0_4c0], p0_4t, (0, 0)⟩ :: (p0_4B0 ++ []))))) (fun w => True) (fun v D => ∃ r0a0 r0n0 r0c0 r0B0, r0n0 = r0.Shots.length ∧ Own 119 6 r0a0 r0n0 r0c0 (flat c_T_api_Shot r0.Shots) r0B0 ∧ v = agS r0 r0a0 r0n0 r0c0 ∧ D = fun F => (⟨p0b, (.int .u8 p0.Player :: .int .i64 p0.Window :: st19 p0.Sure p0a0 p0n0 p0c0 [.slice p0a1 p0n1 p0c1, .pointer (some ⟨p0_4b, 0, none⟩)]), p0t, (0, 0)⟩ :: (p0B0 ++ (p0B1 ++ (⟨p0_4b, [.int .u64 p0_4.Begin, .int .u64 p0_4.First, .slice p0_4a0 p0_4n0 p0_4c0], p0_4t, (0, 0)⟩ :: (p0_4B0 ++ (r0B0 ++ F))))))) := by
 unfold m_hindcastref26_Engine_Shown at h
 refine sp_of_wc Tryz.func50 rfl Tryz.ntmps50 rfl rfl (fun w0 hR => ?_)
 refine wSR (wl_alloc tt_ok rfl rfl (fun b2 => (wNT (wSR (wM 3 rfl (wLd (v := agS p0.Sure p0a0 p0n0 p0c0) rfl (mT mH) rfl rfl ?_))))))
 obtain ⟨v9, x9, h⟩ := bsome h
 refine wl_cs Tryz.call69 rfl rfl rfl (s_sp (k_hindcastref08_Copy (p0 := p0.Sure) p0N0 (vec_cap p0V0) x9) pNil (Rds.call (Rds.of_vec p0V0) pNil ⟨_, (sCC hA')⟩)) rfl ?_
 rintro _ _ ⟨_, ⟨v9a0, v9n0, v9c0, v9B0, v9N0, v9V0, rfl, rfl⟩, rfl⟩
 refine wl_alloc tt_ok rfl rfl (fun b3 => ?_)
 refine lSt Upd.here ?_
 refine wNT (wc_seq (wSR (wM 4 rfl (wLd rfl (mT (mR (mT mH))) rfl rfl (wM 1 rfl (wNT (wc_block ?_)))))))
 replace h := bsome h; obtain ⟨⟨zm, zn, zo, zp, zq⟩, h, hl9⟩ := h; try dsimp only at hl9
 refine wc_loop (fun m E L => ∃ zl zg zh zb za zc ze zd zf zi, m_hindcastref26_Engine_Shown_L8 F p0 p0_4 m zl zg zh zb za zc = some (zm, zn, zo, zp, zq) ∧ zd = za.length ∧ Own 119 6 ze zd zf (flat c_T_api_Shot za) zi ∧ E = [(0, .pointer (some ⟨p0b, 0, none⟩)), (2, .pointer (some ⟨b2, 0, none⟩)), (3, .pointer (some ⟨b3, 0, none⟩)), (4, .int .u64 zl)] ∧ L = (⟨p0b, (.int .u8 p0.Player :: .int .i64 p0.Window :: st19 p0.Sure p0a0 p0n0 p0c0 [.slice p0a1 p0n1 p0c1, .pointer (some ⟨p0_4b, 0, none⟩)]), p0t, (0, 0)⟩ :: (⟨p0_4b, [.int .u64 p0_4.Begin, .int .u64 p0_4.First, .slice p0_4a0 p0_4n0 p0_4c0], p0_4t, (0, 0)⟩ :: (⟨b2, [.int .u64 0, .int .u64 0, .int .i32 0, .int .i32 0, .int .i32 0, .int .i32 0, .int .u8 0, .int .u8 0, .int .u8 0, .int .i32 0, .int .i32 0, .int .i32 0, .int .i32 0, .int .u8 0, .int .u8 0, .int .u8 0, .slice none 0 0, .int .u16 0, .int .u16 0], 64, (0, 0)⟩ :: (⟨b3, (.int .u64 zg :: .int .u64 zh :: pl14 zb [.slice ze zd zf, .int .u16 zc.1, .int .u16 zc.2]), 64, (0, 0)⟩ :: (p0B0 ++ (p0B1 ++ (p0_4B0 ++ (zi ++ []))))))))) F ⟨p0.Sure.Frame, v9.Frame, v9.Seed, v9.Players, v9.Shots, v9.Score, v9a0, v9n0, v9c0, v9B0, h, v9N0, v9V0, rfl, rfl⟩ (ag4 rfl rfl rfl rfl) pI ?_
 clear h
 rintro m9 _ _ ⟨zl, zg, zh, zb, za, zc, ze, zd, zf, zi, h, zk, zj, rfl, rfl⟩
 rcases m9 with _ | m9
 ·rw [m_hindcastref26_Engine_Shown_L8.eq_1] at h; cases h
 rw [m_hindcastref26_Engine_Shown_L8.eq_2] at h
 refine wc_seq (wSR (wM 2 rfl ?_))
 obtain ⟨v17, x17, h⟩ := bsome h
 refine wl_cq Tryz.call43 rfl rfl rfl (q_rd (k_hindcastref26_Engine_T (p0 := p0) (p0_4 := p0_4) (p0t := p0t) (p0_4b := p0_4b) (p0_4t := p0_4t) p0N0 p0V0 p0N1 p0V1 p0_4N0 p0_4V0 x17) pP (fun _ _ => trivial)) rfl ?_
 refine wM 1 rfl (wNT (wcc h rfl ?_ ?_)) <;> clear h <;> intro h
 ·refine wc_skip (wx_then (wc_seq (wc_block (wc_k2 (Ls := (⟨p0b, (.int .u8 p0.Player :: .int .i64 p0.Window :: st19 p0.Sure p0a0 p0n0 p0c0 [.slice p0a1 p0n1 p0c1, .pointer (some ⟨p0_4b, 0, none⟩)]), p0t, (0, 0)⟩ :: (⟨p0_4b, [.int .u64 p0_4.Begin, .int .u64 p0_4.First, .slice p0_4a0 p0_4n0 p0_4c0], p0_4t, (0, 0)⟩ :: (⟨b2, [.int .u64 0, .int .u64 0, .int .i32 0, .int .i32 0, .int .i32 0, .int .i32 0, .int .u8 0, .int .u8 0, .int .u8 0, .int .i32 0, .int .i32 0, .int .i32 0, .int .i32 0, .int .u8 0, .int .u8 0, .int .u8 0, .slice none 0 0, .int .u16 0, .int .u16 0], 64, (0, 0)⟩ :: (⟨b3, (.int .u64 zg :: .int .u64 zh :: pl14 zb [.slice ze zd zf, .int .u16 zc.1, .int .u16 zc.2]), 64, (0, 0)⟩ :: (p0B0 ++ (p0B1 ++ (p0_4B0 ++ (zi ++ []))))))))) [3, 4, 5] [4, 5] [0, 0, 0, 6, 15, 31] [0, 1, 2, 3, 4, 5] (by kernel_rfl) (by kernel_rfl) (by kernel_rfl) ?_))))
  refine k_val (v := .agg #[.int .u64 zg, .int .u64 zh, .int .i32 zb.1.X, .int .i32 zb.1.Y, .int .i32 zb.1.VX, .int .i32 zb.1.VY, .int .u8 zb.1.Health, .int .u8 zb.1.Cool, .int .u8 zb.1.Face, .int .i32 zb.2.X, .int .i32 zb.2.Y, .int .i32 zb.2.VX, .int .i32 zb.2.VY, .int .u8 zb.2.Health, .int .u8 zb.2.Cool, .int .u8 zb.2.Face, .slice ze zd zf, .int .u16 zc.1, .int .u16 zc.2]) rfl rfl rfl pI (val_load tt_ok rfl (mTT (mT mH)) rfl) rfl ?_
  refine kM pI 2 rfl ?_
  obtain ⟨v24, x24, h⟩ := bsome h
  refine k_cq rfl rfl rfl Tryz.call77 rfl rfl rfl (q_rd (k_hindcastref26_Engine_pair (p0 := p0) (p0_4 := p0_4) (p0t := p0t) (p0_4b := p0_4b) (p0_4t := p0_4t) p0N0 p0V0 p0N1 p0V1 p0_4N0 p0_4V0 x24) pP (fun _ _ => trivial)) rfl pI ?_
  obtain ⟨v25, x25, h⟩ := bsome h
  refine k_cs rfl rfl rfl Tryz.call72 rfl rfl rfl (s_sp (k_hindcastref09_Step (p0 := (T_api_State.mk zg zh zb za zc)) zk (vec_cap zj) x25) pNil (Rds.call (Rds.of_vec zj) pNil ⟨_, (sCC (sCC (sAA (sA hA'))))⟩)) rfl (.inl rfl) ?_
  rintro _ _ ⟨_, ⟨v25a0, v25n0, v25c0, v25B0, v25N0, v25V0, rfl, rfl⟩, rfl⟩
  refine k_chg0 rfl rfl rfl (chg_store tt_ok rfl (Upd.right (Upd.there (Upd.there (Upd.there Upd.here)))) rfl rfl rfl rfl rfl rfl) (.inl rfl) ?_
  rintro _ _ rfl
  refine k_end (by kernel_rfl) ?_
  refine wx_block (wx_then (wc_region (wM 3 rfl (wl_nil ?_))))
  exact wx_round m9 (Nat.lt_succ_self m9) ⟨(IntKind.wrap .u64 (zl + (1 : Int))), v25.Frame, v25.Seed, v25.Players, v25.Shots, v25.Score, v25a0, v25n0, v25c0, v25B0, h, v25N0, v25V0, rfl, rfl⟩ (ag4 rfl rfl rfl rfl) pI
 refine wc_exit (wx_then_exit ?_)
 obtain ⟨rfl, rfl, rfl, rfl, rfl⟩ := pJ5 h
 have h := hl9; clear hl9; try dsimp only [orE_l, orE_r] at h
 refine wx_then_exit (wx_block_exit (wx_then (wSR ?_)))
 refine wLd (v := .agg #[.int .u64 zg, .int .u64 zh, .int .i32 zb.1.X, .int .i32 zb.1.Y, .int .i32 zb.1.VX, .int .i32 zb.1.VY, .int .u8 zb.1.Health, .int .u8 zb.1.Cool, .int .u8 zb.1.Face, .int .i32 zb.2.X, .int .i32 zb.2.Y, .int .i32 zb.2.VX, .int .i32 zb.2.VY, .int .u8 zb.2.Health, .int .u8 zb.2.Cool, .int .u8 zb.2.Face, .slice ze zd zf, .int .u16 zc.1, .int .u16 zc.2]) rfl (mTT (mT mH)) rfl rfl (lSt (Upd.there (Upd.there Upd.here)) ?_)
 refine wNT (wc_ret ?_)
 obtain rfl := sI h
 exact wE Tryz.results50 (Res.cell rfl (mTT mH) rfl Res.nil) ⟨ze, zd, zf, zi, zk, zj, rfl, rfl⟩ pI

theorem k_hindcastref08_Same {p0 : T_api_State} {p1 : T_api_State} {r0 : Bool} (p0N0 : p0n0 = p0.Shots.length) (p0H0 : p0n0 ≤ p0c0) (p1N0 : p1n0 = p1.Shots.length) (p1H0 : p1n0 ≤ p1c0) (h : m_hindcastref08_Same F p0 p1 = some r0) :
    Pf Tryz.prog 48 [agS p0 p0a0 p0n0 p0c0, agS p1 p1a0 p1n0 p1c0] (fun w => Rds w [] [] p0a0 (flat c_T_api_Shot p0.Shots) ∧ Rds w [] [] p1a0 (flat c_T_api_Shot p1.Shots)) (.bool r0) := by
 unfold m_hindcastref08_Same at h
 refine pf_of_wc Tryz.func48 rfl Tryz.ntmps48 rfl rfl (fun w0 hR => ?_)
 obtain ⟨p0S0, p1S0⟩ := hR
 refine wSR (wl_box rfl rfl rfl (fun b2 => (wl_box rfl rfl rfl (fun b3 => (wM 1 rfl (wNT (wc_seq (wSR (wM 1 rfl (wLd rfl (mT mH) rfl rfl (wM 1 rfl (wLd rfl mH rfl rfl (wM 2 rfl ?_)))))))))))))
 obtain ⟨v17, h, hg17⟩ := bsome h
 refine wls 11 h rfl ?_ ?_ <;> clear h <;> intro h
 ·refine wM 5 rfl ?_
  obtain rfl := sI h
  have h := hg17; clear hg17
  refine wM 2 rfl ?_
  obtain ⟨v26, h, hg26⟩ := bsome h
  replace h := ct rfl h
  refine wM 7 rfl ?_
  obtain rfl := sI h
  have h := hg26; clear hg26
  refine wM 2 rfl ?_
  obtain ⟨v35, h, hg35⟩ := bsome h
  replace h := ct rfl h
  refine wM 7 rfl ?_
  obtain rfl := sI h
  have h := hg35; clear hg35
  refine wM 2 rfl ?_
  obtain ⟨v42, h, hg42⟩ := bsome h
  replace h := ct rfl h
  refine wM 5 rfl ?_
  obtain rfl := sI h
  have h := hg42; clear hg42
  refine wM 2 rfl ?_
  obtain ⟨v51, h, hg51⟩ := bsome h
  replace h := ct rfl h
  refine wM 7 rfl ?_
  obtain rfl := sI h
  have h := hg51; clear hg51
  refine wM 1 rfl (wNT ?_)
  replace h := ct rfl h
  refine wc_cond_true rfl ?_
  refine wSR (wM 1 rfl (wNT (wc_ret (wx_then_ret ?_))))
  obtain rfl := sI h
  exact pE Tryz.results48 rfl
 refine wM 1 rfl (wl_run rfl (wLd rfl (mT mH) rfl rfl (wM 1 rfl (wl_run rfl (wLd rfl mH rfl rfl (wM 1 rfl ?_))))))
 obtain rfl := sI h
 have h := hg17; clear hg17
 refine wM 2 rfl ?_
 obtain ⟨v26, h, hg26⟩ := bsome h
 refine wls 18 h rfl ?_ ?_ <;> clear h <;> intro h
 ·refine wM 7 rfl ?_
  obtain rfl := sI h
  have h := hg26; clear hg26
  refine wM 2 rfl ?_
  obtain ⟨v35, h, hg35⟩ := bsome h
  replace h := ct rfl h
  refine wM 7 rfl ?_
  obtain rfl := sI h
  have h := hg35; clear hg35
  refine wM 2 rfl ?_
  obtain ⟨v42, h, hg42⟩ := bsome h
  replace h := ct rfl h
  refine wM 5 rfl ?_
  obtain rfl := sI h
  have h := hg42; clear hg42
  refine wM 2 rfl ?_
  obtain ⟨v51, h, hg51⟩ := bsome h
  replace h := ct rfl h
  refine wM 7 rfl ?_
  obtain rfl := sI h
  have h := hg51; clear hg51
  refine wM 1 rfl (wNT ?_)
  replace h := ct rfl h
  refine wc_cond_true rfl ?_
  refine wSR (wM 1 rfl (wNT (wc_ret (wx_then_ret ?_))))
  obtain rfl := sI h
  exact pE Tryz.results48 rfl
 refine wM 1 rfl (wl_run rfl (wl_val (v := .pointer (some ⟨b2, 2, none⟩)) (val_ia (j := 0) tt_ok rfl rfl rfl rfl rfl rfl rfl) rfl (wl_run rfl (wLd (v := agP p0.Players.1) rfl (mT mH) rfl rfl (wM 1 rfl (wl_run rfl (wl_val (v := .pointer (some ⟨b3, 2, none⟩)) (val_ia (j := 0) tt_ok rfl rfl rfl rfl rfl rfl rfl) rfl (wl_run rfl (wLd (v := agP p1.Players.1) rfl mH rfl rfl ?_)))))))))
 refine wl_run rfl (wl_val (v := .bool (!((p0.Players.1.X == p1.Players.1.X) && ((p0.Players.1.Y == p1.Players.1.Y) && ((p0.Players.1.VX == p1.Players.1.VX) && ((p0.Players.1.VY == p1.Players.1.VY) && ((p0.Players.1.Health == p1.Players.1.Health) && ((p0.Players.1.Cool == p1.Players.1.Cool) && (p0.Players.1.Face == p1.Players.1.Face))))))))) (val_nes tt_ok tt_eq tt_one Tryz.eqGuardType58 rfl rfl rfl rfl rfl) rfl ?_)
 obtain rfl := sI h
 have h := hg26; clear hg26
 refine wM 2 rfl ?_
 obtain ⟨v35, h, hg35⟩ := bsome h
 refine wls 27 h rfl ?_ ?_ <;> clear h <;> intro h
 ·refine wM 7 rfl ?_
  obtain rfl := sI h
  have h := hg35; clear hg35
  refine wM 2 rfl ?_
  obtain ⟨v42, h, hg42⟩ := bsome h
  replace h := ct rfl h
  refine wM 5 rfl ?_
  obtain rfl := sI h
  have h := hg42; clear hg42
  refine wM 2 rfl ?_
  obtain ⟨v51, h, hg51⟩ := bsome h
  replace h := ct rfl h
  refine wM 7 rfl ?_
  obtain rfl := sI h
  have h := hg51; clear hg51
  refine wM 1 rfl (wNT ?_)
  replace h := ct rfl h
  refine wc_cond_true rfl ?_
  refine wSR (wM 1 rfl (wNT (wc_ret (wx_then_ret ?_))))
  obtain rfl := sI h
  exact pE Tryz.results48 rfl
 refine wM 1 rfl (wl_run rfl (wl_val (v := .pointer (some ⟨b2, 9, none⟩)) (val_ia (j := 1) tt_ok rfl rfl rfl rfl rfl rfl rfl) rfl (wl_run rfl (wLd (v := agP p0.Players.2) rfl (mT mH) rfl rfl (wM 1 rfl (wl_run rfl (wl_val (v := .pointer (some ⟨b3, 9, none⟩)) (val_ia (j := 1) tt_ok rfl rfl rfl rfl rfl rfl rfl) rfl (wl_run rfl (wLd (v := agP p1.Players.2) rfl mH rfl rfl ?_)))))))))
 refine wl_run rfl (wl_val (v := .bool (!((p0.Players.2.X == p1.Players.2.X) && ((p0.Players.2.Y == p1.Players.2.Y) && ((p0.Players.2.VX == p1.Players.2.VX) && ((p0.Players.2.VY == p1.Players.2.VY) && ((p0.Players.2.Health == p1.Players.2.Health) && ((p0.Players.2.Cool == p1.Players.2.Cool) && (p0.Players.2.Face == p1.Players.2.Face))))))))) (val_nes tt_ok tt_eq tt_one Tryz.eqGuardType58 rfl rfl rfl rfl rfl) rfl ?_)
 obtain rfl := sI h
 have h := hg35; clear hg35
 refine wM 2 rfl ?_
 obtain ⟨v42, h, hg42⟩ := bsome h
 refine wls 36 h rfl ?_ ?_ <;> clear h <;> intro h
 ·refine wM 5 rfl ?_
  obtain rfl := sI h
  have h := hg42; clear hg42
  refine wM 2 rfl ?_
  obtain ⟨v51, h, hg51⟩ := bsome h
  replace h := ct rfl h
  refine wM 7 rfl ?_
  obtain rfl := sI h
  have h := hg51; clear hg51
  refine wM 1 rfl (wNT ?_)
  replace h := ct rfl h
  refine wc_cond_true rfl ?_
  refine wSR (wM 1 rfl (wNT (wc_ret (wx_then_ret ?_))))
  obtain rfl := sI h
  exact pE Tryz.results48 rfl
 refine wM 1 rfl (wl_run rfl (wLd (v := .agg #[.int .u16 p0.Score.1, .int .u16 p0.Score.2]) rfl (mT mH) rfl rfl (wM 1 rfl (wl_run rfl (wLd (v := .agg #[.int .u16 p1.Score.1, .int .u16 p1.Score.2]) rfl mH rfl rfl (wl_run rfl (wl_val (v := .bool (!((p0.Score.1 == p1.Score.1) && (p0.Score.2 == p1.Score.2)))) (val_nes tt_ok tt_eq tt_one Tryz.eqGuardType62 rfl rfl rfl rfl rfl) rfl ?_)))))))
 obtain rfl := sI h
 have h := hg42; clear hg42
 refine wM 2 rfl ?_
 obtain ⟨v51, h, hg51⟩ := bsome h
 refine wls 43 h rfl ?_ ?_ <;> clear h <;> intro h
 ·refine wM 7 rfl ?_
  obtain rfl := sI h
  have h := hg51; clear hg51
  refine wM 1 rfl (wNT ?_)
  replace h := ct rfl h
  refine wc_cond_true rfl ?_
  refine wSR (wM 1 rfl (wNT (wc_ret (wx_then_ret ?_))))
  obtain rfl := sI h
  exact pE Tryz.results48 rfl
 refine wM 1 rfl (wl_run rfl (wLd rfl (mT mH) rfl rfl (wl_run rfl (wl_val (v := .int .i64 (p0.Shots.length : Int)) (val_len tt_ok rfl rfl p0N0) rfl (wM 1 rfl (wl_run rfl (wLd rfl mH rfl rfl (wl_run rfl (wl_val (v := .int .i64 (p1.Shots.length : Int)) (val_len tt_ok rfl rfl p1N0) rfl (wM 1 rfl ?_))))))))))
 obtain rfl := sI h
 have h := hg51; clear hg51
 refine wM 1 rfl (wNT (wcc h rfl ?_ ?_)) <;> clear h <;> intro h
 ·refine wSR (wM 1 rfl (wNT (wc_ret (wx_then_ret ?_))))
  obtain rfl := sI h
  exact pE Tryz.results48 rfl
 refine wc_skip (wx_then (wc_seq (wSR (wM 1 rfl (wNT (wc_block ?_))))))
 obtain ⟨o15, h, hl15⟩ := bsome h
 refine wc_loop (fun m E L => ∃ za, m_hindcastref08_Same_L14 F p0 p1 m za = some o15 ∧ E = [(2, .pointer (some ⟨b2, 0, none⟩)), (3, .pointer (some ⟨b3, 0, none⟩)), (4, .bool false), (5, .int .i64 za)] ∧ L = (⟨b2, (st19 p0 p0a0 p0n0 p0c0 []), 64, (0, 0)⟩ :: (⟨b3, (st19 p1 p1a0 p1n0 p1c0 []), 64, (0, 0)⟩ :: []))) F ⟨(0 : Int), h, rfl, rfl⟩ (ag4 rfl rfl rfl rfl) pI ?_
 clear h
 rintro m15 _ _ ⟨za, h, rfl, rfl⟩
 rcases m15 with _ | m15
 ·rw [m_hindcastref08_Same_L14.eq_1] at h; cases h
 rw [m_hindcastref08_Same_L14.eq_2] at h
 refine wc_seq (wSR (wM 2 rfl (wLd rfl mH rfl rfl (wl_val (v := .int .i64 (p0.Shots.length : Int)) (val_len tt_ok rfl rfl p0N0) rfl (wM 1 rfl (wNT (wcc h rfl ?_ ?_))))))) <;> clear h <;> intro h
 ·refine wc_skip (wx_then (wc_seq (wc_block (wc_seq (wc_quiet (by kernel_rfl) (by kernel_rfl) (qM 1 rfl (qLd rfl mH rfl rfl (qM 1 rfl ?_))))))))
  obtain ⟨v62, x62, h⟩ := bsome h
  refine wq_val (v := .pointer (some ((adOf p0a0).add (za.toNat * 6 + 0)))) (val_ix (enc := c_T_api_Shot) tt_ok rfl rfl rfl rfl p0N0 p0S0 c_T_api_Shot_len rfl x62) rfl ?_
  refine wq_val (v := .agg #[.int .i32 v62.X, .int .i32 v62.Y, .int .i32 v62.VX, .int .i32 v62.VY, .int .u8 v62.Owner, .int .u8 v62.Life]) (val_le (enc := c_T_api_Shot) (xs := p0.Shots) tt_ok rfl p0S0 rsub_nil c_T_api_Shot_len x62 rfl) rfl ?_
  refine qM 1 rfl (qLd rfl (mT mH) rfl rfl (qM 1 rfl ?_))
  obtain ⟨v67, x67, h⟩ := bsome h
  refine wq_val (v := .pointer (some ((adOf p1a0).add (za.toNat * 6 + 0)))) (val_ix (enc := c_T_api_Shot) tt_ok rfl rfl rfl rfl p1N0 p1S0 c_T_api_Shot_len rfl x67) rfl ?_
  refine wq_val (v := .agg #[.int .i32 v67.X, .int .i32 v67.Y, .int .i32 v67.VX, .int .i32 v67.VY, .int .u8 v67.Owner, .int .u8 v67.Life]) (val_le (enc := c_T_api_Shot) (xs := p1.Shots) tt_ok rfl p1S0 rsub_nil c_T_api_Shot_len x67 rfl) rfl ?_
  refine wq_val (v := .bool (!((v62.X == v67.X) && ((v62.Y == v67.Y) && ((v62.VX == v67.VX) && ((v62.VY == v67.VY) && ((v62.Owner == v67.Owner) && (v62.Life == v67.Life)))))))) (val_nes tt_ok tt_eq tt_one Tryz.eqGuardType119 rfl rfl rfl rfl rfl) rfl ?_
  refine wq_nil (wx_then (wcc h rfl ?_ ?_)) <;> clear h <;> intro h
  ·refine wSR (wM 1 rfl (wNT (wc_ret (wx_block_ret (wx_then_ret ?_)))))
   obtain rfl := Option.some.inj h
   have h := hl15; clear hl15; try dsimp only [orE_l, orE_r] at h
   refine wx_then_ret (wx_block_ret (wx_then_ret ?_))
   obtain rfl := sI h
   exact pE Tryz.results48 rfl
  refine wc_skip (wx_block (wx_then (wc_region (wM 3 rfl (wl_nil ?_)))))
  exact wx_round m15 (Nat.lt_succ_self m15) ⟨(IntKind.wrap .i64 (za + (1 : Int))), h, rfl, rfl⟩ (ag4 rfl rfl rfl rfl) pI
 refine wc_exit (wx_then_exit ?_)
 obtain rfl := Option.some.inj h
 have h := hl15; clear hl15; try dsimp only [orE_l, orE_r] at h
 refine wx_then_exit (wx_block_exit (wx_then (wSR ?_)))
 refine wM 1 rfl (wNT (wc_ret ?_))
 obtain rfl := sI h
 exact pE Tryz.results48 rfl

theorem k_hindcastlaw28_alike {p0 : T_rollback_Engine} {p0_4 : T_queue_Queue} {p0_5 : T_ring_Ring} {p0_5g0 : List (T_ring_place × G)} {p1 : T_hindcastref26_Engine} {p1_4 : T_hindcastref24_Queue} {r0 : T_ring_Ring} {r1 : Bool} (p0N0 : p0n0 = p0.sure.Shots.length) (p0V0 : Own 119 6 p0a0 p0n0 p0c0 (flat c_T_api_Shot p0.sure.Shots) p0B0) (p0N1 : p0n1 = p0.own.length) (p0V1 : Own 52 1 p0a1 p0n1 p0c1 (flat (e1 .u8) p0.own) p0B1) (p0_4N0 : p0_4n0 = p0_4.l.length) (p0_4V0 : Own 52 1 p0_4a0 p0_4n0 p0_4c0 (flat (e1 .u8) p0_4.l) p0_4B0) (p0_5G0 : p0_5.places.1 = unG p0_5g0) (p0_5A0 : AllP sh_T_ring_place c_T_api_Shot p0_5P0 p0_5g0) (p1N0 : p1n0 = p1.Sure.Shots.length) (p1V0 : Own 119 6 p1a0 p1n0 p1c0 (flat c_T_api_Shot p1.Sure.Shots) p1B0) (p1N1 : p1n1 = p1.Own.length) (p1V1 : Own 52 1 p1a1 p1n1 p1c1 (flat (e1 .u8) p1.Own) p1B1) (p1_4N0 : p1_4n0 = p1_4.L.length) (p1_4V0 : Own 52 1 p1_4a0 p1_4n0 p1_4c0 (flat (e1 .u8) p1_4.L) p1_4B0) (h : m_hindcastlaw28_alike F p0 p0_4 p0_5 p1 p1_4 = some (r0, r1)) :
    SpD Tryz.prog 11 [.pointer (some ⟨p0b, 0, none⟩), .pointer (some ⟨p1b, 0, none⟩)] (⟨p0b, (.int .u8 p0.player :: .int .i64 p0.window :: st19 p0.sure p0a0 p0n0 p0c0 [.slice p0a1 p0n1 p0c1, .pointer (some ⟨p0_4b, 0, none⟩), .pointer (some ⟨p0_5b, 0, none⟩)]), p0t, (0, 0)⟩ :: (p0B0 ++ (p0B1 ++ (⟨p0_4b, [.int .u64 p0_4.first_, .slice p0_4a0 p0_4n0 p0_4c0, .int .u8 p0_4.last], p0_4t, (0, 0)⟩ :: (p0_4B0 ++ (⟨p0_5b, ([.int .i64 p0_5.size] ++ flat cg_T_ring_place p0_5g0), p0_5t, (0, 0)⟩ :: (p0_5P0 ++ (⟨p1b, (.int .u8 p1.Player :: .int .i64 p1.Window :: st19 p1.Sure p1a0 p1n0 p1c0 [.slice p1a1 p1n1 p1c1, .pointer (some ⟨p1_4b, 0, none⟩)]), p1t, (0, 0)⟩ :: (p1B0 ++ (p1B1 ++ (⟨p1_4b, [.int .u64 p1_4.Begin, .int .u64 p1_4.First, .slice p1_4a0 p1_4n0 p1_4c0], p1_4t, (0, 0)⟩ :: (p1_4B0 ++ [])))))))))))) (fun w => Rds w (ids (⟨p0b, (.int .u8 p0.player :: .int .i64 p0.window :: st19 p0.sure p0a0 p0n0 p0c0 [.slice p0a1 p0n1 p0c1, .pointer (some ⟨p0_4b, 0, none⟩), .pointer (some ⟨p0_5b, 0, none⟩)]), p0t, (0, 0)⟩ :: (p0B0 ++ (p0B1 ++ (⟨p0_4b, [.int .u64 p0_4.first_, .slice p0_4a0 p0_4n0 p0_4c0, .int .u8 p0_4.last], p0_4t, (0, 0)⟩ :: (p0_4B0 ++ (⟨p0_5b, ([.int .i64 p0_5.size] ++ flat cg_T_ring_place p0_5g0), p0_5t, (0, 0)⟩ :: (p0_5P0 ++ (⟨p1b, (.int .u8 p1.Player :: .int .i64 p1.Window :: st19 p1.Sure p1a0 p1n0 p1c0 [.slice p1a1 p1n1 p1c1, .pointer (some ⟨p1_4b, 0, none⟩)]), p1t, (0, 0)⟩ :: (p1B0 ++ (p1B1 ++ (⟨p1_4b, [.int .u64 p1_4.Begin, .int .u64 p1_4.First, .slice p1_4a0 p1_4n0 p1_4c0], p1_4t, (0, 0)⟩ :: (p1_4B0 ++ []))))))))))))) [] (some ⟨0, 0, none⟩) (flat (fun _ : Unit => gl_state_playerBounds) [()]) ∧ Rds w (ids (⟨p0b, (.int .u8 p0.player :: .int .i64 p0.window :: st19 p0.sure p0a0 p0n0 p0c0 [.slice p0a1 p0n1 p0c1, .pointer (some ⟨p0_4b, 0, none⟩), .pointer (some ⟨p0_5b, 0, none⟩)]), p0t, (0, 0)⟩ :: (p0B0 ++ (p0B1 ++ (⟨p0_4b, [.int .u64 p0_4.first_, .slice p0_4a0 p0_4n0 p0_4c0, .int .u8 p0_4.last], p0_4t, (0, 0)⟩ :: (p0_4B0 ++ (⟨p0_5b, ([.int .i64 p0_5.size] ++ flat cg_T_ring_place p0_5g0), p0_5t, (0, 0)⟩ :: (p0_5P0 ++ (⟨p1b, (.int .u8 p1.Player :: .int .i64 p1.Window :: st19 p1.Sure p1a0 p1n0 p1c0 [.slice p1a1 p1n1 p1c1, .pointer (some ⟨p1_4b, 0, none⟩)]), p1t, (0, 0)⟩ :: (p1B0 ++ (p1B1 ++ (⟨p1_4b, [.int .u64 p1_4.Begin, .int .u64 p1_4.First, .slice p1_4a0 p1_4n0 p1_4c0], p1_4t, (0, 0)⟩ :: (p1_4B0 ++ []))))))))))))) [] (some ⟨1, 0, none⟩) (flat (fun _ : Unit => gl_state_shotBounds) [()])) (fun v D => ∃ r0g0 r0P0, r0.places.1 = unG r0g0 ∧ AllP sh_T_ring_place c_T_api_Shot r0P0 r0g0 ∧ v = .bool r1 ∧ D = fun F => (⟨p0b, (.int .u8 p0.player :: .int .i64 p0.window :: st19 p0.sure p0a0 p0n0 p0c0 [.slice p0a1 p0n1 p0c1, .pointer (some ⟨p0_4b, 0, none⟩), .pointer (some ⟨p0_5b, 0, none⟩)]), p0t, (0, 0)⟩ :: (p0B0 ++ (p0B1 ++ (⟨p0_4b, [.int .u64 p0_4.first_, .slice p0_4a0 p0_4n0 p0_4c0, .int .u8 p0_4.last], p0_4t, (0, 0)⟩ :: (p0_4B0 ++ (⟨p0_5b, ([.int .i64 r0.size] ++ flat cg_T_ring_place r0g0), p0_5t, (0, 0)⟩ :: (r0P0 ++ (⟨p1b, (.int .u8 p1.Player :: .int .i64 p1.Window :: st19 p1.Sure p1a0 p1n0 p1c0 [.slice p1a1 p1n1 p1c1, .pointer (some ⟨p1_4b, 0, none⟩)]), p1t, (0, 0)⟩ :: (p1B0 ++ (p1B1 ++ (⟨p1_4b, [.int .u64 p1_4.Begin, .int .u64 p1_4.First, .slice p1_4a0 p1_4n0 p1_4c0], p1_4t, (0, 0)⟩ :: (p1_4B0 ++ F))))))))))))) := by
 unfold m_hindcastlaw28_alike at h
 refine sp_of_wc Tryz.func11 rfl Tryz.ntmps11 rfl rfl (fun w0 hR => ?_)
 obtain ⟨G0S, G1S⟩ := hR
 refine wSR (wM 1 rfl (wNT (wSR (wM 1 rfl ?_))))
 replace h := bsome h; obtain ⟨⟨zd, zj⟩, x11, h⟩ := h; try dsimp only at h
 refine wl_cq Tryz.call44 rfl rfl rfl (q_rd (k_rollback_Engine_Next (p0 := p0) (p0_4 := p0_4) (p0_5 := p0_5) (p0t := p0t) (p0_4b := p0_4b) (p0_4t := p0_4t) (p0_5b := p0_5b) (p0_5t := p0_5t) p0N0 p0V0 p0N1 p0V1 p0_4N0 p0_4V0 p0_5G0 p0_5A0 x11) pP (fun _ _ => trivial)) rfl ?_
 refine wM 3 rfl (wl_alloc tt_ok rfl rfl (fun b5 => (lSt Upd.here ?_)))
 refine wM 1 rfl (wNT (wSR (wM 1 rfl ?_)))
 replace h := bsome h; obtain ⟨⟨ze, zk⟩, x16, h⟩ := h; try dsimp only at h
 refine wl_cq Tryz.call45 rfl rfl rfl (q_rd (k_hindcastref26_Engine_Next (p0 := p1) (p0_4 := p1_4) (p0t := p1t) (p0_4b := p1_4b) (p0_4t := p1_4t) p1N0 p1V0 p1N1 p1V1 p1_4N0 p1_4V0 x16) pP (fun _ _ => trivial)) rfl ?_
 refine wM 3 rfl (wl_alloc tt_ok rfl rfl (fun b7 => (lSt Upd.here ?_)))
 refine wM 1 rfl (wNT (wc_seq (wc_k2 (Ls := (⟨b7, [.int .u8 ze.1, .int .u8 ze.2], 54, (0, 0)⟩ :: (⟨b5, [.int .u8 zd.1, .int .u8 zd.2], 54, (0, 0)⟩ :: (⟨p0b, (.int .u8 p0.player :: .int .i64 p0.window :: st19 p0.sure p0a0 p0n0 p0c0 [.slice p0a1 p0n1 p0c1, .pointer (some ⟨p0_4b, 0, none⟩), .pointer (some ⟨p0_5b, 0, none⟩)]), p0t, (0, 0)⟩ :: (p0B0 ++ (p0B1 ++ (⟨p0_4b, [.int .u64 p0_4.first_, .slice p0_4a0 p0_4n0 p0_4c0, .int .u8 p0_4.last], p0_4t, (0, 0)⟩ :: (p0_4B0 ++ (⟨p1b, (.int .u8 p1.Player :: .int .i64 p1.Window :: st19 p1.Sure p1a0 p1n0 p1c0 [.slice p1a1 p1n1 p1c1, .pointer (some ⟨p1_4b, 0, none⟩)]), p1t, (0, 0)⟩ :: (p1B0 ++ (p1B1 ++ (⟨p1_4b, [.int .u64 p1_4.Begin, .int .u64 p1_4.First, .slice p1_4a0 p1_4n0 p1_4c0], p1_4t, (0, 0)⟩ :: (p1_4B0 ++ []))))))))))))) [10, 20, 22, 27, 32, 37, 42, 46, 48, 49] [] [0, 0, 3, 7, 15, 15, 63, 127, 255, 511, 1023, 511, 2559, 6655, 14847, 31231, 65535, 131071, 262143, 524287, 1048575, 524287, 4194303, 8388607, 16777215, 33554431, 67108863, 134217727, 67108863, 335544319, 872415231, 1946157055, 4294967295, 8589934591, 17179869183, 34359738367, 68719476735, 137438953471, 68719476735, 343597383679, 893353197567, 1992864825343, 4398046511103, 8796093022207, 17592186044415, 35184372088831, 70368744177663, 35184372088831, 281474976710655, 562949953421311, 1125899906842623, 2251799813685247] [0, 1, 2, 3, 4, 5, 6, 7, 8, 9, 11, 12, 13, 14, 15, 10, 16, 17, 18, 19, 21, 20, 22, 23, 24, 25, 26, 28, 29, 30, 31, 27, 32, 33, 34, 35, 36, 38, 39, 40, 41, 37, 42, 43, 44, 45, 47, 46, 48, 49, 50, 51] (by kernel_rfl) (by kernel_rfl) (by kernel_rfl) ?_)))
 refine k_val (v := .agg #[.int .u8 zd.1, .int .u8 zd.2]) rfl rfl rfl pI (val_load tt_ok rfl (mT mH) rfl) rfl (k_val (v := .agg #[.int .u8 ze.1, .int .u8 ze.2]) rfl rfl rfl pI (val_load tt_ok rfl mH rfl) rfl ?_)
 refine k_val (v := .bool ((zd.1 == ze.1) && (zd.2 == ze.2))) rfl rfl rfl pI (val_eqs tt_ok tt_eq tt_one Tryz.eqGuardType54 rfl rfl rfl rfl rfl) rfl (kM pI 1 rfl ?_)
 obtain ⟨v26, h, hg26⟩ := bsome h
 refine ks 22 h rfl ?_ ?_ <;> clear h <;> intro h
 ·refine kM pI 3 rfl ?_
  obtain rfl := sI h
  have h := hg26; clear hg26
  refine kM pI 2 rfl ?_
  obtain ⟨v36, h, hg36⟩ := bsome h
  refine ks 27 h rfl ?_ ?_ <;> clear h <;> intro h
  ·refine kM pI 5 rfl (k_val (v := .int .u64 p1.Sure.Frame) rfl rfl rfl pI (val_load tt_ok rfl (mTT (mT (mR (mR (mT (mR mH)))))) rfl) rfl ?_)
   obtain ⟨v29, x29, h⟩ := bsome h
   refine k_cq rfl rfl rfl Tryz.call39 rfl rfl rfl (q_rd (k_rollback_Engine_C (p0 := p0) (p0_4 := p0_4) (p0_5 := p0_5) (p0t := p0t) (p0_4b := p0_4b) (p0_4t := p0_4t) (p0_5b := p0_5b) (p0_5t := p0_5t) p0N0 p0V0 p0N1 p0V1 p0_4N0 p0_4V0 p0_5G0 p0_5A0 x29) pP (fun _ _ => trivial)) rfl pI ?_
   refine kM pI 1 rfl ?_
   obtain rfl := sI h
   have h := hg36; clear hg36
   refine kM pI 2 rfl ?_
   obtain ⟨v43, h, hg43⟩ := bsome h
   refine ks 37 h rfl ?_ ?_ <;> clear h <;> intro h
   ·refine kM pI 2 rfl ?_
    obtain ⟨v39, x39, h⟩ := bsome h
    refine k_cq rfl rfl rfl Tryz.call40 rfl rfl rfl (q_rd (k_rollback_Engine_T (p0 := p0) (p0_4 := p0_4) (p0_5 := p0_5) (p0t := p0t) (p0_4b := p0_4b) (p0_4t := p0_4t) (p0_5b := p0_5b) (p0_5t := p0_5t) p0N0 p0V0 p0N1 p0V1 p0_4N0 p0_4V0 p0_5G0 p0_5A0 x39) pP (fun _ _ => trivial)) rfl pI ?_
    obtain ⟨v41, x41, h⟩ := bsome h
    refine k_cq rfl rfl rfl Tryz.call43 rfl rfl rfl (q_rd (k_hindcastref26_Engine_T (p0 := p1) (p0_4 := p1_4) (p0t := p1t) (p0_4b := p1_4b) (p0_4t := p1_4t) p1N0 p1V0 p1N1 p1V1 p1_4N0 p1_4V0 x41) pP (fun _ _ => trivial)) rfl pI ?_
    refine kM pI 1 rfl ?_
    obtain rfl := sI h
    have h := hg43; clear hg43
    refine kM pI 2 rfl ?_
    obtain ⟨v53, h, hg53⟩ := bsome h
    refine ks 44 h rfl ?_ ?_ <;> clear h <;> intro h
    ·refine kM pI 4 rfl (k_val (v := .pointer (some ⟨p1_4b, 0, none⟩)) rfl rfl rfl pI (val_load tt_ok rfl (mTT (mT (mR (mR (mT (mR mH)))))) rfl) rfl ?_)
     obtain ⟨v46, x46, h⟩ := bsome h
     refine k_cq rfl rfl rfl Tryz.call16 rfl rfl rfl (q_rd (k_rollback_Engine_Known (p0 := p0) (p0_4 := p0_4) (p0_5 := p0_5) (p0t := p0t) (p0_4b := p0_4b) (p0_4t := p0_4t) (p0_5b := p0_5b) (p0_5t := p0_5t) p0N0 p0V0 p0N1 p0V1 p0_4N0 p0_4V0 p0_5G0 p0_5A0 x46) pP (fun _ _ => trivial)) rfl pI ?_
     obtain ⟨v51, x51, h⟩ := bsome h
     refine k_cq rfl rfl rfl Tryz.call46 rfl rfl rfl (q_rd (k_hindcastref24_Queue_Known (p0 := p1_4) (p0t := p1_4t) p1_4N0 p1_4V0 x51) pP (fun _ _ => trivial)) rfl pI ?_
     refine kM pI 1 rfl ?_
     obtain rfl := sI h
     have h := hg53; clear hg53
     refine kM pI 2 rfl ?_
     obtain ⟨v62, h, hg62⟩ := bsome h
     refine ks 54 h rfl ?_ ?_ <;> clear h <;> intro h
     ·refine kM pI 4 rfl (k_val (v := .slice p1a1 p1n1 p1c1) rfl rfl rfl pI (val_load tt_ok rfl (mTT (mT (mR (mR (mT (mR mH)))))) rfl) rfl ?_)
      obtain ⟨v56, x56, h⟩ := bsome h
      refine k_cs rfl rfl rfl Tryz.call41 rfl rfl rfl (s_sp (k_rollback_Engine_Own (p0 := p0) (p0_4 := p0_4) (p0_5 := p0_5) (p0t := p0t) (p0_4b := p0_4b) (p0_4t := p0_4t) (p0_5b := p0_5b) (p0_5t := p0_5t) p0N0 p0V0 p0N1 p0V1 p0_4N0 p0_4V0 p0_5G0 p0_5A0 x56) pP (fun _ _ => trivial)) rfl (.inr (by rintro _ _ ⟨_, ⟨_, _, _, _, _, _, rfl, rfl⟩, rfl⟩; exact ⟨_, pP⟩)) ?_
      rintro _ _ ⟨_, ⟨v56a0, v56n0, v56c0, v56B0, v56N0, v56V0, rfl, rfl⟩, rfl⟩
      obtain ⟨v61, x61, h⟩ := bsome h
      refine k_cq rfl rfl rfl Tryz.call47 rfl rfl rfl (q_pf (k_hindcastref06_Same (p0 := v56) (p1 := p1.Own) v56N0 (vec_cap v56V0) p1N1 (vec_cap p1V1) x61) (fun w hI => ⟨(Rds.call (Rds.of_vec v56V0) pNil ⟨_, (sC (sAA (sCA (sCA hA'))))⟩) w hI, (Rds.call (Rds.of_vec p1V1) pNil ⟨_, (sC (sAA (sCA (sC (sAA (sCC (sCA hA')))))))⟩) w hI⟩)) rfl pI ?_
      obtain rfl := sI h
      have h := hg62; clear hg62
      refine kM pI 2 rfl ?_
      replace h := bsome h; obtain ⟨⟨v69, za, zb⟩, h, hg69⟩ := h
      refine ks 63 h rfl ?_ ?_ <;> clear h <;> intro h
      ·refine kM pI 2 rfl ?_
       replace h := bsome h; obtain ⟨⟨zc, v65⟩, x65, h⟩ := h; try dsimp only at h
       refine k_cs rfl rfl rfl Tryz.call49 rfl rfl rfl (s_sp (k_rollback_Engine_Shown (p0 := p0) (p0_4 := p0_4) (p0_5 := p0_5) (p0t := p0t) (p0_4b := p0_4b) (p0_4t := p0_4t) (p0_5b := p0_5b) (p0_5t := p0_5t) p0N0 p0V0 p0N1 p0V1 p0_4N0 p0_4V0 p0_5G0 p0_5A0 x65) pP (fun w hI => ⟨(Rds.call G0S pP rsub_nil) w hI, (Rds.call G1S pP rsub_nil) w hI⟩)) rfl (.inr (by rintro _ _ ⟨_, ⟨_, _, _, _, _, _, _, _, _, _, rfl, rfl⟩, rfl⟩; exact ⟨_, pP⟩)) ?_
       rintro _ _ ⟨_, ⟨zi, zh, v65a0, v65n0, v65c0, v65B0, zg, zf, v65N0, v65V0, rfl, rfl⟩, rfl⟩
       obtain ⟨v67, x67, h⟩ := bsome h
       refine k_cs rfl rfl rfl Tryz.call50 rfl rfl rfl (s_sp (k_hindcastref26_Engine_Shown (p0 := p1) (p0_4 := p1_4) (p0t := p1t) (p0_4b := p1_4b) (p0_4t := p1_4t) p1N0 p1V0 p1N1 p1V1 p1_4N0 p1_4V0 x67) pP (fun _ _ => trivial)) rfl (.inr (by rintro _ _ ⟨_, ⟨_, _, _, _, _, _, rfl, rfl⟩, rfl⟩; exact ⟨_, pP⟩)) ?_
       rintro _ _ ⟨_, ⟨v67a0, v67n0, v67c0, v67B0, v67N0, v67V0, rfl, rfl⟩, rfl⟩
       obtain ⟨v68, x68, h⟩ := bsome h
       refine k_cq rfl rfl rfl Tryz.call48 rfl rfl rfl (q_pf (k_hindcastref08_Same (p0 := v65) (p1 := v67) v65N0 (vec_cap v65V0) v67N0 (vec_cap v67V0) x68) (fun w hI => ⟨(Rds.call (Rds.of_vec v65V0) pNil ⟨_, (sC (sAA (sC (sAA (sC (sAA (sCA (sCA hA'))))))))⟩) w hI, (Rds.call (Rds.of_vec v67V0) pNil ⟨_, (sC (sAA (sCA hA')))⟩) w hI⟩)) rfl pI ?_
       obtain ⟨rfl, rfl, rfl⟩ := pJ3 h
       have h := hg69; clear hg69; try dsimp only at h
       refine kM pI 2 rfl ?_
       refine k_end (by kernel_rfl) ?_
       refine wx_then (wc_ret ?_)
       obtain ⟨rfl, rfl⟩ := pJ2 h
       exact wE Tryz.results11 (rs1 rfl) ⟨zi, zh, zg, zf, rfl, rfl⟩ pI
      refine kM pI 5 rfl ?_
      obtain ⟨rfl, rfl, rfl⟩ := pJ3 h
      have h := hg69; clear hg69; try dsimp only at h
      refine kM pI 2 rfl (k_end (by kernel_rfl) (wx_then (wc_ret ?_)))
      obtain ⟨rfl, rfl⟩ := pJ2 h
      exact wE Tryz.results11 (rs1 rfl) ⟨p0_5g0, p0_5P0, p0_5G0, p0_5A0, rfl, rfl⟩ pI
     refine kM pI 7 rfl ?_
     obtain rfl := sI h
     have h := hg62; clear hg62
     refine kM pI 2 rfl ?_
     replace h := bsome h; obtain ⟨⟨v69, za, zb⟩, h, hg69⟩ := h
     replace h := cf rfl h
     refine kM pI 5 rfl ?_
     obtain ⟨rfl, rfl, rfl⟩ := pJ3 h
     have h := hg69; clear hg69; try dsimp only at h
     refine kM pI 2 rfl (k_end (by kernel_rfl) (wx_then (wc_ret ?_)))
     obtain ⟨rfl, rfl⟩ := pJ2 h
     exact wE Tryz.results11 (rs1 rfl) ⟨p0_5g0, p0_5P0, p0_5G0, p0_5A0, rfl, rfl⟩ pI
    refine kM pI 8 rfl ?_
    obtain rfl := sI h
    have h := hg53; clear hg53
    refine kM pI 2 rfl ?_
    obtain ⟨v62, h, hg62⟩ := bsome h
    replace h := cf rfl h
    refine kM pI 7 rfl ?_
    obtain rfl := sI h
    have h := hg62; clear hg62
    refine kM pI 2 rfl ?_
    replace h := bsome h; obtain ⟨⟨v69, za, zb⟩, h, hg69⟩ := h
    replace h := cf rfl h
    refine kM pI 5 rfl ?_
    obtain ⟨rfl, rfl, rfl⟩ := pJ3 h
    have h := hg69; clear hg69; try dsimp only at h
    refine kM pI 2 rfl (k_end (by kernel_rfl) (wx_then (wc_ret ?_)))
    obtain ⟨rfl, rfl⟩ := pJ2 h
    exact wE Tryz.results11 (rs1 rfl) ⟨p0_5g0, p0_5P0, p0_5G0, p0_5A0, rfl, rfl⟩ pI
   refine kM pI 5 rfl ?_
   obtain rfl := sI h
   have h := hg43; clear hg43
   refine kM pI 2 rfl ?_
   obtain ⟨v53, h, hg53⟩ := bsome h
   replace h := cf rfl h
   refine kM pI 8 rfl ?_
   obtain rfl := sI h
   have h := hg53; clear hg53
   refine kM pI 2 rfl ?_
   obtain ⟨v62, h, hg62⟩ := bsome h
   replace h := cf rfl h
   refine kM pI 7 rfl ?_
   obtain rfl := sI h
   have h := hg62; clear hg62
   refine kM pI 2 rfl ?_
   replace h := bsome h; obtain ⟨⟨v69, za, zb⟩, h, hg69⟩ := h
   replace h := cf rfl h
   refine kM pI 5 rfl ?_
   obtain ⟨rfl, rfl, rfl⟩ := pJ3 h
   have h := hg69; clear hg69; try dsimp only at h
   refine kM pI 2 rfl (k_end (by kernel_rfl) (wx_then (wc_ret ?_)))
   obtain ⟨rfl, rfl⟩ := pJ2 h
   exact wE Tryz.results11 (rs1 rfl) ⟨p0_5g0, p0_5P0, p0_5G0, p0_5A0, rfl, rfl⟩ pI
  refine kM pI 8 rfl ?_
  obtain rfl := sI h
  have h := hg36; clear hg36
  refine kM pI 2 rfl ?_
  obtain ⟨v43, h, hg43⟩ := bsome h
  replace h := cf rfl h
  refine kM pI 5 rfl ?_
  obtain rfl := sI h
  have h := hg43; clear hg43
  refine kM pI 2 rfl ?_
  obtain ⟨v53, h, hg53⟩ := bsome h
  replace h := cf rfl h
  refine kM pI 8 rfl ?_
  obtain rfl := sI h
  have h := hg53; clear hg53
  refine kM pI 2 rfl ?_
  obtain ⟨v62, h, hg62⟩ := bsome h
  replace h := cf rfl h
  refine kM pI 7 rfl ?_
  obtain rfl := sI h
  have h := hg62; clear hg62
  refine kM pI 2 rfl ?_
  replace h := bsome h; obtain ⟨⟨v69, za, zb⟩, h, hg69⟩ := h
  replace h := cf rfl h
  refine kM pI 5 rfl ?_
  obtain ⟨rfl, rfl, rfl⟩ := pJ3 h
  have h := hg69; clear hg69; try dsimp only at h
  refine kM pI 2 rfl (k_end (by kernel_rfl) (wx_then (wc_ret ?_)))
  obtain ⟨rfl, rfl⟩ := pJ2 h
  exact wE Tryz.results11 (rs1 rfl) ⟨p0_5g0, p0_5P0, p0_5G0, p0_5A0, rfl, rfl⟩ pI
 refine kM pI 3 rfl ?_
 obtain rfl := sI h
 have h := hg26; clear hg26
 refine kM pI 2 rfl ?_
 obtain ⟨v36, h, hg36⟩ := bsome h
 replace h := cf rfl h
 refine kM pI 8 rfl ?_
 obtain rfl := sI h
 have h := hg36; clear hg36
 refine kM pI 2 rfl ?_
 obtain ⟨v43, h, hg43⟩ := bsome h
 replace h := cf rfl h
 refine kM pI 5 rfl ?_
 obtain rfl := sI h
 have h := hg43; clear hg43
 refine kM pI 2 rfl ?_
 obtain ⟨v53, h, hg53⟩ := bsome h
 replace h := cf rfl h
 refine kM pI 8 rfl ?_
 obtain rfl := sI h
 have h := hg53; clear hg53
 refine kM pI 2 rfl ?_
 obtain ⟨v62, h, hg62⟩ := bsome h
 replace h := cf rfl h
 refine kM pI 7 rfl ?_
 obtain rfl := sI h
 have h := hg62; clear hg62
 refine kM pI 2 rfl ?_
 replace h := bsome h; obtain ⟨⟨v69, za, zb⟩, h, hg69⟩ := h
 replace h := cf rfl h
 refine kM pI 5 rfl ?_
 obtain ⟨rfl, rfl, rfl⟩ := pJ3 h
 have h := hg69; clear hg69; try dsimp only at h
 refine kM pI 2 rfl (k_end (by kernel_rfl) (wx_then (wc_ret ?_)))
 obtain ⟨rfl, rfl⟩ := pJ2 h
 exact wE Tryz.results11 (rs1 rfl) ⟨p0_5g0, p0_5P0, p0_5G0, p0_5A0, rfl, rfl⟩ pI

theorem k_backfill_Inputs_1 {p0 : Int} {p1 : Int} {p2 : Unit} {p2_o : T_rollback_Engine} {p2_o_4 : T_queue_Queue} {p2_o_5 : T_ring_Ring} {p2_o_5g0 : List (T_ring_place × G)} {p3 : Unit} {p3_o : T_fold_History} {p4 : Int} {r0 : T_queue_Queue} {r1 : T_ring_Ring} {r2 : Int} (p2_oN0 : p2_on0 = p2_o.sure.Shots.length) (p2_oV0 : Own 119 6 p2_oa0 p2_on0 p2_oc0 (flat c_T_api_Shot p2_o.sure.Shots) p2_oB0) (p2_oN1 : p2_on1 = p2_o.own.length) (p2_oV1 : Own 52 1 p2_oa1 p2_on1 p2_oc1 (flat (e1 .u8) p2_o.own) p2_oB1) (p2_o_4N0 : p2_o_4n0 = p2_o_4.l.length) (p2_o_4V0 : Own 52 1 p2_o_4a0 p2_o_4n0 p2_o_4c0 (flat (e1 .u8) p2_o_4.l) p2_o_4B0) (p2_o_5G0 : p2_o_5.places.1 = unG p2_o_5g0) (p2_o_5A0 : AllP sh_T_ring_place c_T_api_Shot p2_o_5P0 p2_o_5g0) (h : m_backfill_Inputs_1 F p0 p1 p2 p2_o p2_o_4 p2_o_5 p3 p3_o p4 = some (r0, r1, r2)) :
    SpD Tryz.prog 52 [.int .u64 p0, .int .u8 p1, .pointer (some ⟨p2b, 0, none⟩), .pointer (some ⟨p3b, 0, none⟩), .pointer (some ⟨p4b, 0, none⟩)] (⟨p2b, [.pointer (some ⟨p2_ob, 0, none⟩)], p2t, (0, 0)⟩ :: (⟨p2_ob, (.int .u8 p2_o.player :: .int .i64 p2_o.window :: st19 p2_o.sure p2_oa0 p2_on0 p2_oc0 [.slice p2_oa1 p2_on1 p2_oc1, .pointer (some ⟨p2_o_4b, 0, none⟩), .pointer (some ⟨p2_o_5b, 0, none⟩)]), p2_ot, (0, 0)⟩ :: (p2_oB0 ++ (p2_oB1 ++ (⟨p2_o_4b, [.int .u64 p2_o_4.first_, .slice p2_o_4a0 p2_o_4n0 p2_o_4c0, .int .u8 p2_o_4.last], p2_o_4t, (0, 0)⟩ :: (p2_o_4B0 ++ (⟨p2_o_5b, ([.int .i64 p2_o_5.size] ++ flat cg_T_ring_place p2_o_5g0), p2_o_5t, (0, 0)⟩ :: (p2_o_5P0 ++ (⟨p3b, [.pointer (some ⟨p3_ob, 0, none⟩)], p3t, (0, 0)⟩ :: (⟨p3_ob, ([.int .u64 p3_o.from_, .int .u64 p3_o.count, .int .u64 p3_o.most] ++ flat (e2 .u8) p3_o.ring.1), p3_ot, (0, 0)⟩ :: (⟨p4b, [.int .u8 p4], p4t, (0, 0)⟩ :: []))))))))))) (fun w => True) (fun v D => ∃ r0a0 r0n0 r0c0 r0B0 r1g0 r1P0, r0n0 = r0.l.length ∧ Own 52 1 r0a0 r0n0 r0c0 (flat (e1 .u8) r0.l) r0B0 ∧ r1.places.1 = unG r1g0 ∧ AllP sh_T_ring_place c_T_api_Shot r1P0 r1g0 ∧ v = .int .i64 r2 ∧ D = fun F => (⟨p2b, [.pointer (some ⟨p2_ob, 0, none⟩)], p2t, (0, 0)⟩ :: (⟨p2_ob, (.int .u8 p2_o.player :: .int .i64 p2_o.window :: st19 p2_o.sure p2_oa0 p2_on0 p2_oc0 [.slice p2_oa1 p2_on1 p2_oc1, .pointer (some ⟨p2_o_4b, 0, none⟩), .pointer (some ⟨p2_o_5b, 0, none⟩)]), p2_ot, (0, 0)⟩ :: (p2_oB0 ++ (p2_oB1 ++ (⟨p2_o_4b, [.int .u64 r0.first_, .slice r0a0 r0n0 r0c0, .int .u8 r0.last], p2_o_4t, (0, 0)⟩ :: (r0B0 ++ (⟨p2_o_5b, ([.int .i64 r1.size] ++ flat cg_T_ring_place r1g0), p2_o_5t, (0, 0)⟩ :: (r1P0 ++ (⟨p3b, [.pointer (some ⟨p3_ob, 0, none⟩)], p3t, (0, 0)⟩ :: (⟨p3_ob, ([.int .u64 p3_o.from_, .int .u64 p3_o.count, .int .u64 p3_o.most] ++ flat (e2 .u8) p3_o.ring.1), p3_ot, (0, 0)⟩ :: (⟨p4b, [.int .u8 p4], p4t, (0, 0)⟩ :: F)))))))))))) := by
 unfold m_backfill_Inputs_1 at h
 refine sp_of_wc Tryz.func52 rfl Tryz.ntmps52 rfl rfl (fun w0 hR => ?_)
 refine wSR (wM 1 rfl (wNT (wc_seq (wSR (wM 1 rfl (wLd rfl mH rfl rfl ?_))))))
 obtain ⟨v12, x12, h⟩ := bsome h
 refine wl_cq Tryz.call39 rfl rfl rfl (q_rd (k_rollback_Engine_C (p0 := p2_o) (p0_4 := p2_o_4) (p0_5 := p2_o_5) (p0t := p2_ot) (p0_4b := p2_o_4b) (p0_4t := p2_o_4t) (p0_5b := p2_o_5b) (p0_5t := p2_o_5t) p2_oN0 p2_oV0 p2_oN1 p2_oV1 p2_o_4N0 p2_o_4V0 p2_o_5G0 p2_o_5A0 x12) pP (fun _ _ => trivial)) rfl ?_
 refine wM 1 rfl (wNT (wcc h rfl ?_ ?_)) <;> clear h <;> intro h
 ·refine wSR (wLd rfl mH rfl rfl (wM 2 rfl ?_))
  replace h := bsome h; obtain ⟨⟨za, zb, v17⟩, x17, h⟩ := h; try dsimp only at h
  refine wl_cs Tryz.call22 rfl rfl rfl (s_sp (k_rollback_Engine_Remote (p0 := p2_o) (p0_4 := p2_o_4) (p0_5 := p2_o_5) (p0t := p2_ot) (p0_4b := p2_o_4b) (p0_4t := p2_o_4t) (p0_5b := p2_o_5b) (p0_5t := p2_o_5t) p2_oN0 p2_oV0 p2_oN1 p2_oV1 p2_o_4N0 p2_o_4V0 p2_o_5G0 p2_o_5A0 x17) pP (fun _ _ => trivial)) rfl ?_
  rintro _ _ ⟨_, ⟨zf, zh, zg, zc, zl, zk, zd, ze, zj, zi, rfl, rfl⟩, rfl⟩
  refine wM 1 rfl (wNT (wc_ret (wx_then_ret ?_)))
  obtain ⟨rfl, rfl, rfl⟩ := pJ3 h
  exact wE Tryz.results52 (rs1 rfl) ⟨zf, zh, zg, zc, zl, zk, zd, ze, zj, zi, rfl, rfl⟩ pI
 refine wc_skip (wx_then (wc_seq (wSR (wLd rfl (mTT (mR (mR (mT (mR (mT (mR mH))))))) rfl rfl (wM 1 rfl ?_)))))
 replace h := bsome h; obtain ⟨⟨zm, zn⟩, x21, h⟩ := h; try dsimp only at h
 refine wl_cq Tryz.call38 rfl rfl rfl (q_rd (k_fold_History_At (p0t := p3_ot) x21) pP (fun _ _ => trivial)) rfl ?_
 refine wM 3 rfl (wl_alloc tt_ok rfl rfl (fun b8 => (lSt Upd.here ?_)))
 refine wM 1 rfl (wNT (wSR (wM 2 rfl ?_)))
 obtain ⟨v32, h, hg32⟩ := bsome h
 refine wls 25 h rfl ?_ ?_ <;> clear h <;> intro h
 ·refine wl_run rfl (wLd rfl (mTT (mT (mR (mR (mT (mR (mT (mR (mTT mH))))))))) rfl rfl (wM 1 rfl ?_))
  rcases Bool.eq_false_or_eq_true ((IntKind.wrap .u8 ((1 : Int) - p4)) == (0 : Int)) with hx280 | hx280
  ·replace h := ct hx280 h
   refine wl_run rfl (wl_val (v := .pointer (some ⟨b8, 0, none⟩)) (val_ia (j := 0) tt_ok rfl rfl rfl rfl (by simpa using hx280) rfl rfl) rfl (wl_run rfl (wLd rfl mH rfl rfl (wM 2 rfl ?_))))
   obtain rfl := sI h
   have h := hg32; clear hg32
   refine wM 1 rfl (wNT (wcc h rfl ?_ ?_)) <;> clear h <;> intro h
   ·refine wSR (wM 1 rfl (wNT (wc_ret (wx_then_ret ?_))))
    obtain ⟨rfl, rfl, rfl⟩ := pJ3 h
    exact wE Tryz.results52 (rs1 rfl) ⟨p2_o_4a0, p2_o_4n0, p2_o_4c0, p2_o_4B0, p2_o_5g0, p2_o_5P0, p2_o_4N0, p2_o_4V0, p2_o_5G0, p2_o_5A0, rfl, rfl⟩ pI
   refine wc_skip (wx_then (wSR (wM 1 rfl (wNT (wc_ret ?_)))))
   obtain ⟨rfl, rfl, rfl⟩ := pJ3 h
   exact wE Tryz.results52 (rs1 rfl) ⟨p2_o_4a0, p2_o_4n0, p2_o_4c0, p2_o_4B0, p2_o_5g0, p2_o_5P0, p2_o_4N0, p2_o_4V0, p2_o_5G0, p2_o_5A0, rfl, rfl⟩ pI
  replace h := cf hx280 h
  rcases Bool.eq_false_or_eq_true ((IntKind.wrap .u8 ((1 : Int) - p4)) == (1 : Int)) with hx281 | hx281
  ·replace h := ct hx281 h
   refine wl_run rfl (wl_val (v := .pointer (some ⟨b8, 1, none⟩)) (val_ia (j := 1) tt_ok rfl rfl rfl rfl (by simpa using hx281) rfl rfl) rfl (wl_run rfl (wLd rfl mH rfl rfl (wM 2 rfl ?_))))
   obtain rfl := sI h
   have h := hg32; clear hg32
   refine wM 1 rfl (wNT (wcc h rfl ?_ ?_)) <;> clear h <;> intro h
   ·refine wSR (wM 1 rfl (wNT (wc_ret (wx_then_ret ?_))))
    obtain ⟨rfl, rfl, rfl⟩ := pJ3 h
    exact wE Tryz.results52 (rs1 rfl) ⟨p2_o_4a0, p2_o_4n0, p2_o_4c0, p2_o_4B0, p2_o_5g0, p2_o_5P0, p2_o_4N0, p2_o_4V0, p2_o_5G0, p2_o_5A0, rfl, rfl⟩ pI
   refine wc_skip (wx_then (wSR (wM 1 rfl (wNT (wc_ret ?_)))))
   obtain ⟨rfl, rfl, rfl⟩ := pJ3 h
   exact wE Tryz.results52 (rs1 rfl) ⟨p2_o_4a0, p2_o_4n0, p2_o_4c0, p2_o_4B0, p2_o_5g0, p2_o_5P0, p2_o_4N0, p2_o_4V0, p2_o_5G0, p2_o_5A0, rfl, rfl⟩ pI
  replace h := cf hx281 h
  cases h
 refine wM 6 rfl ?_
 obtain rfl := sI h
 have h := hg32; clear hg32
 refine wM 1 rfl (wNT ?_)
 replace h := cf rfl h
 refine wc_cond_false rfl ?_
 refine wc_skip (wx_then (wSR (wM 1 rfl (wNT (wc_ret ?_)))))
 obtain ⟨rfl, rfl, rfl⟩ := pJ3 h
 exact wE Tryz.results52 (rs1 rfl) ⟨p2_o_4a0, p2_o_4n0, p2_o_4c0, p2_o_4B0, p2_o_5g0, p2_o_5P0, p2_o_4N0, p2_o_4V0, p2_o_5G0, p2_o_5A0, rfl, rfl⟩ pI

theorem k_backfill_Inputs {p0 : T_rollback_Engine} {p0_4 : T_queue_Queue} {p0_5 : T_ring_Ring} {p0_5g0 : List (T_ring_place × G)} {p1 : T_fold_History} {p2 : Int} {p3 : Int} {p4 : (List Int)} {r0 : T_queue_Queue} {r1 : T_ring_Ring} {r2 : Int} {r3 : Int} (p0N0 : p0n0 = p0.sure.Shots.length) (p0V0 : Own 119 6 p0a0 p0n0 p0c0 (flat c_T_api_Shot p0.sure.Shots) p0B0) (p0N1 : p0n1 = p0.own.length) (p0V1 : Own 52 1 p0a1 p0n1 p0c1 (flat (e1 .u8) p0.own) p0B1) (p0_4N0 : p0_4n0 = p0_4.l.length) (p0_4V0 : Own 52 1 p0_4a0 p0_4n0 p0_4c0 (flat (e1 .u8) p0_4.l) p0_4B0) (p0_5G0 : p0_5.places.1 = unG p0_5g0) (p0_5A0 : AllP sh_T_ring_place c_T_api_Shot p0_5P0 p0_5g0) (p4N0 : p4n0 = p4.length) (p4H0 : p4n0 ≤ p4c0) (h : m_backfill_Inputs F p0 p0_4 p0_5 p1 p2 p3 p4 = some (r0, r1, r2, r3)) :
    SpD Tryz.prog 12 [.pointer (some ⟨p0b, 0, none⟩), .pointer (some ⟨p1b, 0, none⟩), .int .u8 p2, .int .u64 p3, .slice p4a0 p4n0 p4c0] (⟨p0b, (.int .u8 p0.player :: .int .i64 p0.window :: st19 p0.sure p0a0 p0n0 p0c0 [.slice p0a1 p0n1 p0c1, .pointer (some ⟨p0_4b, 0, none⟩), .pointer (some ⟨p0_5b, 0, none⟩)]), p0t, (0, 0)⟩ :: (p0B0 ++ (p0B1 ++ (⟨p0_4b, [.int .u64 p0_4.first_, .slice p0_4a0 p0_4n0 p0_4c0, .int .u8 p0_4.last], p0_4t, (0, 0)⟩ :: (p0_4B0 ++ (⟨p0_5b, ([.int .i64 p0_5.size] ++ flat cg_T_ring_place p0_5g0), p0_5t, (0, 0)⟩ :: (p0_5P0 ++ (⟨p1b, ([.int .u64 p1.from_, .int .u64 p1.count, .int .u64 p1.most] ++ flat (e2 .u8) p1.ring.1), p1t, (0, 0)⟩ :: [])))))))) (fun w => Rds w (ids (⟨p0b, (.int .u8 p0.player :: .int .i64 p0.window :: st19 p0.sure p0a0 p0n0 p0c0 [.slice p0a1 p0n1 p0c1, .pointer (some ⟨p0_4b, 0, none⟩), .pointer (some ⟨p0_5b, 0, none⟩)]), p0t, (0, 0)⟩ :: (p0B0 ++ (p0B1 ++ (⟨p0_4b, [.int .u64 p0_4.first_, .slice p0_4a0 p0_4n0 p0_4c0, .int .u8 p0_4.last], p0_4t, (0, 0)⟩ :: (p0_4B0 ++ (⟨p0_5b, ([.int .i64 p0_5.size] ++ flat cg_T_ring_place p0_5g0), p0_5t, (0, 0)⟩ :: (p0_5P0 ++ (⟨p1b, ([.int .u64 p1.from_, .int .u64 p1.count, .int .u64 p1.most] ++ flat (e2 .u8) p1.ring.1), p1t, (0, 0)⟩ :: []))))))))) [] p4a0 (flat (e1 .u8) p4)) (fun v D => ∃ r0a0 r0n0 r0c0 r0B0 r1g0 r1P0, r0n0 = r0.l.length ∧ Own 52 1 r0a0 r0n0 r0c0 (flat (e1 .u8) r0.l) r0B0 ∧ r1.places.1 = unG r1g0 ∧ AllP sh_T_ring_place c_T_api_Shot r1P0 r1g0 ∧ v = .tuple #[.int .i64 r2, .int .i64 r3] ∧ D = fun F => (⟨p0b, (.int .u8 p0.player :: .int .i64 p0.window :: st19 p0.sure p0a0 p0n0 p0c0 [.slice p0a1 p0n1 p0c1, .pointer (some ⟨p0_4b, 0, none⟩), .pointer (some ⟨p0_5b, 0, none⟩)]), p0t, (0, 0)⟩ :: (p0B0 ++ (p0B1 ++ (⟨p0_4b, [.int .u64 r0.first_, .slice r0a0 r0n0 r0c0, .int .u8 r0.last], p0_4t, (0, 0)⟩ :: (r0B0 ++ (⟨p0_5b, ([.int .i64 r1.size] ++ flat cg_T_ring_place r1g0), p0_5t, (0, 0)⟩ :: (r1P0 ++ (⟨p1b, ([.int .u64 p1.from_, .int .u64 p1.count, .int .u64 p1.most] ++ flat (e2 .u8) p1.ring.1), p1t, (0, 0)⟩ :: F))))))))) := by
 unfold m_backfill_Inputs at h
 refine sp_of_wc Tryz.func12 rfl Tryz.ntmps12 rfl rfl (fun w0 hR => ?_)
 have p4S0 := hR
 refine wSR (wl_box rfl rfl rfl (fun b5 => (wl_box rfl rfl rfl (fun b6 => (wl_box rfl rfl rfl (fun b7 => (wM 2 rfl (wNT (wSR (wLd rfl (mTT mH) rfl rfl (wLd rfl (mT mH) rfl rfl (wLd rfl mH rfl rfl (wM 3 rfl (wl_inl Tryz.call51 rfl rfl rfl Tryz.func51 rfl Tryz.ntmps51 rfl rfl rfl (wSR (wM 2 rfl (wNT (wc_seq (wc_block (wSR (wM 7 rfl (wNT (wc_cond_false rfl (wSR (wM 3 rfl ?_)))))))))))))))))))))))))
 obtain ⟨v100034, h, hg100034⟩ := bsome h
 refine wls 27 h rfl ?_ ?_ <;> clear h <;> intro h
 ·refine wM 6 rfl ?_
  obtain rfl := sI h
  have h := hg100034; clear hg100034
  refine wM 2 rfl (wNT ?_)
  replace h := ct rfl h
  refine wc_cond_true rfl ?_
  refine wSR (wM 2 rfl (wNT (wc_ret (wx_block_ret (wx_then_ret (wx_inl (v := .tuple #[.int .i64 0, .int .i64 2]) tt_ok (.inl rfl) Tryz.results51 (rs2 rfl rfl) rfl (wM 4 rfl (wNT (wc_ret ?_)))))))))
  obtain ⟨rfl, rfl, rfl, rfl⟩ := pJ4 h
  exact wE Tryz.results12 (rs2 rfl rfl) ⟨p0_4a0, p0_4n0, p0_4c0, p0_4B0, p0_5g0, p0_5P0, p0_4N0, p0_4V0, p0_5G0, p0_5A0, rfl, rfl⟩ pI
 refine wM 1 rfl (wl_run rfl (wl_val (v := .int .i64 (p4.length : Int)) (val_len tt_ok rfl rfl p4N0) rfl (wM 4 rfl ?_)))
 obtain rfl := sI h
 have h := hg100034; clear hg100034
 refine wM 2 rfl (wNT (wcc h rfl ?_ ?_)) <;> clear h <;> intro h
 ·refine wSR (wM 2 rfl (wNT (wc_ret (wx_block_ret (wx_then_ret (wx_inl (v := .tuple #[.int .i64 0, .int .i64 2]) tt_ok (.inl rfl) Tryz.results51 (rs2 rfl rfl) rfl (wM 4 rfl (wNT (wc_ret ?_)))))))))
  obtain ⟨rfl, rfl, rfl, rfl⟩ := pJ4 h
  exact wE Tryz.results12 (rs2 rfl rfl) ⟨p0_4a0, p0_4n0, p0_4c0, p0_4B0, p0_5g0, p0_5P0, p0_4N0, p0_4V0, p0_5G0, p0_5A0, rfl, rfl⟩ pI
 refine wc_skip (wx_block (wx_then (wc_seq (wSR (wM 1 rfl (wl_val (v := .int .i64 (p4.length : Int)) (val_len tt_ok rfl rfl p4N0) rfl (wM 1 rfl (wNT (wc_block ?_)))))))))
 obtain ⟨o100022, h, hl100022⟩ := bsome h
 refine wc_loop (fun m E L => ∃ zg zl zm za zn zo zb zi ze zj zh zf zk, m_backfill_Inputs_L100021 F p0 p1 p2 p3 p4 m zg zl zm za zn zo zb = some o100022 ∧ ze = za.length ∧ Own 52 1 zi ze zj (flat (e1 .u8) za) zh ∧ zb.1 = unG zf ∧ AllP sh_T_ring_place c_T_api_Shot zk zf ∧ E = [(3, .int .u64 p3), (5, .func (.func 52) #[] #[.pointer (some ⟨b5, 0, none⟩), .pointer (some ⟨b6, 0, none⟩), .pointer (some ⟨b7, 0, none⟩)]), (12, .int .i64 zg), (35, .slice p4a0 p4n0 p4c0), (36, .int .i64 (p4.length : Int)), (37, .int .i64 zl)] ∧ L = (⟨b5, [.pointer (some ⟨p0b, 0, none⟩)], 30, (0, 0)⟩ :: (⟨p0b, (.int .u8 p0.player :: .int .i64 p0.window :: st19 p0.sure p0a0 p0n0 p0c0 [.slice p0a1 p0n1 p0c1, .pointer (some ⟨p0_4b, 0, none⟩), .pointer (some ⟨p0_5b, 0, none⟩)]), p0t, (0, 0)⟩ :: (⟨p0_4b, [.int .u64 zm, .slice zi ze zj, .int .u8 zn], p0_4t, (0, 0)⟩ :: (⟨p0_5b, ([.int .i64 zo] ++ flat cg_T_ring_place zf), p0_5t, (0, 0)⟩ :: (⟨b6, [.pointer (some ⟨p1b, 0, none⟩)], 31, (0, 0)⟩ :: (⟨p1b, ([.int .u64 p1.from_, .int .u64 p1.count, .int .u64 p1.most] ++ flat (e2 .u8) p1.ring.1), p1t, (0, 0)⟩ :: (⟨b7, [.int .u8 p2], 5, (0, 0)⟩ :: (p0B0 ++ (p0B1 ++ (zh ++ (zk ++ [])))))))))))) F ⟨(0 : Int), (0 : Int), p0_4.first_, p0_4.l, p0_4.last, p0_5.size, p0_5.places, p0_4a0, p0_4n0, p0_4c0, p0_4B0, p0_5g0, p0_5P0, h, p0_4N0, p0_4V0, p0_5G0, p0_5A0, rfl, rfl⟩ (ag6 rfl rfl rfl rfl rfl rfl) pI ?_
 clear h
 rintro m100022 _ _ ⟨zg, zl, zm, za, zn, zo, zb, zi, ze, zj, zh, zf, zk, h, zp, zq, zs, zr, rfl, rfl⟩
 rcases m100022 with _ | m100022
 ·rw [m_backfill_Inputs_L100021.eq_1] at h; cases h
 rw [m_backfill_Inputs_L100021.eq_2] at h
 refine wSR (wM 1 rfl (wNT (wc_seq (wcc h rfl ?_ ?_)))) <;> clear h <;> intro h
 ·refine wc_skip (wx_then (wc_seq (wc_block (wSR ?_))))
  obtain ⟨v100039, x100039, h⟩ := bsome h
  refine wl_val (v := .pointer (some ((adOf p4a0).add (zl.toNat * 1 + 0)))) (val_ix (enc := (e1 .u8)) tt_ok rfl rfl rfl rfl p4N0 p4S0 (e1_len _) rfl x100039) rfl ?_
  refine wl_val (v := .int .u8 v100039) (val_le (enc := (e1 .u8)) (xs := p4) tt_ok rfl p4S0 rsub_nil (e1_len _) x100039 rfl) rfl ?_
  refine wM 1 rfl (wNT (wc_seq (wSR (wM 6 rfl ?_))))
  replace h := bsome h; obtain ⟨⟨zc, zd, v100047⟩, x100047, h⟩ := h; try dsimp only at h
  refine wl_cs Tryz.call52 rfl rfl rfl (s_sp (k_backfill_Inputs_1 (p2 := ()) (p2_o := p0) (p2_o_4 := (T_queue_Queue.mk zm za zn)) (p2_o_5 := (T_ring_Ring.mk zo zb)) (p3 := ()) (p2t := 30) (p2_ob := p0b) (p2_ot := p0t) (p2_o_4b := p0_4b) (p2_o_4t := p0_4t) (p2_o_5b := p0_5b) (p2_o_5t := p0_5t) (p3t := 31) (p3_ob := p1b) (p3_ot := p1t) (p4t := 5) p0N0 p0V0 p0N1 p0V1 zp zq zs zr x100047) pP (fun _ _ => trivial)) rfl ?_
  rintro _ _ ⟨_, ⟨zw, zy, zx, zt, zac, zab, zu, zv, zaa, zz, rfl, rfl⟩, rfl⟩
  refine wM 1 rfl (wNT (wSR (wM 2 rfl (wNT (wcc h rfl ?_ ?_))))) <;> clear h <;> intro h
  ·refine wSR (wM 4 rfl (wNT (wc_ret (wx_then_ret (wx_block_ret (wx_then_ret ?_))))))
   obtain rfl := Option.some.inj h
   have h := hl100022; clear hl100022; try dsimp only [orE_l, orE_r] at h
   refine wx_then_ret (wx_block_ret (wx_then_ret (wx_inl (v := .tuple #[.int .i64 zg, .int .i64 v100047]) tt_ok (.inl rfl) Tryz.results51 (rs2 rfl rfl) rfl (wM 4 rfl (wNT (wc_ret ?_))))))
   obtain ⟨rfl, rfl, rfl, rfl⟩ := pJ4 h
   exact wE Tryz.results12 (rs2 rfl rfl) ⟨zw, zy, zx, zt, zac, zab, zu, zv, zaa, zz, rfl, rfl⟩ pI
  refine wc_skip (wx_then (wc_region (wM 3 rfl (wl_nil (wx_block (wx_then (wc_region (wM 2 rfl (wl_nil ?_)))))))))
  exact wx_round m100022 (Nat.lt_succ_self m100022) ⟨(IntKind.wrap .i64 (zg + (1 : Int))), (IntKind.wrap .i64 (zl + (1 : Int))), zc.first_, zc.l, zc.last, zd.size, zd.places, zw, zy, zx, zt, zac, zab, h, zu, zv, zaa, zz, rfl, rfl⟩ (ag6 rfl rfl rfl rfl rfl rfl) pI
 refine wc_exit (wx_then_exit ?_)
 obtain rfl := Option.some.inj h
 have h := hl100022; clear hl100022; try dsimp only [orE_l, orE_r] at h
 refine wx_then_exit (wx_block_exit (wx_then (wSR ?_)))
 refine wM 3 rfl (wNT (wc_ret (wx_inl (v := .tuple #[.int .i64 zg, .int .i64 0]) tt_ok (.inl rfl) Tryz.results51 (rs2 rfl rfl) rfl (wM 4 rfl (wNT (wc_ret ?_))))))
 obtain ⟨rfl, rfl, rfl, rfl⟩ := pJ4 h
 exact wE Tryz.results12 (rs2 rfl rfl) ⟨zi, ze, zj, zh, zf, zk, zp, zq, zs, zr, rfl, rfl⟩ pI

theorem k_hindcastref28_Inputs {p0 : T_hindcastref26_Engine} {p0_4 : T_hindcastref24_Queue} {p1 : T_hindcastref11_History} {p2 : Int} {p3 : Int} {p4 : (List Int)} {r0 : T_hindcastref24_Queue} {r1 : Int} {r2 : Int} (p0N0 : p0n0 = p0.Sure.Shots.length) (p0V0 : Own 119 6 p0a0 p0n0 p0c0 (flat c_T_api_Shot p0.Sure.Shots) p0B0) (p0N1 : p0n1 = p0.Own.length) (p0V1 : Own 52 1 p0a1 p0n1 p0c1 (flat (e1 .u8) p0.Own) p0B1) (p0_4N0 : p0_4n0 = p0_4.L.length) (p0_4V0 : Own 52 1 p0_4a0 p0_4n0 p0_4c0 (flat (e1 .u8) p0_4.L) p0_4B0) (p1N0 : p1n0 = p1.L.length) (p1V0 : Own 54 2 p1a0 p1n0 p1c0 (flat (e2 .u8) p1.L) p1B0) (p4N0 : p4n0 = p4.length) (p4H0 : p4n0 ≤ p4c0) (h : m_hindcastref28_Inputs F p0 p0_4 p1 p2 p3 p4 = some (r0, r1, r2)) :
    SpD Tryz.prog 13 [.pointer (some ⟨p0b, 0, none⟩), .pointer (some ⟨p1b, 0, none⟩), .int .u8 p2, .int .u64 p3, .slice p4a0 p4n0 p4c0] (⟨p0b, (.int .u8 p0.Player :: .int .i64 p0.Window :: st19 p0.Sure p0a0 p0n0 p0c0 [.slice p0a1 p0n1 p0c1, .pointer (some ⟨p0_4b, 0, none⟩)]), p0t, (0, 0)⟩ :: (p0B0 ++ (p0B1 ++ (⟨p0_4b, [.int .u64 p0_4.Begin, .int .u64 p0_4.First, .slice p0_4a0 p0_4n0 p0_4c0], p0_4t, (0, 0)⟩ :: (p0_4B0 ++ (⟨p1b, [.int .u64 p1.From, .int .i64 p1.Most, .slice p1a0 p1n0 p1c0], p1t, (0, 0)⟩ :: (p1B0 ++ []))))))) (fun w => Rds w (ids (⟨p0b, (.int .u8 p0.Player :: .int .i64 p0.Window :: st19 p0.Sure p0a0 p0n0 p0c0 [.slice p0a1 p0n1 p0c1, .pointer (some ⟨p0_4b, 0, none⟩)]), p0t, (0, 0)⟩ :: (p0B0 ++ (p0B1 ++ (⟨p0_4b, [.int .u64 p0_4.Begin, .int .u64 p0_4.First, .slice p0_4a0 p0_4n0 p0_4c0], p0_4t, (0, 0)⟩ :: (p0_4B0 ++ (⟨p1b, [.int .u64 p1.From, .int .i64 p1.Most, .slice p1a0 p1n0 p1c0], p1t, (0, 0)⟩ :: (p1B0 ++ [])))))))) [] p4a0 (flat (e1 .u8) p4)) (fun v D => ∃ r0a0 r0n0 r0c0 r0B0, r0n0 = r0.L.length ∧ Own 52 1 r0a0 r0n0 r0c0 (flat (e1 .u8) r0.L) r0B0 ∧ v = .tuple #[.int .i64 r1, .int .i64 r2] ∧ D = fun F => (⟨p0b, (.int .u8 p0.Player :: .int .i64 p0.Window :: st19 p0.Sure p0a0 p0n0 p0c0 [.slice p0a1 p0n1 p0c1, .pointer (some ⟨p0_4b, 0, none⟩)]), p0t, (0, 0)⟩ :: (p0B0 ++ (p0B1 ++ (⟨p0_4b, [.int .u64 r0.Begin, .int .u64 r0.First, .slice r0a0 r0n0 r0c0], p0_4t, (0, 0)⟩ :: (r0B0 ++ (⟨p1b, [.int .u64 p1.From, .int .i64 p1.Most, .slice p1a0 p1n0 p1c0], p1t, (0, 0)⟩ :: (p1B0 ++ F)))))))) := by
 unfold m_hindcastref28_Inputs at h
 refine sp_of_wc Tryz.func13 rfl Tryz.ntmps13 rfl rfl (fun w0 hR => ?_)
 have p4S0 := hR
 refine wSR (wM 2 rfl (wNT (wc_seq (wSR (wM 6 rfl (wNT (wc_cond_false rfl (wc_skip (wx_then (wc_seq (wSR (wM 3 rfl (wl_val (v := .int .i64 (p4.length : Int)) (val_len tt_ok rfl rfl p4N0) rfl ?_)))))))))))))
 obtain ⟨v27, x27, h⟩ := bsome h
 refine wl_cq Tryz.call42 rfl rfl rfl (q_pf (k_hindcastref28_bad x27) (fun _ _ => trivial)) rfl ?_
 refine wM 1 rfl (wNT (wcc h rfl ?_ ?_)) <;> clear h <;> intro h
 ·refine wSR (wM 2 rfl (wNT (wc_ret (wx_then_ret ?_))))
  obtain ⟨rfl, rfl, rfl⟩ := pJ3 h
  exact wE Tryz.results13 (rs2 rfl rfl) ⟨p0_4a0, p0_4n0, p0_4c0, p0_4B0, p0_4N0, p0_4V0, rfl, rfl⟩ pI
 refine wc_skip (wx_then (wc_seq (wSR (wM 1 rfl (wNT (wc_block ?_))))))
 obtain ⟨o23, h, hl23⟩ := bsome h
 refine wc_loop (fun m E L => ∃ zk zi zj za zd zb ze zc, m_hindcastref28_Inputs_L22 F p0 p1 p2 p3 p4 m zk zi zj za = some o23 ∧ zb = za.length ∧ Own 52 1 zd zb ze (flat (e1 .u8) za) zc ∧ E = [(0, .pointer (some ⟨p0b, 0, none⟩)), (1, .pointer (some ⟨p1b, 0, none⟩)), (2, .int .u8 p2), (3, .int .u64 p3), (4, .slice p4a0 p4n0 p4c0), (10, .int .i64 0), (11, .int .i64 0), (12, .int .i64 zk)] ∧ L = (⟨p0b, (.int .u8 p0.Player :: .int .i64 p0.Window :: st19 p0.Sure p0a0 p0n0 p0c0 [.slice p0a1 p0n1 p0c1, .pointer (some ⟨p0_4b, 0, none⟩)]), p0t, (0, 0)⟩ :: (⟨p0_4b, [.int .u64 zi, .int .u64 zj, .slice zd zb ze], p0_4t, (0, 0)⟩ :: (⟨p1b, [.int .u64 p1.From, .int .i64 p1.Most, .slice p1a0 p1n0 p1c0], p1t, (0, 0)⟩ :: (p0B0 ++ (p0B1 ++ (zc ++ (p1B0 ++ [])))))))) F ⟨(0 : Int), p0_4.Begin, p0_4.First, p0_4.L, p0_4a0, p0_4n0, p0_4c0, p0_4B0, h, p0_4N0, p0_4V0, rfl, rfl⟩ (ag8 rfl rfl rfl rfl rfl rfl rfl rfl) pI ?_
 clear h
 rintro m23 _ _ ⟨zk, zi, zj, za, zd, zb, ze, zc, h, zg, zh, rfl, rfl⟩
 rcases m23 with _ | m23
 ·rw [m_hindcastref28_Inputs_L22.eq_1] at h; cases h
 rw [m_hindcastref28_Inputs_L22.eq_2] at h
 refine wc_seq (wSR (wM 2 rfl (wl_val (v := .int .i64 (p4.length : Int)) (val_len tt_ok rfl rfl p4N0) rfl (wM 1 rfl (wNT (wcc h rfl ?_ ?_)))))) <;> clear h <;> intro h
 ·refine wc_skip (wx_then (wc_seq (wc_block (wSR (wM 5 rfl (wNT (wc_seq (wSR (wM 5 rfl (wLd rfl mH rfl rfl (wM 1 rfl (wNT (wcc h rfl ?_ ?_))))))))))))) <;> clear h <;> intro h
  ·refine wSR (wM 2 rfl ?_)
   replace h := bsome h; obtain ⟨⟨zr, zs⟩, x49, h⟩ := h; try dsimp only at h
   refine wl_cq Tryz.call35 rfl rfl rfl (q_rd (k_hindcastref11_History_At (p0 := p1) (p0t := p1t) p1N0 p1V0 x49) pP (fun _ _ => trivial)) rfl ?_
   refine wM 3 rfl (wl_alloc tt_ok rfl rfl (fun b14 => (lSt Upd.here ?_)))
   refine wM 1 rfl (wNT (wc_seq (wc_seq (wc_quiet (by kernel_rfl) (by kernel_rfl) (qM 2 rfl ?_)))))
   obtain ⟨v63, h, hg63⟩ := bsome h
   refine wqs 53 h rfl ?_ ?_ <;> clear h <;> intro h
   ·refine qM 2 rfl ?_
    rcases Bool.eq_false_or_eq_true ((IntKind.wrap .u8 ((1 : Int) - p2)) == (0 : Int)) with hx560 | hx560
    ·replace h := ct hx560 h
     refine wq_run rfl (wq_val (v := .pointer (some ⟨b14, 0, none⟩)) (val_ia (j := 0) tt_ok rfl rfl rfl rfl (by simpa using hx560) rfl rfl) rfl (wq_run rfl (qLd rfl mH rfl rfl (qM 2 rfl ?_))))
     obtain ⟨v60, x60, h⟩ := bsome h
     refine wq_run rfl (wq_val (v := .pointer (some ((adOf p4a0).add (zk.toNat * 1 + 0)))) (val_ix (enc := (e1 .u8)) tt_ok rfl rfl rfl rfl p4N0 p4S0 (e1_len _) rfl x60) rfl (wq_run rfl (wq_val (v := .int .u8 v60) (val_le (enc := (e1 .u8)) (xs := p4) tt_ok rfl p4S0 rsub_nil (e1_len _) x60 rfl) rfl (qM 1 rfl ?_))))
     obtain rfl := sI h
     have h := hg63; clear hg63
     refine qM 1 rfl (wq_nil (wx_then (wcc h rfl ?_ ?_))) <;> clear h <;> intro h
     ·refine wSR (wM 3 rfl (wNT (wc_ret (wx_then_ret (wx_then_ret (wx_block_ret (wx_then_ret ?_)))))))
      obtain rfl := Option.some.inj h
      have h := hl23; clear hl23; try dsimp only [orE_l, orE_r] at h
      refine wx_then_ret (wx_block_ret (wx_then_ret ?_))
      obtain ⟨rfl, rfl, rfl⟩ := pJ3 h
      exact wE Tryz.results13 (rs2 rfl rfl) ⟨zd, zb, ze, zc, zg, zh, rfl, rfl⟩ pI
     refine wc_skip (wx_then (wc_exit (wx_then_exit (wx_block_exit (wx_then (wc_region (wM 3 rfl (wl_nil ?_))))))))
     exact wx_round m23 (Nat.lt_succ_self m23) ⟨(IntKind.wrap .i64 (zk + (1 : Int))), zi, zj, za, zd, zb, ze, zc, h, zg, zh, rfl, rfl⟩ (ag8 rfl rfl rfl rfl rfl rfl rfl rfl) pI
    replace h := cf hx560 h
    rcases Bool.eq_false_or_eq_true ((IntKind.wrap .u8 ((1 : Int) - p2)) == (1 : Int)) with hx561 | hx561
    ·replace h := ct hx561 h
     refine wq_run rfl (wq_val (v := .pointer (some ⟨b14, 1, none⟩)) (val_ia (j := 1) tt_ok rfl rfl rfl rfl (by simpa using hx561) rfl rfl) rfl (wq_run rfl (qLd rfl mH rfl rfl (qM 2 rfl ?_))))
     obtain ⟨v60, x60, h⟩ := bsome h
     refine wq_run rfl (wq_val (v := .pointer (some ((adOf p4a0).add (zk.toNat * 1 + 0)))) (val_ix (enc := (e1 .u8)) tt_ok rfl rfl rfl rfl p4N0 p4S0 (e1_len _) rfl x60) rfl (wq_run rfl (wq_val (v := .int .u8 v60) (val_le (enc := (e1 .u8)) (xs := p4) tt_ok rfl p4S0 rsub_nil (e1_len _) x60 rfl) rfl (qM 1 rfl ?_))))
     obtain rfl := sI h
     have h := hg63; clear hg63
     refine qM 1 rfl (wq_nil (wx_then (wcc h rfl ?_ ?_))) <;> clear h <;> intro h
     ·refine wSR (wM 3 rfl (wNT (wc_ret (wx_then_ret (wx_then_ret (wx_block_ret (wx_then_ret ?_)))))))
      obtain rfl := Option.some.inj h
      have h := hl23; clear hl23; try dsimp only [orE_l, orE_r] at h
      refine wx_then_ret (wx_block_ret (wx_then_ret ?_))
      obtain ⟨rfl, rfl, rfl⟩ := pJ3 h
      exact wE Tryz.results13 (rs2 rfl rfl) ⟨zd, zb, ze, zc, zg, zh, rfl, rfl⟩ pI
     refine wc_skip (wx_then (wc_exit (wx_then_exit (wx_block_exit (wx_then (wc_region (wM 3 rfl (wl_nil ?_))))))))
     exact wx_round m23 (Nat.lt_succ_self m23) ⟨(IntKind.wrap .i64 (zk + (1 : Int))), zi, zj, za, zd, zb, ze, zc, h, zg, zh, rfl, rfl⟩ (ag8 rfl rfl rfl rfl rfl rfl rfl rfl) pI
    replace h := cf hx561 h
    cases h
   refine qM 9 rfl ?_
   obtain rfl := sI h
   have h := hg63; clear hg63
   refine qM 1 rfl (wq_nil (wx_then ?_))
   replace h := cf rfl h
   refine wc_cond_false rfl ?_
   refine wc_skip (wx_then (wc_exit (wx_then_exit (wx_block_exit (wx_then (wc_region (wM 3 rfl (wl_nil ?_))))))))
   exact wx_round m23 (Nat.lt_succ_self m23) ⟨(IntKind.wrap .i64 (zk + (1 : Int))), zi, zj, za, zd, zb, ze, zc, h, zg, zh, rfl, rfl⟩ (ag8 rfl rfl rfl rfl rfl rfl rfl rfl) pI
  refine wc_skip (wx_then (wSR (wM 4 rfl ?_)))
  obtain ⟨v69, x69, h⟩ := bsome h
  refine wl_val (v := .pointer (some ((adOf p4a0).add (zk.toNat * 1 + 0)))) (val_ix (enc := (e1 .u8)) tt_ok rfl rfl rfl rfl p4N0 p4S0 (e1_len _) rfl x69) rfl ?_
  refine wl_val (v := .int .u8 v69) (val_le (enc := (e1 .u8)) (xs := p4) tt_ok rfl p4S0 rsub_nil (e1_len _) x69 rfl) rfl ?_
  replace h := bsome h; obtain ⟨⟨zf, v71⟩, x71, h⟩ := h; try dsimp only at h
  refine wl_cs Tryz.call30 rfl rfl rfl (s_sp (k_hindcastref26_Engine_Remote (p0 := p0) (p0_4 := (T_hindcastref24_Queue.mk zi zj za)) (p0t := p0t) (p0_4b := p0_4b) (p0_4t := p0_4t) p0N0 p0V0 p0N1 p0V1 zg zh x71) pP (fun _ _ => trivial)) rfl ?_
  rintro _ _ ⟨_, ⟨zo, zq, zp, zl, zm, zn, rfl, rfl⟩, rfl⟩
  refine wM 1 rfl (wNT (wSR (wM 2 rfl (wNT (wcc h rfl ?_ ?_))))) <;> clear h <;> intro h
  ·refine wSR (wM 4 rfl (wNT (wc_ret (wx_block_ret (wx_then_ret ?_)))))
   obtain rfl := Option.some.inj h
   have h := hl23; clear hl23; try dsimp only [orE_l, orE_r] at h
   refine wx_then_ret (wx_block_ret (wx_then_ret ?_))
   obtain ⟨rfl, rfl, rfl⟩ := pJ3 h
   exact wE Tryz.results13 (rs2 rfl rfl) ⟨zo, zq, zp, zl, zm, zn, rfl, rfl⟩ pI
  refine wc_skip (wx_block (wx_then (wc_region (wM 3 rfl (wl_nil ?_)))))
  exact wx_round m23 (Nat.lt_succ_self m23) ⟨(IntKind.wrap .i64 (zk + (1 : Int))), zf.Begin, zf.First, zf.L, zo, zq, zp, zl, h, zm, zn, rfl, rfl⟩ (ag8 rfl rfl rfl rfl rfl rfl rfl rfl) pI
 refine wc_exit (wx_then_exit ?_)
 obtain rfl := Option.some.inj h
 have h := hl23; clear hl23; try dsimp only [orE_l, orE_r] at h
 refine wx_then_exit (wx_block_exit (wx_then (wSR ?_)))
 refine wM 1 rfl (wl_val (v := .int .i64 (p4.length : Int)) (val_len tt_ok rfl rfl p4N0) rfl (wM 2 rfl (wNT (wc_ret ?_))))
 obtain ⟨rfl, rfl, rfl⟩ := pJ3 h
 exact wE Tryz.results13 (rs2 rfl rfl) ⟨zd, zb, ze, zc, zg, zh, rfl, rfl⟩ pI

end Go.Proofs.YtkdbpenjkcjimaaGreatDoor
