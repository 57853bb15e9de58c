/-
  Each function computes what its model says. Printed by a program of this claim's own.
-/
import Derived.Test.YtkekgagekgadmaaGreatDoorTab
import Derived.Test.YtkekgagekgadmaaGreatDoorMod
import Derived.Test.YtkekgagekgadmaaGreatDoorWalk3
namespace Go.Proofs.YtkekgagekgadmaaGreatDoor
open Go.Proofs.YtkekgagekgadmaaGreatDoor.Eng
set_option linter.unusedVariables false
set_option linter.unusedSimpArgs false
set_option maxHeartbeats 4000000
set_option maxRecDepth 20000

theorem k_hindcastref09_four {F : Nat} {p0 : T_api_State} {p0a0 : Option Addr} {p0n0 p0c0 : Nat} {r0 : T_api_State} (p0N0 : p0n0 = p0.Shots.length) (p0H0 : p0n0 ≤ p0c0) (h : m_hindcastref09_four F p0 = some r0) :
    SpD Tryz.prog 78 [agS p0 p0a0 p0n0 p0c0] [] (fun w => Rds w (ids []) [] p0a0 (flat c_T_api_Shot p0.Shots)) (fun v D => ∃ (r0a0 : Option Addr) (r0n0 r0c0 : Nat) (r0B0 : List Blk), r0n0 = r0.Shots.length ∧ Own 93 6 r0a0 r0n0 r0c0 (flat c_T_api_Shot r0.Shots) r0B0 ∧ v = agS r0 r0a0 r0n0 r0c0 ∧ D = fun F => (r0B0 ++ F)) := by
 unfold m_hindcastref09_four at h
 refine sp_of_wc Tryz.func78 rfl Tryz.ntmps78 rfl rfl (fun w0 hR => ?_)
 have p0S0 := hR
 refine wSR (wl_box rfl rfl rfl (fun b1 => (wl_alloc tt_ok rfl rfl (fun b2 => (wNT (wSR (wP (v := .pointer (some ⟨b1, 16, none⟩)) rfl rfl (wl_val (v := .slice p0a0 p0n0 p0c0) (val_load tt_ok rfl (mT mH) rfl) rfl (wP rfl rfl (wNT (wSR (wP (v := .pointer (some ⟨b1, 16, none⟩)) rfl rfl ?_))))))))))))
 apply wl_store tt_ok; rfl; exact (Upd.there Upd.here); rfl; rfl; rfl; rfl; rfl; rfl
 refine wNT (wc_seq (wSR (wP rfl rfl (wNT (wc_block ?_)))))
 replace h := bsome h; obtain ⟨⟨zl, zm, zn⟩, h, hl11⟩ := h; try dsimp only at hl11
 refine wc_loop (fun m E L => ∃ (zh : Int) (zb : (T_api_Player × T_api_Player)) (za : (List T_api_Shot)) (zc : (Int × Int)) (ze : Option Addr) (zd zf : Nat) (zg : List Blk), m_hindcastref09_four_L10 F p0 m zh zb za zc = some (zl, zm, zn) ∧ zd = za.length ∧ Own 93 6 ze zd zf (flat c_T_api_Shot za) zg ∧ E = [(1, .pointer (some ⟨b1, 0, none⟩)), (2, .pointer (some ⟨b2, 0, none⟩)), (3, .slice p0a0 p0n0 p0c0), (4, .int .i64 zh)] ∧ L = (⟨b1, (.int .u64 p0.Frame :: .int .u64 p0.Seed :: pl14 zb [.slice ze zd zf, .int .u16 zc.1, .int .u16 zc.2]), 30, (0, 0)⟩ :: (⟨b2, [.int .u64 (0 : Int), .int .u64 (0 : Int), .int .i32 (0 : Int), .int .i32 (0 : Int), .int .i32 (0 : Int), .int .i32 (0 : Int), .int .u8 (0 : Int), .int .u8 (0 : Int), .int .u8 (0 : Int), .int .i32 (0 : Int), .int .i32 (0 : Int), .int .i32 (0 : Int), .int .i32 (0 : Int), .int .u8 (0 : Int), .int .u8 (0 : Int), .int .u8 (0 : Int), .slice none 0 0, .int .u16 (0 : Int), .int .u16 (0 : Int)], 30, (0, 0)⟩ :: (zg ++ [])))) F ⟨(0 : Int), p0.Players, ([] : List T_api_Shot), p0.Score, none, 0, 0, [], h, rfl, Own.zero, rfl, rfl⟩ (agree_cons rfl (agree_cons rfl (agree_cons rfl (agree_cons rfl agree_nil)))) (pSub (pS (pH (pNo pNil)))) ?_
 clear h
 rintro m11 _ _ ⟨zh, zb, za, zc, ze, zd, zf, zg, h, zi, zj, rfl, rfl⟩
 rcases m11 with _ | m11
 ·rw [m_hindcastref09_four_L10.eq_1] at h; cases h
 rw [m_hindcastref09_four_L10.eq_2] at h
 refine wc_seq (wSR ?_)
 iterate 2 refine wP rfl rfl ?_
 refine wl_val (v := .int .i64 (p0.Shots.length : Int)) (val_len tt_ok rfl rfl p0N0) rfl ?_
 refine wP (v := .bool (decide (zh < (p0.Shots.length : Int)))) rfl rfl (wNT (wc_cond rfl (fun hc => ?_) (fun hc => ?_)))
 ·replace h := ct hc h
  refine wc_skip (wx_then (wc_seq (wc_block (wSR ?_))))
  iterate 2 refine wP rfl rfl ?_
  obtain ⟨v20, x20, h⟩ := bsome h
  refine wl_val (v := .pointer (some ((adOf p0a0).add (zh.toNat * 6 + 0)))) (val_ix (enc := c_T_api_Shot) tt_ok rfl rfl rfl rfl p0N0 p0S0 c_T_api_Shot_len rfl x20) rfl ?_
  refine wl_val (v := .agg #[.int .i32 v20.X, .int .i32 v20.Y, .int .i32 v20.VX, .int .i32 v20.VY, .int .u8 v20.Owner, .int .u8 v20.Life]) (val_le (enc := c_T_api_Shot) (xs := p0.Shots) tt_ok rfl p0S0 rsub_nil c_T_api_Shot_len x20 rfl) rfl ?_
  refine wl_alloc tt_ok rfl rfl (fun b5 => ?_)
  apply wl_store tt_ok; rfl; exact Upd.here; rfl; rfl; rfl; rfl; rfl; rfl
  refine wNT (wSR (wP (v := .pointer (some ⟨b5, 0, none⟩)) rfl rfl (wl_val (v := .int .i32 v20.X) (val_load tt_ok rfl mH rfl) rfl (wP (v := .pointer (some ⟨b5, 2, none⟩)) rfl rfl (wl_val (v := .int .i32 v20.VX) (val_load tt_ok rfl mH rfl) rfl (wP (v := .int .i32 (IntKind.wrap .i32 (v20.X + v20.VX))) rfl rfl (wP (v := .pointer (some ⟨b5, 0, none⟩)) rfl rfl ?_)))))))
  apply wl_store tt_ok; rfl; exact Upd.here; rfl; rfl; rfl; rfl; rfl; rfl
  refine wNT (wSR (wP (v := .pointer (some ⟨b5, 1, none⟩)) rfl rfl (wl_val (v := .int .i32 v20.Y) (val_load tt_ok rfl mH rfl) rfl (wP (v := .pointer (some ⟨b5, 3, none⟩)) rfl rfl (wl_val (v := .int .i32 v20.VY) (val_load tt_ok rfl mH rfl) rfl (wP (v := .int .i32 (IntKind.wrap .i32 (v20.Y + v20.VY))) rfl rfl (wP (v := .pointer (some ⟨b5, 1, none⟩)) rfl rfl ?_)))))))
  apply wl_store tt_ok; rfl; exact Upd.here; rfl; rfl; rfl; rfl; rfl; rfl
  refine wNT (wSR (wP (v := .pointer (some ⟨b5, 5, none⟩)) rfl rfl (wl_val (v := .int .u8 v20.Life) (val_load tt_ok rfl mH rfl) rfl (wP (v := .int .u8 (IntKind.wrap .u8 (v20.Life - (1 : Int)))) rfl rfl (wP (v := .pointer (some ⟨b5, 5, none⟩)) rfl rfl ?_)))))
  apply wl_store tt_ok; rfl; exact Upd.here; rfl; rfl; rfl; rfl; rfl; rfl
  refine wNT (wSR (wP (v := .pointer (some ⟨b5, 0, none⟩)) rfl rfl (wl_val (v := .int .i32 (IntKind.wrap .i32 (v20.X + v20.VX))) (val_load tt_ok rfl mH rfl) rfl (wP (v := .pointer (some ⟨b5, 1, none⟩)) rfl rfl (wl_val (v := .int .i32 (IntKind.wrap .i32 (v20.Y + v20.VY))) (val_load tt_ok rfl mH rfl) rfl (wP (v := .agg #[.int .i32 (IntKind.wrap .i32 (v20.X + v20.VX)), .int .i32 (IntKind.wrap .i32 (v20.Y + v20.VY)), .int .i32 (512 : Int), .int .i32 (512 : Int)]) rfl rfl (wl_alloc tt_ok rfl rfl (fun b6 => ?_))))))))
  apply wl_store tt_ok; rfl; exact Upd.here; rfl; rfl; rfl; rfl; rfl; rfl
  refine wNT (wSR (wP (v := .pointer (some ⟨b5, 4, none⟩)) rfl rfl (wl_val (v := .int .u8 v20.Owner) (val_load tt_ok rfl (mT mH) rfl) rfl (wP (v := .int .u8 (IntKind.wrap .u8 ((1 : Int) - v20.Owner))) rfl rfl (wP rfl rfl (wNT (wc_seq (wSR (wl_val (v := .agg #[.int .i32 (IntKind.wrap .i32 (v20.X + v20.VX)), .int .i32 (IntKind.wrap .i32 (v20.Y + v20.VY)), .int .i32 (512 : Int), .int .i32 (512 : Int)]) (val_load tt_ok rfl mH rfl) rfl (wP (v := .agg #[.int .i32 (0 : Int), .int .i32 (0 : Int), .int .i32 (65536 : Int), .int .i32 (32768 : Int)]) rfl rfl ?_))))))))))
  obtain ⟨v48, x48, h⟩ := bsome h
  refine wl_cq Tryz.call101 rfl rfl rfl (q_pf (k_hindcastref07_Inside x48) (fun _ _ => trivial)) rfl ?_
  refine wP (v := .bool (!v48)) rfl rfl (wNT (wc_cond rfl (fun hc => ?_) (fun hc => ?_)))
  ·replace h := ct hc h
   refine wc_exit (wx_then_exit (wx_block_exit (wx_then (wc_region ?_))))
   refine wP rfl rfl (wP (v := .int .i64 (IntKind.wrap .i64 (zh + (1 : Int)))) rfl rfl (wP rfl rfl (wl_nil ?_)))
   exact wx_round m11 (Nat.lt_succ_self m11) ⟨(IntKind.wrap .i64 (zh + (1 : Int))), zb, za, zc, ze, zd, zf, zg, h, zi, zj, rfl, rfl⟩ (agree_cons rfl (agree_cons rfl (agree_cons rfl (agree_cons rfl agree_nil)))) (pSub (pCons (sCC hC) (pCons (sCC hC) (pApp (sCC hA') pNil))))
  replace h := cf hc h
  refine wc_skip (wx_then (wc_seq (wc_seq (wc_quiet (by kernel_rfl) (by kernel_rfl) (wq_val (v := .agg #[.int .i32 (IntKind.wrap .i32 (v20.X + v20.VX)), .int .i32 (IntKind.wrap .i32 (v20.Y + v20.VY)), .int .i32 (512 : Int), .int .i32 (512 : Int)]) (val_load tt_ok rfl mH rfl) rfl (qP rfl rfl (qP (v := .pointer (some ⟨b1, 2, none⟩)) rfl rfl ?_)))))))
  rcases Bool.eq_false_or_eq_true ((IntKind.wrap .u8 ((1 : Int) - v20.Owner)) == (0 : Int)) with hx530 | hx530
  ·replace h := ct hx530 h
   refine wq_val (v := .pointer (some ⟨b1, 2, none⟩)) (val_ia (j := 0) tt_ok rfl rfl rfl rfl (by simpa using hx530) rfl rfl) rfl ?_
   refine wq_val (v := agP zb.1) (val_load tt_ok rfl (mTT mH) rfl) rfl ?_
   obtain ⟨v55, x55, h⟩ := bsome h
   refine wq_cq Tryz.call100 rfl rfl rfl (q_pf (k_hindcastref09_Box x55) (fun _ _ => trivial)) rfl ?_
   obtain ⟨v56, x56, h⟩ := bsome h
   refine wq_cq Tryz.call99 rfl rfl rfl (q_pf (k_hindcastref07_Over x56) (fun _ _ => trivial)) rfl ?_
   refine wq_nil (wx_then (wc_cond rfl (fun hc => ?_) (fun hc => ?_)))
   ·replace h := ct hc h
    refine wSR (wP rfl rfl (wP (v := .pointer (some ⟨b1, 2, none⟩)) rfl rfl (wl_val (v := .pointer (some ⟨b1, 2, none⟩)) (val_ia (j := 0) tt_ok rfl rfl rfl rfl (by simpa using hx530) rfl rfl) rfl (wP (v := .pointer (some ⟨b1, 6, none⟩)) rfl rfl (wl_val (v := .int .u8 zb.1.Health) (val_load tt_ok rfl (mTT mH) rfl) rfl (wP rfl rfl (wNT (wc_seq (wSR (wP rfl rfl (wP (v := .bool (decide (zb.1.Health < (10 : Int)))) rfl rfl (wNT ?_))))))))))))
    obtain ⟨zk, h, hj47⟩ := bsome h
    refine wc_join2 (fun E L => E = [(1, .pointer (some ⟨b1, 0, none⟩)), (2, .pointer (some ⟨b2, 0, none⟩)), (3, .slice p0a0 p0n0 p0c0), (4, .int .i64 zh), (5, .pointer (some ⟨b5, 0, none⟩)), (7, .int .u8 (IntKind.wrap .u8 ((1 : Int) - v20.Owner))), (8, .int .u8 zk)] ∧ L = (⟨b1, (.int .u64 p0.Frame :: .int .u64 p0.Seed :: pl14 zb [.slice ze zd zf, .int .u16 zc.1, .int .u16 zc.2]), 30, (0, 0)⟩ :: (⟨b2, [.int .u64 (0 : Int), .int .u64 (0 : Int), .int .i32 (0 : Int), .int .i32 (0 : Int), .int .i32 (0 : Int), .int .i32 (0 : Int), .int .u8 (0 : Int), .int .u8 (0 : Int), .int .u8 (0 : Int), .int .i32 (0 : Int), .int .i32 (0 : Int), .int .i32 (0 : Int), .int .i32 (0 : Int), .int .u8 (0 : Int), .int .u8 (0 : Int), .int .u8 (0 : Int), .slice none 0 0, .int .u16 (0 : Int), .int .u16 (0 : Int)], 30, (0, 0)⟩ :: (⟨b5, [.int .i32 (IntKind.wrap .i32 (v20.X + v20.VX)), .int .i32 (IntKind.wrap .i32 (v20.Y + v20.VY)), .int .i32 v20.VX, .int .i32 v20.VY, .int .u8 v20.Owner, .int .u8 (IntKind.wrap .u8 (v20.Life - (1 : Int)))], 93, (0, 0)⟩ :: (zg ++ []))))) ?_ ?_
    ·refine wc_cond rfl (fun hc => ?_) (fun hc => ?_)
     ·replace h := ct hc h
      refine wc_region (wP rfl rfl (wl_nil ?_))
      obtain rfl := sI h
      exact wx_join ⟨rfl, rfl⟩ (agree_cons rfl (agree_cons rfl (agree_cons rfl (agree_cons rfl (agree_cons rfl (agree_cons rfl (agree_cons rfl agree_nil))))))) (pSub (pCons (sCC hC) (pCons (sCC hC) (pS (qS pNil)))))
     replace h := cf hc h
     refine wc_skip ?_
     obtain rfl := sI h
     exact wx_join ⟨rfl, rfl⟩ (agree_cons rfl (agree_cons rfl (agree_cons rfl (agree_cons rfl (agree_cons rfl (agree_cons rfl (agree_cons rfl agree_nil))))))) (pSub (pCons (sCC hC) (pCons (sCC hC) (pS (qS pNil)))))
    rintro _ _ ⟨rfl, rfl⟩
    have h := hj47; clear hj47
    refine wSR ?_
    iterate 2 refine wP rfl rfl ?_
    refine wP (v := .int .u8 (IntKind.wrap .u8 (zk - (10 : Int)))) rfl rfl (wP (v := .pointer (some ⟨b1, 2, none⟩)) rfl rfl (wl_val (v := .pointer (some ⟨b1, 2, none⟩)) (val_ia (j := 0) tt_ok rfl rfl rfl rfl (by simpa using hx530) rfl rfl) rfl (wP (v := .pointer (some ⟨b1, 6, none⟩)) rfl rfl ?_)))
    apply wl_store tt_ok; rfl; exact Upd.here; rfl; rfl; rfl; rfl; rfl; rfl
    refine wNT (wc_seq (wSR (wP (v := .pointer (some ⟨b5, 4, none⟩)) rfl rfl (wl_val (v := .int .u8 v20.Owner) (val_load tt_ok rfl (mTT mH) rfl) rfl (wP (v := .pointer (some ⟨b1, 17, none⟩)) rfl rfl ?_)))))
    rcases Bool.eq_false_or_eq_true (v20.Owner == (0 : Int)) with hx730 | hx730
    ·replace h := ct hx730 h
     refine wl_val (v := .pointer (some ⟨b1, 17, none⟩)) (val_ia (j := 0) tt_ok rfl rfl rfl rfl (by simpa using hx730) rfl rfl) rfl ?_
     refine wl_val (v := .int .u16 zc.1) (val_load tt_ok rfl mH rfl) rfl ?_
     refine wP (v := .bool (decide (zc.1 < (65535 : Int)))) rfl rfl (wNT (wc_cond rfl (fun hc => ?_) (fun hc => ?_)))
     ·replace h := ct hc h
      refine wc_k2 (Ls := (⟨b1, (.int .u64 p0.Frame :: .int .u64 p0.Seed :: .int .i32 zb.1.X :: .int .i32 zb.1.Y :: .int .i32 zb.1.VX :: .int .i32 zb.1.VY :: .int .u8 (IntKind.wrap .u8 (zk - (10 : Int))) :: .int .u8 zb.1.Cool :: .int .u8 zb.1.Face :: pl7 zb.2 [.slice ze zd zf, .int .u16 zc.1, .int .u16 zc.2]), 30, (0, 0)⟩ :: (⟨b2, [.int .u64 (0 : Int), .int .u64 (0 : Int), .int .i32 (0 : Int), .int .i32 (0 : Int), .int .i32 (0 : Int), .int .i32 (0 : Int), .int .u8 (0 : Int), .int .u8 (0 : Int), .int .u8 (0 : Int), .int .i32 (0 : Int), .int .i32 (0 : Int), .int .i32 (0 : Int), .int .i32 (0 : Int), .int .u8 (0 : Int), .int .u8 (0 : Int), .int .u8 (0 : Int), .slice none 0 0, .int .u16 (0 : Int), .int .u16 (0 : Int)], 30, (0, 0)⟩ :: (⟨b5, [.int .i32 (IntKind.wrap .i32 (v20.X + v20.VX)), .int .i32 (IntKind.wrap .i32 (v20.Y + v20.VY)), .int .i32 v20.VX, .int .i32 v20.VY, .int .u8 v20.Owner, .int .u8 (IntKind.wrap .u8 (v20.Life - (1 : Int)))], 93, (0, 0)⟩ :: (zg ++ []))))) [10] [10] [0, 1, 0, 4, 0, 28, 60, 124, 0, 511, 1023] [0, 1, 2, 3, 4, 5, 6, 7, 8, 9, 10] (by kernel_rfl) (by kernel_rfl) (by kernel_rfl) ?_
      refine k_val (v := .pointer (some ⟨b5, 4, none⟩)) rfl rfl rfl (pSub (pHH (pH (pA pNil)))) (sV rfl) rfl (k_val (v := .int .u8 v20.Owner) rfl rfl rfl (pSub (pHH (pH (pA pNil)))) (val_load tt_ok rfl (mTT mH) rfl) rfl (k_val (v := .pointer (some ⟨b5, 4, none⟩)) rfl rfl rfl (pSub (pHH (pH (pA pNil)))) (sV rfl) rfl (k_val (v := .int .u8 v20.Owner) rfl rfl rfl (pSub (pHH (pH (pA pNil)))) (val_load tt_ok rfl (mTT mH) rfl) rfl ?_)))
      refine k_val (v := .pointer (some ⟨b1, 17, none⟩)) rfl rfl rfl (pSub (pHH (pH (pA pNil)))) (sV rfl) rfl (k_val (v := .pointer (some ⟨b1, 17, none⟩)) rfl rfl rfl (pSub (pHH (pH (pA pNil)))) (val_ia (j := 0) tt_ok rfl rfl rfl rfl (by simpa using hx730) rfl rfl) rfl (k_val (v := .int .u16 zc.1) rfl rfl rfl (pSub (pHH (pH (pA pNil)))) (val_load tt_ok rfl mH rfl) rfl (k_val (v := .int .u16 (IntKind.wrap .u16 (zc.1 + (1 : Int)))) rfl rfl rfl (pSub (pHH (pH (pA pNil)))) (sV rfl) rfl ?_)))
      refine k_val (v := .pointer (some ⟨b1, 17, none⟩)) rfl rfl rfl (pSub (pHH (pH (pA pNil)))) (sV rfl) rfl (k_val (v := .pointer (some ⟨b1, 17, none⟩)) rfl rfl rfl (pSub (pHH (pH (pA pNil)))) (val_ia (j := 0) tt_ok rfl rfl rfl rfl (by simpa using hx730) rfl rfl) rfl (k_chg0 rfl rfl rfl (chg_store tt_ok rfl Upd.here rfl rfl rfl rfl rfl rfl) (.inl rfl) ?_))
      rintro _ _ rfl
      refine k_end (by kernel_rfl) ?_
      refine wx_then (wc_exit (wx_then_exit (wx_block_exit (wx_then (wc_region (wP rfl rfl (wP (v := .int .i64 (IntKind.wrap .i64 (zh + (1 : Int)))) rfl rfl (wP rfl rfl (wl_nil ?_)))))))))
      exact wx_round m11 (Nat.lt_succ_self m11) ⟨(IntKind.wrap .i64 (zh + (1 : Int))), ((T_api_Player.mk zb.1.X zb.1.Y zb.1.VX zb.1.VY (IntKind.wrap .u8 (zk - (10 : Int))) zb.1.Cool zb.1.Face), zb.2), za, ((IntKind.wrap .u16 (zc.1 + (1 : Int))), zc.2), ze, zd, zf, zg, h, zi, zj, rfl, rfl⟩ (agree_cons rfl (agree_cons rfl (agree_cons rfl (agree_cons rfl agree_nil)))) (pSub (pHH (qS pNil)))
     replace h := cf hc h
     refine wc_skip (wx_then (wc_exit (wx_then_exit (wx_block_exit (wx_then (wc_region (wP rfl rfl (wP (v := .int .i64 (IntKind.wrap .i64 (zh + (1 : Int)))) rfl rfl (wP rfl rfl (wl_nil ?_))))))))))
     exact wx_round m11 (Nat.lt_succ_self m11) ⟨(IntKind.wrap .i64 (zh + (1 : Int))), ((T_api_Player.mk zb.1.X zb.1.Y zb.1.VX zb.1.VY (IntKind.wrap .u8 (zk - (10 : Int))) zb.1.Cool zb.1.Face), zb.2), za, zc, ze, zd, zf, zg, h, zi, zj, rfl, rfl⟩ (agree_cons rfl (agree_cons rfl (agree_cons rfl (agree_cons rfl agree_nil)))) (pSub (pHH (qS pNil)))
    replace h := cf hx730 h
    rcases Bool.eq_false_or_eq_true (v20.Owner == (1 : Int)) with hx731 | hx731
    ·replace h := ct hx731 h
     refine wl_val (v := .pointer (some ⟨b1, 18, none⟩)) (val_ia (j := 1) tt_ok rfl rfl rfl rfl (by simpa using hx731) rfl rfl) rfl ?_
     refine wl_val (v := .int .u16 zc.2) (val_load tt_ok rfl mH rfl) rfl ?_
     refine wP (v := .bool (decide (zc.2 < (65535 : Int)))) rfl rfl (wNT (wc_cond rfl (fun hc => ?_) (fun hc => ?_)))
     ·replace h := ct hc h
      refine wc_k2 (Ls := (⟨b1, (.int .u64 p0.Frame :: .int .u64 p0.Seed :: .int .i32 zb.1.X :: .int .i32 zb.1.Y :: .int .i32 zb.1.VX :: .int .i32 zb.1.VY :: .int .u8 (IntKind.wrap .u8 (zk - (10 : Int))) :: .int .u8 zb.1.Cool :: .int .u8 zb.1.Face :: pl7 zb.2 [.slice ze zd zf, .int .u16 zc.1, .int .u16 zc.2]), 30, (0, 0)⟩ :: (⟨b2, [.int .u64 (0 : Int), .int .u64 (0 : Int), .int .i32 (0 : Int), .int .i32 (0 : Int), .int .i32 (0 : Int), .int .i32 (0 : Int), .int .u8 (0 : Int), .int .u8 (0 : Int), .int .u8 (0 : Int), .int .i32 (0 : Int), .int .i32 (0 : Int), .int .i32 (0 : Int), .int .i32 (0 : Int), .int .u8 (0 : Int), .int .u8 (0 : Int), .int .u8 (0 : Int), .slice none 0 0, .int .u16 (0 : Int), .int .u16 (0 : Int)], 30, (0, 0)⟩ :: (⟨b5, [.int .i32 (IntKind.wrap .i32 (v20.X + v20.VX)), .int .i32 (IntKind.wrap .i32 (v20.Y + v20.VY)), .int .i32 v20.VX, .int .i32 v20.VY, .int .u8 v20.Owner, .int .u8 (IntKind.wrap .u8 (v20.Life - (1 : Int)))], 93, (0, 0)⟩ :: (zg ++ []))))) [10] [10] [0, 1, 0, 4, 0, 28, 60, 124, 0, 511, 1023] [0, 1, 2, 3, 4, 5, 6, 7, 8, 9, 10] (by kernel_rfl) (by kernel_rfl) (by kernel_rfl) ?_
      refine k_val (v := .pointer (some ⟨b5, 4, none⟩)) rfl rfl rfl (pSub (pHH (pH (pA pNil)))) (sV rfl) rfl (k_val (v := .int .u8 v20.Owner) rfl rfl rfl (pSub (pHH (pH (pA pNil)))) (val_load tt_ok rfl (mTT mH) rfl) rfl (k_val (v := .pointer (some ⟨b5, 4, none⟩)) rfl rfl rfl (pSub (pHH (pH (pA pNil)))) (sV rfl) rfl (k_val (v := .int .u8 v20.Owner) rfl rfl rfl (pSub (pHH (pH (pA pNil)))) (val_load tt_ok rfl (mTT mH) rfl) rfl ?_)))
      refine k_val (v := .pointer (some ⟨b1, 17, none⟩)) rfl rfl rfl (pSub (pHH (pH (pA pNil)))) (sV rfl) rfl (k_val (v := .pointer (some ⟨b1, 18, none⟩)) rfl rfl rfl (pSub (pHH (pH (pA pNil)))) (val_ia (j := 1) tt_ok rfl rfl rfl rfl (by simpa using hx731) rfl rfl) rfl (k_val (v := .int .u16 zc.2) rfl rfl rfl (pSub (pHH (pH (pA pNil)))) (val_load tt_ok rfl mH rfl) rfl (k_val (v := .int .u16 (IntKind.wrap .u16 (zc.2 + (1 : Int)))) rfl rfl rfl (pSub (pHH (pH (pA pNil)))) (sV rfl) rfl ?_)))
      refine k_val (v := .pointer (some ⟨b1, 17, none⟩)) rfl rfl rfl (pSub (pHH (pH (pA pNil)))) (sV rfl) rfl (k_val (v := .pointer (some ⟨b1, 18, none⟩)) rfl rfl rfl (pSub (pHH (pH (pA pNil)))) (val_ia (j := 1) tt_ok rfl rfl rfl rfl (by simpa using hx731) rfl rfl) rfl (k_chg0 rfl rfl rfl (chg_store tt_ok rfl Upd.here rfl rfl rfl rfl rfl rfl) (.inl rfl) ?_))
      rintro _ _ rfl
      refine k_end (by kernel_rfl) ?_
      refine wx_then (wc_exit (wx_then_exit (wx_block_exit (wx_then (wc_region (wP rfl rfl (wP (v := .int .i64 (IntKind.wrap .i64 (zh + (1 : Int)))) rfl rfl (wP rfl rfl (wl_nil ?_)))))))))
      exact wx_round m11 (Nat.lt_succ_self m11) ⟨(IntKind.wrap .i64 (zh + (1 : Int))), ((T_api_Player.mk zb.1.X zb.1.Y zb.1.VX zb.1.VY (IntKind.wrap .u8 (zk - (10 : Int))) zb.1.Cool zb.1.Face), zb.2), za, (zc.1, (IntKind.wrap .u16 (zc.2 + (1 : Int)))), ze, zd, zf, zg, h, zi, zj, rfl, rfl⟩ (agree_cons rfl (agree_cons rfl (agree_cons rfl (agree_cons rfl agree_nil)))) (pSub (pHH (qS pNil)))
     replace h := cf hc h
     refine wc_skip (wx_then (wc_exit (wx_then_exit (wx_block_exit (wx_then (wc_region (wP rfl rfl (wP (v := .int .i64 (IntKind.wrap .i64 (zh + (1 : Int)))) rfl rfl (wP rfl rfl (wl_nil ?_))))))))))
     exact wx_round m11 (Nat.lt_succ_self m11) ⟨(IntKind.wrap .i64 (zh + (1 : Int))), ((T_api_Player.mk zb.1.X zb.1.Y zb.1.VX zb.1.VY (IntKind.wrap .u8 (zk - (10 : Int))) zb.1.Cool zb.1.Face), zb.2), za, zc, ze, zd, zf, zg, h, zi, zj, rfl, rfl⟩ (agree_cons rfl (agree_cons rfl (agree_cons rfl (agree_cons rfl agree_nil)))) (pSub (pHH (qS pNil)))
    replace h := cf hx731 h
    cases h
   replace h := cf hc h
   refine wc_skip (wx_then (wSR (wP (v := .pointer (some ⟨b5, 5, none⟩)) rfl rfl (wl_val (v := .int .u8 (IntKind.wrap .u8 (v20.Life - (1 : Int)))) (val_load tt_ok rfl (mT mH) rfl) rfl (wP (v := .bool (decide ((0 : Int) < (IntKind.wrap .u8 (v20.Life - (1 : Int)))))) rfl rfl (wNT (wc_cond rfl (fun hc => ?_) (fun hc => ?_))))))))
   ·replace h := ct hc h
    refine wc_region (wP (v := .pointer (some ⟨b1, 16, none⟩)) rfl rfl (wl_val (v := .slice ze zd zf) (val_load tt_ok rfl (mTT mH) rfl) rfl (wl_val (v := .agg #[.int .i32 (IntKind.wrap .i32 (v20.X + v20.VX)), .int .i32 (IntKind.wrap .i32 (v20.Y + v20.VY)), .int .i32 v20.VX, .int .i32 v20.VY, .int .u8 v20.Owner, .int .u8 (IntKind.wrap .u8 (v20.Life - (1 : Int)))]) (val_load tt_ok rfl (mT mH) rfl) rfl (wl_chg (chg_bsv (enc := c_T_api_Shot) (xs := ([(T_api_Shot.mk (IntKind.wrap .i32 (v20.X + v20.VX)) (IntKind.wrap .i32 (v20.Y + v20.VY)) v20.VX v20.VY v20.Owner (IntKind.wrap .u8 (v20.Life - (1 : Int))))] : List T_api_Shot)) tt_ok rfl rfl rfl rfl rfl rfl rfl rfl c_T_api_Shot_len) rfl ?_))))
    rintro _ _ ⟨a92, n92_, c92, B92, rfl, N92, V92, rfl⟩
    obtain ⟨v93, x93, h⟩ := bsome h
    refine wl_chg (chg_app (enc := c_T_api_Shot) (ys := ([(T_api_Shot.mk (IntKind.wrap .i32 (v20.X + v20.VX)) (IntKind.wrap .i32 (v20.Y + v20.VY)) v20.VX v20.VY v20.Owner (IntKind.wrap .u8 (v20.Life - (1 : Int))))] : List T_api_Shot)) tt_ok rfl rfl rfl rfl rfl rfl zi N92 zj (sA (sCC (sCC hA'))) (Rds.of_vec V92) ⟨_, hA'⟩ c_T_api_Shot_len (fun _ => rfl) rfl x93) rfl ?_
    rintro _ _ ⟨a93, n93_, c93, B93, rfl, N93, V93, rfl⟩
    refine wP (v := .pointer (some ⟨b1, 16, none⟩)) rfl rfl ?_
    apply wl_store tt_ok; rfl; exact (Upd.right (Upd.right (Upd.there (Upd.there Upd.here)))); rfl; rfl; rfl; rfl; rfl; rfl
    refine wl_nil (wx_block (wx_then (wc_region (wP rfl rfl (wP (v := .int .i64 (IntKind.wrap .i64 (zh + (1 : Int)))) rfl rfl (wP rfl rfl (wl_nil ?_)))))))
    exact wx_round m11 (Nat.lt_succ_self m11) ⟨(IntKind.wrap .i64 (zh + (1 : Int))), zb, v93, zc, a93, n93_, c93, B93, h, N93, V93, rfl, rfl⟩ (agree_cons rfl (agree_cons rfl (agree_cons rfl (agree_cons rfl agree_nil)))) (pSub (pCons (sAA (sCC hC)) (pCons (sAA (sCC hC)) (pA pNil))))
   replace h := cf hc h
   refine wc_skip (wx_block (wx_then (wc_region (wP rfl rfl (wP (v := .int .i64 (IntKind.wrap .i64 (zh + (1 : Int)))) rfl rfl (wP rfl rfl (wl_nil ?_)))))))
   exact wx_round m11 (Nat.lt_succ_self m11) ⟨(IntKind.wrap .i64 (zh + (1 : Int))), zb, za, zc, ze, zd, zf, zg, h, zi, zj, rfl, rfl⟩ (agree_cons rfl (agree_cons rfl (agree_cons rfl (agree_cons rfl agree_nil)))) (pSub (pCons (sCC hC) (pCons (sCC hC) (pApp (sCC hA') pNil))))
  replace h := cf hx530 h
  rcases Bool.eq_false_or_eq_true ((IntKind.wrap .u8 ((1 : Int) - v20.Owner)) == (1 : Int)) with hx531 | hx531
  ·replace h := ct hx531 h
   refine wq_val (v := .pointer (some ⟨b1, 9, none⟩)) (val_ia (j := 1) tt_ok rfl rfl rfl rfl (by simpa using hx531) rfl rfl) rfl ?_
   refine wq_val (v := agP zb.2) (val_load tt_ok rfl (mTT mH) rfl) rfl ?_
   obtain ⟨v55, x55, h⟩ := bsome h
   refine wq_cq Tryz.call100 rfl rfl rfl (q_pf (k_hindcastref09_Box x55) (fun _ _ => trivial)) rfl ?_
   obtain ⟨v56, x56, h⟩ := bsome h
   refine wq_cq Tryz.call99 rfl rfl rfl (q_pf (k_hindcastref07_Over x56) (fun _ _ => trivial)) rfl ?_
   refine wq_nil (wx_then (wc_cond rfl (fun hc => ?_) (fun hc => ?_)))
   ·replace h := ct hc h
    refine wSR (wP rfl rfl (wP (v := .pointer (some ⟨b1, 2, none⟩)) rfl rfl (wl_val (v := .pointer (some ⟨b1, 9, none⟩)) (val_ia (j := 1) tt_ok rfl rfl rfl rfl (by simpa using hx531) rfl rfl) rfl (wP (v := .pointer (some ⟨b1, 13, none⟩)) rfl rfl (wl_val (v := .int .u8 zb.2.Health) (val_load tt_ok rfl (mTT mH) rfl) rfl (wP rfl rfl (wNT (wc_seq (wSR (wP rfl rfl (wP (v := .bool (decide (zb.2.Health < (10 : Int)))) rfl rfl (wNT ?_))))))))))))
    obtain ⟨zk, h, hj47⟩ := bsome h
    refine wc_join2 (fun E L => E = [(1, .pointer (some ⟨b1, 0, none⟩)), (2, .pointer (some ⟨b2, 0, none⟩)), (3, .slice p0a0 p0n0 p0c0), (4, .int .i64 zh), (5, .pointer (some ⟨b5, 0, none⟩)), (7, .int .u8 (IntKind.wrap .u8 ((1 : Int) - v20.Owner))), (8, .int .u8 zk)] ∧ L = (⟨b1, (.int .u64 p0.Frame :: .int .u64 p0.Seed :: pl14 zb [.slice ze zd zf, .int .u16 zc.1, .int .u16 zc.2]), 30, (0, 0)⟩ :: (⟨b2, [.int .u64 (0 : Int), .int .u64 (0 : Int), .int .i32 (0 : Int), .int .i32 (0 : Int), .int .i32 (0 : Int), .int .i32 (0 : Int), .int .u8 (0 : Int), .int .u8 (0 : Int), .int .u8 (0 : Int), .int .i32 (0 : Int), .int .i32 (0 : Int), .int .i32 (0 : Int), .int .i32 (0 : Int), .int .u8 (0 : Int), .int .u8 (0 : Int), .int .u8 (0 : Int), .slice none 0 0, .int .u16 (0 : Int), .int .u16 (0 : Int)], 30, (0, 0)⟩ :: (⟨b5, [.int .i32 (IntKind.wrap .i32 (v20.X + v20.VX)), .int .i32 (IntKind.wrap .i32 (v20.Y + v20.VY)), .int .i32 v20.VX, .int .i32 v20.VY, .int .u8 v20.Owner, .int .u8 (IntKind.wrap .u8 (v20.Life - (1 : Int)))], 93, (0, 0)⟩ :: (zg ++ []))))) ?_ ?_
    ·refine wc_cond rfl (fun hc => ?_) (fun hc => ?_)
     ·replace h := ct hc h
      refine wc_region (wP rfl rfl (wl_nil ?_))
      obtain rfl := sI h
      exact wx_join ⟨rfl, rfl⟩ (agree_cons rfl (agree_cons rfl (agree_cons rfl (agree_cons rfl (agree_cons rfl (agree_cons rfl (agree_cons rfl agree_nil))))))) (pSub (pCons (sCC hC) (pCons (sCC hC) (pS (qS pNil)))))
     replace h := cf hc h
     refine wc_skip ?_
     obtain rfl := sI h
     exact wx_join ⟨rfl, rfl⟩ (agree_cons rfl (agree_cons rfl (agree_cons rfl (agree_cons rfl (agree_cons rfl (agree_cons rfl (agree_cons rfl agree_nil))))))) (pSub (pCons (sCC hC) (pCons (sCC hC) (pS (qS pNil)))))
    rintro _ _ ⟨rfl, rfl⟩
    have h := hj47; clear hj47
    refine wSR ?_
    iterate 2 refine wP rfl rfl ?_
    refine wP (v := .int .u8 (IntKind.wrap .u8 (zk - (10 : Int)))) rfl rfl (wP (v := .pointer (some ⟨b1, 2, none⟩)) rfl rfl (wl_val (v := .pointer (some ⟨b1, 9, none⟩)) (val_ia (j := 1) tt_ok rfl rfl rfl rfl (by simpa using hx531) rfl rfl) rfl (wP (v := .pointer (some ⟨b1, 13, none⟩)) rfl rfl ?_)))
    apply wl_store tt_ok; rfl; exact Upd.here; rfl; rfl; rfl; rfl; rfl; rfl
    refine wNT (wc_seq (wSR (wP (v := .pointer (some ⟨b5, 4, none⟩)) rfl rfl (wl_val (v := .int .u8 v20.Owner) (val_load tt_ok rfl (mTT mH) rfl) rfl (wP (v := .pointer (some ⟨b1, 17, none⟩)) rfl rfl ?_)))))
    rcases Bool.eq_false_or_eq_true (v20.Owner == (0 : Int)) with hx730 | hx730
    ·replace h := ct hx730 h
     refine wl_val (v := .pointer (some ⟨b1, 17, none⟩)) (val_ia (j := 0) tt_ok rfl rfl rfl rfl (by simpa using hx730) rfl rfl) rfl ?_
     refine wl_val (v := .int .u16 zc.1) (val_load tt_ok rfl mH rfl) rfl ?_
     refine wP (v := .bool (decide (zc.1 < (65535 : Int)))) rfl rfl (wNT (wc_cond rfl (fun hc => ?_) (fun hc => ?_)))
     ·replace h := ct hc h
      refine wc_k2 (Ls := (⟨b1, (.int .u64 p0.Frame :: .int .u64 p0.Seed :: pl7 zb.1 [.int .i32 zb.2.X, .int .i32 zb.2.Y, .int .i32 zb.2.VX, .int .i32 zb.2.VY, .int .u8 (IntKind.wrap .u8 (zk - (10 : Int))), .int .u8 zb.2.Cool, .int .u8 zb.2.Face, .slice ze zd zf, .int .u16 zc.1, .int .u16 zc.2]), 30, (0, 0)⟩ :: (⟨b2, [.int .u64 (0 : Int), .int .u64 (0 : Int), .int .i32 (0 : Int), .int .i32 (0 : Int), .int .i32 (0 : Int), .int .i32 (0 : Int), .int .u8 (0 : Int), .int .u8 (0 : Int), .int .u8 (0 : Int), .int .i32 (0 : Int), .int .i32 (0 : Int), .int .i32 (0 : Int), .int .i32 (0 : Int), .int .u8 (0 : Int), .int .u8 (0 : Int), .int .u8 (0 : Int), .slice none 0 0, .int .u16 (0 : Int), .int .u16 (0 : Int)], 30, (0, 0)⟩ :: (⟨b5, [.int .i32 (IntKind.wrap .i32 (v20.X + v20.VX)), .int .i32 (IntKind.wrap .i32 (v20.Y + v20.VY)), .int .i32 v20.VX, .int .i32 v20.VY, .int .u8 v20.Owner, .int .u8 (IntKind.wrap .u8 (v20.Life - (1 : Int)))], 93, (0, 0)⟩ :: (zg ++ []))))) [10] [10] [0, 1, 0, 4, 0, 28, 60, 124, 0, 511, 1023] [0, 1, 2, 3, 4, 5, 6, 7, 8, 9, 10] (by kernel_rfl) (by kernel_rfl) (by kernel_rfl) ?_
      refine k_val (v := .pointer (some ⟨b5, 4, none⟩)) rfl rfl rfl (pSub (pHH (pH (pA pNil)))) (sV rfl) rfl (k_val (v := .int .u8 v20.Owner) rfl rfl rfl (pSub (pHH (pH (pA pNil)))) (val_load tt_ok rfl (mTT mH) rfl) rfl (k_val (v := .pointer (some ⟨b5, 4, none⟩)) rfl rfl rfl (pSub (pHH (pH (pA pNil)))) (sV rfl) rfl (k_val (v := .int .u8 v20.Owner) rfl rfl rfl (pSub (pHH (pH (pA pNil)))) (val_load tt_ok rfl (mTT mH) rfl) rfl ?_)))
      refine k_val (v := .pointer (some ⟨b1, 17, none⟩)) rfl rfl rfl (pSub (pHH (pH (pA pNil)))) (sV rfl) rfl (k_val (v := .pointer (some ⟨b1, 17, none⟩)) rfl rfl rfl (pSub (pHH (pH (pA pNil)))) (val_ia (j := 0) tt_ok rfl rfl rfl rfl (by simpa using hx730) rfl rfl) rfl (k_val (v := .int .u16 zc.1) rfl rfl rfl (pSub (pHH (pH (pA pNil)))) (val_load tt_ok rfl mH rfl) rfl (k_val (v := .int .u16 (IntKind.wrap .u16 (zc.1 + (1 : Int)))) rfl rfl rfl (pSub (pHH (pH (pA pNil)))) (sV rfl) rfl ?_)))
      refine k_val (v := .pointer (some ⟨b1, 17, none⟩)) rfl rfl rfl (pSub (pHH (pH (pA pNil)))) (sV rfl) rfl (k_val (v := .pointer (some ⟨b1, 17, none⟩)) rfl rfl rfl (pSub (pHH (pH (pA pNil)))) (val_ia (j := 0) tt_ok rfl rfl rfl rfl (by simpa using hx730) rfl rfl) rfl (k_chg0 rfl rfl rfl (chg_store tt_ok rfl Upd.here rfl rfl rfl rfl rfl rfl) (.inl rfl) ?_))
      rintro _ _ rfl
      refine k_end (by kernel_rfl) ?_
      refine wx_then (wc_exit (wx_then_exit (wx_block_exit (wx_then (wc_region (wP rfl rfl (wP (v := .int .i64 (IntKind.wrap .i64 (zh + (1 : Int)))) rfl rfl (wP rfl rfl (wl_nil ?_)))))))))
      exact wx_round m11 (Nat.lt_succ_self m11) ⟨(IntKind.wrap .i64 (zh + (1 : Int))), (zb.1, (T_api_Player.mk zb.2.X zb.2.Y zb.2.VX zb.2.VY (IntKind.wrap .u8 (zk - (10 : Int))) zb.2.Cool zb.2.Face)), za, ((IntKind.wrap .u16 (zc.1 + (1 : Int))), zc.2), ze, zd, zf, zg, h, zi, zj, rfl, rfl⟩ (agree_cons rfl (agree_cons rfl (agree_cons rfl (agree_cons rfl agree_nil)))) (pSub (pHH (qS pNil)))
     replace h := cf hc h
     refine wc_skip (wx_then (wc_exit (wx_then_exit (wx_block_exit (wx_then (wc_region (wP rfl rfl (wP (v := .int .i64 (IntKind.wrap .i64 (zh + (1 : Int)))) rfl rfl (wP rfl rfl (wl_nil ?_))))))))))
     exact wx_round m11 (Nat.lt_succ_self m11) ⟨(IntKind.wrap .i64 (zh + (1 : Int))), (zb.1, (T_api_Player.mk zb.2.X zb.2.Y zb.2.VX zb.2.VY (IntKind.wrap .u8 (zk - (10 : Int))) zb.2.Cool zb.2.Face)), za, zc, ze, zd, zf, zg, h, zi, zj, rfl, rfl⟩ (agree_cons rfl (agree_cons rfl (agree_cons rfl (agree_cons rfl agree_nil)))) (pSub (pHH (qS pNil)))
    replace h := cf hx730 h
    rcases Bool.eq_false_or_eq_true (v20.Owner == (1 : Int)) with hx731 | hx731
    ·replace h := ct hx731 h
     refine wl_val (v := .pointer (some ⟨b1, 18, none⟩)) (val_ia (j := 1) tt_ok rfl rfl rfl rfl (by simpa using hx731) rfl rfl) rfl ?_
     refine wl_val (v := .int .u16 zc.2) (val_load tt_ok rfl mH rfl) rfl ?_
     refine wP (v := .bool (decide (zc.2 < (65535 : Int)))) rfl rfl (wNT (wc_cond rfl (fun hc => ?_) (fun hc => ?_)))
     ·replace h := ct hc h
      refine wc_k2 (Ls := (⟨b1, (.int .u64 p0.Frame :: .int .u64 p0.Seed :: pl7 zb.1 [.int .i32 zb.2.X, .int .i32 zb.2.Y, .int .i32 zb.2.VX, .int .i32 zb.2.VY, .int .u8 (IntKind.wrap .u8 (zk - (10 : Int))), .int .u8 zb.2.Cool, .int .u8 zb.2.Face, .slice ze zd zf, .int .u16 zc.1, .int .u16 zc.2]), 30, (0, 0)⟩ :: (⟨b2, [.int .u64 (0 : Int), .int .u64 (0 : Int), .int .i32 (0 : Int), .int .i32 (0 : Int), .int .i32 (0 : Int), .int .i32 (0 : Int), .int .u8 (0 : Int), .int .u8 (0 : Int), .int .u8 (0 : Int), .int .i32 (0 : Int), .int .i32 (0 : Int), .int .i32 (0 : Int), .int .i32 (0 : Int), .int .u8 (0 : Int), .int .u8 (0 : Int), .int .u8 (0 : Int), .slice none 0 0, .int .u16 (0 : Int), .int .u16 (0 : Int)], 30, (0, 0)⟩ :: (⟨b5, [.int .i32 (IntKind.wrap .i32 (v20.X + v20.VX)), .int .i32 (IntKind.wrap .i32 (v20.Y + v20.VY)), .int .i32 v20.VX, .int .i32 v20.VY, .int .u8 v20.Owner, .int .u8 (IntKind.wrap .u8 (v20.Life - (1 : Int)))], 93, (0, 0)⟩ :: (zg ++ []))))) [10] [10] [0, 1, 0, 4, 0, 28, 60, 124, 0, 511, 1023] [0, 1, 2, 3, 4, 5, 6, 7, 8, 9, 10] (by kernel_rfl) (by kernel_rfl) (by kernel_rfl) ?_
      refine k_val (v := .pointer (some ⟨b5, 4, none⟩)) rfl rfl rfl (pSub (pHH (pH (pA pNil)))) (sV rfl) rfl (k_val (v := .int .u8 v20.Owner) rfl rfl rfl (pSub (pHH (pH (pA pNil)))) (val_load tt_ok rfl (mTT mH) rfl) rfl (k_val (v := .pointer (some ⟨b5, 4, none⟩)) rfl rfl rfl (pSub (pHH (pH (pA pNil)))) (sV rfl) rfl (k_val (v := .int .u8 v20.Owner) rfl rfl rfl (pSub (pHH (pH (pA pNil)))) (val_load tt_ok rfl (mTT mH) rfl) rfl ?_)))
      refine k_val (v := .pointer (some ⟨b1, 17, none⟩)) rfl rfl rfl (pSub (pHH (pH (pA pNil)))) (sV rfl) rfl (k_val (v := .pointer (some ⟨b1, 18, none⟩)) rfl rfl rfl (pSub (pHH (pH (pA pNil)))) (val_ia (j := 1) tt_ok rfl rfl rfl rfl (by simpa using hx731) rfl rfl) rfl (k_val (v := .int .u16 zc.2) rfl rfl rfl (pSub (pHH (pH (pA pNil)))) (val_load tt_ok rfl mH rfl) rfl (k_val (v := .int .u16 (IntKind.wrap .u16 (zc.2 + (1 : Int)))) rfl rfl rfl (pSub (pHH (pH (pA pNil)))) (sV rfl) rfl ?_)))
      refine k_val (v := .pointer (some ⟨b1, 17, none⟩)) rfl rfl rfl (pSub (pHH (pH (pA pNil)))) (sV rfl) rfl (k_val (v := .pointer (some ⟨b1, 18, none⟩)) rfl rfl rfl (pSub (pHH (pH (pA pNil)))) (val_ia (j := 1) tt_ok rfl rfl rfl rfl (by simpa using hx731) rfl rfl) rfl (k_chg0 rfl rfl rfl (chg_store tt_ok rfl Upd.here rfl rfl rfl rfl rfl rfl) (.inl rfl) ?_))
      rintro _ _ rfl
      refine k_end (by kernel_rfl) ?_
      refine wx_then (wc_exit (wx_then_exit (wx_block_exit (wx_then (wc_region (wP rfl rfl (wP (v := .int .i64 (IntKind.wrap .i64 (zh + (1 : Int)))) rfl rfl (wP rfl rfl (wl_nil ?_)))))))))
      exact wx_round m11 (Nat.lt_succ_self m11) ⟨(IntKind.wrap .i64 (zh + (1 : Int))), (zb.1, (T_api_Player.mk zb.2.X zb.2.Y zb.2.VX zb.2.VY (IntKind.wrap .u8 (zk - (10 : Int))) zb.2.Cool zb.2.Face)), za, (zc.1, (IntKind.wrap .u16 (zc.2 + (1 : Int)))), ze, zd, zf, zg, h, zi, zj, rfl, rfl⟩ (agree_cons rfl (agree_cons rfl (agree_cons rfl (agree_cons rfl agree_nil)))) (pSub (pHH (qS pNil)))
     replace h := cf hc h
     refine wc_skip (wx_then (wc_exit (wx_then_exit (wx_block_exit (wx_then (wc_region (wP rfl rfl (wP (v := .int .i64 (IntKind.wrap .i64 (zh + (1 : Int)))) rfl rfl (wP rfl rfl (wl_nil ?_))))))))))
     exact wx_round m11 (Nat.lt_succ_self m11) ⟨(IntKind.wrap .i64 (zh + (1 : Int))), (zb.1, (T_api_Player.mk zb.2.X zb.2.Y zb.2.VX zb.2.VY (IntKind.wrap .u8 (zk - (10 : Int))) zb.2.Cool zb.2.Face)), za, zc, ze, zd, zf, zg, h, zi, zj, rfl, rfl⟩ (agree_cons rfl (agree_cons rfl (agree_cons rfl (agree_cons rfl agree_nil)))) (pSub (pHH (qS pNil)))
    replace h := cf hx731 h
    cases h
   replace h := cf hc h
   refine wc_skip (wx_then (wSR (wP (v := .pointer (some ⟨b5, 5, none⟩)) rfl rfl (wl_val (v := .int .u8 (IntKind.wrap .u8 (v20.Life - (1 : Int)))) (val_load tt_ok rfl (mT mH) rfl) rfl (wP (v := .bool (decide ((0 : Int) < (IntKind.wrap .u8 (v20.Life - (1 : Int)))))) rfl rfl (wNT (wc_cond rfl (fun hc => ?_) (fun hc => ?_))))))))
   ·replace h := ct hc h
    refine wc_region (wP (v := .pointer (some ⟨b1, 16, none⟩)) rfl rfl (wl_val (v := .slice ze zd zf) (val_load tt_ok rfl (mTT mH) rfl) rfl (wl_val (v := .agg #[.int .i32 (IntKind.wrap .i32 (v20.X + v20.VX)), .int .i32 (IntKind.wrap .i32 (v20.Y + v20.VY)), .int .i32 v20.VX, .int .i32 v20.VY, .int .u8 v20.Owner, .int .u8 (IntKind.wrap .u8 (v20.Life - (1 : Int)))]) (val_load tt_ok rfl (mT mH) rfl) rfl (wl_chg (chg_bsv (enc := c_T_api_Shot) (xs := ([(T_api_Shot.mk (IntKind.wrap .i32 (v20.X + v20.VX)) (IntKind.wrap .i32 (v20.Y + v20.VY)) v20.VX v20.VY v20.Owner (IntKind.wrap .u8 (v20.Life - (1 : Int))))] : List T_api_Shot)) tt_ok rfl rfl rfl rfl rfl rfl rfl rfl c_T_api_Shot_len) rfl ?_))))
    rintro _ _ ⟨a92, n92_, c92, B92, rfl, N92, V92, rfl⟩
    obtain ⟨v93, x93, h⟩ := bsome h
    refine wl_chg (chg_app (enc := c_T_api_Shot) (ys := ([(T_api_Shot.mk (IntKind.wrap .i32 (v20.X + v20.VX)) (IntKind.wrap .i32 (v20.Y + v20.VY)) v20.VX v20.VY v20.Owner (IntKind.wrap .u8 (v20.Life - (1 : Int))))] : List T_api_Shot)) tt_ok rfl rfl rfl rfl rfl rfl zi N92 zj (sA (sCC (sCC hA'))) (Rds.of_vec V92) ⟨_, hA'⟩ c_T_api_Shot_len (fun _ => rfl) rfl x93) rfl ?_
    rintro _ _ ⟨a93, n93_, c93, B93, rfl, N93, V93, rfl⟩
    refine wP (v := .pointer (some ⟨b1, 16, none⟩)) rfl rfl ?_
    apply wl_store tt_ok; rfl; exact (Upd.right (Upd.right (Upd.there (Upd.there Upd.here)))); rfl; rfl; rfl; rfl; rfl; rfl
    refine wl_nil (wx_block (wx_then (wc_region (wP rfl rfl (wP (v := .int .i64 (IntKind.wrap .i64 (zh + (1 : Int)))) rfl rfl (wP rfl rfl (wl_nil ?_)))))))
    exact wx_round m11 (Nat.lt_succ_self m11) ⟨(IntKind.wrap .i64 (zh + (1 : Int))), zb, v93, zc, a93, n93_, c93, B93, h, N93, V93, rfl, rfl⟩ (agree_cons rfl (agree_cons rfl (agree_cons rfl (agree_cons rfl agree_nil)))) (pSub (pCons (sAA (sCC hC)) (pCons (sAA (sCC hC)) (pA pNil))))
   replace h := cf hc h
   refine wc_skip (wx_block (wx_then (wc_region (wP rfl rfl (wP (v := .int .i64 (IntKind.wrap .i64 (zh + (1 : Int)))) rfl rfl (wP rfl rfl (wl_nil ?_)))))))
   exact wx_round m11 (Nat.lt_succ_self m11) ⟨(IntKind.wrap .i64 (zh + (1 : Int))), zb, za, zc, ze, zd, zf, zg, h, zi, zj, rfl, rfl⟩ (agree_cons rfl (agree_cons rfl (agree_cons rfl (agree_cons rfl agree_nil)))) (pSub (pCons (sCC hC) (pCons (sCC hC) (pApp (sCC hA') pNil))))
  replace h := cf hx531 h
  cases h
 replace h := cf hc h
 refine wc_exit (wx_then_exit ?_)
 obtain ⟨rfl, rfl, rfl⟩ := pJ3 h
 have h := hl11; clear hl11; try dsimp only [orE_l, orE_r] at h
 refine wx_then_exit (wx_block_exit (wx_then (wSR ?_)))
 refine wl_val (v := .agg #[.int .u64 p0.Frame, .int .u64 p0.Seed, .int .i32 zb.1.X, .int .i32 zb.1.Y, .int .i32 zb.1.VX, .int .i32 zb.1.VY, .int .u8 zb.1.Health, .int .u8 zb.1.Cool, .int .u8 zb.1.Face, .int .i32 zb.2.X, .int .i32 zb.2.Y, .int .i32 zb.2.VX, .int .i32 zb.2.VY, .int .u8 zb.2.Health, .int .u8 zb.2.Cool, .int .u8 zb.2.Face, .slice ze zd zf, .int .u16 zc.1, .int .u16 zc.2]) (val_load tt_ok rfl mH rfl) rfl ?_
 apply wl_store tt_ok; rfl; exact (Upd.there Upd.here); rfl; rfl; rfl; rfl; rfl; rfl
 refine wNT (wc_ret ?_)
 obtain rfl := sI h
 exact wx_spD tt_ok (.inl rfl) Tryz.results78 (Res.cell rfl (mT mH) rfl Res.nil) ⟨ze, zd, zf, zg, zi, zj, rfl, rfl⟩ (fun F => by simp) (pSub (pApp (sCC hA') pNil))

theorem k_hindcastref05_Stride {F : Nat} {r0 : Int} (h : m_hindcastref05_Stride F = some r0) :
    Pf Tryz.prog 115 [] (fun w => True) (.int .u64 r0) := by
 unfold m_hindcastref05_Stride at h
 refine pf_of_wc Tryz.func115 rfl Tryz.ntmps115 rfl rfl (fun w0 hR => ?_)
 refine wSR (wP rfl rfl (wNT (wSR (wP rfl rfl (wNT (wc_ret ?_))))))
 obtain rfl := sI h
 exact wx_pf tt_ok (.inl rfl) Tryz.results115 (Res.tmp rfl Res.nil) rfl

theorem k_hindcastref05_Mix {F : Nat} {p0 : Int} {r0 : Int} (h : m_hindcastref05_Mix F p0 = some r0) :
    Pf Tryz.prog 116 [.int .u64 p0] (fun w => True) (.int .u64 r0) := by
 unfold m_hindcastref05_Mix at h
 refine pf_of_wc Tryz.func116 rfl Tryz.ntmps116 rfl rfl (fun w0 hR => ?_)
 refine wSR (wP rfl rfl (wNT (wSR ?_)))
 iterate 2 refine wP rfl rfl ?_
 refine wP (v := .int .u64 (p0 / 2 ^ (min 30 (IntKind.bits .u64)))) rfl rfl (wP (v := .int .u64 (bits .xor .u64 p0 (p0 / 2 ^ (min 30 (IntKind.bits .u64))))) rfl rfl (wP rfl rfl (wNT (wSR (wP rfl rfl (wP (v := .int .u64 (IntKind.wrap .u64 ((bits .xor .u64 p0 (p0 / 2 ^ (min 30 (IntKind.bits .u64)))) * (13787848793156543929 : Int)))) rfl rfl (wP rfl rfl (wNT (wSR ?_)))))))))
 iterate 2 refine wP rfl rfl ?_
 refine wP (v := .int .u64 ((IntKind.wrap .u64 ((bits .xor .u64 p0 (p0 / 2 ^ (min 30 (IntKind.bits .u64)))) * (13787848793156543929 : Int))) / 2 ^ (min 27 (IntKind.bits .u64)))) rfl rfl (wP (v := .int .u64 (bits .xor .u64 (IntKind.wrap .u64 ((bits .xor .u64 p0 (p0 / 2 ^ (min 30 (IntKind.bits .u64)))) * (13787848793156543929 : Int))) ((IntKind.wrap .u64 ((bits .xor .u64 p0 (p0 / 2 ^ (min 30 (IntKind.bits .u64)))) * (13787848793156543929 : Int))) / 2 ^ (min 27 (IntKind.bits .u64))))) rfl rfl (wP rfl rfl (wNT (wSR (wP rfl rfl (wP (v := .int .u64 (IntKind.wrap .u64 ((bits .xor .u64 (IntKind.wrap .u64 ((bits .xor .u64 p0 (p0 / 2 ^ (min 30 (IntKind.bits .u64)))) * (13787848793156543929 : Int))) ((IntKind.wrap .u64 ((bits .xor .u64 p0 (p0 / 2 ^ (min 30 (IntKind.bits .u64)))) * (13787848793156543929 : Int))) / 2 ^ (min 27 (IntKind.bits .u64)))) * (10723151780598845931 : Int)))) rfl rfl ?_))))))
 refine wP rfl rfl (wNT (wSR ?_))
 iterate 2 refine wP rfl rfl ?_
 refine wP (v := .int .u64 ((IntKind.wrap .u64 ((bits .xor .u64 (IntKind.wrap .u64 ((bits .xor .u64 p0 (p0 / 2 ^ (min 30 (IntKind.bits .u64)))) * (13787848793156543929 : Int))) ((IntKind.wrap .u64 ((bits .xor .u64 p0 (p0 / 2 ^ (min 30 (IntKind.bits .u64)))) * (13787848793156543929 : Int))) / 2 ^ (min 27 (IntKind.bits .u64)))) * (10723151780598845931 : Int))) / 2 ^ (min 31 (IntKind.bits .u64)))) rfl rfl (wP (v := .int .u64 (bits .xor .u64 (IntKind.wrap .u64 ((bits .xor .u64 (IntKind.wrap .u64 ((bits .xor .u64 p0 (p0 / 2 ^ (min 30 (IntKind.bits .u64)))) * (13787848793156543929 : Int))) ((IntKind.wrap .u64 ((bits .xor .u64 p0 (p0 / 2 ^ (min 30 (IntKind.bits .u64)))) * (13787848793156543929 : Int))) / 2 ^ (min 27 (IntKind.bits .u64)))) * (10723151780598845931 : Int))) ((IntKind.wrap .u64 ((bits .xor .u64 (IntKind.wrap .u64 ((bits .xor .u64 p0 (p0 / 2 ^ (min 30 (IntKind.bits .u64)))) * (13787848793156543929 : Int))) ((IntKind.wrap .u64 ((bits .xor .u64 p0 (p0 / 2 ^ (min 30 (IntKind.bits .u64)))) * (13787848793156543929 : Int))) / 2 ^ (min 27 (IntKind.bits .u64)))) * (10723151780598845931 : Int))) / 2 ^ (min 31 (IntKind.bits .u64))))) rfl rfl ?_)
 refine wP rfl rfl (wNT (wc_ret ?_))
 obtain rfl := sI h
 exact wx_pf tt_ok (.inl rfl) Tryz.results116 (Res.tmp rfl Res.nil) rfl

theorem k_hindcastref05_Next {F : Nat} {p0 : Int} {r0 : Int} {r1 : Int} (h : m_hindcastref05_Next F p0 = some (r0, r1)) :
    Pf Tryz.prog 111 [.int .u64 p0] (fun w => True) (.tuple #[.int .u64 r0, .int .u64 r1]) := by
 unfold m_hindcastref05_Next at h
 refine pf_of_wc Tryz.func111 rfl Tryz.ntmps111 rfl rfl (fun w0 hR => ?_)
 refine wSR ?_
 iterate 2 refine wP rfl rfl ?_
 refine wNT (wSR (wP rfl rfl ?_))
 obtain ⟨v5, x5, h⟩ := bsome h
 refine wl_cq Tryz.call115 rfl rfl rfl (q_pf (k_hindcastref05_Stride x5) (fun _ _ => trivial)) rfl ?_
 refine wP (v := .int .u64 (IntKind.wrap .u64 (p0 + v5))) rfl rfl (wP rfl rfl (wNT (wSR (wP rfl rfl ?_))))
 obtain ⟨v8, x8, h⟩ := bsome h
 refine wl_cq Tryz.call116 rfl rfl rfl (q_pf (k_hindcastref05_Mix x8) (fun _ _ => trivial)) rfl ?_
 iterate 3 refine wP rfl rfl ?_
 refine wNT (wc_ret ?_)
 obtain ⟨rfl, rfl⟩ := pJ2 h
 exact wx_pf tt_ok (.inl rfl) Tryz.results111 (Res.tmp rfl (Res.tmp rfl Res.nil)) rfl

theorem k_hindcastref05_Below {F : Nat} {p0 : Int} {p1 : Int} {r0 : Int} {r1 : Int} (h : m_hindcastref05_Below F p0 p1 = some (r0, r1)) :
    Pf Tryz.prog 102 [.int .u64 p0, .int .i64 p1] (fun w => True) (.tuple #[.int .i64 r0, .int .u64 r1]) := by
 unfold m_hindcastref05_Below at h
 refine pf_of_wc Tryz.func102 rfl Tryz.ntmps102 rfl rfl (fun w0 hR => ?_)
 refine wSR ?_
 iterate 2 refine wP rfl rfl ?_
 refine wNT (wc_seq (wSR (wP rfl rfl (wP (v := .bool (decide (p1 < (1 : Int)))) rfl rfl (wNT (wc_cond rfl (fun hc => ?_) (fun hc => ?_)))))))
 ·replace h := ct hc h
  refine wSR ?_
  iterate 3 refine wP rfl rfl ?_
  refine wNT (wc_ret (wx_then_ret ?_))
  obtain ⟨rfl, rfl⟩ := pJ2 h
  exact wx_pf tt_ok (.inl rfl) Tryz.results102 (Res.tmp rfl (Res.tmp rfl Res.nil)) rfl
 replace h := cf hc h
 refine wc_skip (wx_then (wc_seq (wSR (wP rfl rfl (wP (v := .bool (decide ((2147483648 : Int) < p1))) rfl rfl (wNT ?_))))))
 obtain ⟨za, h, hj14⟩ := bsome h
 refine wc_join2 (fun E L => E = [(0, .int .u64 p0), (1, .int .i64 za), (4, .int .i64 (0 : Int)), (5, .int .u64 (0 : Int))] ∧ L = []) ?_ ?_
 ·refine wc_cond rfl (fun hc => ?_) (fun hc => ?_)
  ·replace h := ct hc h
   refine wc_region (wP rfl rfl (wl_nil ?_))
   obtain rfl := sI h
   exact wx_join ⟨rfl, rfl⟩ (agree_cons rfl (agree_cons rfl (agree_cons rfl (agree_cons rfl agree_nil)))) (pSub pNil)
  replace h := cf hc h
  refine wc_skip ?_
  obtain rfl := sI h
  exact wx_join ⟨rfl, rfl⟩ (agree_cons rfl (agree_cons rfl (agree_cons rfl (agree_cons rfl agree_nil)))) (pSub pNil)
 rintro _ _ ⟨rfl, rfl⟩
 have h := hj14; clear hj14
 refine wSR (wP rfl rfl ?_)
 replace h := bsome h; obtain ⟨⟨zb, zc⟩, x15, h⟩ := h; try dsimp only at h
 refine wl_cq Tryz.call111 rfl rfl rfl (q_pf (k_hindcastref05_Next x15) (fun _ _ => trivial)) rfl ?_
 iterate 5 refine wP rfl rfl ?_
 refine wNT (wSR (wP rfl rfl (wP (v := .int .u64 (IntKind.wrap .u64 (Int.tdiv zb 4294967296))) rfl rfl (wP rfl rfl (wNT (wSR ?_))))))
 iterate 2 refine wP rfl rfl ?_
 refine wP (v := .int .u64 (IntKind.wrap .u64 za)) rfl rfl (wP (v := .int .u64 (IntKind.wrap .u64 ((IntKind.wrap .u64 (Int.tdiv zb 4294967296)) * (IntKind.wrap .u64 za)))) rfl rfl (wP rfl rfl (wNT (wSR (wP rfl rfl (wP (v := .int .u64 (IntKind.wrap .u64 (Int.tdiv (IntKind.wrap .u64 ((IntKind.wrap .u64 (Int.tdiv zb 4294967296)) * (IntKind.wrap .u64 za))) 4294967296))) rfl rfl (wP (v := .int .i64 (IntKind.wrap .i64 (IntKind.wrap .u64 (Int.tdiv (IntKind.wrap .u64 ((IntKind.wrap .u64 (Int.tdiv zb 4294967296)) * (IntKind.wrap .u64 za))) 4294967296)))) rfl rfl ?_)))))))
 iterate 3 refine wP rfl rfl ?_
 refine wNT (wc_ret ?_)
 obtain ⟨rfl, rfl⟩ := pJ2 h
 exact wx_pf tt_ok (.inl rfl) Tryz.results102 (Res.tmp rfl (Res.tmp rfl Res.nil)) rfl

theorem k_hindcastref09_five_o0 {F : Nat} {p0 : T_api_State} {p0a0 : Option Addr} {p0n0 p0c0 : Nat} {p0B0 : List Blk} {p1 : Int} {r0 : T_api_State} (p0N0 : p0n0 = p0.Shots.length) (p0V0 : Own 93 6 p0a0 p0n0 p0c0 (flat c_T_api_Shot p0.Shots) p0B0) (h : m_hindcastref09_five_o0 F p0 p1 = some r0) :
    SpD Tryz.prog 79 [agS p0 p0a0 p0n0 p0c0, .int .i64 p1] (p0B0 ++ []) (fun w => True) (fun v D => ∃ (r0a0 : Option Addr) (r0n0 r0c0 : Nat) (r0B0 : List Blk), r0n0 = r0.Shots.length ∧ Own 93 6 r0a0 r0n0 r0c0 (flat c_T_api_Shot r0.Shots) r0B0 ∧ v = agS r0 r0a0 r0n0 r0c0 ∧ D = fun F => (r0B0 ++ F)) := by
 unfold m_hindcastref09_five_o0 at h
 refine sp_of_wc Tryz.func79 rfl Tryz.ntmps79 rfl rfl (fun w0 hR => ?_)
 refine wSR (wl_box rfl rfl rfl (fun b2 => (wl_alloc tt_ok rfl rfl (fun b4 => (wNT (wc_seq (wSR (wP rfl rfl (wP (v := .pointer (some ⟨b2, 2, none⟩)) rfl rfl ?_)))))))))
 rcases Bool.eq_false_or_eq_true (p1 == (0 : Int)) with hx130 | hx130
 ·replace h := ct hx130 h
  refine wl_val (v := .pointer (some ⟨b2, 2, none⟩)) (val_ia (j := 0) tt_ok rfl rfl rfl rfl (by simpa using hx130) rfl rfl) rfl ?_
  refine wP (v := .pointer (some ⟨b2, 6, none⟩)) rfl rfl (wl_val (v := .int .u8 p0.Players.1.Health) (val_load tt_ok rfl (mT mH) rfl) rfl (wP (v := .bool (decide ((0 : Int) < p0.Players.1.Health))) rfl rfl (wNT (wc_cond rfl (fun hc => ?_) (fun hc => ?_)))))
  ·replace h := ct hc h
   refine wSR (wl_val (v := agS p0 p0a0 p0n0 p0c0) (val_load tt_ok rfl (mT mH) rfl) rfl ?_)
   apply wl_store tt_ok; rfl; exact Upd.here; rfl; rfl; rfl; rfl; rfl; rfl
   refine wNT (wc_ret (wx_then_ret ?_))
   obtain rfl := sI h
   exact wx_spD tt_ok (.inl rfl) Tryz.results79 (Res.cell rfl mH rfl Res.nil) ⟨p0a0, p0n0, p0c0, p0B0, p0N0, p0V0, rfl, rfl⟩ (fun F => by simp) (pSub (pApp (sCC hA') pNil))
  replace h := cf hc h
  refine wc_skip (wx_then (wSR (wP rfl rfl (wP (v := .pointer (some ⟨b2, 2, none⟩)) rfl rfl (wl_val (v := .pointer (some ⟨b2, 2, none⟩)) (val_ia (j := 0) tt_ok rfl rfl rfl rfl (by simpa using hx130) rfl rfl) rfl (wl_val (v := agP p0.Players.1) (val_load tt_ok rfl (mT mH) rfl) rfl (wl_alloc tt_ok rfl rfl (fun b5 => ?_))))))))
  apply wl_store tt_ok; rfl; exact Upd.here; rfl; rfl; rfl; rfl; rfl; rfl
  refine wNT (wSR (wP (v := .pointer (some ⟨b5, 4, none⟩)) rfl rfl ?_))
  apply wl_store tt_ok; rfl; exact Upd.here; rfl; rfl; rfl; rfl; rfl; rfl
  refine wNT (wSR (wP (v := .pointer (some ⟨b5, 2, none⟩)) rfl rfl ?_))
  apply wl_store tt_ok; rfl; exact Upd.here; rfl; rfl; rfl; rfl; rfl; rfl
  refine wNT (wSR (wP (v := .pointer (some ⟨b5, 3, none⟩)) rfl rfl ?_))
  apply wl_store tt_ok; rfl; exact Upd.here; rfl; rfl; rfl; rfl; rfl; rfl
  refine wNT (wSR (wP (v := .pointer (some ⟨b2, 1, none⟩)) rfl rfl (wl_val (v := .int .u64 p0.Seed) (val_load tt_ok rfl (mTT mH) rfl) rfl ?_)))
  replace h := bsome h; obtain ⟨⟨zb, ze⟩, x28, h⟩ := h; try dsimp only at h
  refine wl_cq Tryz.call102 rfl rfl rfl (q_pf (k_hindcastref05_Below x28) (fun _ _ => trivial)) rfl ?_
  iterate 5 refine wP rfl rfl ?_
  refine wNT (wSR (wP rfl rfl ?_))
  replace h := bsome h; obtain ⟨⟨zc, zd⟩, x33, h⟩ := h; try dsimp only at h
  refine wl_cq Tryz.call102 rfl rfl rfl (q_pf (k_hindcastref05_Below x33) (fun _ _ => trivial)) rfl ?_
  iterate 5 refine wP rfl rfl ?_
  refine wNT (wSR (wP rfl rfl (wP (v := .pointer (some ⟨b2, 1, none⟩)) rfl rfl ?_)))
  apply wl_store tt_ok; rfl; exact (Upd.there (Upd.there Upd.here)); rfl; rfl; rfl; rfl; rfl; rfl
  refine wNT (wSR (wl_val (v := .agg #[.int .i32 p0.Players.1.X, .int .i32 p0.Players.1.Y, .int .i32 (0 : Int), .int .i32 (0 : Int), .int .u8 (100 : Int), .int .u8 p0.Players.1.Cool, .int .u8 p0.Players.1.Face]) (val_load tt_ok rfl mH rfl) rfl (wl_alloc tt_ok rfl rfl (fun b10 => ?_))))
  apply wl_store tt_ok; rfl; exact Upd.here; rfl; rfl; rfl; rfl; rfl; rfl
  refine wNT (wSR (wP rfl rfl (wP (v := .int .i32 (IntKind.wrap .i32 zb)) rfl rfl (wP (v := .pointer (some ⟨b10, 0, none⟩)) rfl rfl ?_))))
  apply wl_store tt_ok; rfl; exact Upd.here; rfl; rfl; rfl; rfl; rfl; rfl
  refine wNT (wSR (wP rfl rfl (wP (v := .int .i32 (IntKind.wrap .i32 zc)) rfl rfl (wP (v := .pointer (some ⟨b10, 1, none⟩)) rfl rfl ?_))))
  apply wl_store tt_ok; rfl; exact Upd.here; rfl; rfl; rfl; rfl; rfl; rfl
  refine wNT (wSR (wP rfl rfl (wl_val (v := .agg #[.int .i32 (IntKind.wrap .i32 zb), .int .i32 (IntKind.wrap .i32 zc), .int .i32 (0 : Int), .int .i32 (0 : Int), .int .u8 (100 : Int), .int .u8 p0.Players.1.Cool, .int .u8 p0.Players.1.Face]) (val_load tt_ok rfl mH rfl) rfl (wP (v := .pointer (some ⟨b2, 2, none⟩)) rfl rfl (wl_val (v := .pointer (some ⟨b2, 2, none⟩)) (val_ia (j := 0) tt_ok rfl rfl rfl rfl (by simpa using hx130) rfl rfl) rfl ?_)))))
  apply wl_store tt_ok; rfl; exact (Upd.there (Upd.there (Upd.there Upd.here))); rfl; rfl; rfl; rfl; rfl; rfl
  refine wNT (wc_seq (wc_seq (wc_quiet (by kernel_rfl) (by kernel_rfl) (wq_val (v := .agg #[.int .i32 (IntKind.wrap .i32 zb), .int .i32 (IntKind.wrap .i32 zc), .int .i32 (0 : Int), .int .i32 (0 : Int), .int .u8 (100 : Int), .int .u8 p0.Players.1.Cool, .int .u8 p0.Players.1.Face]) (val_load tt_ok rfl mH rfl) rfl ?_))))
  obtain ⟨v50, x50, h⟩ := bsome h
  refine wq_cq Tryz.call100 rfl rfl rfl (q_pf (k_hindcastref09_Box x50) (fun _ _ => trivial)) rfl ?_
  refine qP rfl rfl (qP (v := .int .i64 (IntKind.wrap .i64 ((1 : Int) - p1))) rfl rfl (qP (v := .pointer (some ⟨b2, 2, none⟩)) rfl rfl ?_))
  rcases Bool.eq_false_or_eq_true ((IntKind.wrap .i64 ((1 : Int) - p1)) == (0 : Int)) with hx540 | hx540
  ·replace h := ct hx540 h
   refine wq_val (v := .pointer (some ⟨b2, 2, none⟩)) (val_ia (j := 0) tt_ok rfl rfl rfl rfl (by simpa using hx540) rfl rfl) rfl ?_
   refine wq_val (v := .agg #[.int .i32 (IntKind.wrap .i32 zb), .int .i32 (IntKind.wrap .i32 zc), .int .i32 (0 : Int), .int .i32 (0 : Int), .int .u8 (100 : Int), .int .u8 p0.Players.1.Cool, .int .u8 p0.Players.1.Face]) (val_load tt_ok rfl (mTT (mT mH)) rfl) rfl ?_
   obtain ⟨v56, x56, h⟩ := bsome h
   refine wq_cq Tryz.call100 rfl rfl rfl (q_pf (k_hindcastref09_Box x56) (fun _ _ => trivial)) rfl ?_
   obtain ⟨v57, x57, h⟩ := bsome h
   refine wq_cq Tryz.call99 rfl rfl rfl (q_pf (k_hindcastref07_Over x57) (fun _ _ => trivial)) rfl ?_
   refine wq_nil (wx_then ?_)
   obtain ⟨za, h, hj36⟩ := bsome h
   refine wc_join2 (fun E L => E = [(2, .pointer (some ⟨b2, 0, none⟩)), (4, .pointer (some ⟨b4, 0, none⟩))] ∧ L = (⟨b2, (.int .u64 p0.Frame :: .int .u64 zd :: pl14 za [.slice p0a0 p0n0 p0c0, .int .u16 p0.Score.1, .int .u16 p0.Score.2]), 30, (0, 0)⟩ :: (⟨b4, [.int .u64 (0 : Int), .int .u64 (0 : Int), .int .i32 (0 : Int), .int .i32 (0 : Int), .int .i32 (0 : Int), .int .i32 (0 : Int), .int .u8 (0 : Int), .int .u8 (0 : Int), .int .u8 (0 : Int), .int .i32 (0 : Int), .int .i32 (0 : Int), .int .i32 (0 : Int), .int .i32 (0 : Int), .int .u8 (0 : Int), .int .u8 (0 : Int), .int .u8 (0 : Int), .slice none 0 0, .int .u16 (0 : Int), .int .u16 (0 : Int)], 30, (0, 0)⟩ :: (p0B0 ++ [])))) ?_ ?_
   ·refine wc_cond rfl (fun hc => ?_) (fun hc => ?_)
    ·replace h := ct hc h
     refine wc_region (wP rfl rfl (wl_val (v := .agg #[.int .i32 p0.Players.1.X, .int .i32 p0.Players.1.Y, .int .i32 (0 : Int), .int .i32 (0 : Int), .int .u8 (100 : Int), .int .u8 p0.Players.1.Cool, .int .u8 p0.Players.1.Face]) (val_load tt_ok rfl (mT mH) rfl) rfl (wP (v := .pointer (some ⟨b2, 2, none⟩)) rfl rfl (wl_val (v := .pointer (some ⟨b2, 2, none⟩)) (val_ia (j := 0) tt_ok rfl rfl rfl rfl (by simpa using hx130) rfl rfl) rfl ?_))))
     apply wl_store tt_ok; rfl; exact (Upd.there (Upd.there (Upd.there Upd.here))); rfl; rfl; rfl; rfl; rfl; rfl
     refine wl_nil ?_
     obtain rfl := sI h
     exact wx_join ⟨rfl, rfl⟩ (agree_cons rfl (agree_cons rfl agree_nil)) (pSub (pCons (sCC (sC hC)) (pCons (sCC hC) (pApp (sCC hA') pNil))))
    replace h := cf hc h
    refine wc_skip ?_
    obtain rfl := sI h
    exact wx_join ⟨rfl, rfl⟩ (agree_cons rfl (agree_cons rfl agree_nil)) (pSub (pCons (sCC (sC hC)) (pCons (sCC hC) (pApp (sCC hA') pNil))))
   rintro _ _ ⟨rfl, rfl⟩
   have h := hj36; clear hj36
   refine wSR (wl_val (v := .agg #[.int .u64 p0.Frame, .int .u64 zd, .int .i32 za.1.X, .int .i32 za.1.Y, .int .i32 za.1.VX, .int .i32 za.1.VY, .int .u8 za.1.Health, .int .u8 za.1.Cool, .int .u8 za.1.Face, .int .i32 za.2.X, .int .i32 za.2.Y, .int .i32 za.2.VX, .int .i32 za.2.VY, .int .u8 za.2.Health, .int .u8 za.2.Cool, .int .u8 za.2.Face, .slice p0a0 p0n0 p0c0, .int .u16 p0.Score.1, .int .u16 p0.Score.2]) (val_load tt_ok rfl mH rfl) rfl ?_)
   apply wl_store tt_ok; rfl; exact (Upd.there Upd.here); rfl; rfl; rfl; rfl; rfl; rfl
   refine wNT (wc_ret ?_)
   obtain rfl := sI h
   exact wx_spD tt_ok (.inl rfl) Tryz.results79 (Res.cell rfl (mT mH) rfl Res.nil) ⟨p0a0, p0n0, p0c0, p0B0, p0N0, p0V0, rfl, rfl⟩ (fun F => by simp) (pSub (pApp (sCC hA') pNil))
  replace h := cf hx540 h
  rcases Bool.eq_false_or_eq_true ((IntKind.wrap .i64 ((1 : Int) - p1)) == (1 : Int)) with hx541 | hx541
  ·replace h := ct hx541 h
   refine wq_val (v := .pointer (some ⟨b2, 9, none⟩)) (val_ia (j := 1) tt_ok rfl rfl rfl rfl (by simpa using hx541) rfl rfl) rfl ?_
   refine wq_val (v := agP p0.Players.2) (val_load tt_ok rfl (mTT (mT mH)) rfl) rfl ?_
   obtain ⟨v56, x56, h⟩ := bsome h
   refine wq_cq Tryz.call100 rfl rfl rfl (q_pf (k_hindcastref09_Box x56) (fun _ _ => trivial)) rfl ?_
   obtain ⟨v57, x57, h⟩ := bsome h
   refine wq_cq Tryz.call99 rfl rfl rfl (q_pf (k_hindcastref07_Over x57) (fun _ _ => trivial)) rfl ?_
   refine wq_nil (wx_then ?_)
   obtain ⟨za, h, hj36⟩ := bsome h
   refine wc_join2 (fun E L => E = [(2, .pointer (some ⟨b2, 0, none⟩)), (4, .pointer (some ⟨b4, 0, none⟩))] ∧ L = (⟨b2, (.int .u64 p0.Frame :: .int .u64 zd :: pl14 za [.slice p0a0 p0n0 p0c0, .int .u16 p0.Score.1, .int .u16 p0.Score.2]), 30, (0, 0)⟩ :: (⟨b4, [.int .u64 (0 : Int), .int .u64 (0 : Int), .int .i32 (0 : Int), .int .i32 (0 : Int), .int .i32 (0 : Int), .int .i32 (0 : Int), .int .u8 (0 : Int), .int .u8 (0 : Int), .int .u8 (0 : Int), .int .i32 (0 : Int), .int .i32 (0 : Int), .int .i32 (0 : Int), .int .i32 (0 : Int), .int .u8 (0 : Int), .int .u8 (0 : Int), .int .u8 (0 : Int), .slice none 0 0, .int .u16 (0 : Int), .int .u16 (0 : Int)], 30, (0, 0)⟩ :: (p0B0 ++ [])))) ?_ ?_
   ·refine wc_cond rfl (fun hc => ?_) (fun hc => ?_)
    ·replace h := ct hc h
     refine wc_region (wP rfl rfl (wl_val (v := .agg #[.int .i32 p0.Players.1.X, .int .i32 p0.Players.1.Y, .int .i32 (0 : Int), .int .i32 (0 : Int), .int .u8 (100 : Int), .int .u8 p0.Players.1.Cool, .int .u8 p0.Players.1.Face]) (val_load tt_ok rfl (mT mH) rfl) rfl (wP (v := .pointer (some ⟨b2, 2, none⟩)) rfl rfl (wl_val (v := .pointer (some ⟨b2, 2, none⟩)) (val_ia (j := 0) tt_ok rfl rfl rfl rfl (by simpa using hx130) rfl rfl) rfl ?_))))
     apply wl_store tt_ok; rfl; exact (Upd.there (Upd.there (Upd.there Upd.here))); rfl; rfl; rfl; rfl; rfl; rfl
     refine wl_nil ?_
     obtain rfl := sI h
     exact wx_join ⟨rfl, rfl⟩ (agree_cons rfl (agree_cons rfl agree_nil)) (pSub (pCons (sCC (sC hC)) (pCons (sCC hC) (pApp (sCC hA') pNil))))
    replace h := cf hc h
    refine wc_skip ?_
    obtain rfl := sI h
    exact wx_join ⟨rfl, rfl⟩ (agree_cons rfl (agree_cons rfl agree_nil)) (pSub (pCons (sCC (sC hC)) (pCons (sCC hC) (pApp (sCC hA') pNil))))
   rintro _ _ ⟨rfl, rfl⟩
   have h := hj36; clear hj36
   refine wSR (wl_val (v := .agg #[.int .u64 p0.Frame, .int .u64 zd, .int .i32 za.1.X, .int .i32 za.1.Y, .int .i32 za.1.VX, .int .i32 za.1.VY, .int .u8 za.1.Health, .int .u8 za.1.Cool, .int .u8 za.1.Face, .int .i32 za.2.X, .int .i32 za.2.Y, .int .i32 za.2.VX, .int .i32 za.2.VY, .int .u8 za.2.Health, .int .u8 za.2.Cool, .int .u8 za.2.Face, .slice p0a0 p0n0 p0c0, .int .u16 p0.Score.1, .int .u16 p0.Score.2]) (val_load tt_ok rfl mH rfl) rfl ?_)
   apply wl_store tt_ok; rfl; exact (Upd.there Upd.here); rfl; rfl; rfl; rfl; rfl; rfl
   refine wNT (wc_ret ?_)
   obtain rfl := sI h
   exact wx_spD tt_ok (.inl rfl) Tryz.results79 (Res.cell rfl (mT mH) rfl Res.nil) ⟨p0a0, p0n0, p0c0, p0B0, p0N0, p0V0, rfl, rfl⟩ (fun F => by simp) (pSub (pApp (sCC hA') pNil))
  replace h := cf hx541 h
  cases h
 replace h := cf hx130 h
 rcases Bool.eq_false_or_eq_true (p1 == (1 : Int)) with hx131 | hx131
 ·replace h := ct hx131 h
  refine wl_val (v := .pointer (some ⟨b2, 9, none⟩)) (val_ia (j := 1) tt_ok rfl rfl rfl rfl (by simpa using hx131) rfl rfl) rfl ?_
  refine wP (v := .pointer (some ⟨b2, 13, none⟩)) rfl rfl (wl_val (v := .int .u8 p0.Players.2.Health) (val_load tt_ok rfl (mT mH) rfl) rfl (wP (v := .bool (decide ((0 : Int) < p0.Players.2.Health))) rfl rfl (wNT (wc_cond rfl (fun hc => ?_) (fun hc => ?_)))))
  ·replace h := ct hc h
   refine wSR (wl_val (v := agS p0 p0a0 p0n0 p0c0) (val_load tt_ok rfl (mT mH) rfl) rfl ?_)
   apply wl_store tt_ok; rfl; exact Upd.here; rfl; rfl; rfl; rfl; rfl; rfl
   refine wNT (wc_ret (wx_then_ret ?_))
   obtain rfl := sI h
   exact wx_spD tt_ok (.inl rfl) Tryz.results79 (Res.cell rfl mH rfl Res.nil) ⟨p0a0, p0n0, p0c0, p0B0, p0N0, p0V0, rfl, rfl⟩ (fun F => by simp) (pSub (pApp (sCC hA') pNil))
  replace h := cf hc h
  refine wc_skip (wx_then (wSR (wP rfl rfl (wP (v := .pointer (some ⟨b2, 2, none⟩)) rfl rfl (wl_val (v := .pointer (some ⟨b2, 9, none⟩)) (val_ia (j := 1) tt_ok rfl rfl rfl rfl (by simpa using hx131) rfl rfl) rfl (wl_val (v := agP p0.Players.2) (val_load tt_ok rfl (mT mH) rfl) rfl (wl_alloc tt_ok rfl rfl (fun b5 => ?_))))))))
  apply wl_store tt_ok; rfl; exact Upd.here; rfl; rfl; rfl; rfl; rfl; rfl
  refine wNT (wSR (wP (v := .pointer (some ⟨b5, 4, none⟩)) rfl rfl ?_))
  apply wl_store tt_ok; rfl; exact Upd.here; rfl; rfl; rfl; rfl; rfl; rfl
  refine wNT (wSR (wP (v := .pointer (some ⟨b5, 2, none⟩)) rfl rfl ?_))
  apply wl_store tt_ok; rfl; exact Upd.here; rfl; rfl; rfl; rfl; rfl; rfl
  refine wNT (wSR (wP (v := .pointer (some ⟨b5, 3, none⟩)) rfl rfl ?_))
  apply wl_store tt_ok; rfl; exact Upd.here; rfl; rfl; rfl; rfl; rfl; rfl
  refine wNT (wSR (wP (v := .pointer (some ⟨b2, 1, none⟩)) rfl rfl (wl_val (v := .int .u64 p0.Seed) (val_load tt_ok rfl (mTT mH) rfl) rfl ?_)))
  replace h := bsome h; obtain ⟨⟨zb, ze⟩, x28, h⟩ := h; try dsimp only at h
  refine wl_cq Tryz.call102 rfl rfl rfl (q_pf (k_hindcastref05_Below x28) (fun _ _ => trivial)) rfl ?_
  iterate 5 refine wP rfl rfl ?_
  refine wNT (wSR (wP rfl rfl ?_))
  replace h := bsome h; obtain ⟨⟨zc, zd⟩, x33, h⟩ := h; try dsimp only at h
  refine wl_cq Tryz.call102 rfl rfl rfl (q_pf (k_hindcastref05_Below x33) (fun _ _ => trivial)) rfl ?_
  iterate 5 refine wP rfl rfl ?_
  refine wNT (wSR (wP rfl rfl (wP (v := .pointer (some ⟨b2, 1, none⟩)) rfl rfl ?_)))
  apply wl_store tt_ok; rfl; exact (Upd.there (Upd.there Upd.here)); rfl; rfl; rfl; rfl; rfl; rfl
  refine wNT (wSR (wl_val (v := .agg #[.int .i32 p0.Players.2.X, .int .i32 p0.Players.2.Y, .int .i32 (0 : Int), .int .i32 (0 : Int), .int .u8 (100 : Int), .int .u8 p0.Players.2.Cool, .int .u8 p0.Players.2.Face]) (val_load tt_ok rfl mH rfl) rfl (wl_alloc tt_ok rfl rfl (fun b10 => ?_))))
  apply wl_store tt_ok; rfl; exact Upd.here; rfl; rfl; rfl; rfl; rfl; rfl
  refine wNT (wSR (wP rfl rfl (wP (v := .int .i32 (IntKind.wrap .i32 zb)) rfl rfl (wP (v := .pointer (some ⟨b10, 0, none⟩)) rfl rfl ?_))))
  apply wl_store tt_ok; rfl; exact Upd.here; rfl; rfl; rfl; rfl; rfl; rfl
  refine wNT (wSR (wP rfl rfl (wP (v := .int .i32 (IntKind.wrap .i32 zc)) rfl rfl (wP (v := .pointer (some ⟨b10, 1, none⟩)) rfl rfl ?_))))
  apply wl_store tt_ok; rfl; exact Upd.here; rfl; rfl; rfl; rfl; rfl; rfl
  refine wNT (wSR (wP rfl rfl (wl_val (v := .agg #[.int .i32 (IntKind.wrap .i32 zb), .int .i32 (IntKind.wrap .i32 zc), .int .i32 (0 : Int), .int .i32 (0 : Int), .int .u8 (100 : Int), .int .u8 p0.Players.2.Cool, .int .u8 p0.Players.2.Face]) (val_load tt_ok rfl mH rfl) rfl (wP (v := .pointer (some ⟨b2, 2, none⟩)) rfl rfl (wl_val (v := .pointer (some ⟨b2, 9, none⟩)) (val_ia (j := 1) tt_ok rfl rfl rfl rfl (by simpa using hx131) rfl rfl) rfl ?_)))))
  apply wl_store tt_ok; rfl; exact (Upd.there (Upd.there (Upd.there Upd.here))); rfl; rfl; rfl; rfl; rfl; rfl
  refine wNT (wc_seq (wc_seq (wc_quiet (by kernel_rfl) (by kernel_rfl) (wq_val (v := .agg #[.int .i32 (IntKind.wrap .i32 zb), .int .i32 (IntKind.wrap .i32 zc), .int .i32 (0 : Int), .int .i32 (0 : Int), .int .u8 (100 : Int), .int .u8 p0.Players.2.Cool, .int .u8 p0.Players.2.Face]) (val_load tt_ok rfl mH rfl) rfl ?_))))
  obtain ⟨v50, x50, h⟩ := bsome h
  refine wq_cq Tryz.call100 rfl rfl rfl (q_pf (k_hindcastref09_Box x50) (fun _ _ => trivial)) rfl ?_
  refine qP rfl rfl (qP (v := .int .i64 (IntKind.wrap .i64 ((1 : Int) - p1))) rfl rfl (qP (v := .pointer (some ⟨b2, 2, none⟩)) rfl rfl ?_))
  rcases Bool.eq_false_or_eq_true ((IntKind.wrap .i64 ((1 : Int) - p1)) == (0 : Int)) with hx540 | hx540
  ·replace h := ct hx540 h
   refine wq_val (v := .pointer (some ⟨b2, 2, none⟩)) (val_ia (j := 0) tt_ok rfl rfl rfl rfl (by simpa using hx540) rfl rfl) rfl ?_
   refine wq_val (v := agP p0.Players.1) (val_load tt_ok rfl (mTT (mT mH)) rfl) rfl ?_
   obtain ⟨v56, x56, h⟩ := bsome h
   refine wq_cq Tryz.call100 rfl rfl rfl (q_pf (k_hindcastref09_Box x56) (fun _ _ => trivial)) rfl ?_
   obtain ⟨v57, x57, h⟩ := bsome h
   refine wq_cq Tryz.call99 rfl rfl rfl (q_pf (k_hindcastref07_Over x57) (fun _ _ => trivial)) rfl ?_
   refine wq_nil (wx_then ?_)
   obtain ⟨za, h, hj36⟩ := bsome h
   refine wc_join2 (fun E L => E = [(2, .pointer (some ⟨b2, 0, none⟩)), (4, .pointer (some ⟨b4, 0, none⟩))] ∧ L = (⟨b2, (.int .u64 p0.Frame :: .int .u64 zd :: pl14 za [.slice p0a0 p0n0 p0c0, .int .u16 p0.Score.1, .int .u16 p0.Score.2]), 30, (0, 0)⟩ :: (⟨b4, [.int .u64 (0 : Int), .int .u64 (0 : Int), .int .i32 (0 : Int), .int .i32 (0 : Int), .int .i32 (0 : Int), .int .i32 (0 : Int), .int .u8 (0 : Int), .int .u8 (0 : Int), .int .u8 (0 : Int), .int .i32 (0 : Int), .int .i32 (0 : Int), .int .i32 (0 : Int), .int .i32 (0 : Int), .int .u8 (0 : Int), .int .u8 (0 : Int), .int .u8 (0 : Int), .slice none 0 0, .int .u16 (0 : Int), .int .u16 (0 : Int)], 30, (0, 0)⟩ :: (p0B0 ++ [])))) ?_ ?_
   ·refine wc_cond rfl (fun hc => ?_) (fun hc => ?_)
    ·replace h := ct hc h
     refine wc_region (wP rfl rfl (wl_val (v := .agg #[.int .i32 p0.Players.2.X, .int .i32 p0.Players.2.Y, .int .i32 (0 : Int), .int .i32 (0 : Int), .int .u8 (100 : Int), .int .u8 p0.Players.2.Cool, .int .u8 p0.Players.2.Face]) (val_load tt_ok rfl (mT mH) rfl) rfl (wP (v := .pointer (some ⟨b2, 2, none⟩)) rfl rfl (wl_val (v := .pointer (some ⟨b2, 9, none⟩)) (val_ia (j := 1) tt_ok rfl rfl rfl rfl (by simpa using hx131) rfl rfl) rfl ?_))))
     apply wl_store tt_ok; rfl; exact (Upd.there (Upd.there (Upd.there Upd.here))); rfl; rfl; rfl; rfl; rfl; rfl
     refine wl_nil ?_
     obtain rfl := sI h
     exact wx_join ⟨rfl, rfl⟩ (agree_cons rfl (agree_cons rfl agree_nil)) (pSub (pCons (sCC (sC hC)) (pCons (sCC hC) (pApp (sCC hA') pNil))))
    replace h := cf hc h
    refine wc_skip ?_
    obtain rfl := sI h
    exact wx_join ⟨rfl, rfl⟩ (agree_cons rfl (agree_cons rfl agree_nil)) (pSub (pCons (sCC (sC hC)) (pCons (sCC hC) (pApp (sCC hA') pNil))))
   rintro _ _ ⟨rfl, rfl⟩
   have h := hj36; clear hj36
   refine wSR (wl_val (v := .agg #[.int .u64 p0.Frame, .int .u64 zd, .int .i32 za.1.X, .int .i32 za.1.Y, .int .i32 za.1.VX, .int .i32 za.1.VY, .int .u8 za.1.Health, .int .u8 za.1.Cool, .int .u8 za.1.Face, .int .i32 za.2.X, .int .i32 za.2.Y, .int .i32 za.2.VX, .int .i32 za.2.VY, .int .u8 za.2.Health, .int .u8 za.2.Cool, .int .u8 za.2.Face, .slice p0a0 p0n0 p0c0, .int .u16 p0.Score.1, .int .u16 p0.Score.2]) (val_load tt_ok rfl mH rfl) rfl ?_)
   apply wl_store tt_ok; rfl; exact (Upd.there Upd.here); rfl; rfl; rfl; rfl; rfl; rfl
   refine wNT (wc_ret ?_)
   obtain rfl := sI h
   exact wx_spD tt_ok (.inl rfl) Tryz.results79 (Res.cell rfl (mT mH) rfl Res.nil) ⟨p0a0, p0n0, p0c0, p0B0, p0N0, p0V0, rfl, rfl⟩ (fun F => by simp) (pSub (pApp (sCC hA') pNil))
  replace h := cf hx540 h
  rcases Bool.eq_false_or_eq_true ((IntKind.wrap .i64 ((1 : Int) - p1)) == (1 : Int)) with hx541 | hx541
  ·replace h := ct hx541 h
   refine wq_val (v := .pointer (some ⟨b2, 9, none⟩)) (val_ia (j := 1) tt_ok rfl rfl rfl rfl (by simpa using hx541) rfl rfl) rfl ?_
   refine wq_val (v := .agg #[.int .i32 (IntKind.wrap .i32 zb), .int .i32 (IntKind.wrap .i32 zc), .int .i32 (0 : Int), .int .i32 (0 : Int), .int .u8 (100 : Int), .int .u8 p0.Players.2.Cool, .int .u8 p0.Players.2.Face]) (val_load tt_ok rfl (mTT (mT mH)) rfl) rfl ?_
   obtain ⟨v56, x56, h⟩ := bsome h
   refine wq_cq Tryz.call100 rfl rfl rfl (q_pf (k_hindcastref09_Box x56) (fun _ _ => trivial)) rfl ?_
   obtain ⟨v57, x57, h⟩ := bsome h
   refine wq_cq Tryz.call99 rfl rfl rfl (q_pf (k_hindcastref07_Over x57) (fun _ _ => trivial)) rfl ?_
   refine wq_nil (wx_then ?_)
   obtain ⟨za, h, hj36⟩ := bsome h
   refine wc_join2 (fun E L => E = [(2, .pointer (some ⟨b2, 0, none⟩)), (4, .pointer (some ⟨b4, 0, none⟩))] ∧ L = (⟨b2, (.int .u64 p0.Frame :: .int .u64 zd :: pl14 za [.slice p0a0 p0n0 p0c0, .int .u16 p0.Score.1, .int .u16 p0.Score.2]), 30, (0, 0)⟩ :: (⟨b4, [.int .u64 (0 : Int), .int .u64 (0 : Int), .int .i32 (0 : Int), .int .i32 (0 : Int), .int .i32 (0 : Int), .int .i32 (0 : Int), .int .u8 (0 : Int), .int .u8 (0 : Int), .int .u8 (0 : Int), .int .i32 (0 : Int), .int .i32 (0 : Int), .int .i32 (0 : Int), .int .i32 (0 : Int), .int .u8 (0 : Int), .int .u8 (0 : Int), .int .u8 (0 : Int), .slice none 0 0, .int .u16 (0 : Int), .int .u16 (0 : Int)], 30, (0, 0)⟩ :: (p0B0 ++ [])))) ?_ ?_
   ·refine wc_cond rfl (fun hc => ?_) (fun hc => ?_)
    ·replace h := ct hc h
     refine wc_region (wP rfl rfl (wl_val (v := .agg #[.int .i32 p0.Players.2.X, .int .i32 p0.Players.2.Y, .int .i32 (0 : Int), .int .i32 (0 : Int), .int .u8 (100 : Int), .int .u8 p0.Players.2.Cool, .int .u8 p0.Players.2.Face]) (val_load tt_ok rfl (mT mH) rfl) rfl (wP (v := .pointer (some ⟨b2, 2, none⟩)) rfl rfl (wl_val (v := .pointer (some ⟨b2, 9, none⟩)) (val_ia (j := 1) tt_ok rfl rfl rfl rfl (by simpa using hx131) rfl rfl) rfl ?_))))
     apply wl_store tt_ok; rfl; exact (Upd.there (Upd.there (Upd.there Upd.here))); rfl; rfl; rfl; rfl; rfl; rfl
     refine wl_nil ?_
     obtain rfl := sI h
     exact wx_join ⟨rfl, rfl⟩ (agree_cons rfl (agree_cons rfl agree_nil)) (pSub (pCons (sCC (sC hC)) (pCons (sCC hC) (pApp (sCC hA') pNil))))
    replace h := cf hc h
    refine wc_skip ?_
    obtain rfl := sI h
    exact wx_join ⟨rfl, rfl⟩ (agree_cons rfl (agree_cons rfl agree_nil)) (pSub (pCons (sCC (sC hC)) (pCons (sCC hC) (pApp (sCC hA') pNil))))
   rintro _ _ ⟨rfl, rfl⟩
   have h := hj36; clear hj36
   refine wSR (wl_val (v := .agg #[.int .u64 p0.Frame, .int .u64 zd, .int .i32 za.1.X, .int .i32 za.1.Y, .int .i32 za.1.VX, .int .i32 za.1.VY, .int .u8 za.1.Health, .int .u8 za.1.Cool, .int .u8 za.1.Face, .int .i32 za.2.X, .int .i32 za.2.Y, .int .i32 za.2.VX, .int .i32 za.2.VY, .int .u8 za.2.Health, .int .u8 za.2.Cool, .int .u8 za.2.Face, .slice p0a0 p0n0 p0c0, .int .u16 p0.Score.1, .int .u16 p0.Score.2]) (val_load tt_ok rfl mH rfl) rfl ?_)
   apply wl_store tt_ok; rfl; exact (Upd.there Upd.here); rfl; rfl; rfl; rfl; rfl; rfl
   refine wNT (wc_ret ?_)
   obtain rfl := sI h
   exact wx_spD tt_ok (.inl rfl) Tryz.results79 (Res.cell rfl (mT mH) rfl Res.nil) ⟨p0a0, p0n0, p0c0, p0B0, p0N0, p0V0, rfl, rfl⟩ (fun F => by simp) (pSub (pApp (sCC hA') pNil))
  replace h := cf hx541 h
  cases h
 replace h := cf hx131 h
 cases h

theorem k_hindcastref09_Step {F : Nat} {p0 : T_api_State} {p0a0 : Option Addr} {p0n0 p0c0 : Nat} {p1 : (Int × Int)} {r0 : T_api_State} (p0N0 : p0n0 = p0.Shots.length) (p0H0 : p0n0 ≤ p0c0) (h : m_hindcastref09_Step F p0 p1 = some r0) :
    SpD Tryz.prog 38 [agS p0 p0a0 p0n0 p0c0, .agg #[.int .u8 p1.1, .int .u8 p1.2]] [] (fun w => Rds w (ids []) [] p0a0 (flat c_T_api_Shot p0.Shots)) (fun v D => ∃ (r0a0 : Option Addr) (r0n0 r0c0 : Nat) (r0B0 : List Blk), r0n0 = r0.Shots.length ∧ Own 93 6 r0a0 r0n0 r0c0 (flat c_T_api_Shot r0.Shots) r0B0 ∧ v = agS r0 r0a0 r0n0 r0c0 ∧ D = fun F => (r0B0 ++ F)) := by
 unfold m_hindcastref09_Step at h
 refine sp_of_wc Tryz.func38 rfl Tryz.ntmps38 rfl rfl (fun w0 hR => ?_)
 have p0S0 := hR
 refine wSR (wl_box rfl rfl rfl (fun b2 => (wl_box rfl rfl rfl (fun b3 => (wl_alloc tt_ok rfl rfl (fun b4 => (wNT (wSR (wl_val (v := agS p0 p0a0 p0n0 p0c0) (val_load tt_ok rfl (mTT mH) rfl) rfl ?_)))))))))
 obtain ⟨v6, x6, h⟩ := bsome h
 refine wl_cs Tryz.call6 rfl rfl rfl (s_sp (k_hindcastref08_Copy (p0 := p0) p0N0 p0H0 x6) pNil (Rds.call p0S0 pNil rsub_nil)) rfl ?_
 rintro _ _ ⟨_, ⟨v6a0, v6n0, v6c0, v6B0, v6N0, v6V0, rfl, rfl⟩, rfl⟩
 apply wl_store tt_ok; rfl; exact (Upd.right (Upd.there (Upd.there Upd.here))); rfl; rfl; rfl; rfl; rfl; rfl
 refine wNT (wc_seq (wSR (wl_val (v := agS v6 v6a0 v6n0 v6c0) (val_load tt_ok rfl (mR (mTT mH)) rfl) rfl ?_)))
 obtain ⟨v8, x8, h⟩ := bsome h
 refine wl_cq Tryz.call24 rfl rfl rfl (q_pf (k_hindcastref08_Check (p0 := v6) v6N0 (vec_cap v6V0) x8) (Rds.call (Rds.of_vec v6V0) pNil ⟨_, hA'⟩)) rfl ?_
 refine wP (v := .bool (v8 != (0 : Int))) rfl rfl (wP rfl rfl ?_)
 obtain ⟨v15, h, hg15⟩ := bsome h
 refine wl_split (t := 10) rfl (fun hc => ?_) (fun hc => ?_)
 ·replace h := ct hc h
  iterate 4 refine wl_skip rfl rfl ?_
  obtain rfl := sI h
  have h := hg15; clear hg15
  refine wP (v := .bool true) rfl rfl (wP rfl rfl ?_)
  obtain ⟨v21, h, hg21⟩ := bsome h
  replace h := ct rfl h
  iterate 4 refine wl_skip rfl rfl ?_
  obtain rfl := sI h
  have h := hg21; clear hg21
  refine wP (v := .bool true) rfl rfl (wNT ?_)
  replace h := ct rfl h
  refine wc_cond_true rfl ?_
  refine wSR (wl_val (v := agS v6 v6a0 v6n0 v6c0) (val_load tt_ok rfl (mR (mTT mH)) rfl) rfl ?_)
  apply wl_store tt_ok; rfl; exact (Upd.right Upd.here); rfl; rfl; rfl; rfl; rfl; rfl
  refine wNT (wc_ret (wx_then_ret ?_))
  obtain rfl := sI h
  exact wx_spD tt_ok (.inl rfl) Tryz.results38 (Res.cell rfl (mR mH) rfl Res.nil) ⟨v6a0, v6n0, v6c0, v6B0, v6N0, v6V0, rfl, rfl⟩ (fun F => by simp) (pSub (pA pNil))
 replace h := cf hc h
 refine wl_run rfl (wl_val (v := .pointer (some ⟨b3, 0, none⟩)) (val_ia (j := 0) tt_ok rfl rfl rfl rfl rfl rfl rfl) rfl (wl_run rfl (wl_val (v := .int .u8 p1.1) (val_load tt_ok rfl (mR (mT mH)) rfl) rfl ?_)))
 obtain ⟨v13, x13, h⟩ := bsome h
 refine wl_run rfl (wl_cq Tryz.call74 rfl rfl rfl (q_pf (k_hindcastref06_Legal x13) (fun _ _ => trivial)) rfl (wl_run rfl (wP (v := .bool (!v13)) rfl rfl ?_)))
 obtain rfl := sI h
 have h := hg15; clear hg15
 refine wP (v := .bool (!v13)) rfl rfl (wP rfl rfl ?_)
 obtain ⟨v21, h, hg21⟩ := bsome h
 refine wl_split (t := 16) rfl (fun hc => ?_) (fun hc => ?_)
 ·replace h := ct hc h
  iterate 4 refine wl_skip rfl rfl ?_
  obtain rfl := sI h
  have h := hg21; clear hg21
  refine wP (v := .bool true) rfl rfl (wNT ?_)
  replace h := ct rfl h
  refine wc_cond_true rfl ?_
  refine wSR (wl_val (v := agS v6 v6a0 v6n0 v6c0) (val_load tt_ok rfl (mR (mTT mH)) rfl) rfl ?_)
  apply wl_store tt_ok; rfl; exact (Upd.right Upd.here); rfl; rfl; rfl; rfl; rfl; rfl
  refine wNT (wc_ret (wx_then_ret ?_))
  obtain rfl := sI h
  exact wx_spD tt_ok (.inl rfl) Tryz.results38 (Res.cell rfl (mR mH) rfl Res.nil) ⟨v6a0, v6n0, v6c0, v6B0, v6N0, v6V0, rfl, rfl⟩ (fun F => by simp) (pSub (pA pNil))
 replace h := cf hc h
 refine wl_run rfl (wl_val (v := .pointer (some ⟨b3, 1, none⟩)) (val_ia (j := 1) tt_ok rfl rfl rfl rfl rfl rfl rfl) rfl (wl_run rfl (wl_val (v := .int .u8 p1.2) (val_load tt_ok rfl (mR (mT mH)) rfl) rfl ?_)))
 obtain ⟨v19, x19, h⟩ := bsome h
 refine wl_run rfl (wl_cq Tryz.call74 rfl rfl rfl (q_pf (k_hindcastref06_Legal x19) (fun _ _ => trivial)) rfl (wl_run rfl (wP (v := .bool (!v19)) rfl rfl ?_)))
 obtain rfl := sI h
 have h := hg21; clear hg21
 refine wP (v := .bool (!v19)) rfl rfl (wNT (wc_cond rfl (fun hc => ?_) (fun hc => ?_)))
 ·replace h := ct hc h
  refine wSR (wl_val (v := agS v6 v6a0 v6n0 v6c0) (val_load tt_ok rfl (mR (mTT mH)) rfl) rfl ?_)
  apply wl_store tt_ok; rfl; exact (Upd.right Upd.here); rfl; rfl; rfl; rfl; rfl; rfl
  refine wNT (wc_ret (wx_then_ret ?_))
  obtain rfl := sI h
  exact wx_spD tt_ok (.inl rfl) Tryz.results38 (Res.cell rfl (mR mH) rfl Res.nil) ⟨v6a0, v6n0, v6c0, v6B0, v6N0, v6V0, rfl, rfl⟩ (fun F => by simp) (pSub (pA pNil))
 replace h := cf hc h
 refine wc_skip (wx_then (wSR (wP (v := .pointer (some ⟨b2, 2, none⟩)) rfl rfl (wl_val (v := .pointer (some ⟨b2, 2, none⟩)) (val_ia (j := 0) tt_ok rfl rfl rfl rfl rfl rfl rfl) rfl (wl_val (v := agP v6.Players.1) (val_load tt_ok rfl (mR (mTT mH)) rfl) rfl (wl_val (v := .pointer (some ⟨b3, 0, none⟩)) (val_ia (j := 0) tt_ok rfl rfl rfl rfl rfl rfl rfl) rfl (wl_val (v := .int .u8 p1.1) (val_load tt_ok rfl (mR (mT mH)) rfl) rfl ?_)))))))
 obtain ⟨v28, x28, h⟩ := bsome h
 refine wl_cq Tryz.call75 rfl rfl rfl (q_pf (k_hindcastref09_one x28) (fun _ _ => trivial)) rfl ?_
 refine wP (v := .pointer (some ⟨b2, 2, none⟩)) rfl rfl (wl_val (v := .pointer (some ⟨b2, 2, none⟩)) (val_ia (j := 0) tt_ok rfl rfl rfl rfl rfl rfl rfl) rfl ?_)
 apply wl_store tt_ok; rfl; exact (Upd.right (Upd.there (Upd.there Upd.here))); rfl; rfl; rfl; rfl; rfl; rfl
 refine wNT (wSR (wP (v := .pointer (some ⟨b2, 2, none⟩)) rfl rfl (wl_val (v := .pointer (some ⟨b2, 9, none⟩)) (val_ia (j := 1) tt_ok rfl rfl rfl rfl rfl rfl rfl) rfl (wl_val (v := agP v6.Players.2) (val_load tt_ok rfl (mR (mTT mH)) rfl) rfl (wl_val (v := .pointer (some ⟨b3, 1, none⟩)) (val_ia (j := 1) tt_ok rfl rfl rfl rfl rfl rfl rfl) rfl (wl_val (v := .int .u8 p1.2) (val_load tt_ok rfl (mR (mT mH)) rfl) rfl ?_))))))
 obtain ⟨v36, x36, h⟩ := bsome h
 refine wl_cq Tryz.call75 rfl rfl rfl (q_pf (k_hindcastref09_one x36) (fun _ _ => trivial)) rfl ?_
 refine wP (v := .pointer (some ⟨b2, 2, none⟩)) rfl rfl (wl_val (v := .pointer (some ⟨b2, 9, none⟩)) (val_ia (j := 1) tt_ok rfl rfl rfl rfl rfl rfl rfl) rfl ?_)
 apply wl_store tt_ok; rfl; exact (Upd.right (Upd.there (Upd.there Upd.here))); rfl; rfl; rfl; rfl; rfl; rfl
 refine wNT (wSR (wl_val (v := .agg #[.int .u64 v6.Frame, .int .u64 v6.Seed, .int .i32 v28.X, .int .i32 v28.Y, .int .i32 v28.VX, .int .i32 v28.VY, .int .u8 v28.Health, .int .u8 v28.Cool, .int .u8 v28.Face, .int .i32 v36.X, .int .i32 v36.Y, .int .i32 v36.VX, .int .i32 v36.VY, .int .u8 v36.Health, .int .u8 v36.Cool, .int .u8 v36.Face, .slice v6a0 v6n0 v6c0, .int .u16 v6.Score.1, .int .u16 v6.Score.2]) (val_load tt_ok rfl (mR (mTT mH)) rfl) rfl (wl_val (v := .agg #[.int .u8 p1.1, .int .u8 p1.2]) (val_load tt_ok rfl (mR (mT mH)) rfl) rfl ?_)))
 obtain ⟨v41, x41, h⟩ := bsome h
 refine wl_cs Tryz.call76 rfl rfl rfl (s_sp (k_hindcastref09_two_o0 (p0 := (T_api_State.mk v6.Frame v6.Seed (v28, v36) v6.Shots v6.Score)) v6N0 v6V0 x41) (pA pNil) (fun _ _ => trivial)) rfl ?_
 rintro _ _ ⟨_, ⟨v41a0, v41n0, v41c0, v41B0, v41N0, v41V0, rfl, rfl⟩, rfl⟩
 apply wl_store tt_ok; rfl; exact (Upd.right (Upd.there (Upd.there Upd.here))); rfl; rfl; rfl; rfl; rfl; rfl
 refine wNT (wSR (wl_val (v := agS v41 v41a0 v41n0 v41c0) (val_load tt_ok rfl (mR (mTT mH)) rfl) rfl ?_))
 obtain ⟨v43, x43, h⟩ := bsome h
 refine wl_cs Tryz.call77 rfl rfl rfl (s_sp (k_hindcastref09_three_o0 (p0 := v41) v41N0 v41V0 x43) (pA pNil) (fun _ _ => trivial)) rfl ?_
 rintro _ _ ⟨_, ⟨v43a0, v43n0, v43c0, v43B0, v43N0, v43V0, rfl, rfl⟩, rfl⟩
 apply wl_store tt_ok; rfl; exact (Upd.right (Upd.there (Upd.there Upd.here))); rfl; rfl; rfl; rfl; rfl; rfl
 refine wNT (wSR (wl_val (v := agS v43 v43a0 v43n0 v43c0) (val_load tt_ok rfl (mR (mTT mH)) rfl) rfl ?_))
 obtain ⟨v45, x45, h⟩ := bsome h
 refine wl_cs Tryz.call78 rfl rfl rfl (s_sp (k_hindcastref09_four (p0 := v43) v43N0 (vec_cap v43V0) x45) pNil (Rds.call (Rds.of_vec v43V0) pNil ⟨_, hA'⟩)) rfl ?_
 rintro _ _ ⟨_, ⟨v45a0, v45n0, v45c0, v45B0, v45N0, v45V0, rfl, rfl⟩, rfl⟩
 apply wl_store tt_ok; rfl; exact (Upd.right (Upd.right (Upd.there (Upd.there Upd.here)))); rfl; rfl; rfl; rfl; rfl; rfl
 refine wNT (wSR (wl_val (v := agS v45 v45a0 v45n0 v45c0) (val_load tt_ok rfl (mR (mR (mTT mH))) rfl) rfl ?_))
 obtain ⟨v47, x47, h⟩ := bsome h
 refine wl_cs Tryz.call79 rfl rfl rfl (s_sp (k_hindcastref09_five_o0 (p0 := v45) v45N0 v45V0 x47) (pA pNil) (fun _ _ => trivial)) rfl ?_
 rintro _ _ ⟨_, ⟨v47a0, v47n0, v47c0, v47B0, v47N0, v47V0, rfl, rfl⟩, rfl⟩
 apply wl_store tt_ok; rfl; exact (Upd.right (Upd.right (Upd.there (Upd.there Upd.here)))); rfl; rfl; rfl; rfl; rfl; rfl
 refine wNT (wSR (wl_val (v := agS v47 v47a0 v47n0 v47c0) (val_load tt_ok rfl (mR (mR (mTT mH))) rfl) rfl ?_))
 obtain ⟨v49, x49, h⟩ := bsome h
 refine wl_cs Tryz.call79 rfl rfl rfl (s_sp (k_hindcastref09_five_o0 (p0 := v47) v47N0 v47V0 x49) (pA pNil) (fun _ _ => trivial)) rfl ?_
 rintro _ _ ⟨_, ⟨v49a0, v49n0, v49c0, v49B0, v49N0, v49V0, rfl, rfl⟩, rfl⟩
 apply wl_store tt_ok; rfl; exact (Upd.right (Upd.right (Upd.there (Upd.there Upd.here)))); rfl; rfl; rfl; rfl; rfl; rfl
 refine wNT (wSR (wP (v := .pointer (some ⟨b2, 0, none⟩)) rfl rfl (wl_val (v := .int .u64 v49.Frame) (val_load tt_ok rfl (mR (mR (mTT mH))) rfl) rfl (wP (v := .int .u64 (IntKind.wrap .u64 (v49.Frame + (1 : Int)))) rfl rfl (wP (v := .pointer (some ⟨b2, 0, none⟩)) rfl rfl ?_)))))
 apply wl_store tt_ok; rfl; exact (Upd.right (Upd.right (Upd.there (Upd.there Upd.here)))); rfl; rfl; rfl; rfl; rfl; rfl
 refine wNT (wSR (wl_val (v := .agg #[.int .u64 (IntKind.wrap .u64 (v49.Frame + (1 : Int))), .int .u64 v49.Seed, .int .i32 v49.Players.1.X, .int .i32 v49.Players.1.Y, .int .i32 v49.Players.1.VX, .int .i32 v49.Players.1.VY, .int .u8 v49.Players.1.Health, .int .u8 v49.Players.1.Cool, .int .u8 v49.Players.1.Face, .int .i32 v49.Players.2.X, .int .i32 v49.Players.2.Y, .int .i32 v49.Players.2.VX, .int .i32 v49.Players.2.VY, .int .u8 v49.Players.2.Health, .int .u8 v49.Players.2.Cool, .int .u8 v49.Players.2.Face, .slice v49a0 v49n0 v49c0, .int .u16 v49.Score.1, .int .u16 v49.Score.2]) (val_load tt_ok rfl (mR (mR (mTT mH))) rfl) rfl ?_))
 apply wl_store tt_ok; rfl; exact (Upd.right (Upd.right Upd.here)); rfl; rfl; rfl; rfl; rfl; rfl
 refine wNT (wc_ret ?_)
 obtain rfl := sI h
 exact wx_spD tt_ok (.inl rfl) Tryz.results38 (Res.cell rfl (mR (mR mH)) rfl Res.nil) ⟨v49a0, v49n0, v49c0, v49B0, v49N0, v49V0, rfl, rfl⟩ (fun F => by simp) (pSub (pA pNil))

theorem k_hindcastref26_Engine_Shown {F : Nat} {p0 : T_hindcastref26_Engine} {p0b p0t : Nat} {p0a0 : Option Addr} {p0n0 p0c0 : Nat} {p0B0 : List Blk} {p0a1 : Option Addr} {p0n1 p0c1 : Nat} {p0B1 : List Blk} {p0_4 : T_hindcastref24_Queue} {p0_4b p0_4t : Nat} {p0_4a0 : Option Addr} {p0_4n0 p0_4c0 : Nat} {p0_4B0 : List Blk} {r0 : T_api_State} (p0N0 : p0n0 = p0.Sure.Shots.length) (p0V0 : Own 93 6 p0a0 p0n0 p0c0 (flat c_T_api_Shot p0.Sure.Shots) p0B0) (p0N1 : p0n1 = p0.Own.length) (p0V1 : Own 40 1 p0a1 p0n1 p0c1 (flat (e1 .u8) p0.Own) p0B1) (p0_4N0 : p0_4n0 = p0_4.L.length) (p0_4V0 : Own 40 1 p0_4a0 p0_4n0 p0_4c0 (flat (e1 .u8) p0_4.L) p0_4B0) (h : m_hindcastref26_Engine_Shown F p0 p0_4 = some r0) :
    SpD Tryz.prog 47 [.pointer (some ⟨p0b, 0, none⟩)] (⟨p0b, (.int .u8 p0.Player :: .int .i64 p0.Window :: st19 p0.Sure p0a0 p0n0 p0c0 [.slice p0a1 p0n1 p0c1, .pointer (some ⟨p0_4b, 0, none⟩)]), p0t, (0, 0)⟩ :: (p0B0 ++ (p0B1 ++ (⟨p0_4b, [.int .u64 p0_4.Begin, .int .u64 p0_4.First, .slice p0_4a0 p0_4n0 p0_4c0], p0_4t, (0, 0)⟩ :: (p0_4B0 ++ []))))) (fun w => True) (fun v D => ∃ (r0a0 : Option Addr) (r0n0 r0c0 : Nat) (r0B0 : List Blk), r0n0 = r0.Shots.length ∧ Own 93 6 r0a0 r0n0 r0c0 (flat c_T_api_Shot r0.Shots) r0B0 ∧ v = agS r0 r0a0 r0n0 r0c0 ∧ D = fun F => (⟨p0b, (.int .u8 p0.Player :: .int .i64 p0.Window :: st19 p0.Sure p0a0 p0n0 p0c0 [.slice p0a1 p0n1 p0c1, .pointer (some ⟨p0_4b, 0, none⟩)]), p0t, (0, 0)⟩ :: (p0B0 ++ (p0B1 ++ (⟨p0_4b, [.int .u64 p0_4.Begin, .int .u64 p0_4.First, .slice p0_4a0 p0_4n0 p0_4c0], p0_4t, (0, 0)⟩ :: (p0_4B0 ++ (r0B0 ++ F))))))) := by
 unfold m_hindcastref26_Engine_Shown at h
 refine sp_of_wc Tryz.func47 rfl Tryz.ntmps47 rfl rfl (fun w0 hR => ?_)
 refine wSR (wl_alloc tt_ok rfl rfl (fun b2 => (wNT (wSR ?_))))
 iterate 2 refine wP rfl rfl ?_
 refine wP (v := .pointer (some ⟨p0b, 2, none⟩)) rfl rfl (wl_val (v := agS p0.Sure p0a0 p0n0 p0c0) (val_load tt_ok rfl (mT mH) rfl) rfl ?_)
 obtain ⟨v9, x9, h⟩ := bsome h
 refine wl_cs Tryz.call6 rfl rfl rfl (s_sp (k_hindcastref08_Copy (p0 := p0.Sure) p0N0 (vec_cap p0V0) x9) pNil (Rds.call (Rds.of_vec p0V0) pNil ⟨_, (sCC hA')⟩)) rfl ?_
 rintro _ _ ⟨_, ⟨v9a0, v9n0, v9c0, v9B0, v9N0, v9V0, rfl, rfl⟩, rfl⟩
 refine wl_alloc tt_ok rfl rfl (fun b3 => ?_)
 apply wl_store tt_ok; rfl; exact Upd.here; rfl; rfl; rfl; rfl; rfl; rfl
 refine wNT (wc_seq (wSR ?_))
 iterate 2 refine wP rfl rfl ?_
 refine wP (v := .pointer (some ⟨p0b, 2, none⟩)) rfl rfl (wP (v := .pointer (some ⟨p0b, 2, none⟩)) rfl rfl (wl_val (v := .int .u64 p0.Sure.Frame) (val_load tt_ok rfl (mT (mR (mT mH))) rfl) rfl (wP rfl rfl (wNT (wc_block ?_)))))
 replace h := bsome h; obtain ⟨⟨zm, zn, zo, zp, zq⟩, h, hl9⟩ := h; try dsimp only at hl9
 refine wc_loop (fun m E L => ∃ (zl : Int) (zg : Int) (zh : Int) (zb : (T_api_Player × T_api_Player)) (za : (List T_api_Shot)) (zc : (Int × Int)) (ze : Option Addr) (zd zf : Nat) (zi : List Blk), m_hindcastref26_Engine_Shown_L8 F p0 p0_4 m zl zg zh zb za zc = some (zm, zn, zo, zp, zq) ∧ zd = za.length ∧ Own 93 6 ze zd zf (flat c_T_api_Shot za) zi ∧ E = [(0, .pointer (some ⟨p0b, 0, none⟩)), (2, .pointer (some ⟨b2, 0, none⟩)), (3, .pointer (some ⟨b3, 0, none⟩)), (4, .int .u64 zl)] ∧ L = (⟨p0b, (.int .u8 p0.Player :: .int .i64 p0.Window :: st19 p0.Sure p0a0 p0n0 p0c0 [.slice p0a1 p0n1 p0c1, .pointer (some ⟨p0_4b, 0, none⟩)]), p0t, (0, 0)⟩ :: (⟨p0_4b, [.int .u64 p0_4.Begin, .int .u64 p0_4.First, .slice p0_4a0 p0_4n0 p0_4c0], p0_4t, (0, 0)⟩ :: (⟨b2, [.int .u64 (0 : Int), .int .u64 (0 : Int), .int .i32 (0 : Int), .int .i32 (0 : Int), .int .i32 (0 : Int), .int .i32 (0 : Int), .int .u8 (0 : Int), .int .u8 (0 : Int), .int .u8 (0 : Int), .int .i32 (0 : Int), .int .i32 (0 : Int), .int .i32 (0 : Int), .int .i32 (0 : Int), .int .u8 (0 : Int), .int .u8 (0 : Int), .int .u8 (0 : Int), .slice none 0 0, .int .u16 (0 : Int), .int .u16 (0 : Int)], 30, (0, 0)⟩ :: (⟨b3, (.int .u64 zg :: .int .u64 zh :: pl14 zb [.slice ze zd zf, .int .u16 zc.1, .int .u16 zc.2]), 30, (0, 0)⟩ :: (p0B0 ++ (p0B1 ++ (p0_4B0 ++ (zi ++ []))))))))) F ⟨p0.Sure.Frame, v9.Frame, v9.Seed, v9.Players, v9.Shots, v9.Score, v9a0, v9n0, v9c0, v9B0, h, v9N0, v9V0, rfl, rfl⟩ (agree_cons rfl (agree_cons rfl (agree_cons rfl (agree_cons rfl agree_nil)))) (pSub (pCons (sCA (sC hC)) (pCons (sCA (sC (sAA hC))) (pCons (sCA hC) (pH (pApp (sA hA') (pApp (sA hA') (pApp (sA hA') (pA pNil))))))))) ?_
 clear h
 rintro m9 _ _ ⟨zl, zg, zh, zb, za, zc, ze, zd, zf, zi, h, zk, zj, rfl, rfl⟩
 rcases m9 with _ | m9
 ·rw [m_hindcastref26_Engine_Shown_L8.eq_1] at h; cases h
 rw [m_hindcastref26_Engine_Shown_L8.eq_2] at h
 refine wc_seq (wSR ?_)
 iterate 2 refine wP rfl rfl ?_
 obtain ⟨v17, x17, h⟩ := bsome h
 refine wl_cq Tryz.call40 rfl rfl rfl (q_rd (k_hindcastref26_Engine_T (p0 := p0) (p0_4 := p0_4) p0N0 p0V0 p0N1 p0V1 p0_4N0 p0_4V0 x17) (pH (pApp (sCC (sC hA')) (pApp (sCC (sC hA')) (pH (pApp (sCC hA') pNil))))) (fun _ _ => trivial)) rfl ?_
 refine wP (v := .bool (decide (zl < v17))) rfl rfl (wNT (wc_cond rfl (fun hc => ?_) (fun hc => ?_)))
 ·replace h := ct hc h
  refine wc_skip (wx_then (wc_seq (wc_block (wc_k2 (Ls := (⟨p0b, (.int .u8 p0.Player :: .int .i64 p0.Window :: st19 p0.Sure p0a0 p0n0 p0c0 [.slice p0a1 p0n1 p0c1, .pointer (some ⟨p0_4b, 0, none⟩)]), p0t, (0, 0)⟩ :: (⟨p0_4b, [.int .u64 p0_4.Begin, .int .u64 p0_4.First, .slice p0_4a0 p0_4n0 p0_4c0], p0_4t, (0, 0)⟩ :: (⟨b2, [.int .u64 (0 : Int), .int .u64 (0 : Int), .int .i32 (0 : Int), .int .i32 (0 : Int), .int .i32 (0 : Int), .int .i32 (0 : Int), .int .u8 (0 : Int), .int .u8 (0 : Int), .int .u8 (0 : Int), .int .i32 (0 : Int), .int .i32 (0 : Int), .int .i32 (0 : Int), .int .i32 (0 : Int), .int .u8 (0 : Int), .int .u8 (0 : Int), .int .u8 (0 : Int), .slice none 0 0, .int .u16 (0 : Int), .int .u16 (0 : Int)], 30, (0, 0)⟩ :: (⟨b3, (.int .u64 zg :: .int .u64 zh :: pl14 zb [.slice ze zd zf, .int .u16 zc.1, .int .u16 zc.2]), 30, (0, 0)⟩ :: (p0B0 ++ (p0B1 ++ (p0_4B0 ++ (zi ++ []))))))))) [3, 4, 5] [4, 5] [0, 0, 0, 6, 15, 31] [0, 1, 2, 3, 4, 5] (by kernel_rfl) (by kernel_rfl) (by kernel_rfl) ?_))))
  refine k_val (v := .agg #[.int .u64 zg, .int .u64 zh, .int .i32 zb.1.X, .int .i32 zb.1.Y, .int .i32 zb.1.VX, .int .i32 zb.1.VY, .int .u8 zb.1.Health, .int .u8 zb.1.Cool, .int .u8 zb.1.Face, .int .i32 zb.2.X, .int .i32 zb.2.Y, .int .i32 zb.2.VX, .int .i32 zb.2.VY, .int .u8 zb.2.Health, .int .u8 zb.2.Cool, .int .u8 zb.2.Face, .slice ze zd zf, .int .u16 zc.1, .int .u16 zc.2]) rfl rfl rfl (pSub (pH4 (pAA (pAA pNil)))) (val_load tt_ok rfl (mTT (mT mH)) rfl) rfl ?_
  iterate 2 refine k_val rfl rfl rfl (pSub (pH4 (pAA (pAA pNil)))) (sV rfl) rfl ?_
  obtain ⟨v24, x24, h⟩ := bsome h
  refine k_cq rfl rfl rfl Tryz.call73 rfl rfl rfl (q_rd (k_hindcastref26_Engine_pair (p0 := p0) (p0_4 := p0_4) p0N0 p0V0 p0N1 p0V1 p0_4N0 p0_4V0 x24) (pH (pApp (sCC (sC hA')) (pApp (sCC (sC hA')) (pH (pApp (sCC hA') pNil))))) (fun _ _ => trivial)) rfl (pSub (pH4 (pAA (pAA pNil)))) ?_
  obtain ⟨v25, x25, h⟩ := bsome h
  refine k_cs rfl rfl rfl Tryz.call38 rfl rfl rfl (s_sp (k_hindcastref09_Step (p0 := (T_api_State.mk zg zh zb za zc)) zk (vec_cap zj) x25) pNil (Rds.call (Rds.of_vec zj) pNil ⟨_, (sCC (sCC (sAA (sA hA'))))⟩)) rfl (.inl rfl) ?_
  rintro _ _ ⟨_, ⟨v25a0, v25n0, v25c0, v25B0, v25N0, v25V0, rfl, rfl⟩, rfl⟩
  refine k_chg0 rfl rfl rfl (chg_store tt_ok rfl (Upd.right (Upd.there (Upd.there (Upd.there Upd.here)))) rfl rfl rfl rfl rfl rfl) (.inl rfl) ?_
  rintro _ _ rfl
  refine k_end (by kernel_rfl) ?_
  refine wx_block (wx_then (wc_region (wP rfl rfl (wP (v := .int .u64 (IntKind.wrap .u64 (zl + (1 : Int)))) rfl rfl (wP rfl rfl (wl_nil ?_))))))
  exact wx_round m9 (Nat.lt_succ_self m9) ⟨(IntKind.wrap .u64 (zl + (1 : Int))), v25.Frame, v25.Seed, v25.Players, v25.Shots, v25.Score, v25a0, v25n0, v25c0, v25B0, h, v25N0, v25V0, rfl, rfl⟩ (agree_cons rfl (agree_cons rfl (agree_cons rfl (agree_cons rfl agree_nil)))) (pSub (pCons (sA hC) (pCons (sA hC) (pCons (sA hC) (pCons (sA hC) (pApp (sA hA') (pApp (sA hA') (pApp (sA hA') (pA pNil)))))))))
 replace h := cf hc h
 refine wc_exit (wx_then_exit ?_)
 obtain ⟨rfl, rfl, rfl, rfl, rfl⟩ := pJ5 h
 have h := hl9; clear hl9; try dsimp only [orE_l, orE_r] at h
 refine wx_then_exit (wx_block_exit (wx_then (wSR ?_)))
 refine wl_val (v := .agg #[.int .u64 zg, .int .u64 zh, .int .i32 zb.1.X, .int .i32 zb.1.Y, .int .i32 zb.1.VX, .int .i32 zb.1.VY, .int .u8 zb.1.Health, .int .u8 zb.1.Cool, .int .u8 zb.1.Face, .int .i32 zb.2.X, .int .i32 zb.2.Y, .int .i32 zb.2.VX, .int .i32 zb.2.VY, .int .u8 zb.2.Health, .int .u8 zb.2.Cool, .int .u8 zb.2.Face, .slice ze zd zf, .int .u16 zc.1, .int .u16 zc.2]) (val_load tt_ok rfl (mTT (mT mH)) rfl) rfl ?_
 apply wl_store tt_ok; rfl; exact (Upd.there (Upd.there Upd.here)); rfl; rfl; rfl; rfl; rfl; rfl
 refine wNT (wc_ret ?_)
 obtain rfl := sI h
 exact wx_spD tt_ok (.inl rfl) Tryz.results47 (Res.cell rfl (mTT mH) rfl Res.nil) ⟨ze, zd, zf, zi, zk, zj, rfl, rfl⟩ (fun F => by simp) (pSub (pH (pApp (sCC (sC hA')) (pApp (sCC (sC hA')) (pH (pApp (sCC hA') (pApp (sCC hA') pNil)))))))

theorem k_hindcastlaw26_alike {F : Nat} {p0 : T_rollback_Engine} {p0b p0t : Nat} {p0a0 : Option Addr} {p0n0 p0c0 : Nat} {p0B0 : List Blk} {p0a1 : Option Addr} {p0n1 p0c1 : Nat} {p0B1 : List Blk} {p0_4 : T_queue_Queue} {p0_4b p0_4t : Nat} {p0_4a0 : Option Addr} {p0_4n0 p0_4c0 : Nat} {p0_4B0 : List Blk} {p0_5 : T_ring_Ring} {p0_5b p0_5t : Nat} {p0_5g0 : List (T_ring_place × G)} {p0_5P0 : List Blk} {p1 : T_hindcastref26_Engine} {p1b p1t : Nat} {p1a0 : Option Addr} {p1n0 p1c0 : Nat} {p1B0 : List Blk} {p1a1 : Option Addr} {p1n1 p1c1 : Nat} {p1B1 : List Blk} {p1_4 : T_hindcastref24_Queue} {p1_4b p1_4t : Nat} {p1_4a0 : Option Addr} {p1_4n0 p1_4c0 : Nat} {p1_4B0 : List Blk} {p2 : Bool} {r0 : T_ring_Ring} {r1 : Bool} (p0N0 : p0n0 = p0.sure.Shots.length) (p0V0 : Own 93 6 p0a0 p0n0 p0c0 (flat c_T_api_Shot p0.sure.Shots) p0B0) (p0N1 : p0n1 = p0.own.length) (p0V1 : Own 40 1 p0a1 p0n1 p0c1 (flat (e1 .u8) p0.own) p0B1) (p0_4N0 : p0_4n0 = p0_4.l.length) (p0_4V0 : Own 40 1 p0_4a0 p0_4n0 p0_4c0 (flat (e1 .u8) p0_4.l) p0_4B0) (p0_5G0 : p0_5.places.1 = unG p0_5g0) (p0_5A0 : AllP sh_T_ring_place c_T_api_Shot p0_5P0 p0_5g0) (p1N0 : p1n0 = p1.Sure.Shots.length) (p1V0 : Own 93 6 p1a0 p1n0 p1c0 (flat c_T_api_Shot p1.Sure.Shots) p1B0) (p1N1 : p1n1 = p1.Own.length) (p1V1 : Own 40 1 p1a1 p1n1 p1c1 (flat (e1 .u8) p1.Own) p1B1) (p1_4N0 : p1_4n0 = p1_4.L.length) (p1_4V0 : Own 40 1 p1_4a0 p1_4n0 p1_4c0 (flat (e1 .u8) p1_4.L) p1_4B0) (h : m_hindcastlaw26_alike F p0 p0_4 p0_5 p1 p1_4 p2 = some (r0, r1)) :
    SpD Tryz.prog 14 [.pointer (some ⟨p0b, 0, none⟩), .pointer (some ⟨p1b, 0, none⟩), .bool p2] (⟨p0b, (.int .u8 p0.player :: .int .i64 p0.window :: st19 p0.sure p0a0 p0n0 p0c0 [.slice p0a1 p0n1 p0c1, .pointer (some ⟨p0_4b, 0, none⟩), .pointer (some ⟨p0_5b, 0, none⟩)]), p0t, (0, 0)⟩ :: (p0B0 ++ (p0B1 ++ (⟨p0_4b, [.int .u64 p0_4.first_, .slice p0_4a0 p0_4n0 p0_4c0, .int .u8 p0_4.last], p0_4t, (0, 0)⟩ :: (p0_4B0 ++ (⟨p0_5b, ([.int .i64 p0_5.size] ++ flat cg_T_ring_place p0_5g0), p0_5t, (0, 0)⟩ :: (p0_5P0 ++ (⟨p1b, (.int .u8 p1.Player :: .int .i64 p1.Window :: st19 p1.Sure p1a0 p1n0 p1c0 [.slice p1a1 p1n1 p1c1, .pointer (some ⟨p1_4b, 0, none⟩)]), p1t, (0, 0)⟩ :: (p1B0 ++ (p1B1 ++ (⟨p1_4b, [.int .u64 p1_4.Begin, .int .u64 p1_4.First, .slice p1_4a0 p1_4n0 p1_4c0], p1_4t, (0, 0)⟩ :: (p1_4B0 ++ [])))))))))))) (fun w => Rds w (ids (⟨p0b, (.int .u8 p0.player :: .int .i64 p0.window :: st19 p0.sure p0a0 p0n0 p0c0 [.slice p0a1 p0n1 p0c1, .pointer (some ⟨p0_4b, 0, none⟩), .pointer (some ⟨p0_5b, 0, none⟩)]), p0t, (0, 0)⟩ :: (p0B0 ++ (p0B1 ++ (⟨p0_4b, [.int .u64 p0_4.first_, .slice p0_4a0 p0_4n0 p0_4c0, .int .u8 p0_4.last], p0_4t, (0, 0)⟩ :: (p0_4B0 ++ (⟨p0_5b, ([.int .i64 p0_5.size] ++ flat cg_T_ring_place p0_5g0), p0_5t, (0, 0)⟩ :: (p0_5P0 ++ (⟨p1b, (.int .u8 p1.Player :: .int .i64 p1.Window :: st19 p1.Sure p1a0 p1n0 p1c0 [.slice p1a1 p1n1 p1c1, .pointer (some ⟨p1_4b, 0, none⟩)]), p1t, (0, 0)⟩ :: (p1B0 ++ (p1B1 ++ (⟨p1_4b, [.int .u64 p1_4.Begin, .int .u64 p1_4.First, .slice p1_4a0 p1_4n0 p1_4c0], p1_4t, (0, 0)⟩ :: (p1_4B0 ++ []))))))))))))) [] (some ⟨0, 0, none⟩) (flat (fun _ : Unit => gl_state_playerBounds) [()]) ∧ Rds w (ids (⟨p0b, (.int .u8 p0.player :: .int .i64 p0.window :: st19 p0.sure p0a0 p0n0 p0c0 [.slice p0a1 p0n1 p0c1, .pointer (some ⟨p0_4b, 0, none⟩), .pointer (some ⟨p0_5b, 0, none⟩)]), p0t, (0, 0)⟩ :: (p0B0 ++ (p0B1 ++ (⟨p0_4b, [.int .u64 p0_4.first_, .slice p0_4a0 p0_4n0 p0_4c0, .int .u8 p0_4.last], p0_4t, (0, 0)⟩ :: (p0_4B0 ++ (⟨p0_5b, ([.int .i64 p0_5.size] ++ flat cg_T_ring_place p0_5g0), p0_5t, (0, 0)⟩ :: (p0_5P0 ++ (⟨p1b, (.int .u8 p1.Player :: .int .i64 p1.Window :: st19 p1.Sure p1a0 p1n0 p1c0 [.slice p1a1 p1n1 p1c1, .pointer (some ⟨p1_4b, 0, none⟩)]), p1t, (0, 0)⟩ :: (p1B0 ++ (p1B1 ++ (⟨p1_4b, [.int .u64 p1_4.Begin, .int .u64 p1_4.First, .slice p1_4a0 p1_4n0 p1_4c0], p1_4t, (0, 0)⟩ :: (p1_4B0 ++ []))))))))))))) [] (some ⟨1, 0, none⟩) (flat (fun _ : Unit => gl_state_shotBounds) [()])) (fun v D => ∃ (r0g0 : List (T_ring_place × G)) (r0P0 : List Blk), r0.places.1 = unG r0g0 ∧ AllP sh_T_ring_place c_T_api_Shot r0P0 r0g0 ∧ v = .bool r1 ∧ D = fun F => (⟨p0b, (.int .u8 p0.player :: .int .i64 p0.window :: st19 p0.sure p0a0 p0n0 p0c0 [.slice p0a1 p0n1 p0c1, .pointer (some ⟨p0_4b, 0, none⟩), .pointer (some ⟨p0_5b, 0, none⟩)]), p0t, (0, 0)⟩ :: (p0B0 ++ (p0B1 ++ (⟨p0_4b, [.int .u64 p0_4.first_, .slice p0_4a0 p0_4n0 p0_4c0, .int .u8 p0_4.last], p0_4t, (0, 0)⟩ :: (p0_4B0 ++ (⟨p0_5b, ([.int .i64 r0.size] ++ flat cg_T_ring_place r0g0), p0_5t, (0, 0)⟩ :: (r0P0 ++ (⟨p1b, (.int .u8 p1.Player :: .int .i64 p1.Window :: st19 p1.Sure p1a0 p1n0 p1c0 [.slice p1a1 p1n1 p1c1, .pointer (some ⟨p1_4b, 0, none⟩)]), p1t, (0, 0)⟩ :: (p1B0 ++ (p1B1 ++ (⟨p1_4b, [.int .u64 p1_4.Begin, .int .u64 p1_4.First, .slice p1_4a0 p1_4n0 p1_4c0], p1_4t, (0, 0)⟩ :: (p1_4B0 ++ F))))))))))))) := by
 unfold m_hindcastlaw26_alike at h
 refine sp_of_wc Tryz.func14 rfl Tryz.ntmps14 rfl rfl (fun w0 hR => ?_)
 obtain ⟨G0S, G1S⟩ := hR
 refine wSR (wP rfl rfl (wNT (wSR (wP rfl rfl ?_))))
 replace h := bsome h; obtain ⟨⟨zb, zd⟩, x13, h⟩ := h; try dsimp only at h
 refine wl_cq Tryz.call33 rfl rfl rfl (q_rd (k_rollback_Engine_Next (p0 := p0) (p0_4 := p0_4) (p0_5 := p0_5) p0N0 p0V0 p0N1 p0V1 p0_4N0 p0_4V0 p0_5G0 p0_5A0 x13) (pH (pAA (pH (pA (pH (pA pNil)))))) (fun _ _ => trivial)) rfl ?_
 iterate 3 refine wP rfl rfl ?_
 refine wl_alloc tt_ok rfl rfl (fun b7 => ?_)
 apply wl_store tt_ok; rfl; exact Upd.here; rfl; rfl; rfl; rfl; rfl; rfl
 refine wP rfl rfl (wNT (wSR (wP rfl rfl ?_)))
 replace h := bsome h; obtain ⟨⟨zc, ze⟩, x18, h⟩ := h; try dsimp only at h
 refine wl_cq Tryz.call37 rfl rfl rfl (q_rd (k_hindcastref26_Engine_Next (p0 := p1) (p0_4 := p1_4) p1N0 p1V0 p1N1 p1V1 p1_4N0 p1_4V0 x18) (pCons (sCC (sAA (sCA (sCA hC)))) (pApp (sCC (sAA (sCA (sCA hA')))) (pApp (sCC (sAA (sCA (sCA hA')))) (pCons (sCC (sAA (sCA (sCA hC)))) (pApp (sCC (sAA (sCA (sCA hA')))) pNil))))) (fun _ _ => trivial)) rfl ?_
 iterate 3 refine wP rfl rfl ?_
 refine wl_alloc tt_ok rfl rfl (fun b9 => ?_)
 apply wl_store tt_ok; rfl; exact Upd.here; rfl; rfl; rfl; rfl; rfl; rfl
 refine wP rfl rfl (wNT (wc_seq (wc_seq (wc_k2 (Ls := (⟨b9, [.int .u8 zc.1, .int .u8 zc.2], 49, (0, 0)⟩ :: (⟨b7, [.int .u8 zb.1, .int .u8 zb.2], 49, (0, 0)⟩ :: (⟨p0b, (.int .u8 p0.player :: .int .i64 p0.window :: st19 p0.sure p0a0 p0n0 p0c0 [.slice p0a1 p0n1 p0c1, .pointer (some ⟨p0_4b, 0, none⟩), .pointer (some ⟨p0_5b, 0, none⟩)]), p0t, (0, 0)⟩ :: (p0B0 ++ (p0B1 ++ (⟨p0_4b, [.int .u64 p0_4.first_, .slice p0_4a0 p0_4n0 p0_4c0, .int .u8 p0_4.last], p0_4t, (0, 0)⟩ :: (p0_4B0 ++ (⟨p0_5b, ([.int .i64 p0_5.size] ++ flat cg_T_ring_place p0_5g0), p0_5t, (0, 0)⟩ :: (p0_5P0 ++ (⟨p1b, (.int .u8 p1.Player :: .int .i64 p1.Window :: st19 p1.Sure p1a0 p1n0 p1c0 [.slice p1a1 p1n1 p1c1, .pointer (some ⟨p1_4b, 0, none⟩)]), p1t, (0, 0)⟩ :: (p1B0 ++ (p1B1 ++ (⟨p1_4b, [.int .u64 p1_4.Begin, .int .u64 p1_4.First, .slice p1_4a0 p1_4n0 p1_4c0], p1_4t, (0, 0)⟩ :: (p1_4B0 ++ []))))))))))))))) [10, 20, 22, 27, 32, 37, 42, 47, 52] [] [0, 0, 3, 7, 15, 15, 63, 127, 255, 511, 1023, 511, 2559, 6655, 14847, 31231, 65535, 131071, 262143, 524287, 1048575, 524287, 4194303, 8388607, 16777215, 33554431, 67108863, 134217727, 67108863, 335544319, 872415231, 1946157055, 4294967295, 8589934591, 17179869183, 34359738367, 68719476735, 137438953471, 68719476735, 343597383679, 893353197567, 1992864825343, 4398046511103, 8796093022207, 17592186044415, 35184372088831, 70368744177663, 140737488355327, 70368744177663, 351843720888319, 914793674309631, 2040693581152255, 4503599627370495, 9007199254740991, 18014398509481983] [0, 1, 2, 3, 4, 5, 6, 7, 8, 9, 11, 12, 13, 14, 15, 10, 16, 17, 18, 19, 21, 20, 22, 23, 24, 25, 26, 28, 29, 30, 31, 27, 32, 33, 34, 35, 36, 38, 39, 40, 41, 37, 42, 43, 44, 45, 46, 48, 49, 50, 51, 47, 52, 53, 54] (by kernel_rfl) (by kernel_rfl) (by kernel_rfl) ?_))))
 refine k_val (v := .agg #[.int .u8 zb.1, .int .u8 zb.2]) rfl rfl rfl (pSub (pHH (pH (pAA (pH (pA (pH (pA (pH (pAA (pH (pA pNil)))))))))))) (val_load tt_ok rfl (mT mH) rfl) rfl (k_val (v := .agg #[.int .u8 zc.1, .int .u8 zc.2]) rfl rfl rfl (pSub (pHH (pH (pAA (pH (pA (pH (pA (pH (pAA (pH (pA pNil)))))))))))) (val_load tt_ok rfl mH rfl) rfl (k_val (v := .bool (!((zb.1 == zc.1) && (zb.2 == zc.2)))) rfl rfl rfl (pSub (pHH (pH (pAA (pH (pA (pH (pA (pH (pAA (pH (pA pNil)))))))))))) (val_nes tt_ok tt_eq tt_one Tryz.eqGuardType49 rfl rfl rfl rfl rfl) rfl ?_))
 refine k_val rfl rfl rfl (pSub (pHH (pH (pAA (pH (pA (pH (pA (pH (pAA (pH (pA pNil)))))))))))) (sV rfl) rfl ?_
 obtain ⟨v28, h, hg28⟩ := bsome h
 refine k_split (t := 24) rfl (fun hc => ?_) (fun hc => ?_)
 ·replace h := ct hc h
  iterate 3 refine k_skip rfl rfl (pSub (pHH (pH (pAA (pH (pA (pH (pA (pH (pAA (pH (pA pNil)))))))))))) rfl ?_
  obtain rfl := sI h
  have h := hg28; clear hg28
  refine k_val (v := .bool true) rfl rfl rfl (pSub (pHH (pH (pAA (pH (pA (pH (pA (pH (pAA (pH (pA pNil)))))))))))) (sV rfl) rfl (k_val rfl rfl rfl (pSub (pHH (pH (pAA (pH (pA (pH (pA (pH (pAA (pH (pA pNil)))))))))))) (sV rfl) rfl ?_)
  obtain ⟨v38, h, hg38⟩ := bsome h
  replace h := ct rfl h
  iterate 8 refine k_skip rfl rfl (pSub (pHH (pH (pAA (pH (pA (pH (pA (pH (pAA (pH (pA pNil)))))))))))) rfl ?_
  obtain rfl := sI h
  have h := hg38; clear hg38
  refine k_val (v := .bool true) rfl rfl rfl (pSub (pHH (pH (pAA (pH (pA (pH (pA (pH (pAA (pH (pA pNil)))))))))))) (sV rfl) rfl (k_val rfl rfl rfl (pSub (pHH (pH (pAA (pH (pA (pH (pA (pH (pAA (pH (pA pNil)))))))))))) (sV rfl) rfl ?_)
  obtain ⟨v45, h, hg45⟩ := bsome h
  replace h := ct rfl h
  iterate 5 refine k_skip rfl rfl (pSub (pHH (pH (pAA (pH (pA (pH (pA (pH (pAA (pH (pA pNil)))))))))))) rfl ?_
  obtain rfl := sI h
  have h := hg45; clear hg45
  refine k_val (v := .bool true) rfl rfl rfl (pSub (pHH (pH (pAA (pH (pA (pH (pA (pH (pAA (pH (pA pNil)))))))))))) (sV rfl) rfl (k_val rfl rfl rfl (pSub (pHH (pH (pAA (pH (pA (pH (pA (pH (pAA (pH (pA pNil)))))))))))) (sV rfl) rfl ?_)
  obtain ⟨v55, h, hg55⟩ := bsome h
  replace h := ct rfl h
  iterate 8 refine k_skip rfl rfl (pSub (pHH (pH (pAA (pH (pA (pH (pA (pH (pAA (pH (pA pNil)))))))))))) rfl ?_
  obtain rfl := sI h
  have h := hg55; clear hg55
  refine k_val (v := .bool true) rfl rfl rfl (pSub (pHH (pH (pAA (pH (pA (pH (pA (pH (pAA (pH (pA pNil)))))))))))) (sV rfl) rfl (k_val rfl rfl rfl (pSub (pHH (pH (pAA (pH (pA (pH (pA (pH (pAA (pH (pA pNil)))))))))))) (sV rfl) rfl ?_)
  obtain ⟨v65, h, hg65⟩ := bsome h
  replace h := ct rfl h
  iterate 8 refine k_skip rfl rfl (pSub (pHH (pH (pAA (pH (pA (pH (pA (pH (pAA (pH (pA pNil)))))))))))) rfl ?_
  obtain rfl := sI h
  have h := hg65; clear hg65
  refine k_val (v := .bool true) rfl rfl rfl (pSub (pHH (pH (pAA (pH (pA (pH (pA (pH (pAA (pH (pA pNil)))))))))))) (sV rfl) rfl (k_val rfl rfl rfl (pSub (pHH (pH (pAA (pH (pA (pH (pA (pH (pAA (pH (pA pNil)))))))))))) (sV rfl) rfl ?_)
  obtain ⟨v75, h, hg75⟩ := bsome h
  replace h := ct rfl h
  iterate 8 refine k_skip rfl rfl (pSub (pHH (pH (pAA (pH (pA (pH (pA (pH (pAA (pH (pA pNil)))))))))))) rfl ?_
  obtain rfl := sI h
  have h := hg75; clear hg75
  refine k_val (v := .bool true) rfl rfl rfl (pSub (pHH (pH (pAA (pH (pA (pH (pA (pH (pAA (pH (pA pNil)))))))))))) (sV rfl) rfl (k_end (by kernel_rfl) (wx_then ?_))
  replace h := ct rfl h
  refine wc_cond_true rfl ?_
  refine wSR (wP rfl rfl (wNT (wc_ret (wx_then_ret ?_))))
  obtain ⟨rfl, rfl⟩ := pJ2 h
  exact wx_spD tt_ok (.inl rfl) Tryz.results14 (Res.tmp rfl Res.nil) ⟨p0_5g0, p0_5P0, p0_5G0, p0_5A0, rfl, rfl⟩ (fun F => by simp) (pSub (pCons (sCC hC) (pApp (sCC hA') (pApp (sCC hA') (pCons (sCC hC) (pApp (sCC hA') (pCons (sCC hC) (pApp (sCC hA') (pCons (sCC hC) (pApp (sCC hA') (pApp (sCC hA') (pCons (sCC hC) (pApp (sCC hA') pNil)))))))))))))
 replace h := cf hc h
 iterate 2 refine k_val rfl rfl rfl (pSub (pHH (pH (pAA (pH (pA (pH (pA (pH (pAA (pH (pA pNil)))))))))))) (sV rfl) rfl ?_
 refine k_val (v := .bool (zd != ze)) rfl rfl rfl (pSub (pHH (pH (pAA (pH (pA (pH (pA (pH (pAA (pH (pA pNil)))))))))))) (sV rfl) rfl ?_
 obtain rfl := sI h
 have h := hg28; clear hg28
 refine k_val (v := .bool (zd != ze)) rfl rfl rfl (pSub (pHH (pH (pAA (pH (pA (pH (pA (pH (pAA (pH (pA pNil)))))))))))) (sV rfl) rfl (k_val rfl rfl rfl (pSub (pHH (pH (pAA (pH (pA (pH (pA (pH (pAA (pH (pA pNil)))))))))))) (sV rfl) rfl ?_)
 obtain ⟨v38, h, hg38⟩ := bsome h
 refine k_split (t := 29) rfl (fun hc => ?_) (fun hc => ?_)
 ·replace h := ct hc h
  iterate 8 refine k_skip rfl rfl (pSub (pHH (pH (pAA (pH (pA (pH (pA (pH (pAA (pH (pA pNil)))))))))))) rfl ?_
  obtain rfl := sI h
  have h := hg38; clear hg38
  refine k_val (v := .bool true) rfl rfl rfl (pSub (pHH (pH (pAA (pH (pA (pH (pA (pH (pAA (pH (pA pNil)))))))))))) (sV rfl) rfl (k_val rfl rfl rfl (pSub (pHH (pH (pAA (pH (pA (pH (pA (pH (pAA (pH (pA pNil)))))))))))) (sV rfl) rfl ?_)
  obtain ⟨v45, h, hg45⟩ := bsome h
  replace h := ct rfl h
  iterate 5 refine k_skip rfl rfl (pSub (pHH (pH (pAA (pH (pA (pH (pA (pH (pAA (pH (pA pNil)))))))))))) rfl ?_
  obtain rfl := sI h
  have h := hg45; clear hg45
  refine k_val (v := .bool true) rfl rfl rfl (pSub (pHH (pH (pAA (pH (pA (pH (pA (pH (pAA (pH (pA pNil)))))))))))) (sV rfl) rfl (k_val rfl rfl rfl (pSub (pHH (pH (pAA (pH (pA (pH (pA (pH (pAA (pH (pA pNil)))))))))))) (sV rfl) rfl ?_)
  obtain ⟨v55, h, hg55⟩ := bsome h
  replace h := ct rfl h
  iterate 8 refine k_skip rfl rfl (pSub (pHH (pH (pAA (pH (pA (pH (pA (pH (pAA (pH (pA pNil)))))))))))) rfl ?_
  obtain rfl := sI h
  have h := hg55; clear hg55
  refine k_val (v := .bool true) rfl rfl rfl (pSub (pHH (pH (pAA (pH (pA (pH (pA (pH (pAA (pH (pA pNil)))))))))))) (sV rfl) rfl (k_val rfl rfl rfl (pSub (pHH (pH (pAA (pH (pA (pH (pA (pH (pAA (pH (pA pNil)))))))))))) (sV rfl) rfl ?_)
  obtain ⟨v65, h, hg65⟩ := bsome h
  replace h := ct rfl h
  iterate 8 refine k_skip rfl rfl (pSub (pHH (pH (pAA (pH (pA (pH (pA (pH (pAA (pH (pA pNil)))))))))))) rfl ?_
  obtain rfl := sI h
  have h := hg65; clear hg65
  refine k_val (v := .bool true) rfl rfl rfl (pSub (pHH (pH (pAA (pH (pA (pH (pA (pH (pAA (pH (pA pNil)))))))))))) (sV rfl) rfl (k_val rfl rfl rfl (pSub (pHH (pH (pAA (pH (pA (pH (pA (pH (pAA (pH (pA pNil)))))))))))) (sV rfl) rfl ?_)
  obtain ⟨v75, h, hg75⟩ := bsome h
  replace h := ct rfl h
  iterate 8 refine k_skip rfl rfl (pSub (pHH (pH (pAA (pH (pA (pH (pA (pH (pAA (pH (pA pNil)))))))))))) rfl ?_
  obtain rfl := sI h
  have h := hg75; clear hg75
  refine k_val (v := .bool true) rfl rfl rfl (pSub (pHH (pH (pAA (pH (pA (pH (pA (pH (pAA (pH (pA pNil)))))))))))) (sV rfl) rfl (k_end (by kernel_rfl) (wx_then ?_))
  replace h := ct rfl h
  refine wc_cond_true rfl ?_
  refine wSR (wP rfl rfl (wNT (wc_ret (wx_then_ret ?_))))
  obtain ⟨rfl, rfl⟩ := pJ2 h
  exact wx_spD tt_ok (.inl rfl) Tryz.results14 (Res.tmp rfl Res.nil) ⟨p0_5g0, p0_5P0, p0_5G0, p0_5A0, rfl, rfl⟩ (fun F => by simp) (pSub (pCons (sCC hC) (pApp (sCC hA') (pApp (sCC hA') (pCons (sCC hC) (pApp (sCC hA') (pCons (sCC hC) (pApp (sCC hA') (pCons (sCC hC) (pApp (sCC hA') (pApp (sCC hA') (pCons (sCC hC) (pApp (sCC hA') pNil)))))))))))))
 replace h := cf hc h
 iterate 3 refine k_val rfl rfl rfl (pSub (pHH (pH (pAA (pH (pA (pH (pA (pH (pAA (pH (pA pNil)))))))))))) (sV rfl) rfl ?_
 iterate 2 refine k_val (v := .pointer (some ⟨p1b, 2, none⟩)) rfl rfl rfl (pSub (pHH (pH (pAA (pH (pA (pH (pA (pH (pAA (pH (pA pNil)))))))))))) (sV rfl) rfl ?_
 refine k_val (v := .int .u64 p1.Sure.Frame) rfl rfl rfl (pSub (pHH (pH (pAA (pH (pA (pH (pA (pH (pAA (pH (pA pNil)))))))))))) (val_load tt_ok rfl (mTT (mT (mR (mR (mT (mR (mT (mR mH)))))))) rfl) rfl ?_
 obtain ⟨v31, x31, h⟩ := bsome h
 refine k_cq rfl rfl rfl Tryz.call17 rfl rfl rfl (q_rd (k_rollback_Engine_C (p0 := p0) (p0_4 := p0_4) (p0_5 := p0_5) p0N0 p0V0 p0N1 p0V1 p0_4N0 p0_4V0 p0_5G0 p0_5A0 x31) (pCons (sCC hC) (pApp (sCC hA') (pApp (sCC hA') (pCons (sCC hC) (pApp (sCC hA') (pCons (sCC hC) (pApp (sCC hA') pNil))))))) (fun _ _ => trivial)) rfl (pSub (pHH (pH (pAA (pH (pA (pH (pA (pH (pAA (pH (pA pNil)))))))))))) ?_
 refine k_val (v := .bool (v31 != p1.Sure.Frame)) rfl rfl rfl (pSub (pHH (pH (pAA (pH (pA (pH (pA (pH (pAA (pH (pA pNil)))))))))))) (sV rfl) rfl ?_
 obtain rfl := sI h
 have h := hg38; clear hg38
 refine k_val (v := .bool (v31 != p1.Sure.Frame)) rfl rfl rfl (pSub (pHH (pH (pAA (pH (pA (pH (pA (pH (pAA (pH (pA pNil)))))))))))) (sV rfl) rfl (k_val rfl rfl rfl (pSub (pHH (pH (pAA (pH (pA (pH (pA (pH (pAA (pH (pA pNil)))))))))))) (sV rfl) rfl ?_)
 obtain ⟨v45, h, hg45⟩ := bsome h
 refine k_split (t := 39) rfl (fun hc => ?_) (fun hc => ?_)
 ·replace h := ct hc h
  iterate 5 refine k_skip rfl rfl (pSub (pHH (pH (pAA (pH (pA (pH (pA (pH (pAA (pH (pA pNil)))))))))))) rfl ?_
  obtain rfl := sI h
  have h := hg45; clear hg45
  refine k_val (v := .bool true) rfl rfl rfl (pSub (pHH (pH (pAA (pH (pA (pH (pA (pH (pAA (pH (pA pNil)))))))))))) (sV rfl) rfl (k_val rfl rfl rfl (pSub (pHH (pH (pAA (pH (pA (pH (pA (pH (pAA (pH (pA pNil)))))))))))) (sV rfl) rfl ?_)
  obtain ⟨v55, h, hg55⟩ := bsome h
  replace h := ct rfl h
  iterate 8 refine k_skip rfl rfl (pSub (pHH (pH (pAA (pH (pA (pH (pA (pH (pAA (pH (pA pNil)))))))))))) rfl ?_
  obtain rfl := sI h
  have h := hg55; clear hg55
  refine k_val (v := .bool true) rfl rfl rfl (pSub (pHH (pH (pAA (pH (pA (pH (pA (pH (pAA (pH (pA pNil)))))))))))) (sV rfl) rfl (k_val rfl rfl rfl (pSub (pHH (pH (pAA (pH (pA (pH (pA (pH (pAA (pH (pA pNil)))))))))))) (sV rfl) rfl ?_)
  obtain ⟨v65, h, hg65⟩ := bsome h
  replace h := ct rfl h
  iterate 8 refine k_skip rfl rfl (pSub (pHH (pH (pAA (pH (pA (pH (pA (pH (pAA (pH (pA pNil)))))))))))) rfl ?_
  obtain rfl := sI h
  have h := hg65; clear hg65
  refine k_val (v := .bool true) rfl rfl rfl (pSub (pHH (pH (pAA (pH (pA (pH (pA (pH (pAA (pH (pA pNil)))))))))))) (sV rfl) rfl (k_val rfl rfl rfl (pSub (pHH (pH (pAA (pH (pA (pH (pA (pH (pAA (pH (pA pNil)))))))))))) (sV rfl) rfl ?_)
  obtain ⟨v75, h, hg75⟩ := bsome h
  replace h := ct rfl h
  iterate 8 refine k_skip rfl rfl (pSub (pHH (pH (pAA (pH (pA (pH (pA (pH (pAA (pH (pA pNil)))))))))))) rfl ?_
  obtain rfl := sI h
  have h := hg75; clear hg75
  refine k_val (v := .bool true) rfl rfl rfl (pSub (pHH (pH (pAA (pH (pA (pH (pA (pH (pAA (pH (pA pNil)))))))))))) (sV rfl) rfl (k_end (by kernel_rfl) (wx_then ?_))
  replace h := ct rfl h
  refine wc_cond_true rfl ?_
  refine wSR (wP rfl rfl (wNT (wc_ret (wx_then_ret ?_))))
  obtain ⟨rfl, rfl⟩ := pJ2 h
  exact wx_spD tt_ok (.inl rfl) Tryz.results14 (Res.tmp rfl Res.nil) ⟨p0_5g0, p0_5P0, p0_5G0, p0_5A0, rfl, rfl⟩ (fun F => by simp) (pSub (pCons (sCC hC) (pApp (sCC hA') (pApp (sCC hA') (pCons (sCC hC) (pApp (sCC hA') (pCons (sCC hC) (pApp (sCC hA') (pCons (sCC hC) (pApp (sCC hA') (pApp (sCC hA') (pCons (sCC hC) (pApp (sCC hA') pNil)))))))))))))
 replace h := cf hc h
 iterate 2 refine k_val rfl rfl rfl (pSub (pHH (pH (pAA (pH (pA (pH (pA (pH (pAA (pH (pA pNil)))))))))))) (sV rfl) rfl ?_
 obtain ⟨v41, x41, h⟩ := bsome h
 refine k_cq rfl rfl rfl Tryz.call18 rfl rfl rfl (q_rd (k_rollback_Engine_T (p0 := p0) (p0_4 := p0_4) (p0_5 := p0_5) p0N0 p0V0 p0N1 p0V1 p0_4N0 p0_4V0 p0_5G0 p0_5A0 x41) (pCons (sCC hC) (pApp (sCC hA') (pApp (sCC hA') (pCons (sCC hC) (pApp (sCC hA') (pCons (sCC hC) (pApp (sCC hA') pNil))))))) (fun _ _ => trivial)) rfl (pSub (pHH (pH (pAA (pH (pA (pH (pA (pH (pAA (pH (pA pNil)))))))))))) ?_
 obtain ⟨v43, x43, h⟩ := bsome h
 refine k_cq rfl rfl rfl Tryz.call40 rfl rfl rfl (q_rd (k_hindcastref26_Engine_T (p0 := p1) (p0_4 := p1_4) p1N0 p1V0 p1N1 p1V1 p1_4N0 p1_4V0 x43) (pCons (sCC (sC (sAA (sCA (sCA hC))))) (pApp (sCC (sC (sAA (sCA (sCA hA'))))) (pApp (sCC (sC (sAA (sCA (sCA hA'))))) (pCons (sCC (sC (sAA (sCA (sCA hC))))) (pApp (sCC (sC (sAA (sCA (sCA hA'))))) pNil))))) (fun _ _ => trivial)) rfl (pSub (pHH (pH (pAA (pH (pA (pH (pA (pH (pAA (pH (pA pNil)))))))))))) ?_
 refine k_val (v := .bool (v41 != v43)) rfl rfl rfl (pSub (pHH (pH (pAA (pH (pA (pH (pA (pH (pAA (pH (pA pNil)))))))))))) (sV rfl) rfl ?_
 obtain rfl := sI h
 have h := hg45; clear hg45
 refine k_val (v := .bool (v41 != v43)) rfl rfl rfl (pSub (pHH (pH (pAA (pH (pA (pH (pA (pH (pAA (pH (pA pNil)))))))))))) (sV rfl) rfl (k_val rfl rfl rfl (pSub (pHH (pH (pAA (pH (pA (pH (pA (pH (pAA (pH (pA pNil)))))))))))) (sV rfl) rfl ?_)
 obtain ⟨v55, h, hg55⟩ := bsome h
 refine k_split (t := 46) rfl (fun hc => ?_) (fun hc => ?_)
 ·replace h := ct hc h
  iterate 8 refine k_skip rfl rfl (pSub (pHH (pH (pAA (pH (pA (pH (pA (pH (pAA (pH (pA pNil)))))))))))) rfl ?_
  obtain rfl := sI h
  have h := hg55; clear hg55
  refine k_val (v := .bool true) rfl rfl rfl (pSub (pHH (pH (pAA (pH (pA (pH (pA (pH (pAA (pH (pA pNil)))))))))))) (sV rfl) rfl (k_val rfl rfl rfl (pSub (pHH (pH (pAA (pH (pA (pH (pA (pH (pAA (pH (pA pNil)))))))))))) (sV rfl) rfl ?_)
  obtain ⟨v65, h, hg65⟩ := bsome h
  replace h := ct rfl h
  iterate 8 refine k_skip rfl rfl (pSub (pHH (pH (pAA (pH (pA (pH (pA (pH (pAA (pH (pA pNil)))))))))))) rfl ?_
  obtain rfl := sI h
  have h := hg65; clear hg65
  refine k_val (v := .bool true) rfl rfl rfl (pSub (pHH (pH (pAA (pH (pA (pH (pA (pH (pAA (pH (pA pNil)))))))))))) (sV rfl) rfl (k_val rfl rfl rfl (pSub (pHH (pH (pAA (pH (pA (pH (pA (pH (pAA (pH (pA pNil)))))))))))) (sV rfl) rfl ?_)
  obtain ⟨v75, h, hg75⟩ := bsome h
  replace h := ct rfl h
  iterate 8 refine k_skip rfl rfl (pSub (pHH (pH (pAA (pH (pA (pH (pA (pH (pAA (pH (pA pNil)))))))))))) rfl ?_
  obtain rfl := sI h
  have h := hg75; clear hg75
  refine k_val (v := .bool true) rfl rfl rfl (pSub (pHH (pH (pAA (pH (pA (pH (pA (pH (pAA (pH (pA pNil)))))))))))) (sV rfl) rfl (k_end (by kernel_rfl) (wx_then ?_))
  replace h := ct rfl h
  refine wc_cond_true rfl ?_
  refine wSR (wP rfl rfl (wNT (wc_ret (wx_then_ret ?_))))
  obtain ⟨rfl, rfl⟩ := pJ2 h
  exact wx_spD tt_ok (.inl rfl) Tryz.results14 (Res.tmp rfl Res.nil) ⟨p0_5g0, p0_5P0, p0_5G0, p0_5A0, rfl, rfl⟩ (fun F => by simp) (pSub (pCons (sCC hC) (pApp (sCC hA') (pApp (sCC hA') (pCons (sCC hC) (pApp (sCC hA') (pCons (sCC hC) (pApp (sCC hA') (pCons (sCC hC) (pApp (sCC hA') (pApp (sCC hA') (pCons (sCC hC) (pApp (sCC hA') pNil)))))))))))))
 replace h := cf hc h
 iterate 3 refine k_val rfl rfl rfl (pSub (pHH (pH (pAA (pH (pA (pH (pA (pH (pAA (pH (pA pNil)))))))))))) (sV rfl) rfl ?_
 refine k_val (v := .pointer (some ⟨p1b, 22, none⟩)) rfl rfl rfl (pSub (pHH (pH (pAA (pH (pA (pH (pA (pH (pAA (pH (pA pNil)))))))))))) (sV rfl) rfl (k_val (v := .pointer (some ⟨p1_4b, 0, none⟩)) rfl rfl rfl (pSub (pHH (pH (pAA (pH (pA (pH (pA (pH (pAA (pH (pA pNil)))))))))))) (val_load tt_ok rfl (mTT (mT (mR (mR (mT (mR (mT (mR mH)))))))) rfl) rfl ?_)
 obtain ⟨v48, x48, h⟩ := bsome h
 refine k_cq rfl rfl rfl Tryz.call41 rfl rfl rfl (q_rd (k_rollback_Engine_Known (p0 := p0) (p0_4 := p0_4) (p0_5 := p0_5) p0N0 p0V0 p0N1 p0V1 p0_4N0 p0_4V0 p0_5G0 p0_5A0 x48) (pCons (sCC hC) (pApp (sCC hA') (pApp (sCC hA') (pCons (sCC hC) (pApp (sCC hA') (pCons (sCC hC) (pApp (sCC hA') pNil))))))) (fun _ _ => trivial)) rfl (pSub (pHH (pH (pAA (pH (pA (pH (pA (pH (pAA (pH (pA pNil)))))))))))) ?_
 obtain ⟨v53, x53, h⟩ := bsome h
 refine k_cq rfl rfl rfl Tryz.call42 rfl rfl rfl (q_rd (k_hindcastref24_Queue_Known (p0 := p1_4) p1_4N0 p1_4V0 x53) (pCons (sCC (sC (sAA (sCA (sCA (sC (sAA hC))))))) (pApp (sCC (sC (sAA (sCA (sCA (sC (sAA hA'))))))) pNil)) (fun _ _ => trivial)) rfl (pSub (pHH (pH (pAA (pH (pA (pH (pA (pH (pAA (pH (pA pNil)))))))))))) ?_
 refine k_val (v := .bool (v48 != v53)) rfl rfl rfl (pSub (pHH (pH (pAA (pH (pA (pH (pA (pH (pAA (pH (pA pNil)))))))))))) (sV rfl) rfl ?_
 obtain rfl := sI h
 have h := hg55; clear hg55
 refine k_val (v := .bool (v48 != v53)) rfl rfl rfl (pSub (pHH (pH (pAA (pH (pA (pH (pA (pH (pAA (pH (pA pNil)))))))))))) (sV rfl) rfl (k_val rfl rfl rfl (pSub (pHH (pH (pAA (pH (pA (pH (pA (pH (pAA (pH (pA pNil)))))))))))) (sV rfl) rfl ?_)
 obtain ⟨v65, h, hg65⟩ := bsome h
 refine k_split (t := 56) rfl (fun hc => ?_) (fun hc => ?_)
 ·replace h := ct hc h
  iterate 8 refine k_skip rfl rfl (pSub (pHH (pH (pAA (pH (pA (pH (pA (pH (pAA (pH (pA pNil)))))))))))) rfl ?_
  obtain rfl := sI h
  have h := hg65; clear hg65
  refine k_val (v := .bool true) rfl rfl rfl (pSub (pHH (pH (pAA (pH (pA (pH (pA (pH (pAA (pH (pA pNil)))))))))))) (sV rfl) rfl (k_val rfl rfl rfl (pSub (pHH (pH (pAA (pH (pA (pH (pA (pH (pAA (pH (pA pNil)))))))))))) (sV rfl) rfl ?_)
  obtain ⟨v75, h, hg75⟩ := bsome h
  replace h := ct rfl h
  iterate 8 refine k_skip rfl rfl (pSub (pHH (pH (pAA (pH (pA (pH (pA (pH (pAA (pH (pA pNil)))))))))))) rfl ?_
  obtain rfl := sI h
  have h := hg75; clear hg75
  refine k_val (v := .bool true) rfl rfl rfl (pSub (pHH (pH (pAA (pH (pA (pH (pA (pH (pAA (pH (pA pNil)))))))))))) (sV rfl) rfl (k_end (by kernel_rfl) (wx_then ?_))
  replace h := ct rfl h
  refine wc_cond_true rfl ?_
  refine wSR (wP rfl rfl (wNT (wc_ret (wx_then_ret ?_))))
  obtain ⟨rfl, rfl⟩ := pJ2 h
  exact wx_spD tt_ok (.inl rfl) Tryz.results14 (Res.tmp rfl Res.nil) ⟨p0_5g0, p0_5P0, p0_5G0, p0_5A0, rfl, rfl⟩ (fun F => by simp) (pSub (pCons (sCC hC) (pApp (sCC hA') (pApp (sCC hA') (pCons (sCC hC) (pApp (sCC hA') (pCons (sCC hC) (pApp (sCC hA') (pCons (sCC hC) (pApp (sCC hA') (pApp (sCC hA') (pCons (sCC hC) (pApp (sCC hA') pNil)))))))))))))
 replace h := cf hc h
 iterate 3 refine k_val rfl rfl rfl (pSub (pHH (pH (pAA (pH (pA (pH (pA (pH (pAA (pH (pA pNil)))))))))))) (sV rfl) rfl ?_
 refine k_val (v := .pointer (some ⟨p1b, 21, none⟩)) rfl rfl rfl (pSub (pHH (pH (pAA (pH (pA (pH (pA (pH (pAA (pH (pA pNil)))))))))))) (sV rfl) rfl (k_val (v := .slice p1a1 p1n1 p1c1) rfl rfl rfl (pSub (pHH (pH (pAA (pH (pA (pH (pA (pH (pAA (pH (pA pNil)))))))))))) (val_load tt_ok rfl (mTT (mT (mR (mR (mT (mR (mT (mR mH)))))))) rfl) rfl ?_)
 obtain ⟨v58, x58, h⟩ := bsome h
 refine k_cs rfl rfl rfl Tryz.call44 rfl rfl rfl (s_sp (k_rollback_Engine_Own (p0 := p0) (p0_4 := p0_4) (p0_5 := p0_5) p0N0 p0V0 p0N1 p0V1 p0_4N0 p0_4V0 p0_5G0 p0_5A0 x58) (pCons (sCC hC) (pApp (sCC hA') (pApp (sCC hA') (pCons (sCC hC) (pApp (sCC hA') (pCons (sCC hC) (pApp (sCC hA') pNil))))))) (fun _ _ => trivial)) rfl (.inr (by rintro _ _ ⟨_, ⟨_, _, _, _, _, _, rfl, rfl⟩, rfl⟩; exact ⟨_, (pCons (sC (sAA (sCA (sC (sAA hC))))) (pCons (sC (sAA (sCA (sC (sAA hC))))) (pH (pAA (pH (pA (pH (pA (pCons (sA hC) (pApp (sA hA') (pApp (sA hA') (pCons (sA hC) (pApp (sA hA') pNil)))))))))))))⟩)) ?_
 rintro _ _ ⟨_, ⟨v58a0, v58n0, v58c0, v58B0, v58N0, v58V0, rfl, rfl⟩, rfl⟩
 obtain ⟨v63, x63, h⟩ := bsome h
 refine k_cq rfl rfl rfl Tryz.call43 rfl rfl rfl (q_pf (k_hindcastref06_Same (p0 := v58) (p1 := p1.Own) v58N0 (vec_cap v58V0) p1N1 (vec_cap p1V1) x63) (fun w hI => ⟨(Rds.call (Rds.of_vec v58V0) pNil ⟨_, (sC (sAA (sCA (sCA hA'))))⟩) w hI, (Rds.call (Rds.of_vec p1V1) pNil ⟨_, (sC (sAA (sCA (sC (sAA (sCC (sCA hA')))))))⟩) w hI⟩)) rfl (pSub (pCons (sC (sAA (sCA (sC (sAA hC))))) (pCons (sC (sAA (sCA (sC (sAA hC))))) (pH (pAA (pH (pA (pH (pA (pCons (sA hC) (pApp (sA hA') (pApp (sA hA') (pCons (sA hC) (pApp (sA hA') pNil)))))))))))))) ?_
 refine k_val (v := .bool (!v63)) rfl rfl rfl (pSub (pCons (sC (sAA (sCA (sC (sAA hC))))) (pCons (sC (sAA (sCA (sC (sAA hC))))) (pH (pAA (pH (pA (pH (pA (pCons (sA hC) (pApp (sA hA') (pApp (sA hA') (pCons (sA hC) (pApp (sA hA') pNil)))))))))))))) (sV rfl) rfl ?_
 obtain rfl := sI h
 have h := hg65; clear hg65
 refine k_val (v := .bool (!v63)) rfl rfl rfl (pSub (pCons (sC (sAA (sCA (sC (sAA hC))))) (pCons (sC (sAA (sCA (sC (sAA hC))))) (pH (pAA (pH (pA (pH (pA (pCons (sA hC) (pApp (sA hA') (pApp (sA hA') (pCons (sA hC) (pApp (sA hA') pNil)))))))))))))) (sV rfl) rfl (k_val rfl rfl rfl (pSub (pCons (sC (sAA (sCA (sC (sAA hC))))) (pCons (sC (sAA (sCA (sC (sAA hC))))) (pH (pAA (pH (pA (pH (pA (pCons (sA hC) (pApp (sA hA') (pApp (sA hA') (pCons (sA hC) (pApp (sA hA') pNil)))))))))))))) (sV rfl) rfl ?_)
 obtain ⟨v75, h, hg75⟩ := bsome h
 refine k_split (t := 66) rfl (fun hc => ?_) (fun hc => ?_)
 ·replace h := ct hc h
  iterate 8 refine k_skip rfl rfl (pSub (pCons (sC (sAA (sCA (sC (sAA hC))))) (pCons (sC (sAA (sCA (sC (sAA hC))))) (pH (pAA (pH (pA (pH (pA (pCons (sA hC) (pApp (sA hA') (pApp (sA hA') (pCons (sA hC) (pApp (sA hA') pNil)))))))))))))) rfl ?_
  obtain rfl := sI h
  have h := hg75; clear hg75
  refine k_val (v := .bool true) rfl rfl rfl (pSub (pCons (sC (sAA (sCA (sC (sAA hC))))) (pCons (sC (sAA (sCA (sC (sAA hC))))) (pH (pAA (pH (pA (pH (pA (pCons (sA hC) (pApp (sA hA') (pApp (sA hA') (pCons (sA hC) (pApp (sA hA') pNil)))))))))))))) (sV rfl) rfl (k_end (by kernel_rfl) (wx_then ?_))
  replace h := ct rfl h
  refine wc_cond_true rfl ?_
  refine wSR (wP rfl rfl (wNT (wc_ret (wx_then_ret ?_))))
  obtain ⟨rfl, rfl⟩ := pJ2 h
  exact wx_spD tt_ok (.inl rfl) Tryz.results14 (Res.tmp rfl Res.nil) ⟨p0_5g0, p0_5P0, p0_5G0, p0_5A0, rfl, rfl⟩ (fun F => by simp) (pSub (pH (pAA (pH (pA (pH (pA (pCons (sA (sCC hC)) (pApp (sA (sCC hA')) (pApp (sA (sCC hA')) (pCons (sA (sCC hC)) (pApp (sA (sCC hA')) pNil))))))))))))
 replace h := cf hc h
 iterate 3 refine k_val rfl rfl rfl (pSub (pCons (sC (sAA (sCA (sC (sAA hC))))) (pCons (sC (sAA (sCA (sC (sAA hC))))) (pH (pAA (pH (pA (pH (pA (pCons (sA hC) (pApp (sA hA') (pApp (sA hA') (pCons (sA hC) (pApp (sA hA') pNil)))))))))))))) (sV rfl) rfl ?_
 refine k_val (v := .pointer (some ⟨p1b, 2, none⟩)) rfl rfl rfl (pSub (pCons (sC (sAA (sCA (sC (sAA hC))))) (pCons (sC (sAA (sCA (sC (sAA hC))))) (pH (pAA (pH (pA (pH (pA (pCons (sA hC) (pApp (sA hA') (pApp (sA hA') (pCons (sA hC) (pApp (sA hA') pNil)))))))))))))) (sV rfl) rfl (k_val (v := agS p1.Sure p1a0 p1n0 p1c0) rfl rfl rfl (pSub (pCons (sC (sAA (sCA (sC (sAA hC))))) (pCons (sC (sAA (sCA (sC (sAA hC))))) (pH (pAA (pH (pA (pH (pA (pCons (sA hC) (pApp (sA hA') (pApp (sA hA') (pCons (sA hC) (pApp (sA hA') pNil)))))))))))))) (val_load tt_ok rfl (mTT (mT (mR (mR (mT (mR (mT (mR mH)))))))) rfl) rfl ?_)
 obtain ⟨v68, x68, h⟩ := bsome h
 refine k_cs rfl rfl rfl Tryz.call46 rfl rfl rfl (s_sp (k_rollback_Engine_State (p0 := p0) (p0_4 := p0_4) (p0_5 := p0_5) p0N0 p0V0 p0N1 p0V1 p0_4N0 p0_4V0 p0_5G0 p0_5A0 x68) (pH (pAA (pH (pA (pH (pA pNil)))))) (fun _ _ => trivial)) rfl (.inr (by rintro _ _ ⟨_, ⟨_, _, _, _, _, _, rfl, rfl⟩, rfl⟩; exact ⟨_, (pCons (sC (sAA (sCA (sC (sAA (sA hC)))))) (pCons (sC (sAA (sCA (sC (sAA (sA hC)))))) (pH (pAA (pH (pA (pH (pA (pCons (sAA hC) (pApp (sAA hA') (pApp (sAA hA') (pCons (sAA hC) (pApp (sAA hA') pNil)))))))))))))⟩)) ?_
 rintro _ _ ⟨_, ⟨v68a0, v68n0, v68c0, v68B0, v68N0, v68V0, rfl, rfl⟩, rfl⟩
 obtain ⟨v73, x73, h⟩ := bsome h
 refine k_cq rfl rfl rfl Tryz.call45 rfl rfl rfl (q_pf (k_hindcastref08_Same (p0 := v68) (p1 := p1.Sure) v68N0 (vec_cap v68V0) p1N0 (vec_cap p1V0) x73) (fun w hI => ⟨(Rds.call (Rds.of_vec v68V0) pNil ⟨_, (sC (sAA (sCA (sCA hA'))))⟩) w hI, (Rds.call (Rds.of_vec p1V0) pNil ⟨_, (sC (sAA (sCA (sC (sAA (sA (sCC (sC hA'))))))))⟩) w hI⟩)) rfl (pSub (pCons (sC (sAA (sCA (sC (sAA (sA hC)))))) (pCons (sC (sAA (sCA (sC (sAA (sA hC)))))) (pH (pAA (pH (pA (pH (pA (pCons (sAA hC) (pApp (sAA hA') (pApp (sAA hA') (pCons (sAA hC) (pApp (sAA hA') pNil)))))))))))))) ?_
 refine k_val (v := .bool (!v73)) rfl rfl rfl (pSub (pCons (sC (sAA (sCA (sC (sAA (sA hC)))))) (pCons (sC (sAA (sCA (sC (sAA (sA hC)))))) (pH (pAA (pH (pA (pH (pA (pCons (sAA hC) (pApp (sAA hA') (pApp (sAA hA') (pCons (sAA hC) (pApp (sAA hA') pNil)))))))))))))) (sV rfl) rfl ?_
 obtain rfl := sI h
 have h := hg75; clear hg75
 refine k_val (v := .bool (!v73)) rfl rfl rfl (pSub (pCons (sC (sAA (sCA (sC (sAA (sA hC)))))) (pCons (sC (sAA (sCA (sC (sAA (sA hC)))))) (pH (pAA (pH (pA (pH (pA (pCons (sAA hC) (pApp (sAA hA') (pApp (sAA hA') (pCons (sAA hC) (pApp (sAA hA') pNil)))))))))))))) (sV rfl) rfl (k_end (by kernel_rfl) (wx_then (wc_cond rfl (fun hc => ?_) (fun hc => ?_))))
 ·replace h := ct hc h
  refine wSR (wP rfl rfl (wNT (wc_ret (wx_then_ret ?_))))
  obtain ⟨rfl, rfl⟩ := pJ2 h
  exact wx_spD tt_ok (.inl rfl) Tryz.results14 (Res.tmp rfl Res.nil) ⟨p0_5g0, p0_5P0, p0_5G0, p0_5A0, rfl, rfl⟩ (fun F => by simp) (pSub (pH (pAA (pH (pA (pH (pA (pCons (sAA (sCC hC)) (pApp (sAA (sCC hA')) (pApp (sAA (sCC hA')) (pCons (sAA (sCC hC)) (pApp (sAA (sCC hA')) pNil))))))))))))
 replace h := cf hc h
 refine wc_skip (wx_then (wSR (wP rfl rfl (wP (v := .bool (!p2)) rfl rfl (wP rfl rfl ?_)))))
 replace h := bsome h; obtain ⟨⟨v84, zj, zk⟩, h, hg84⟩ := h
 refine wl_split (t := 78) rfl (fun hc => ?_) (fun hc => ?_)
 ·replace h := ct hc h
  iterate 5 refine wl_skip rfl rfl ?_
  obtain ⟨rfl, rfl, rfl⟩ := pJ3 h
  have h := hg84; clear hg84; try dsimp only at h
  refine wP (v := .bool true) rfl rfl (wP rfl rfl (wNT (wc_ret ?_)))
  obtain ⟨rfl, rfl⟩ := pJ2 h
  exact wx_spD tt_ok (.inl rfl) Tryz.results14 (Res.tmp rfl Res.nil) ⟨p0_5g0, p0_5P0, p0_5G0, p0_5A0, rfl, rfl⟩ (fun F => by simp) (pSub (pH (pAA (pH (pA (pH (pA (pCons (sAA (sCC hC)) (pApp (sAA (sCC hA')) (pApp (sAA (sCC hA')) (pCons (sAA (sCC hC)) (pApp (sAA (sCC hA')) pNil))))))))))))
 replace h := cf hc h
 refine wl_run rfl (wP rfl rfl ?_)
 replace h := bsome h; obtain ⟨⟨za, v80⟩, x80, h⟩ := h; try dsimp only at h
 refine wl_run rfl (wl_cs Tryz.call16 rfl rfl rfl (s_sp (k_rollback_Engine_Shown (p0 := p0) (p0_4 := p0_4) (p0_5 := p0_5) p0N0 p0V0 p0N1 p0V1 p0_4N0 p0_4V0 p0_5G0 p0_5A0 x80) (pH (pAA (pH (pA (pH (pA pNil)))))) (fun w hI => ⟨(Rds.call G0S (pH (pAA (pH (pA (pH (pA pNil)))))) rsub_nil) w hI, (Rds.call G1S (pH (pAA (pH (pA (pH (pA pNil)))))) rsub_nil) w hI⟩)) rfl ?_)
 rintro _ _ ⟨_, ⟨zi, zh, v80a0, v80n0, v80c0, v80B0, zg, zf, v80N0, v80V0, rfl, rfl⟩, rfl⟩
 refine wl_run rfl (wP rfl rfl ?_)
 obtain ⟨v82, x82, h⟩ := bsome h
 refine wl_run rfl (wl_cs Tryz.call47 rfl rfl rfl (s_sp (k_hindcastref26_Engine_Shown (p0 := p1) (p0_4 := p1_4) p1N0 p1V0 p1N1 p1V1 p1_4N0 p1_4V0 x82) (pCons (sC (sAA (sCA (sC (sAA (sAA (sCC hC))))))) (pApp (sC (sAA (sCA (sC (sAA (sAA (sCC hA'))))))) (pApp (sC (sAA (sCA (sC (sAA (sAA (sCC hA'))))))) (pCons (sC (sAA (sCA (sC (sAA (sAA (sCC hC))))))) (pApp (sC (sAA (sCA (sC (sAA (sAA (sCC hA'))))))) pNil))))) (fun _ _ => trivial)) rfl ?_)
 rintro _ _ ⟨_, ⟨v82a0, v82n0, v82c0, v82B0, v82N0, v82V0, rfl, rfl⟩, rfl⟩
 obtain ⟨v83, x83, h⟩ := bsome h
 refine wl_run rfl (wl_cq Tryz.call45 rfl rfl rfl (q_pf (k_hindcastref08_Same (p0 := v80) (p1 := v82) v80N0 (vec_cap v80V0) v82N0 (vec_cap v82V0) x83) (fun w hI => ⟨(Rds.call (Rds.of_vec v80V0) pNil ⟨_, (sC (sAA (sC (sAA (sC (sAA (sCA (sCA hA'))))))))⟩) w hI, (Rds.call (Rds.of_vec v82V0) pNil ⟨_, (sC (sAA (sCA hA')))⟩) w hI⟩)) rfl ?_)
 obtain ⟨rfl, rfl, rfl⟩ := pJ3 h
 have h := hg84; clear hg84; try dsimp only at h
 refine wP (v := .bool v83) rfl rfl (wP rfl rfl (wNT (wc_ret ?_)))
 obtain ⟨rfl, rfl⟩ := pJ2 h
 exact wx_spD tt_ok (.inl rfl) Tryz.results14 (Res.tmp rfl Res.nil) ⟨zi, zh, zg, zf, rfl, rfl⟩ (fun F => by simp) (pSub (pCons (sC (sAA (sC (sAA hC)))) (pApp (sC (sAA (sC (sAA hA')))) (pApp (sC (sAA (sC (sAA hA')))) (pCons (sC (sAA (sC (sAA hC)))) (pApp (sC (sAA (sC (sAA hA')))) (pCons (sC (sAA (sC (sAA hC)))) (pApp (sC (sAA (sC (sAA hA')))) (pH (pAA (pH (pA pNil))))))))))))

theorem k_hindcastref24_Queue_Add {F : Nat} {p0 : T_hindcastref24_Queue} {p0b p0t : Nat} {p0a0 : Option Addr} {p0n0 p0c0 : Nat} {p0B0 : List Blk} {p1 : Int} {p2 : Int} {r0 : T_hindcastref24_Queue} {r1 : Int} (p0N0 : p0n0 = p0.L.length) (p0V0 : Own 40 1 p0a0 p0n0 p0c0 (flat (e1 .u8) p0.L) p0B0) (h : m_hindcastref24_Queue_Add F p0 p1 p2 = some (r0, r1)) :
    SpD Tryz.prog 32 [.pointer (some ⟨p0b, 0, none⟩), .int .u64 p1, .int .u8 p2] (⟨p0b, [.int .u64 p0.Begin, .int .u64 p0.First, .slice p0a0 p0n0 p0c0], p0t, (0, 0)⟩ :: (p0B0 ++ [])) (fun w => True) (fun v D => ∃ (r0a0 : Option Addr) (r0n0 r0c0 : Nat) (r0B0 : List Blk), r0n0 = r0.L.length ∧ Own 40 1 r0a0 r0n0 r0c0 (flat (e1 .u8) r0.L) r0B0 ∧ v = .int .i64 r1 ∧ D = fun F => (⟨p0b, [.int .u64 r0.Begin, .int .u64 r0.First, .slice r0a0 r0n0 r0c0], p0t, (0, 0)⟩ :: (r0B0 ++ F))) := by
 unfold m_hindcastref24_Queue_Add at h
 refine sp_of_wc Tryz.func32 rfl Tryz.ntmps32 rfl rfl (fun w0 hR => ?_)
 refine wSR (wP rfl rfl (wNT (wc_seq (wSR (wP rfl rfl (wP (v := .bool (decide ((64 : Int) ≤ p2))) rfl rfl (wNT (wc_cond rfl (fun hc => ?_) (fun hc => ?_)))))))))
 ·replace h := ct hc h
  refine wSR (wP rfl rfl (wNT (wc_ret (wx_then_ret ?_))))
  obtain ⟨rfl, rfl⟩ := pJ2 h
  exact wx_spD tt_ok (.inl rfl) Tryz.results32 (Res.tmp rfl Res.nil) ⟨p0a0, p0n0, p0c0, p0B0, p0N0, p0V0, rfl, rfl⟩ (fun F => by simp) (pSub (pH (pA pNil)))
 replace h := cf hc h
 refine wc_skip (wx_then (wc_seq (wSR ?_)))
 iterate 3 refine wP rfl rfl ?_
 refine wP (v := .pointer (some ⟨p0b, 1, none⟩)) rfl rfl (wl_val (v := .int .u64 p0.First) (val_load tt_ok rfl mH rfl) rfl (wP (v := .bool (decide (p1 < p0.First))) rfl rfl (wNT (wc_cond rfl (fun hc => ?_) (fun hc => ?_)))))
 ·replace h := ct hc h
  refine wSR (wP rfl rfl (wNT (wc_ret (wx_then_ret ?_))))
  obtain ⟨rfl, rfl⟩ := pJ2 h
  exact wx_spD tt_ok (.inl rfl) Tryz.results32 (Res.tmp rfl Res.nil) ⟨p0a0, p0n0, p0c0, p0B0, p0N0, p0V0, rfl, rfl⟩ (fun F => by simp) (pSub (pH (pA pNil)))
 replace h := cf hc h
 refine wc_skip (wx_then (wSR ?_))
 iterate 2 refine wP rfl rfl ?_
 replace h := bsome h; obtain ⟨⟨za, zb⟩, x20, h⟩ := h; try dsimp only at h
 refine wl_cq Tryz.call62 rfl rfl rfl (q_rd (k_hindcastref24_Queue_At (p0 := p0) p0N0 p0V0 x20) (pH (pA pNil)) (fun _ _ => trivial)) rfl ?_
 iterate 5 refine wP rfl rfl ?_
 refine wNT (wc_seq (wSR ?_))
 iterate 2 refine wP rfl rfl ?_
 obtain ⟨v28, h, hg28⟩ := bsome h
 refine wl_split (t := 24) rfl (fun hc => ?_) (fun hc => ?_)
 ·replace h := ct hc h
  refine wl_run rfl (wP rfl rfl (wl_run rfl (wP rfl rfl (wl_run rfl (wP (v := .bool (za != p2)) rfl rfl ?_)))))
  obtain rfl := sI h
  have h := hg28; clear hg28
  refine wP (v := .bool (za != p2)) rfl rfl (wNT (wc_cond rfl (fun hc => ?_) (fun hc => ?_)))
  ·replace h := ct hc h
   refine wSR (wP rfl rfl (wNT (wc_ret (wx_then_ret ?_))))
   obtain ⟨rfl, rfl⟩ := pJ2 h
   exact wx_spD tt_ok (.inl rfl) Tryz.results32 (Res.tmp rfl Res.nil) ⟨p0a0, p0n0, p0c0, p0B0, p0N0, p0V0, rfl, rfl⟩ (fun F => by simp) (pSub (pH (pA pNil)))
  replace h := cf hc h
  refine wc_skip (wx_then (wc_seq (wSR (wP rfl rfl (wNT (wc_cond rfl (fun hc => ?_) (fun hc => ?_)))))))
  ·replace h := ct hc h
   refine wSR (wP rfl rfl (wNT (wc_ret (wx_then_ret ?_))))
   obtain ⟨rfl, rfl⟩ := pJ2 h
   exact wx_spD tt_ok (.inl rfl) Tryz.results32 (Res.tmp rfl Res.nil) ⟨p0a0, p0n0, p0c0, p0B0, p0N0, p0V0, rfl, rfl⟩ (fun F => by simp) (pSub (pH (pA pNil)))
  replace h := cf hc h
  refine wc_skip (wx_then (wc_seq (wSR ?_)))
  iterate 2 refine wP rfl rfl ?_
  obtain ⟨v32, x32, h⟩ := bsome h
  refine wl_cq Tryz.call42 rfl rfl rfl (q_rd (k_hindcastref24_Queue_Known (p0 := p0) p0N0 p0V0 x32) (pH (pA pNil)) (fun _ _ => trivial)) rfl ?_
  refine wP (v := .bool (p1 != v32)) rfl rfl (wP rfl rfl ?_)
  obtain ⟨v37, h, hg37⟩ := bsome h
  refine wl_split (t := 34) rfl (fun hc => ?_) (fun hc => ?_)
  ·replace h := ct hc h
   iterate 2 refine wl_skip rfl rfl ?_
   obtain rfl := sI h
   have h := hg37; clear hg37
   refine wP (v := .bool true) rfl rfl (wNT ?_)
   replace h := ct rfl h
   refine wc_cond_true rfl ?_
   refine wSR (wP rfl rfl (wNT (wc_ret (wx_then_ret ?_))))
   obtain ⟨rfl, rfl⟩ := pJ2 h
   exact wx_spD tt_ok (.inl rfl) Tryz.results32 (Res.tmp rfl Res.nil) ⟨p0a0, p0n0, p0c0, p0B0, p0N0, p0V0, rfl, rfl⟩ (fun F => by simp) (pSub (pH (pA pNil)))
  replace h := cf hc h
  refine wl_run rfl (wP rfl rfl (wl_run rfl (wP (v := .bool (p1 == (18446744073709551615 : Int))) rfl rfl ?_)))
  obtain rfl := sI h
  have h := hg37; clear hg37
  refine wP (v := .bool (p1 == (18446744073709551615 : Int))) rfl rfl (wNT (wc_cond rfl (fun hc => ?_) (fun hc => ?_)))
  ·replace h := ct hc h
   refine wSR (wP rfl rfl (wNT (wc_ret (wx_then_ret ?_))))
   obtain ⟨rfl, rfl⟩ := pJ2 h
   exact wx_spD tt_ok (.inl rfl) Tryz.results32 (Res.tmp rfl Res.nil) ⟨p0a0, p0n0, p0c0, p0B0, p0N0, p0V0, rfl, rfl⟩ (fun F => by simp) (pSub (pH (pA pNil)))
  replace h := cf hc h
  refine wc_skip (wx_then (wc_seq (wc_seq (wc_quiet (by kernel_rfl) (by kernel_rfl) (qP rfl rfl ?_)))))
  obtain ⟨v39, x39, h⟩ := bsome h
  refine wq_cq Tryz.call42 rfl rfl rfl (q_rd (k_hindcastref24_Queue_Known (p0 := p0) p0N0 p0V0 x39) (pH (pA pNil)) (fun _ _ => trivial)) rfl ?_
  iterate 2 refine qP rfl rfl ?_
  refine qP (v := .pointer (some ⟨p0b, 1, none⟩)) rfl rfl (wq_val (v := .int .u64 p0.First) (val_load tt_ok rfl mH rfl) rfl (qP (v := .int .u64 (IntKind.wrap .u64 (v39 - p0.First))) rfl rfl (qP (v := .bool (decide ((24 : Int) ≤ (IntKind.wrap .u64 (v39 - p0.First))))) rfl rfl (wq_nil (wx_then (wc_cond rfl (fun hc => ?_) (fun hc => ?_)))))))
  ·replace h := ct hc h
   refine wSR (wP rfl rfl (wNT (wc_ret (wx_then_ret ?_))))
   obtain ⟨rfl, rfl⟩ := pJ2 h
   exact wx_spD tt_ok (.inl rfl) Tryz.results32 (Res.tmp rfl Res.nil) ⟨p0a0, p0n0, p0c0, p0B0, p0N0, p0V0, rfl, rfl⟩ (fun F => by simp) (pSub (pH (pA pNil)))
  replace h := cf hc h
  refine wc_skip (wx_then (wSR ?_))
  iterate 3 refine wP rfl rfl ?_
  refine wP (v := .pointer (some ⟨p0b, 2, none⟩)) rfl rfl (wl_val (v := .slice p0a0 p0n0 p0c0) (val_load tt_ok rfl mH rfl) rfl (wP rfl rfl (wl_chg (chg_bsv (enc := (e1 .u8)) (xs := ([p2] : List Int)) tt_ok rfl rfl rfl rfl rfl rfl rfl rfl (e1_len _)) rfl ?_)))
  rintro _ _ ⟨a52, n52_, c52, B52, rfl, N52, V52, rfl⟩
  obtain ⟨v53, x53, h⟩ := bsome h
  refine wl_chg (chg_app (enc := (e1 .u8)) (ys := ([p2] : List Int)) tt_ok rfl rfl rfl rfl rfl rfl p0N0 N52 p0V0 (sAC hA') (Rds.of_vec V52) ⟨_, hA'⟩ (e1_len _) (fun _ => rfl) rfl x53) rfl ?_
  rintro _ _ ⟨a53, n53_, c53, B53, rfl, N53, V53, rfl⟩
  refine wP rfl rfl (wP (v := .pointer (some ⟨p0b, 2, none⟩)) rfl rfl ?_)
  apply wl_store tt_ok; rfl; exact (Upd.right (Upd.right Upd.here)); rfl; rfl; rfl; rfl; rfl; rfl
  refine wNT (wSR (wP rfl rfl (wNT (wc_ret ?_))))
  obtain ⟨rfl, rfl⟩ := pJ2 h
  exact wx_spD tt_ok (.inl rfl) Tryz.results32 (Res.tmp rfl Res.nil) ⟨a53, n53_, c53, B53, N53, V53, rfl, rfl⟩ (fun F => by simp) (pSub (pCons (sAA hC) (pA pNil)))
 replace h := cf hc h
 iterate 3 refine wl_skip rfl rfl ?_
 obtain rfl := sI h
 have h := hg28; clear hg28
 refine wP (v := .bool false) rfl rfl (wNT ?_)
 replace h := cf rfl h
 refine wc_cond_false rfl ?_
 refine wc_skip (wx_then (wc_seq (wSR (wP rfl rfl (wNT (wc_cond rfl (fun hc => ?_) (fun hc => ?_)))))))
 ·replace h := ct hc h
  refine wSR (wP rfl rfl (wNT (wc_ret (wx_then_ret ?_))))
  obtain ⟨rfl, rfl⟩ := pJ2 h
  exact wx_spD tt_ok (.inl rfl) Tryz.results32 (Res.tmp rfl Res.nil) ⟨p0a0, p0n0, p0c0, p0B0, p0N0, p0V0, rfl, rfl⟩ (fun F => by simp) (pSub (pH (pA pNil)))
 replace h := cf hc h
 refine wc_skip (wx_then (wc_seq (wSR ?_)))
 iterate 2 refine wP rfl rfl ?_
 obtain ⟨v32, x32, h⟩ := bsome h
 refine wl_cq Tryz.call42 rfl rfl rfl (q_rd (k_hindcastref24_Queue_Known (p0 := p0) p0N0 p0V0 x32) (pH (pA pNil)) (fun _ _ => trivial)) rfl ?_
 refine wP (v := .bool (p1 != v32)) rfl rfl (wP rfl rfl ?_)
 obtain ⟨v37, h, hg37⟩ := bsome h
 refine wl_split (t := 34) rfl (fun hc => ?_) (fun hc => ?_)
 ·replace h := ct hc h
  iterate 2 refine wl_skip rfl rfl ?_
  obtain rfl := sI h
  have h := hg37; clear hg37
  refine wP (v := .bool true) rfl rfl (wNT ?_)
  replace h := ct rfl h
  refine wc_cond_true rfl ?_
  refine wSR (wP rfl rfl (wNT (wc_ret (wx_then_ret ?_))))
  obtain ⟨rfl, rfl⟩ := pJ2 h
  exact wx_spD tt_ok (.inl rfl) Tryz.results32 (Res.tmp rfl Res.nil) ⟨p0a0, p0n0, p0c0, p0B0, p0N0, p0V0, rfl, rfl⟩ (fun F => by simp) (pSub (pH (pA pNil)))
 replace h := cf hc h
 refine wl_run rfl (wP rfl rfl (wl_run rfl (wP (v := .bool (p1 == (18446744073709551615 : Int))) rfl rfl ?_)))
 obtain rfl := sI h
 have h := hg37; clear hg37
 refine wP (v := .bool (p1 == (18446744073709551615 : Int))) rfl rfl (wNT (wc_cond rfl (fun hc => ?_) (fun hc => ?_)))
 ·replace h := ct hc h
  refine wSR (wP rfl rfl (wNT (wc_ret (wx_then_ret ?_))))
  obtain ⟨rfl, rfl⟩ := pJ2 h
  exact wx_spD tt_ok (.inl rfl) Tryz.results32 (Res.tmp rfl Res.nil) ⟨p0a0, p0n0, p0c0, p0B0, p0N0, p0V0, rfl, rfl⟩ (fun F => by simp) (pSub (pH (pA pNil)))
 replace h := cf hc h
 refine wc_skip (wx_then (wc_seq (wc_seq (wc_quiet (by kernel_rfl) (by kernel_rfl) (qP rfl rfl ?_)))))
 obtain ⟨v39, x39, h⟩ := bsome h
 refine wq_cq Tryz.call42 rfl rfl rfl (q_rd (k_hindcastref24_Queue_Known (p0 := p0) p0N0 p0V0 x39) (pH (pA pNil)) (fun _ _ => trivial)) rfl ?_
 iterate 2 refine qP rfl rfl ?_
 refine qP (v := .pointer (some ⟨p0b, 1, none⟩)) rfl rfl (wq_val (v := .int .u64 p0.First) (val_load tt_ok rfl mH rfl) rfl (qP (v := .int .u64 (IntKind.wrap .u64 (v39 - p0.First))) rfl rfl (qP (v := .bool (decide ((24 : Int) ≤ (IntKind.wrap .u64 (v39 - p0.First))))) rfl rfl (wq_nil (wx_then (wc_cond rfl (fun hc => ?_) (fun hc => ?_)))))))
 ·replace h := ct hc h
  refine wSR (wP rfl rfl (wNT (wc_ret (wx_then_ret ?_))))
  obtain ⟨rfl, rfl⟩ := pJ2 h
  exact wx_spD tt_ok (.inl rfl) Tryz.results32 (Res.tmp rfl Res.nil) ⟨p0a0, p0n0, p0c0, p0B0, p0N0, p0V0, rfl, rfl⟩ (fun F => by simp) (pSub (pH (pA pNil)))
 replace h := cf hc h
 refine wc_skip (wx_then (wSR ?_))
 iterate 3 refine wP rfl rfl ?_
 refine wP (v := .pointer (some ⟨p0b, 2, none⟩)) rfl rfl (wl_val (v := .slice p0a0 p0n0 p0c0) (val_load tt_ok rfl mH rfl) rfl (wP rfl rfl (wl_chg (chg_bsv (enc := (e1 .u8)) (xs := ([p2] : List Int)) tt_ok rfl rfl rfl rfl rfl rfl rfl rfl (e1_len _)) rfl ?_)))
 rintro _ _ ⟨a52, n52_, c52, B52, rfl, N52, V52, rfl⟩
 obtain ⟨v53, x53, h⟩ := bsome h
 refine wl_chg (chg_app (enc := (e1 .u8)) (ys := ([p2] : List Int)) tt_ok rfl rfl rfl rfl rfl rfl p0N0 N52 p0V0 (sAC hA') (Rds.of_vec V52) ⟨_, hA'⟩ (e1_len _) (fun _ => rfl) rfl x53) rfl ?_
 rintro _ _ ⟨a53, n53_, c53, B53, rfl, N53, V53, rfl⟩
 refine wP rfl rfl (wP (v := .pointer (some ⟨p0b, 2, none⟩)) rfl rfl ?_)
 apply wl_store tt_ok; rfl; exact (Upd.right (Upd.right Upd.here)); rfl; rfl; rfl; rfl; rfl; rfl
 refine wNT (wSR (wP rfl rfl (wNT (wc_ret ?_))))
 obtain ⟨rfl, rfl⟩ := pJ2 h
 exact wx_spD tt_ok (.inl rfl) Tryz.results32 (Res.tmp rfl Res.nil) ⟨a53, n53_, c53, B53, N53, V53, rfl, rfl⟩ (fun F => by simp) (pSub (pCons (sAA hC) (pA pNil)))

theorem k_hindcastref26_Engine_Remote {F : Nat} {p0 : T_hindcastref26_Engine} {p0b p0t : Nat} {p0a0 : Option Addr} {p0n0 p0c0 : Nat} {p0B0 : List Blk} {p0a1 : Option Addr} {p0n1 p0c1 : Nat} {p0B1 : List Blk} {p0_4 : T_hindcastref24_Queue} {p0_4b p0_4t : Nat} {p0_4a0 : Option Addr} {p0_4n0 p0_4c0 : Nat} {p0_4B0 : List Blk} {p1 : Int} {p2 : Int} {r0 : T_hindcastref24_Queue} {r1 : Int} (p0N0 : p0n0 = p0.Sure.Shots.length) (p0V0 : Own 93 6 p0a0 p0n0 p0c0 (flat c_T_api_Shot p0.Sure.Shots) p0B0) (p0N1 : p0n1 = p0.Own.length) (p0V1 : Own 40 1 p0a1 p0n1 p0c1 (flat (e1 .u8) p0.Own) p0B1) (p0_4N0 : p0_4n0 = p0_4.L.length) (p0_4V0 : Own 40 1 p0_4a0 p0_4n0 p0_4c0 (flat (e1 .u8) p0_4.L) p0_4B0) (h : m_hindcastref26_Engine_Remote F p0 p0_4 p1 p2 = some (r0, r1)) :
    SpD Tryz.prog 11 [.pointer (some ⟨p0b, 0, none⟩), .int .u64 p1, .int .u8 p2] (⟨p0b, (.int .u8 p0.Player :: .int .i64 p0.Window :: st19 p0.Sure p0a0 p0n0 p0c0 [.slice p0a1 p0n1 p0c1, .pointer (some ⟨p0_4b, 0, none⟩)]), p0t, (0, 0)⟩ :: (p0B0 ++ (p0B1 ++ (⟨p0_4b, [.int .u64 p0_4.Begin, .int .u64 p0_4.First, .slice p0_4a0 p0_4n0 p0_4c0], p0_4t, (0, 0)⟩ :: (p0_4B0 ++ []))))) (fun w => True) (fun v D => ∃ (r0a0 : Option Addr) (r0n0 r0c0 : Nat) (r0B0 : List Blk), r0n0 = r0.L.length ∧ Own 40 1 r0a0 r0n0 r0c0 (flat (e1 .u8) r0.L) r0B0 ∧ v = .int .i64 r1 ∧ D = fun F => (⟨p0b, (.int .u8 p0.Player :: .int .i64 p0.Window :: st19 p0.Sure p0a0 p0n0 p0c0 [.slice p0a1 p0n1 p0c1, .pointer (some ⟨p0_4b, 0, none⟩)]), p0t, (0, 0)⟩ :: (p0B0 ++ (p0B1 ++ (⟨p0_4b, [.int .u64 r0.Begin, .int .u64 r0.First, .slice r0a0 r0n0 r0c0], p0_4t, (0, 0)⟩ :: (r0B0 ++ F)))))) := by
 unfold m_hindcastref26_Engine_Remote at h
 refine sp_of_wc Tryz.func11 rfl Tryz.ntmps11 rfl rfl (fun w0 hR => ?_)
 refine wSR (wP rfl rfl (wNT (wSR ?_)))
 iterate 2 refine wP rfl rfl ?_
 refine wP (v := .pointer (some ⟨p0b, 22, none⟩)) rfl rfl (wl_val (v := .pointer (some ⟨p0_4b, 0, none⟩)) (val_load tt_ok rfl mH rfl) rfl ?_)
 iterate 2 refine wP rfl rfl ?_
 replace h := bsome h; obtain ⟨⟨za, v13⟩, x13, h⟩ := h; try dsimp only at h
 refine wl_cs Tryz.call32 rfl rfl rfl (s_sp (k_hindcastref24_Queue_Add (p0 := p0_4) p0_4N0 p0_4V0 x13) (pCons (sC (sAA hC)) (pApp (sC (sAA hA')) pNil)) (fun _ _ => trivial)) rfl ?_
 rintro _ _ ⟨_, ⟨ze, zg, zf, zb, zc, zd, rfl, rfl⟩, rfl⟩
 refine wP rfl rfl (wNT (wc_ret ?_))
 obtain ⟨rfl, rfl⟩ := pJ2 h
 exact wx_spD tt_ok (.inl rfl) Tryz.results11 (Res.tmp rfl Res.nil) ⟨ze, zg, zf, zb, zc, zd, rfl, rfl⟩ (fun F => by simp) (pSub (pCons (sCA hC) (pApp (sCA hA') (pApp (sCA hA') (pH (pA pNil))))))

theorem k_hindcastref24_Queue_Drop {F : Nat} {p0 : T_hindcastref24_Queue} {p0b p0t : Nat} {p0a0 : Option Addr} {p0n0 p0c0 : Nat} {p0B0 : List Blk} {p1 : Int} {r0 : T_hindcastref24_Queue} (p0N0 : p0n0 = p0.L.length) (p0V0 : Own 40 1 p0a0 p0n0 p0c0 (flat (e1 .u8) p0.L) p0B0) (h : m_hindcastref24_Queue_Drop F p0 p1 = some r0) :
    SpD Tryz.prog 39 [.pointer (some ⟨p0b, 0, none⟩), .int .u64 p1] (⟨p0b, [.int .u64 p0.Begin, .int .u64 p0.First, .slice p0a0 p0n0 p0c0], p0t, (0, 0)⟩ :: (p0B0 ++ [])) (fun w => True) (fun v D => ∃ (r0a0 : Option Addr) (r0n0 r0c0 : Nat) (r0B0 : List Blk), r0n0 = r0.L.length ∧ Own 40 1 r0a0 r0n0 r0c0 (flat (e1 .u8) r0.L) r0B0 ∧ v = .tuple #[] ∧ D = fun F => (⟨p0b, [.int .u64 r0.Begin, .int .u64 r0.First, .slice r0a0 r0n0 r0c0], p0t, (0, 0)⟩ :: (r0B0 ++ F))) := by
 unfold m_hindcastref24_Queue_Drop at h
 refine sp_of_wc Tryz.func39 rfl Tryz.ntmps39 rfl rfl (fun w0 hR => ?_)
 refine wc_seq (wSR ?_)
 iterate 2 refine wP rfl rfl ?_
 obtain ⟨v6, x6, h⟩ := bsome h
 refine wl_cq Tryz.call42 rfl rfl rfl (q_rd (k_hindcastref24_Queue_Known (p0 := p0) p0N0 p0V0 x6) (pH (pA pNil)) (fun _ _ => trivial)) rfl ?_
 refine wP (v := .bool (decide (v6 < p1))) rfl rfl (wNT ?_)
 obtain ⟨za, h, hj4⟩ := bsome h
 refine wc_join2 (fun E L => E = [(0, .pointer (some ⟨p0b, 0, none⟩)), (1, .int .u64 za)] ∧ L = (⟨p0b, [.int .u64 p0.Begin, .int .u64 p0.First, .slice p0a0 p0n0 p0c0], p0t, (0, 0)⟩ :: (p0B0 ++ []))) ?_ ?_
 ·refine wc_cond rfl (fun hc => ?_) (fun hc => ?_)
  ·replace h := ct hc h
   refine wc_region (wP rfl rfl ?_)
   obtain ⟨v9, x9, h⟩ := bsome h
   refine wl_cq Tryz.call42 rfl rfl rfl (q_rd (k_hindcastref24_Queue_Known (p0 := p0) p0N0 p0V0 x9) (pH (pA pNil)) (fun _ _ => trivial)) rfl ?_
   refine wP rfl rfl (wl_nil ?_)
   obtain rfl := sI h
   exact wx_join ⟨rfl, rfl⟩ (agree_cons rfl (agree_cons rfl agree_nil)) (pSub (pH (pA pNil)))
  replace h := cf hc h
  refine wc_skip ?_
  obtain rfl := sI h
  exact wx_join ⟨rfl, rfl⟩ (agree_cons rfl (agree_cons rfl agree_nil)) (pSub (pH (pA pNil)))
 rintro _ _ ⟨rfl, rfl⟩
 have h := hj4; clear hj4
 refine wSR ?_
 iterate 3 refine wP rfl rfl ?_
 refine wP (v := .pointer (some ⟨p0b, 1, none⟩)) rfl rfl (wl_val (v := .int .u64 p0.First) (val_load tt_ok rfl mH rfl) rfl (wP (v := .bool (decide (p0.First < za))) rfl rfl (wNT (wc_cond rfl (fun hc => ?_) (fun hc => ?_)))))
 ·replace h := ct hc h
  refine wc_region ?_
  iterate 3 refine wP rfl rfl ?_
  refine wP (v := .pointer (some ⟨p0b, 1, none⟩)) rfl rfl ?_
  apply wl_store tt_ok; rfl; exact Upd.here; rfl; rfl; rfl; rfl; rfl; rfl
  refine wl_nil ?_
  obtain rfl := sI h
  exact wx_spD tt_ok (.inr rfl) Tryz.results39 Res.nil ⟨p0a0, p0n0, p0c0, p0B0, p0N0, p0V0, rfl, rfl⟩ (fun F => by simp) (pSub (pH (pA pNil)))
 replace h := cf hc h
 refine wc_skip ?_
 obtain rfl := sI h
 exact wx_spD tt_ok (.inr rfl) Tryz.results39 Res.nil ⟨p0a0, p0n0, p0c0, p0B0, p0N0, p0V0, rfl, rfl⟩ (fun F => by simp) (pSub (pH (pA pNil)))

theorem k_hindcastref26_Engine_Confirm {F : Nat} {p0 : T_hindcastref26_Engine} {p0b p0t : Nat} {p0a0 : Option Addr} {p0n0 p0c0 : Nat} {p0B0 : List Blk} {p0a1 : Option Addr} {p0n1 p0c1 : Nat} {p0B1 : List Blk} {p0_4 : T_hindcastref24_Queue} {p0_4b p0_4t : Nat} {p0_4a0 : Option Addr} {p0_4n0 p0_4c0 : Nat} {p0_4B0 : List Blk} {p1 : Int} {r0 : T_hindcastref26_Engine} {r1 : T_hindcastref24_Queue} {r2 : (Int × Int)} {r3 : Bool} (p0N0 : p0n0 = p0.Sure.Shots.length) (p0V0 : Own 93 6 p0a0 p0n0 p0c0 (flat c_T_api_Shot p0.Sure.Shots) p0B0) (p0N1 : p0n1 = p0.Own.length) (p0V1 : Own 40 1 p0a1 p0n1 p0c1 (flat (e1 .u8) p0.Own) p0B1) (p0_4N0 : p0_4n0 = p0_4.L.length) (p0_4V0 : Own 40 1 p0_4a0 p0_4n0 p0_4c0 (flat (e1 .u8) p0_4.L) p0_4B0) (h : m_hindcastref26_Engine_Confirm F p0 p0_4 p1 = some (r0, r1, r2, r3)) :
    SpD Tryz.prog 13 [.pointer (some ⟨p0b, 0, none⟩), .int .u64 p1] (⟨p0b, (.int .u8 p0.Player :: .int .i64 p0.Window :: st19 p0.Sure p0a0 p0n0 p0c0 [.slice p0a1 p0n1 p0c1, .pointer (some ⟨p0_4b, 0, none⟩)]), p0t, (0, 0)⟩ :: (p0B0 ++ (p0B1 ++ (⟨p0_4b, [.int .u64 p0_4.Begin, .int .u64 p0_4.First, .slice p0_4a0 p0_4n0 p0_4c0], p0_4t, (0, 0)⟩ :: (p0_4B0 ++ []))))) (fun w => True) (fun v D => ∃ (r0a0 : Option Addr) (r0n0 r0c0 : Nat) (r0B0 : List Blk) (r0a1 : Option Addr) (r0n1 r0c1 : Nat) (r0B1 : List Blk) (r1a0 : Option Addr) (r1n0 r1c0 : Nat) (r1B0 : List Blk), r0n0 = r0.Sure.Shots.length ∧ Own 93 6 r0a0 r0n0 r0c0 (flat c_T_api_Shot r0.Sure.Shots) r0B0 ∧ r0n1 = r0.Own.length ∧ Own 40 1 r0a1 r0n1 r0c1 (flat (e1 .u8) r0.Own) r0B1 ∧ r1n0 = r1.L.length ∧ Own 40 1 r1a0 r1n0 r1c0 (flat (e1 .u8) r1.L) r1B0 ∧ v = .tuple #[.agg #[.int .u8 r2.1, .int .u8 r2.2], .bool r3] ∧ D = fun F => (⟨p0b, (.int .u8 r0.Player :: .int .i64 r0.Window :: st19 r0.Sure r0a0 r0n0 r0c0 [.slice r0a1 r0n1 r0c1, .pointer (some ⟨p0_4b, 0, none⟩)]), p0t, (0, 0)⟩ :: (r0B0 ++ (r0B1 ++ (⟨p0_4b, [.int .u64 r1.Begin, .int .u64 r1.First, .slice r1a0 r1n0 r1c0], p0_4t, (0, 0)⟩ :: (r1B0 ++ F)))))) := by
 unfold m_hindcastref26_Engine_Confirm at h
 refine sp_of_wc Tryz.func13 rfl Tryz.ntmps13 rfl rfl (fun w0 hR => ?_)
 refine wSR (wl_alloc tt_ok rfl rfl (fun b4 => (wP rfl rfl (wNT (wSR (wP rfl rfl ?_))))))
 replace h := bsome h; obtain ⟨⟨zb, zc⟩, x10, h⟩ := h; try dsimp only at h
 refine wl_cq Tryz.call37 rfl rfl rfl (q_rd (k_hindcastref26_Engine_Next (p0 := p0) (p0_4 := p0_4) p0N0 p0V0 p0N1 p0V1 p0_4N0 p0_4V0 x10) (pS (qS (qS (pS (qS pNil))))) (fun _ _ => trivial)) rfl ?_
 iterate 3 refine wP rfl rfl ?_
 refine wl_alloc tt_ok rfl rfl (fun b6 => ?_)
 apply wl_store tt_ok; rfl; exact Upd.here; rfl; rfl; rfl; rfl; rfl; rfl
 refine wP rfl rfl (wNT (wc_seq (wSR ?_)))
 iterate 2 refine wP rfl rfl ?_
 refine wP (v := .pointer (some ⟨p0b, 2, none⟩)) rfl rfl (wP (v := .pointer (some ⟨p0b, 2, none⟩)) rfl rfl (wl_val (v := .int .u64 p0.Sure.Frame) (val_load tt_ok rfl (mTT mH) rfl) rfl (wP rfl rfl (wP (v := .bool (decide (p1 ≤ p0.Sure.Frame))) rfl rfl (wP rfl rfl ?_)))))
 obtain ⟨v23, h, hg23⟩ := bsome h
 refine wl_split (t := 20) rfl (fun hc => ?_) (fun hc => ?_)
 ·replace h := ct hc h
  iterate 2 refine wl_skip rfl rfl ?_
  obtain rfl := sI h
  have h := hg23; clear hg23
  refine wP (v := .bool true) rfl rfl (wNT ?_)
  replace h := ct rfl h
  refine wc_cond_true rfl ?_
  refine wSR (wP (v := .agg #[.int .u8 (0 : Int), .int .u8 (0 : Int)]) rfl rfl ?_)
  apply wl_store tt_ok; rfl; exact (Upd.there Upd.here); rfl; rfl; rfl; rfl; rfl; rfl
  refine wP rfl rfl (wNT (wc_ret (wx_then_ret ?_)))
  obtain ⟨rfl, rfl, rfl, rfl⟩ := pJ4 h
  exact wx_spD tt_ok (.inl rfl) Tryz.results13 (Res.cell rfl (mT mH) rfl (Res.tmp rfl Res.nil)) ⟨p0a0, p0n0, p0c0, p0B0, p0a1, p0n1, p0c1, p0B1, p0_4a0, p0_4n0, p0_4c0, p0_4B0, p0N0, p0V0, p0N1, p0V1, p0_4N0, p0_4V0, rfl, rfl⟩ (fun F => by simp) (pSub (pCons (sCC hC) (pApp (sCC hA') (pApp (sCC hA') (pCons (sCC hC) (pApp (sCC hA') pNil))))))
 replace h := cf hc h
 refine wl_run rfl (wP rfl rfl (wl_run rfl (wP (v := .bool (!zc)) rfl rfl ?_)))
 obtain rfl := sI h
 have h := hg23; clear hg23
 refine wP (v := .bool (!zc)) rfl rfl (wNT (wc_cond rfl (fun hc => ?_) (fun hc => ?_)))
 ·replace h := ct hc h
  refine wSR (wP (v := .agg #[.int .u8 (0 : Int), .int .u8 (0 : Int)]) rfl rfl ?_)
  apply wl_store tt_ok; rfl; exact (Upd.there Upd.here); rfl; rfl; rfl; rfl; rfl; rfl
  refine wP rfl rfl (wNT (wc_ret (wx_then_ret ?_)))
  obtain ⟨rfl, rfl, rfl, rfl⟩ := pJ4 h
  exact wx_spD tt_ok (.inl rfl) Tryz.results13 (Res.cell rfl (mT mH) rfl (Res.tmp rfl Res.nil)) ⟨p0a0, p0n0, p0c0, p0B0, p0a1, p0n1, p0c1, p0B1, p0_4a0, p0_4n0, p0_4c0, p0_4B0, p0N0, p0V0, p0N1, p0V1, p0_4N0, p0_4V0, rfl, rfl⟩ (fun F => by simp) (pSub (pCons (sCC hC) (pApp (sCC hA') (pApp (sCC hA') (pCons (sCC hC) (pApp (sCC hA') pNil))))))
 replace h := cf hc h
 refine wc_skip (wx_then (wc_seq (wc_k2 (Ls := (⟨b6, [.int .u8 zb.1, .int .u8 zb.2], 49, (0, 0)⟩ :: (⟨b4, [.int .u8 (0 : Int), .int .u8 (0 : Int)], 49, (0, 0)⟩ :: (⟨p0b, (.int .u8 p0.Player :: .int .i64 p0.Window :: st19 p0.Sure p0a0 p0n0 p0c0 [.slice p0a1 p0n1 p0c1, .pointer (some ⟨p0_4b, 0, none⟩)]), p0t, (0, 0)⟩ :: (p0B0 ++ (p0B1 ++ (⟨p0_4b, [.int .u64 p0_4.Begin, .int .u64 p0_4.First, .slice p0_4a0 p0_4n0 p0_4c0], p0_4t, (0, 0)⟩ :: (p0_4B0 ++ [])))))))) [6, 7, 8, 9] [7, 8, 9] [0, 0, 2, 6, 14, 0, 62, 127, 255, 511] [0, 1, 2, 3, 4, 5, 6, 7, 8, 9] (by kernel_rfl) (by kernel_rfl) (by kernel_rfl) ?_)))
 iterate 3 refine k_val rfl rfl rfl (pSub (pHH (pH (pAA (pH (pA pNil)))))) (sV rfl) rfl ?_
 refine k_val (v := .pointer (some ⟨p0b, 2, none⟩)) rfl rfl rfl (pSub (pHH (pH (pAA (pH (pA pNil)))))) (sV rfl) rfl (k_val (v := agS p0.Sure p0a0 p0n0 p0c0) rfl rfl rfl (pSub (pHH (pH (pAA (pH (pA pNil)))))) (val_load tt_ok rfl (mTT mH) rfl) rfl ?_)
 refine k_val (v := .agg #[.int .u8 zb.1, .int .u8 zb.2]) rfl rfl rfl (pSub (pHH (pH (pAA (pH (pA pNil)))))) (val_load tt_ok rfl mH rfl) rfl ?_
 obtain ⟨v31, x31, h⟩ := bsome h
 refine k_cs rfl rfl rfl Tryz.call38 rfl rfl rfl (s_sp (k_hindcastref09_Step (p0 := p0.Sure) p0N0 (vec_cap p0V0) x31) pNil (Rds.call (Rds.of_vec p0V0) pNil ⟨_, (sCC (sC hA'))⟩)) rfl (.inr (by rintro _ _ ⟨_, ⟨_, _, _, _, _, _, rfl, rfl⟩, rfl⟩; exact ⟨_, (pCons (sA hC) (pCons (sA hC) (pCons (sA hC) (pApp (sA hA') (pApp (sA hA') (pCons (sA hC) (pApp (sA hA') pNil)))))))⟩)) ?_
 rintro _ _ ⟨_, ⟨v31a0, v31n0, v31c0, v31B0, v31N0, v31V0, rfl, rfl⟩, rfl⟩
 refine k_chg rfl rfl rfl (Chg.of_val (sV rfl)) rfl (.inl rfl) ?_
 rintro _ _ ⟨rfl, rfl⟩
 refine k_chg rfl rfl rfl (Chg.of_val (v := .pointer (some ⟨p0b, 2, none⟩)) (sV rfl)) rfl (.inl rfl) ?_
 rintro _ _ ⟨rfl, rfl⟩
 refine k_chg0 rfl rfl rfl (chg_store tt_ok rfl (Upd.right (Upd.there (Upd.there Upd.here))) rfl rfl rfl rfl rfl rfl) (.inl rfl) ?_
 rintro _ _ rfl
 refine k_end (by kernel_rfl) ?_
 refine wx_then (wSR ?_)
 iterate 3 refine wP rfl rfl ?_
 refine wP (v := .pointer (some ⟨p0b, 21, none⟩)) rfl rfl (wl_val (v := .slice p0a1 p0n1 p0c1) (val_load tt_ok rfl (mR (mTT mH)) rfl) rfl ?_)
 obtain ⟨v39, x39, h⟩ := bsome h
 refine wl_cut (enc := (e1 .u8)) tt_ok rfl rfl rfl p0N1 (vec_some p0V1) (e1_len _) (vec_cap p0V1) (.inr ⟨_, _, rfl, rfl⟩) (.inl ⟨rfl, by rw [p0N1]⟩) (.inl ⟨rfl, rfl⟩) (by intro h; first | rfl | cases h) (cut2 x39 p0N1 (vec_cap p0V1)) x39 rfl ?_
 intro a39 n39_ c39 N39 H39 I39 O39 Z39
 refine wP rfl rfl (wP (v := .pointer (some ⟨p0b, 21, none⟩)) rfl rfl ?_)
 apply wl_store tt_ok; rfl; exact (Upd.right (Upd.there (Upd.there Upd.here))); rfl; rfl; rfl; rfl; rfl; rfl
 refine wNT (wc_seq (wc_k2 (Ls := (v31B0 ++ (⟨b6, [.int .u8 zb.1, .int .u8 zb.2], 49, (0, 0)⟩ :: (⟨b4, [.int .u8 (0 : Int), .int .u8 (0 : Int)], 49, (0, 0)⟩ :: (⟨p0b, (.int .u8 p0.Player :: .int .i64 p0.Window :: st19 v31 v31a0 v31n0 v31c0 [.slice a39 n39_ c39, .pointer (some ⟨p0_4b, 0, none⟩)]), p0t, (0, 0)⟩ :: (p0B0 ++ (p0B1 ++ (⟨p0_4b, [.int .u64 p0_4.Begin, .int .u64 p0_4.First, .slice p0_4a0 p0_4n0 p0_4c0], p0_4t, (0, 0)⟩ :: (p0_4B0 ++ []))))))))) [9] [9] [0, 1, 3, 7, 0, 16, 48, 112, 240, 511] [0, 1, 2, 3, 4, 5, 6, 7, 8, 9] (by kernel_rfl) (by kernel_rfl) (by kernel_rfl) ?_))
 iterate 2 refine k_val rfl rfl rfl (pSub (pA (pHH (pH (pAA (pH (pA pNil))))))) (sV rfl) rfl ?_
 refine k_val (v := .pointer (some ⟨p0b, 22, none⟩)) rfl rfl rfl (pSub (pA (pHH (pH (pAA (pH (pA pNil))))))) (sV rfl) rfl (k_val (v := .pointer (some ⟨p0_4b, 0, none⟩)) rfl rfl rfl (pSub (pA (pHH (pH (pAA (pH (pA pNil))))))) (val_load tt_ok rfl (mR (mTT mH)) rfl) rfl ?_)
 iterate 2 refine k_val rfl rfl rfl (pSub (pA (pHH (pH (pAA (pH (pA pNil))))))) (sV rfl) rfl ?_
 iterate 2 refine k_val (v := .pointer (some ⟨p0b, 2, none⟩)) rfl rfl rfl (pSub (pA (pHH (pH (pAA (pH (pA pNil))))))) (sV rfl) rfl ?_
 refine k_val (v := .int .u64 v31.Frame) rfl rfl rfl (pSub (pA (pHH (pH (pAA (pH (pA pNil))))))) (val_load tt_ok rfl (mR (mTT mH)) rfl) rfl ?_
 obtain ⟨za, x51, h⟩ := bsome h
 refine k_cs rfl rfl rfl Tryz.call39 rfl rfl rfl (s_sp (k_hindcastref24_Queue_Drop (p0 := p0_4) p0_4N0 p0_4V0 x51) (pCons (sA (sCC (sC (sAA hC)))) (pApp (sA (sCC (sC (sAA hA')))) pNil)) (fun _ _ => trivial)) rfl (.inl rfl) ?_
 rintro _ _ ⟨_, ⟨zg, zi, zh, zd, ze, zf, rfl, rfl⟩, rfl⟩
 refine k_end (by kernel_rfl) ?_
 refine wx_then (wSR (wl_val (v := .agg #[.int .u8 zb.1, .int .u8 zb.2]) (val_load tt_ok rfl (mT (mR (mR mH))) rfl) rfl ?_))
 apply wl_store tt_ok; rfl; exact (Upd.there (Upd.right (Upd.right (Upd.there Upd.here)))); rfl; rfl; rfl; rfl; rfl; rfl
 refine wP rfl rfl (wNT (wc_ret ?_))
 obtain ⟨rfl, rfl, rfl, rfl⟩ := pJ4 h
 exact wx_spD tt_ok (.inl rfl) Tryz.results13 (Res.cell rfl (mT (mR (mR (mT mH)))) rfl (Res.tmp rfl Res.nil)) ⟨v31a0, v31n0, v31c0, v31B0, a39, n39_, c39, p0B1, zg, zi, zh, zd, v31N0, v31V0, N39, (O39 _ rfl p0V1), ze, zf, rfl, rfl⟩ (fun F => by simp) (pSub (pCons (sC (sAA (sCC hC))) (pApp (sCA hA') (pApp (sCA (sCC (sA hA'))) (pH (pA pNil))))))

theorem k_hindcastlaw26_RollbackPlays {F : Nat} {p0 : T_hindcastlaw26_Setup} {p0a0 : Option Addr} {p0n0 p0c0 : Nat} {p1 : (List T_hindcastlaw26_Act)} {p1a0 : Option Addr} {p1n0 p1c0 : Nat} {r0 : Bool} (p0N0 : p0n0 = p0.S.Shots.length) (p0H0 : p0n0 ≤ p0c0) (p1N0 : p1n0 = p1.length) (p1H0 : p1n0 ≤ p1c0) (h : m_hindcastlaw26_RollbackPlays F p0 p1 = some r0) :
    Pf Tryz.prog 3 [.agg #[.int .u64 p0.S.Frame, .int .u64 p0.S.Seed, .int .i32 p0.S.Players.1.X, .int .i32 p0.S.Players.1.Y, .int .i32 p0.S.Players.1.VX, .int .i32 p0.S.Players.1.VY, .int .u8 p0.S.Players.1.Health, .int .u8 p0.S.Players.1.Cool, .int .u8 p0.S.Players.1.Face, .int .i32 p0.S.Players.2.X, .int .i32 p0.S.Players.2.Y, .int .i32 p0.S.Players.2.VX, .int .i32 p0.S.Players.2.VY, .int .u8 p0.S.Players.2.Health, .int .u8 p0.S.Players.2.Cool, .int .u8 p0.S.Players.2.Face, .slice p0a0 p0n0 p0c0, .int .u16 p0.S.Score.1, .int .u16 p0.S.Score.2, .int .u8 p0.Player, .int .i64 p0.Window], .slice p1a0 p1n0 p1c0] (fun w => Rds w [] [] p0a0 (flat c_T_api_Shot p0.S.Shots) ∧ Rds w [] [] p1a0 (flat c_T_hindcastlaw26_Act p1) ∧ Rds w [] [] (some ⟨0, 0, none⟩) (flat (fun _ : Unit => gl_state_playerBounds) [()]) ∧ Rds w [] [] (some ⟨1, 0, none⟩) (flat (fun _ : Unit => gl_state_shotBounds) [()])) (.bool r0) := by
 unfold m_hindcastlaw26_RollbackPlays at h
 refine pf_of_wc Tryz.func3 rfl Tryz.ntmps3 rfl rfl (fun w0 hR => ?_)
 obtain ⟨p0S0, p1S0, G0S, G1S⟩ := hR
 refine wSR (wl_box rfl rfl rfl (fun b2 => (wP rfl rfl (wNT (wc_seq (wSR (wP (v := .pointer (some ⟨b2, 0, none⟩)) rfl rfl (wP (v := .pointer (some ⟨b2, 16, none⟩)) rfl rfl (wl_val (v := .slice p0a0 p0n0 p0c0) (val_load tt_ok rfl mH rfl) rfl (wl_val (v := .int .i64 (p0.S.Shots.length : Int)) (val_len tt_ok rfl rfl p0N0) rfl (wP (v := .bool (decide ((100 : Int) < (p0.S.Shots.length : Int)))) rfl rfl (wP rfl rfl ?_))))))))))))
 obtain ⟨v22, h, hg22⟩ := bsome h
 refine wl_split (t := 18) rfl (fun hc => ?_) (fun hc => ?_)
 ·replace h := ct hc h
  iterate 3 refine wl_skip rfl rfl ?_
  obtain rfl := sI h
  have h := hg22; clear hg22
  refine wP (v := .bool true) rfl rfl (wNT ?_)
  replace h := ct rfl h
  refine wc_cond_true rfl ?_
  refine wSR ?_
  obtain ⟨v23, x23, h⟩ := bsome h
  refine wl_cq Tryz.call4 rfl rfl rfl (q_pf (k_hindcastlaw26_works x23) (fun w hI => ⟨(Rds.call G0S pNil rsub_nil) w hI, (Rds.call G1S pNil rsub_nil) w hI⟩)) rfl ?_
  refine wP rfl rfl (wNT (wc_ret (wx_then_ret ?_)))
  obtain rfl := sI h
  exact wx_pf tt_ok (.inl rfl) Tryz.results3 (Res.tmp rfl Res.nil) rfl
 replace h := cf hc h
 refine wl_run rfl (wP rfl rfl (wl_run rfl (wl_val (v := .int .i64 (p1.length : Int)) (val_len tt_ok rfl rfl p1N0) rfl (wl_run rfl (wP (v := .bool (decide ((100 : Int) < (p1.length : Int)))) rfl rfl ?_)))))
 obtain rfl := sI h
 have h := hg22; clear hg22
 refine wP (v := .bool (decide ((100 : Int) < (p1.length : Int)))) rfl rfl (wNT (wc_cond rfl (fun hc => ?_) (fun hc => ?_)))
 ·replace h := ct hc h
  refine wSR ?_
  obtain ⟨v23, x23, h⟩ := bsome h
  refine wl_cq Tryz.call4 rfl rfl rfl (q_pf (k_hindcastlaw26_works x23) (fun w hI => ⟨(Rds.call G0S pNil rsub_nil) w hI, (Rds.call G1S pNil rsub_nil) w hI⟩)) rfl ?_
  refine wP rfl rfl (wNT (wc_ret (wx_then_ret ?_)))
  obtain rfl := sI h
  exact wx_pf tt_ok (.inl rfl) Tryz.results3 (Res.tmp rfl Res.nil) rfl
 replace h := cf hc h
 refine wc_skip (wx_then (wc_seq (wc_k2 (Ls := (⟨b2, (st19 p0.S p0a0 p0n0 p0c0 [.int .u8 p0.Player, .int .i64 p0.Window]), 32, (0, 0)⟩ :: [])) [2, 7, 8] [7, 8] [0, 1, 3, 0, 8, 0, 32, 127, 255] [0, 1, 3, 4, 5, 6, 2, 7, 8] (by kernel_rfl) (by kernel_rfl) (by kernel_rfl) ?_)))
 refine k_val (v := .pointer (some ⟨b2, 0, none⟩)) rfl rfl rfl (pSub (pH pNil)) (sV rfl) rfl (k_val (v := agS p0.S p0a0 p0n0 p0c0) rfl rfl rfl (pSub (pH pNil)) (val_load tt_ok rfl mH rfl) rfl ?_)
 refine k_val (v := .pointer (some ⟨b2, 19, none⟩)) rfl rfl rfl (pSub (pH pNil)) (sV rfl) rfl (k_val (v := .int .u8 p0.Player) rfl rfl rfl (pSub (pH pNil)) (val_load tt_ok rfl mH rfl) rfl (k_val (v := .pointer (some ⟨b2, 20, none⟩)) rfl rfl rfl (pSub (pH pNil)) (sV rfl) rfl (k_val (v := .int .i64 p0.Window) rfl rfl rfl (pSub (pH pNil)) (val_load tt_ok rfl mH rfl) rfl ?_)))
 obtain ⟨v26, x26, h⟩ := bsome h
 refine k_cs rfl rfl rfl Tryz.call6 rfl rfl rfl (s_sp (k_hindcastref08_Copy (p0 := p0.S) p0N0 p0H0 x26) pNil (Rds.call p0S0 pNil rsub_nil)) rfl (.inr (by rintro _ _ ⟨_, ⟨_, _, _, _, _, _, rfl, rfl⟩, rfl⟩; exact ⟨_, (pCons (sA hC) pNil)⟩)) ?_
 rintro _ _ ⟨_, ⟨v26a0, v26n0, v26c0, v26B0, v26N0, v26V0, rfl, rfl⟩, rfl⟩
 obtain ⟨v31, x31, h⟩ := bsome h
 rcases v31 with _ | v31s
 ·replace h := poN h
  refine k_cs rfl rfl rfl Tryz.call5 rfl rfl rfl (s_sp (k_rollback_New_none (p0 := v26) v26N0 (vec_cap v26V0) (own_Z v26V0) x31) pNil (fun w hI => ⟨(Rds.call (Rds.of_vec v26V0) pNil ⟨_, hA'⟩) w hI, (Rds.call G0S pNil rsub_nil) w hI, (Rds.call G1S pNil rsub_nil) w hI⟩)) rfl (.inl rfl) ?_
  rintro _ _ ⟨_, ⟨rfl, rfl⟩, rfl⟩
  refine k_chg rfl rfl rfl (Chg.of_val (sV rfl)) rfl (.inl rfl) ?_
  rintro _ _ ⟨rfl, rfl⟩
  refine k_end (by kernel_rfl) ?_
  refine wx_then (wSR (wP (v := .pointer (some ⟨b2, 0, none⟩)) rfl rfl (wl_val (v := agS p0.S p0a0 p0n0 p0c0) (val_load tt_ok rfl (mR mH) rfl) rfl ?_)))
  refine wP (v := .pointer (some ⟨b2, 19, none⟩)) rfl rfl (wl_val (v := .int .u8 p0.Player) (val_load tt_ok rfl (mR mH) rfl) rfl (wP (v := .pointer (some ⟨b2, 20, none⟩)) rfl rfl (wl_val (v := .int .i64 p0.Window) (val_load tt_ok rfl (mR mH) rfl) rfl ?_)))
  obtain ⟨v38, x38, h⟩ := bsome h
  rcases v38 with _ | v38s
  ·replace h := poN h
   refine wl_cs Tryz.call7 rfl rfl rfl (s_sp (k_hindcastref26_New_none (p0 := p0.S) p0N0 p0H0 x38) pNil (Rds.call p0S0 pNil rsub_nil)) rfl ?_
   rintro _ _ ⟨_, ⟨rfl, rfl⟩, rfl⟩
   refine wP rfl rfl (wNT (wc_seq (wSR (wP rfl rfl (wP (v := .bool true) rfl rfl (wP rfl rfl (wP (v := .bool true) rfl rfl (wP (v := .bool false) rfl rfl (wNT (wc_cond_false rfl (wc_skip (wx_then (wc_seq (wSR (wP rfl rfl (wP (v := .bool true) rfl rfl (wNT (wc_cond_true rfl (wSR ?_)))))))))))))))))))
   obtain ⟨v46, x46, h⟩ := bsome h
   refine wl_cq Tryz.call4 rfl rfl rfl (q_pf (k_hindcastlaw26_works x46) (fun w hI => ⟨(Rds.call G0S pNil rsub_nil) w hI, (Rds.call G1S pNil rsub_nil) w hI⟩)) rfl ?_
   refine wP rfl rfl (wNT (wc_ret (wx_then_ret ?_)))
   obtain rfl := sI h
   exact wx_pf tt_ok (.inl rfl) Tryz.results3 (Res.tmp rfl Res.nil) rfl
  replace h := poS h
  refine wl_cs Tryz.call7 rfl rfl rfl (s_sp (k_hindcastref26_New (p0 := p0.S) p0N0 p0H0 x38) pNil (Rds.call p0S0 pNil rsub_nil)) rfl ?_
  rintro _ _ ⟨_, ⟨zbo, zbx, v38sa0, v38sn0, v38sc0, v38sB0, v38sa1, v38sn1, v38sc1, v38sB1, v38s_4a0, v38s_4n0, v38s_4c0, v38s_4B0, v38sN0, v38sV0, v38sN1, v38sV1, v38s_4N0, v38s_4V0, rfl, rfl⟩, rfl⟩
  refine wP rfl rfl (wNT (wc_seq (wSR (wP rfl rfl (wP (v := .bool true) rfl rfl (wP rfl rfl (wP (v := .bool false) rfl rfl (wP (v := .bool true) rfl rfl (wNT (wc_cond_true rfl (wSR (wP rfl rfl (wNT (wc_ret (wx_then_ret ?_)))))))))))))))
  obtain rfl := sI h
  exact wx_pf tt_ok (.inl rfl) Tryz.results3 (Res.tmp rfl Res.nil) rfl
 replace h := poS h
 refine k_cs rfl rfl rfl Tryz.call5 rfl rfl rfl (s_sp (k_rollback_New (p0 := v26) v26N0 (vec_cap v26V0) (own_Z v26V0) x31) pNil (fun w hI => ⟨(Rds.call (Rds.of_vec v26V0) pNil ⟨_, hA'⟩) w hI, (Rds.call G0S pNil rsub_nil) w hI, (Rds.call G1S pNil rsub_nil) w hI⟩)) rfl (.inl rfl) ?_
 rintro _ _ ⟨_, ⟨zao, zbz, zca, v31sa0, v31sn0, v31sc0, v31sB0, v31sa1, v31sn1, v31sc1, v31sB1, v31s_4a0, v31s_4n0, v31s_4c0, v31s_4B0, v31s_5g0, v31s_5P0, v31sN0, v31sV0, v31sN1, v31sV1, v31s_4N0, v31s_4V0, v31s_5G0, v31s_5A0, rfl, rfl⟩, rfl⟩
 refine k_chg rfl rfl rfl (Chg.of_val (sV rfl)) rfl (.inl rfl) ?_
 rintro _ _ ⟨rfl, rfl⟩
 refine k_end (by kernel_rfl) ?_
 refine wx_then (wSR (wP (v := .pointer (some ⟨b2, 0, none⟩)) rfl rfl (wl_val (v := agS p0.S p0a0 p0n0 p0c0) (val_load tt_ok rfl (mT (mR (mR (mT (mR (mT (mR (mR mH)))))))) rfl) rfl ?_)))
 refine wP (v := .pointer (some ⟨b2, 19, none⟩)) rfl rfl (wl_val (v := .int .u8 p0.Player) (val_load tt_ok rfl (mT (mR (mR (mT (mR (mT (mR (mR mH)))))))) rfl) rfl (wP (v := .pointer (some ⟨b2, 20, none⟩)) rfl rfl (wl_val (v := .int .i64 p0.Window) (val_load tt_ok rfl (mT (mR (mR (mT (mR (mT (mR (mR mH)))))))) rfl) rfl ?_)))
 obtain ⟨v38, x38, h⟩ := bsome h
 rcases v38 with _ | v38s
 ·replace h := poN h
  refine wl_cs Tryz.call7 rfl rfl rfl (s_sp (k_hindcastref26_New_none (p0 := p0.S) p0N0 p0H0 x38) pNil (Rds.call p0S0 pNil rsub_nil)) rfl ?_
  rintro _ _ ⟨_, ⟨rfl, rfl⟩, rfl⟩
  refine wP rfl rfl (wNT (wc_seq (wSR (wP rfl rfl (wP (v := .bool false) rfl rfl (wP rfl rfl (wP (v := .bool true) rfl rfl (wP (v := .bool true) rfl rfl (wNT (wc_cond_true rfl (wSR (wP rfl rfl (wNT (wc_ret (wx_then_ret ?_)))))))))))))))
  obtain rfl := sI h
  exact wx_pf tt_ok (.inl rfl) Tryz.results3 (Res.tmp rfl Res.nil) rfl
 replace h := poS h
 refine wl_cs Tryz.call7 rfl rfl rfl (s_sp (k_hindcastref26_New (p0 := p0.S) p0N0 p0H0 x38) pNil (Rds.call p0S0 pNil rsub_nil)) rfl ?_
 rintro _ _ ⟨_, ⟨zbo, zbx, v38sa0, v38sn0, v38sc0, v38sB0, v38sa1, v38sn1, v38sc1, v38sB1, v38s_4a0, v38s_4n0, v38s_4c0, v38s_4B0, v38sN0, v38sV0, v38sN1, v38sV1, v38s_4N0, v38s_4V0, rfl, rfl⟩, rfl⟩
 refine wP rfl rfl (wNT (wc_seq (wSR (wP rfl rfl (wP (v := .bool false) rfl rfl (wP rfl rfl (wP (v := .bool false) rfl rfl (wP (v := .bool false) rfl rfl (wNT (wc_cond_false rfl (wc_skip (wx_then (wc_seq (wSR (wP rfl rfl (wP (v := .bool false) rfl rfl (wNT (wc_cond_false rfl (wc_skip (wx_then (wc_seq (wSR (wP rfl rfl (wNT (wc_block ?_)))))))))))))))))))))))))
 obtain ⟨o35, h, hl35⟩ := bsome h
 refine wc_loop (fun m E L => ∃ (zby : Int) (zad : Int) (zae : Int) (zv : Int) (zw : Int) (zx : (T_api_Player × T_api_Player)) (zd : (List T_api_Shot)) (zi : (Int × Int)) (zf : (List Int)) (zt : Int) (zc : (List Int)) (zu : Int) (zy : Int) (zg : (Arr T_ring_place 14)) (zz : Int) (zaa : Int) (zm : Int) (zn : Int) (zo : (T_api_Player × T_api_Player)) (zb : (List T_api_Shot)) (zh : (Int × Int)) (ze : (List Int)) (zk : Int) (zl : Int) (za : (List Int)) (zau : Option Addr) (zag zav : Nat) (zat : List Blk) (zbi : Option Addr) (zaw zbj : Nat) (zbh : List Blk) (zaq : Option Addr) (zaf zar : Nat) (zap : List Blk) (zas : List (T_ring_place × G)) (zbe : List Blk) (zal : Option Addr) (zac zam : Nat) (zak : List Blk) (zay : Option Addr) (zan zaz : Nat) (zax : List Blk) (zai : Option Addr) (zab zaj : Nat) (zah : List Blk), m_hindcastlaw26_RollbackPlays_L34 F p1 m zby zad zae zv zw zx zd zi zf zt zc zu zy zg zz zaa zm zn zo zb zh ze zk zl za = some o35 ∧ zag = zd.length ∧ Own 93 6 zau zag zav (flat c_T_api_Shot zd) zat ∧ zaw = zf.length ∧ Own 40 1 zbi zaw zbj (flat (e1 .u8) zf) zbh ∧ zaf = zc.length ∧ Own 40 1 zaq zaf zar (flat (e1 .u8) zc) zap ∧ zg.1 = unG zas ∧ AllP sh_T_ring_place c_T_api_Shot zbe zas ∧ zac = zb.length ∧ Own 93 6 zal zac zam (flat c_T_api_Shot zb) zak ∧ zan = ze.length ∧ Own 40 1 zay zan zaz (flat (e1 .u8) ze) zax ∧ zab = za.length ∧ Own 40 1 zai zab zaj (flat (e1 .u8) za) zah ∧ E = [(1, .slice p1a0 p1n0 p1c0), (4, .bool false), (5, .pointer (some ⟨zao, 0, none⟩)), (6, .pointer (some ⟨zbo, 0, none⟩)), (7, .int .i64 zby)] ∧ L = (⟨zao, (.int .u8 zad :: .int .i64 zae :: .int .u64 zv :: .int .u64 zw :: pl14 zx [.slice zau zag zav, .int .u16 zi.1, .int .u16 zi.2, .slice zbi zaw zbj, .pointer (some ⟨zbz, 0, none⟩), .pointer (some ⟨zca, 0, none⟩)]), 64, (0, 0)⟩ :: (⟨zbz, [.int .u64 zt, .slice zaq zaf zar, .int .u8 zu], 98, (0, 0)⟩ :: (⟨zca, ([.int .i64 zy] ++ flat cg_T_ring_place zas), 103, (0, 0)⟩ :: (⟨zbo, (.int .u8 zz :: .int .i64 zaa :: .int .u64 zm :: .int .u64 zn :: pl14 zo [.slice zal zac zam, .int .u16 zh.1, .int .u16 zh.2, .slice zay zan zaz, .pointer (some ⟨zbx, 0, none⟩)]), 70, (0, 0)⟩ :: (⟨zbx, [.int .u64 zk, .int .u64 zl, .slice zai zab zaj], 108, (0, 0)⟩ :: (zat ++ (zbh ++ (zap ++ (zbe ++ (zak ++ (zax ++ (zah ++ []))))))))))))) F ⟨(0 : Int), v31s.1.player, v31s.1.window, v31s.1.sure.Frame, v31s.1.sure.Seed, v31s.1.sure.Players, v31s.1.sure.Shots, v31s.1.sure.Score, v31s.1.own, v31s.2.1.first_, v31s.2.1.l, v31s.2.1.last, v31s.2.2.size, v31s.2.2.places, v38s.1.Player, v38s.1.Window, v38s.1.Sure.Frame, v38s.1.Sure.Seed, v38s.1.Sure.Players, v38s.1.Sure.Shots, v38s.1.Sure.Score, v38s.1.Own, v38s.2.Begin, v38s.2.First, v38s.2.L, v31sa0, v31sn0, v31sc0, v31sB0, v31sa1, v31sn1, v31sc1, v31sB1, v31s_4a0, v31s_4n0, v31s_4c0, v31s_4B0, v31s_5g0, v31s_5P0, v38sa0, v38sn0, v38sc0, v38sB0, v38sa1, v38sn1, v38sc1, v38sB1, v38s_4a0, v38s_4n0, v38s_4c0, v38s_4B0, h, v31sN0, v31sV0, v31sN1, v31sV1, v31s_4N0, v31s_4V0, v31s_5G0, v31s_5A0, v38sN0, v38sV0, v38sN1, v38sV1, v38s_4N0, v38s_4V0, rfl, rfl⟩ (agree_cons rfl (agree_cons rfl (agree_cons rfl (agree_cons rfl (agree_cons rfl agree_nil))))) (pSub (pCons (sC (sAA (sCA hC))) (pCons (sC (sAA (sC (sAA (sA hC))))) (pCons (sC (sAA (sC (sAA (sAA hC))))) (pH (pCons (sAA hC) (pApp (sAA (sA hA')) (pApp (sAA (sA hA')) (pApp (sAA (sA hA')) (pApp (sAA (sA hA')) (pAA (pA pNil)))))))))))) ?_
 clear h
 rintro m35 _ _ ⟨zby, zad, zae, zv, zw, zx, zd, zi, zf, zt, zc, zu, zy, zg, zz, zaa, zm, zn, zo, zb, zh, ze, zk, zl, za, zau, zag, zav, zat, zbi, zaw, zbj, zbh, zaq, zaf, zar, zap, zas, zbe, zal, zac, zam, zak, zay, zan, zaz, zax, zai, zab, zaj, zah, h, zbf, zbg, zbp, zbq, zbc, zbd, zbu, zbt, zbm, zbn, zbr, zbs, zbk, zbl, rfl, rfl⟩
 rcases m35 with _ | m35
 ·rw [m_hindcastlaw26_RollbackPlays_L34.eq_1] at h; cases h
 rw [m_hindcastlaw26_RollbackPlays_L34.eq_2] at h
 refine wc_seq (wSR ?_)
 iterate 2 refine wP rfl rfl ?_
 refine wl_val (v := .int .i64 (p1.length : Int)) (val_len tt_ok rfl rfl p1N0) rfl ?_
 refine wP (v := .bool (decide (zby < (p1.length : Int)))) rfl rfl (wNT (wc_cond rfl (fun hc => ?_) (fun hc => ?_)))
 ·replace h := ct hc h
  refine wc_skip (wx_then (wc_seq (wc_block (wSR ?_))))
  iterate 2 refine wP rfl rfl ?_
  obtain ⟨v55, x55, h⟩ := bsome h
  refine wl_val (v := .pointer (some ((adOf p1a0).add (zby.toNat * 4 + 0)))) (val_ix (enc := c_T_hindcastlaw26_Act) tt_ok rfl rfl rfl rfl p1N0 p1S0 c_T_hindcastlaw26_Act_len rfl x55) rfl ?_
  refine wl_val (v := .agg #[.int .u8 v55.What, .int .u64 v55.F, .int .u8 v55.I, .bool v55.Ask]) (val_le (enc := c_T_hindcastlaw26_Act) (xs := p1) tt_ok rfl p1S0 rsub_nil c_T_hindcastlaw26_Act_len x55 rfl) rfl ?_
  refine wl_alloc tt_ok rfl rfl (fun b8 => ?_)
  apply wl_store tt_ok; rfl; exact Upd.here; rfl; rfl; rfl; rfl; rfl; rfl
  refine wNT (wc_seq (wSR (wP (v := .pointer (some ⟨b8, 0, none⟩)) rfl rfl (wl_val (v := .int .u8 v55.What) (val_load tt_ok rfl mH rfl) rfl (wP (v := .int .u8 (Int.tmod v55.What 5)) rfl rfl (wNT (wc_block (wc_seq (wSR (wP (v := .bool ((Int.tmod v55.What 5) == (0 : Int))) rfl rfl (wP rfl rfl (wNT ?_))))))))))))
  obtain ⟨zfk, h, hj53⟩ := bsome h
  refine wc_join2 (fun E L => E = [(1, .slice p1a0 p1n0 p1c0), (4, .bool false), (5, .pointer (some ⟨zao, 0, none⟩)), (6, .pointer (some ⟨zbo, 0, none⟩)), (7, .int .i64 zby), (8, .pointer (some ⟨b8, 0, none⟩)), (59, .int .u8 (Int.tmod v55.What 5)), (82, .bool zfk)] ∧ L = (⟨zao, (.int .u8 zad :: .int .i64 zae :: .int .u64 zv :: .int .u64 zw :: pl14 zx [.slice zau zag zav, .int .u16 zi.1, .int .u16 zi.2, .slice zbi zaw zbj, .pointer (some ⟨zbz, 0, none⟩), .pointer (some ⟨zca, 0, none⟩)]), 64, (0, 0)⟩ :: (⟨zbz, [.int .u64 zt, .slice zaq zaf zar, .int .u8 zu], 98, (0, 0)⟩ :: (⟨zca, ([.int .i64 zy] ++ flat cg_T_ring_place zas), 103, (0, 0)⟩ :: (⟨zbo, (.int .u8 zz :: .int .i64 zaa :: .int .u64 zm :: .int .u64 zn :: pl14 zo [.slice zal zac zam, .int .u16 zh.1, .int .u16 zh.2, .slice zay zan zaz, .pointer (some ⟨zbx, 0, none⟩)]), 70, (0, 0)⟩ :: (⟨zbx, [.int .u64 zk, .int .u64 zl, .slice zai zab zaj], 108, (0, 0)⟩ :: (⟨b8, [.int .u8 v55.What, .int .u64 v55.F, .int .u8 v55.I, .bool v55.Ask], 42, (0, 0)⟩ :: (zat ++ (zbh ++ (zap ++ (zbe ++ (zak ++ (zax ++ (zah ++ [])))))))))))))) ?_ ?_
  ·refine wc_cond rfl (fun hc => ?_) (fun hc => ?_)
   ·replace h := ct hc h
    refine wc_skip ?_
    obtain rfl := sI h
    exact wx_join ⟨rfl, rfl⟩ (agree_cons rfl (agree_cons rfl (agree_cons rfl (agree_cons rfl (agree_cons rfl (agree_cons rfl (agree_cons rfl (agree_cons rfl agree_nil)))))))) (pSub (pS (pS (pS (pS (pS (pH (pAA (pAA (pAA (pA pNil)))))))))))
   replace h := cf hc h
   refine wc_region (wP (v := .bool ((Int.tmod v55.What 5) == (1 : Int))) rfl rfl (wP rfl rfl (wl_nil ?_)))
   obtain rfl := sI h
   exact wx_join ⟨rfl, rfl⟩ (agree_cons rfl (agree_cons rfl (agree_cons rfl (agree_cons rfl (agree_cons rfl (agree_cons rfl (agree_cons rfl (agree_cons rfl agree_nil)))))))) (pSub (pS (pS (pS (pS (pS (pH (pAA (pAA (pAA (pA pNil)))))))))))
  rintro _ _ ⟨rfl, rfl⟩
  have h := hj53; clear hj53
  refine wc_cond rfl (fun hc => ?_) (fun hc => ?_)
  ·replace h := ct hc h
   refine wc_seq (wc_k2 (Ls := (⟨zbz, [.int .u64 zt, .slice zaq zaf zar, .int .u8 zu], 98, (0, 0)⟩ :: (⟨zca, ([.int .i64 zy] ++ flat cg_T_ring_place zas), 103, (0, 0)⟩ :: (⟨zbo, (.int .u8 zz :: .int .i64 zaa :: .int .u64 zm :: .int .u64 zn :: pl14 zo [.slice zal zac zam, .int .u16 zh.1, .int .u16 zh.2, .slice zay zan zaz, .pointer (some ⟨zbx, 0, none⟩)]), 70, (0, 0)⟩ :: (⟨zbx, [.int .u64 zk, .int .u64 zl, .slice zai zab zaj], 108, (0, 0)⟩ :: (⟨b8, [.int .u8 v55.What, .int .u64 v55.F, .int .u8 v55.I, .bool v55.Ask], 42, (0, 0)⟩ :: (zap ++ (zbe ++ (zak ++ (zax ++ (zah ++ []))))))))))) [3, 7, 8] [7, 8] [0, 0, 2, 7, 0, 0, 32, 127, 255] [0, 1, 2, 4, 5, 6, 3, 7, 8] (by kernel_rfl) (by kernel_rfl) (by kernel_rfl) ?_)
   refine k_val rfl rfl rfl (pSub (pS (pS (pS (pS (pS (pApp (sC (sAA hA')) (pApp (sC (sAA hA')) (pApp (sC (sAA hA')) (pApp (sC (sAA hA')) (pApp (sC (sAA hA')) pNil))))))))))) (sV rfl) rfl (k_val (v := .pointer (some ⟨b8, 2, none⟩)) rfl rfl rfl (pSub (pS (pS (pS (pS (pS (pApp (sC (sAA hA')) (pApp (sC (sAA hA')) (pApp (sC (sAA hA')) (pApp (sC (sAA hA')) (pApp (sC (sAA hA')) pNil))))))))))) (sV rfl) rfl ?_)
   refine k_val (v := .int .u8 v55.I) rfl rfl rfl (pSub (pS (pS (pS (pS (pS (pApp (sC (sAA hA')) (pApp (sC (sAA hA')) (pApp (sC (sAA hA')) (pApp (sC (sAA hA')) (pApp (sC (sAA hA')) pNil))))))))))) (val_load tt_ok rfl (mTT (mTT mH)) rfl) rfl (k_val rfl rfl rfl (pSub (pS (pS (pS (pS (pS (pApp (sC (sAA hA')) (pApp (sC (sAA hA')) (pApp (sC (sAA hA')) (pApp (sC (sAA hA')) (pApp (sC (sAA hA')) pNil))))))))))) (sV rfl) rfl ?_)
   refine k_val (v := .pointer (some ⟨b8, 2, none⟩)) rfl rfl rfl (pSub (pS (pS (pS (pS (pS (pApp (sC (sAA hA')) (pApp (sC (sAA hA')) (pApp (sC (sAA hA')) (pApp (sC (sAA hA')) (pApp (sC (sAA hA')) pNil))))))))))) (sV rfl) rfl (k_val (v := .int .u8 v55.I) rfl rfl rfl (pSub (pS (pS (pS (pS (pS (pApp (sC (sAA hA')) (pApp (sC (sAA hA')) (pApp (sC (sAA hA')) (pApp (sC (sAA hA')) (pApp (sC (sAA hA')) pNil))))))))))) (val_load tt_ok rfl (mTT (mTT mH)) rfl) rfl ?_)
   replace h := bsome h; obtain ⟨⟨zr, v88⟩, x88, h⟩ := h; try dsimp only at h
   refine k_cs rfl rfl rfl Tryz.call8 rfl rfl rfl (s_sp (k_rollback_Engine_Local (p0 := (T_rollback_Engine.mk zad zae (T_api_State.mk zv zw zx zd zi) zf)) (p0_4 := (T_queue_Queue.mk zt zc zu)) (p0_5 := (T_ring_Ring.mk zy zg)) zbf zbg zbp zbq zbc zbd zbu zbt x88) (pH (pApp (sCC (sCC (sC hA'))) (pApp (sCC (sCC (sC hA'))) (pH (pApp (sCC (sCC hA')) (pH (pApp (sCC (sC hA')) pNil))))))) (fun _ _ => trivial)) rfl (.inr (by rintro _ _ ⟨_, ⟨_, _, _, _, _, _, _, _, _, _, _, _, rfl, rfl⟩, rfl⟩; exact ⟨_, (pCons (sC (sAA hC)) (pCons (sC (sAA (sA hC))) (pCons (sC (sAA (sAA hC))) (pCons (sC (sAA (sAA hC))) (pCons (sC (sAA (sAA hC))) (pApp (sC (sAA hA')) (pApp (sC (sAA hA')) (pApp (sC (sAA hA')) (pApp (sC (sAA hA')) (pApp (sC (sAA hA')) pNil))))))))))⟩)) ?_
   rintro _ _ ⟨_, ⟨zew, zfa, zey, zeu, zex, zfb, zez, zev, zda, zdc, zdb, zdd, rfl, rfl⟩, rfl⟩
   replace h := bsome h; obtain ⟨⟨zs, v92⟩, x92, h⟩ := h; try dsimp only at h
   refine k_cs rfl rfl rfl Tryz.call9 rfl rfl rfl (s_sp (k_hindcastref26_Engine_Local (p0 := (T_hindcastref26_Engine.mk zz zaa (T_api_State.mk zm zn zo zb zh) ze)) (p0_4 := (T_hindcastref24_Queue.mk zk zl za)) zbm zbn zbr zbs zbk zbl x92) (pCons (sC (sAA (sCA (sCA hC)))) (pApp (sC (sAA (sCA (sCA (sCC hA'))))) (pApp (sC (sAA (sCA (sCA (sCC hA'))))) (pCons (sC (sAA (sCA (sCA hC)))) (pApp (sC (sAA (sCA (sCA (sC hA'))))) pNil))))) (fun _ _ => trivial)) rfl (.inl rfl) ?_
   rintro _ _ ⟨_, ⟨zfe, zfi, zfg, zfc, zff, zfj, zfh, zfd, zde, zdg, zdf, zdh, rfl, rfl⟩, rfl⟩
   refine k_chg rfl rfl rfl (Chg.of_val (v := .bool (v88 != v92)) (sV rfl)) rfl (.inl rfl) ?_
   rintro _ _ ⟨rfl, rfl⟩
   refine k_end (by kernel_rfl) ?_
   refine wx_then (wc_cond rfl (fun hc => ?_) (fun hc => ?_))
   ·replace h := ct hc h
    refine wSR (wP rfl rfl (wNT (wc_ret (wx_block_ret (wx_then_ret (wx_block_ret (wx_then_ret ?_)))))))
    obtain rfl := Option.some.inj h
    have h := hl35; clear hl35; try dsimp only [orE_l, orE_r] at h
    refine wx_then_ret (wx_block_ret (wx_then_ret ?_))
    obtain rfl := sI h
    exact wx_pf tt_ok (.inl rfl) Tryz.results3 (Res.tmp rfl Res.nil) rfl
   replace h := cf hc h
   refine wc_skip (wx_block (wx_then (wSR ?_)))
   iterate 2 refine wP rfl rfl ?_
   refine wP (v := .pointer (some ⟨b8, 3, none⟩)) rfl rfl (wl_val (v := .bool v55.Ask) (val_load tt_ok rfl (mT (mR (mR (mT (mR (mT (mR (mR (mT (mR (mT (mR mH)))))))))))) rfl) rfl ?_)
   replace h := bsome h; obtain ⟨⟨zj, v114⟩, x114, h⟩ := h; try dsimp only at h
   refine wl_cs Tryz.call14 rfl rfl rfl (s_sp (k_hindcastlaw26_alike (p0 := zr) (p0_4 := (T_queue_Queue.mk zt zc zu)) (p0_5 := (T_ring_Ring.mk zy zg)) (p1 := zs) (p1_4 := (T_hindcastref24_Queue.mk zk zl za)) zda zdc zdb zdd zbc zbd zbu zbt zde zdg zdf zdh zbk zbl x114) (pCons (sC (sAA (sCA hC))) (pApp (sC (sAA (sCA hA'))) (pApp (sC (sAA (sCA hA'))) (pCons (sC (sAA (sCA hC))) (pApp (sC (sAA (sCA hA'))) (pCons (sC (sAA (sCA hC))) (pApp (sC (sAA (sCA hA'))) (pH (pAA (pH (pA pNil))))))))))) (fun w hI => ⟨(Rds.call G0S (pCons (sC (sAA (sCA hC))) (pApp (sC (sAA (sCA hA'))) (pApp (sC (sAA (sCA hA'))) (pCons (sC (sAA (sCA hC))) (pApp (sC (sAA (sCA hA'))) (pCons (sC (sAA (sCA hC))) (pApp (sC (sAA (sCA hA'))) (pH (pAA (pH (pA pNil))))))))))) rsub_nil) w hI, (Rds.call G1S (pCons (sC (sAA (sCA hC))) (pApp (sC (sAA (sCA hA'))) (pApp (sC (sAA (sCA hA'))) (pCons (sC (sAA (sCA hC))) (pApp (sC (sAA (sCA hA'))) (pCons (sC (sAA (sCA hC))) (pApp (sC (sAA (sCA hA'))) (pH (pAA (pH (pA pNil))))))))))) rsub_nil) w hI⟩)) rfl ?_
   rintro _ _ ⟨_, ⟨zcf, zce, zcd, zcc, rfl, rfl⟩, rfl⟩
   refine wP (v := .bool (!v114)) rfl rfl (wNT (wc_cond rfl (fun hc => ?_) (fun hc => ?_)))
   ·replace h := ct hc h
    refine wSR (wP rfl rfl (wNT (wc_ret (wx_block_ret (wx_then_ret ?_)))))
    obtain rfl := Option.some.inj h
    have h := hl35; clear hl35; try dsimp only [orE_l, orE_r] at h
    refine wx_then_ret (wx_block_ret (wx_then_ret ?_))
    obtain rfl := sI h
    exact wx_pf tt_ok (.inl rfl) Tryz.results3 (Res.tmp rfl Res.nil) rfl
   replace h := cf hc h
   refine wc_skip (wx_block (wx_then (wc_region (wP rfl rfl (wP (v := .int .i64 (IntKind.wrap .i64 (zby + (1 : Int)))) rfl rfl (wP rfl rfl (wl_nil ?_)))))))
   exact wx_round m35 (Nat.lt_succ_self m35) ⟨(IntKind.wrap .i64 (zby + (1 : Int))), zr.player, zr.window, zr.sure.Frame, zr.sure.Seed, zr.sure.Players, zr.sure.Shots, zr.sure.Score, zr.own, zt, zc, zu, zj.size, zj.places, zs.Player, zs.Window, zs.Sure.Frame, zs.Sure.Seed, zs.Sure.Players, zs.Sure.Shots, zs.Sure.Score, zs.Own, zk, zl, za, zew, zfa, zey, zeu, zex, zfb, zez, zev, zaq, zaf, zar, zap, zcf, zce, zfe, zfi, zfg, zfc, zff, zfj, zfh, zfd, zai, zab, zaj, zah, h, zda, zdc, zdb, zdd, zbc, zbd, zcd, zcc, zde, zdg, zdf, zdh, zbk, zbl, rfl, rfl⟩ (agree_cons rfl (agree_cons rfl (agree_cons rfl (agree_cons rfl (agree_cons rfl agree_nil))))) (pSub (pH (pCons (sAA hC) (pCons (sAA (sA hC)) (pCons (sAA (sAA hC)) (pCons (sAA (sAA (sAA hC))) (pAA (pAA (pAA (pA pNil))))))))))
  replace h := cf hc h
  refine wc_seq (wSR (wP (v := .bool ((Int.tmod v55.What 5) == (2 : Int))) rfl rfl (wP rfl rfl (wNT ?_))))
  obtain ⟨zfl, h, hj67⟩ := bsome h
  refine wc_join2 (fun E L => E = [(1, .slice p1a0 p1n0 p1c0), (4, .bool false), (5, .pointer (some ⟨zao, 0, none⟩)), (6, .pointer (some ⟨zbo, 0, none⟩)), (7, .int .i64 zby), (8, .pointer (some ⟨b8, 0, none⟩)), (94, .bool zfl)] ∧ L = (⟨zao, (.int .u8 zad :: .int .i64 zae :: .int .u64 zv :: .int .u64 zw :: pl14 zx [.slice zau zag zav, .int .u16 zi.1, .int .u16 zi.2, .slice zbi zaw zbj, .pointer (some ⟨zbz, 0, none⟩), .pointer (some ⟨zca, 0, none⟩)]), 64, (0, 0)⟩ :: (⟨zbz, [.int .u64 zt, .slice zaq zaf zar, .int .u8 zu], 98, (0, 0)⟩ :: (⟨zca, ([.int .i64 zy] ++ flat cg_T_ring_place zas), 103, (0, 0)⟩ :: (⟨zbo, (.int .u8 zz :: .int .i64 zaa :: .int .u64 zm :: .int .u64 zn :: pl14 zo [.slice zal zac zam, .int .u16 zh.1, .int .u16 zh.2, .slice zay zan zaz, .pointer (some ⟨zbx, 0, none⟩)]), 70, (0, 0)⟩ :: (⟨zbx, [.int .u64 zk, .int .u64 zl, .slice zai zab zaj], 108, (0, 0)⟩ :: (⟨b8, [.int .u8 v55.What, .int .u64 v55.F, .int .u8 v55.I, .bool v55.Ask], 42, (0, 0)⟩ :: (zat ++ (zbh ++ (zap ++ (zbe ++ (zak ++ (zax ++ (zah ++ [])))))))))))))) ?_ ?_
  ·refine wc_cond rfl (fun hc => ?_) (fun hc => ?_)
   ·replace h := ct hc h
    refine wc_skip ?_
    obtain rfl := sI h
    exact wx_join ⟨rfl, rfl⟩ (agree_cons rfl (agree_cons rfl (agree_cons rfl (agree_cons rfl (agree_cons rfl (agree_cons rfl (agree_cons rfl agree_nil))))))) (pSub (pH4 (pHH (pAA (pAA (pAA (pA pNil)))))))
   replace h := cf hc h
   refine wc_region (wP (v := .bool ((Int.tmod v55.What 5) == (3 : Int))) rfl rfl (wP rfl rfl (wl_nil ?_)))
   obtain rfl := sI h
   exact wx_join ⟨rfl, rfl⟩ (agree_cons rfl (agree_cons rfl (agree_cons rfl (agree_cons rfl (agree_cons rfl (agree_cons rfl (agree_cons rfl agree_nil))))))) (pSub (pH4 (pHH (pAA (pAA (pAA (pA pNil)))))))
  rintro _ _ ⟨rfl, rfl⟩
  have h := hj67; clear hj67
  refine wc_cond rfl (fun hc => ?_) (fun hc => ?_)
  ·replace h := ct hc h
   refine wc_seq (wc_k2 (Ls := (⟨zao, (.int .u8 zad :: .int .i64 zae :: .int .u64 zv :: .int .u64 zw :: pl14 zx [.slice zau zag zav, .int .u16 zi.1, .int .u16 zi.2, .slice zbi zaw zbj, .pointer (some ⟨zbz, 0, none⟩), .pointer (some ⟨zca, 0, none⟩)]), 64, (0, 0)⟩ :: (⟨zbo, (.int .u8 zz :: .int .i64 zaa :: .int .u64 zm :: .int .u64 zn :: pl14 zo [.slice zal zac zam, .int .u16 zh.1, .int .u16 zh.2, .slice zay zan zaz, .pointer (some ⟨zbx, 0, none⟩)]), 70, (0, 0)⟩ :: (⟨zbx, [.int .u64 zk, .int .u64 zl, .slice zai zab zaj], 108, (0, 0)⟩ :: (⟨b8, [.int .u8 v55.What, .int .u64 v55.F, .int .u8 v55.I, .bool v55.Ask], 42, (0, 0)⟩ :: (zat ++ (zbh ++ (zak ++ (zax ++ (zah ++ [])))))))))) [5, 11, 12] [11, 12] [0, 0, 2, 0, 8, 31, 0, 0, 128, 0, 512, 2047, 4095] [0, 1, 2, 3, 4, 6, 7, 8, 9, 10, 5, 11, 12] (by kernel_rfl) (by kernel_rfl) (by kernel_rfl) ?_)
   refine k_val rfl rfl rfl (pSub (pH (pCons (sCC hC) (pCons (sCC hC) (pCons (sCC hC) (pApp (sCC hA') (pApp (sCC hA') (pApp (sCC (sAA hA')) (pApp (sCC (sAA hA')) (pApp (sCC (sAA hA')) pNil)))))))))) (sV rfl) rfl (k_val (v := .pointer (some ⟨b8, 1, none⟩)) rfl rfl rfl (pSub (pH (pCons (sCC hC) (pCons (sCC hC) (pCons (sCC hC) (pApp (sCC hA') (pApp (sCC hA') (pApp (sCC (sAA hA')) (pApp (sCC (sAA hA')) (pApp (sCC (sAA hA')) pNil)))))))))) (sV rfl) rfl ?_)
   refine k_val (v := .int .u64 v55.F) rfl rfl rfl (pSub (pH (pCons (sCC hC) (pCons (sCC hC) (pCons (sCC hC) (pApp (sCC hA') (pApp (sCC hA') (pApp (sCC (sAA hA')) (pApp (sCC (sAA hA')) (pApp (sCC (sAA hA')) pNil)))))))))) (val_load tt_ok rfl (mTT (mT mH)) rfl) rfl (k_val (v := .pointer (some ⟨b8, 2, none⟩)) rfl rfl rfl (pSub (pH (pCons (sCC hC) (pCons (sCC hC) (pCons (sCC hC) (pApp (sCC hA') (pApp (sCC hA') (pApp (sCC (sAA hA')) (pApp (sCC (sAA hA')) (pApp (sCC (sAA hA')) pNil)))))))))) (sV rfl) rfl ?_)
   refine k_val (v := .int .u8 v55.I) rfl rfl rfl (pSub (pH (pCons (sCC hC) (pCons (sCC hC) (pCons (sCC hC) (pApp (sCC hA') (pApp (sCC hA') (pApp (sCC (sAA hA')) (pApp (sCC (sAA hA')) (pApp (sCC (sAA hA')) pNil)))))))))) (val_load tt_ok rfl (mTT (mT mH)) rfl) rfl (k_val rfl rfl rfl (pSub (pH (pCons (sCC hC) (pCons (sCC hC) (pCons (sCC hC) (pApp (sCC hA') (pApp (sCC hA') (pApp (sCC (sAA hA')) (pApp (sCC (sAA hA')) (pApp (sCC (sAA hA')) pNil)))))))))) (sV rfl) rfl ?_)
   refine k_val (v := .pointer (some ⟨b8, 1, none⟩)) rfl rfl rfl (pSub (pH (pCons (sCC hC) (pCons (sCC hC) (pCons (sCC hC) (pApp (sCC hA') (pApp (sCC hA') (pApp (sCC (sAA hA')) (pApp (sCC (sAA hA')) (pApp (sCC (sAA hA')) pNil)))))))))) (sV rfl) rfl (k_val (v := .int .u64 v55.F) rfl rfl rfl (pSub (pH (pCons (sCC hC) (pCons (sCC hC) (pCons (sCC hC) (pApp (sCC hA') (pApp (sCC hA') (pApp (sCC (sAA hA')) (pApp (sCC (sAA hA')) (pApp (sCC (sAA hA')) pNil)))))))))) (val_load tt_ok rfl (mTT (mT mH)) rfl) rfl ?_)
   refine k_val (v := .pointer (some ⟨b8, 2, none⟩)) rfl rfl rfl (pSub (pH (pCons (sCC hC) (pCons (sCC hC) (pCons (sCC hC) (pApp (sCC hA') (pApp (sCC hA') (pApp (sCC (sAA hA')) (pApp (sCC (sAA hA')) (pApp (sCC (sAA hA')) pNil)))))))))) (sV rfl) rfl (k_val (v := .int .u8 v55.I) rfl rfl rfl (pSub (pH (pCons (sCC hC) (pCons (sCC hC) (pCons (sCC hC) (pApp (sCC hA') (pApp (sCC hA') (pApp (sCC (sAA hA')) (pApp (sCC (sAA hA')) (pApp (sCC (sAA hA')) pNil)))))))))) (val_load tt_ok rfl (mTT (mT mH)) rfl) rfl ?_)
   replace h := bsome h; obtain ⟨⟨zba, zcb, v102⟩, x102, h⟩ := h; try dsimp only at h
   refine k_cs rfl rfl rfl Tryz.call10 rfl rfl rfl (s_sp (k_rollback_Engine_Remote (p0 := (T_rollback_Engine.mk zad zae (T_api_State.mk zv zw zx zd zi) zf)) (p0_4 := (T_queue_Queue.mk zt zc zu)) (p0_5 := (T_ring_Ring.mk zy zg)) zbf zbg zbp zbq zbc zbd zbu zbt x102) (pH (pApp (sCC (sCC (sC hA'))) (pApp (sCC (sCC (sC hA'))) (pH (pApp (sCC (sCC hA')) (pH (pApp (sCC (sC hA')) pNil))))))) (fun _ _ => trivial)) rfl (.inr (by rintro _ _ ⟨_, ⟨_, _, _, _, _, _, _, _, _, _, rfl, rfl⟩, rfl⟩; exact ⟨_, (pH (pCons (sAA (sCA (sCA hC))) (pCons (sAA (sCA (sCA hC))) (pCons (sAA (sCA (sCA hC))) (pAA (pApp (sCA (sCA hA')) (pApp (sCA (sCA hA')) (pApp (sCA (sCA hA')) pNil))))))))⟩)) ?_
   rintro _ _ ⟨_, ⟨zdj, zdl, zdk, zdi, zfn, zfm, zck, zcl, zdn, zdm, rfl, rfl⟩, rfl⟩
   replace h := bsome h; obtain ⟨⟨zbb, v108⟩, x108, h⟩ := h; try dsimp only at h
   refine k_cs rfl rfl rfl Tryz.call11 rfl rfl rfl (s_sp (k_hindcastref26_Engine_Remote (p0 := (T_hindcastref26_Engine.mk zz zaa (T_api_State.mk zm zn zo zb zh) ze)) (p0_4 := (T_hindcastref24_Queue.mk zk zl za)) zbm zbn zbr zbs zbk zbl x108) (pCons (sC (sAA (sCA (sCA hC)))) (pApp (sC (sAA (sCA (sCA (sCC hA'))))) (pApp (sC (sAA (sCA (sCA (sCC hA'))))) (pCons (sC (sAA (sCA (sCA hC)))) (pApp (sC (sAA (sCA (sCA (sC hA'))))) pNil))))) (fun _ _ => trivial)) rfl (.inl rfl) ?_
   rintro _ _ ⟨_, ⟨zdp, zdr, zdq, zdo, zcm, zcn, rfl, rfl⟩, rfl⟩
   refine k_chg rfl rfl rfl (Chg.of_val (v := .bool (v102 != v108)) (sV rfl)) rfl (.inl rfl) ?_
   rintro _ _ ⟨rfl, rfl⟩
   refine k_end (by kernel_rfl) ?_
   refine wx_then (wc_cond rfl (fun hc => ?_) (fun hc => ?_))
   ·replace h := ct hc h
    refine wSR (wP rfl rfl (wNT (wc_ret (wx_block_ret (wx_then_ret (wx_block_ret (wx_then_ret ?_)))))))
    obtain rfl := Option.some.inj h
    have h := hl35; clear hl35; try dsimp only [orE_l, orE_r] at h
    refine wx_then_ret (wx_block_ret (wx_then_ret ?_))
    obtain rfl := sI h
    exact wx_pf tt_ok (.inl rfl) Tryz.results3 (Res.tmp rfl Res.nil) rfl
   replace h := cf hc h
   refine wc_skip (wx_block (wx_then (wSR ?_)))
   iterate 2 refine wP rfl rfl ?_
   refine wP (v := .pointer (some ⟨b8, 3, none⟩)) rfl rfl (wl_val (v := .bool v55.Ask) (val_load tt_ok rfl (mT (mR (mR (mT (mR (mT (mR (mR (mT (mR (mT (mR mH)))))))))))) rfl) rfl ?_)
   replace h := bsome h; obtain ⟨⟨zj, v114⟩, x114, h⟩ := h; try dsimp only at h
   refine wl_cs Tryz.call14 rfl rfl rfl (s_sp (k_hindcastlaw26_alike (p0 := (T_rollback_Engine.mk zad zae (T_api_State.mk zv zw zx zd zi) zf)) (p0_4 := zba) (p0_5 := zcb) (p1 := (T_hindcastref26_Engine.mk zz zaa (T_api_State.mk zm zn zo zb zh) ze)) (p1_4 := zbb) zbf zbg zbp zbq zck zcl zdn zdm zbm zbn zbr zbs zcm zcn x114) (pCons (sC (sAA (sCA hC))) (pApp (sC (sAA (sCA hA'))) (pApp (sC (sAA (sCA hA'))) (pCons (sC (sAA (sCA hC))) (pApp (sC (sAA (sCA hA'))) (pCons (sC (sAA (sCA hC))) (pApp (sC (sAA (sCA hA'))) (pH (pAA (pH (pA pNil))))))))))) (fun w hI => ⟨(Rds.call G0S (pCons (sC (sAA (sCA hC))) (pApp (sC (sAA (sCA hA'))) (pApp (sC (sAA (sCA hA'))) (pCons (sC (sAA (sCA hC))) (pApp (sC (sAA (sCA hA'))) (pCons (sC (sAA (sCA hC))) (pApp (sC (sAA (sCA hA'))) (pH (pAA (pH (pA pNil))))))))))) rsub_nil) w hI, (Rds.call G1S (pCons (sC (sAA (sCA hC))) (pApp (sC (sAA (sCA hA'))) (pApp (sC (sAA (sCA hA'))) (pCons (sC (sAA (sCA hC))) (pApp (sC (sAA (sCA hA'))) (pCons (sC (sAA (sCA hC))) (pApp (sC (sAA (sCA hA'))) (pH (pAA (pH (pA pNil))))))))))) rsub_nil) w hI⟩)) rfl ?_
   rintro _ _ ⟨_, ⟨zcf, zce, zcd, zcc, rfl, rfl⟩, rfl⟩
   refine wP (v := .bool (!v114)) rfl rfl (wNT (wc_cond rfl (fun hc => ?_) (fun hc => ?_)))
   ·replace h := ct hc h
    refine wSR (wP rfl rfl (wNT (wc_ret (wx_block_ret (wx_then_ret ?_)))))
    obtain rfl := Option.some.inj h
    have h := hl35; clear hl35; try dsimp only [orE_l, orE_r] at h
    refine wx_then_ret (wx_block_ret (wx_then_ret ?_))
    obtain rfl := sI h
    exact wx_pf tt_ok (.inl rfl) Tryz.results3 (Res.tmp rfl Res.nil) rfl
   replace h := cf hc h
   refine wc_skip (wx_block (wx_then (wc_region (wP rfl rfl (wP (v := .int .i64 (IntKind.wrap .i64 (zby + (1 : Int)))) rfl rfl (wP rfl rfl (wl_nil ?_)))))))
   exact wx_round m35 (Nat.lt_succ_self m35) ⟨(IntKind.wrap .i64 (zby + (1 : Int))), zad, zae, zv, zw, zx, zd, zi, zf, zba.first_, zba.l, zba.last, zj.size, zj.places, zz, zaa, zm, zn, zo, zb, zh, ze, zbb.Begin, zbb.First, zbb.L, zau, zag, zav, zat, zbi, zaw, zbj, zbh, zdj, zdl, zdk, zdi, zcf, zce, zal, zac, zam, zak, zay, zan, zaz, zax, zdp, zdr, zdq, zdo, h, zbf, zbg, zbp, zbq, zck, zcl, zcd, zcc, zbm, zbn, zbr, zbs, zcm, zcn, rfl, rfl⟩ (agree_cons rfl (agree_cons rfl (agree_cons rfl (agree_cons rfl (agree_cons rfl agree_nil))))) (pSub (pH (pCons (sAA hC) (pCons (sAA (sA hC)) (pCons (sAA (sAA hC)) (pCons (sAA (sAA (sAA hC))) (pAA (pAA (pAA (pA pNil))))))))))
  replace h := cf hc h
  refine wSR (wP rfl rfl (wP (v := .pointer (some ⟨b8, 1, none⟩)) rfl rfl (wl_val (v := .int .u64 v55.F) (val_load tt_ok rfl (mTT (mTT (mT mH))) rfl) rfl ?_)))
  replace h := bsome h; obtain ⟨⟨zp, zbv, zcg, zci, zds⟩, x64, h⟩ := h; try dsimp only at h
  refine wl_cs Tryz.call12 rfl rfl rfl (s_sp (k_rollback_Engine_Confirm (p0 := (T_rollback_Engine.mk zad zae (T_api_State.mk zv zw zx zd zi) zf)) (p0_4 := (T_queue_Queue.mk zt zc zu)) (p0_5 := (T_ring_Ring.mk zy zg)) zbf zbg zbp zbq zbc zbd zbu zbt x64) (pH (pApp (sCC (sCC (sC hA'))) (pApp (sCC (sCC (sC hA'))) (pH (pApp (sCC (sCC hA')) (pH (pApp (sCC (sC hA')) pNil))))))) (fun w hI => ⟨(Rds.call G0S (pH (pApp (sCC (sCC (sC hA'))) (pApp (sCC (sCC (sC hA'))) (pH (pApp (sCC (sCC hA')) (pH (pApp (sCC (sC hA')) pNil))))))) rsub_nil) w hI, (Rds.call G1S (pH (pApp (sCC (sCC (sC hA'))) (pApp (sCC (sCC (sC hA'))) (pH (pApp (sCC (sCC hA')) (pH (pApp (sCC (sC hA')) pNil))))))) rsub_nil) w hI⟩)) rfl ?_
  rintro _ _ ⟨_, ⟨zdw, zea, zdy, zdu, zdx, zeb, zdz, zdv, zed, zef, zee, zec, zft, zfs, zco, zcq, zcp, zcr, zcs, zct, zeh, zeg, rfl, rfl⟩, rfl⟩
  iterate 3 refine wP rfl rfl ?_
  refine wl_alloc tt_ok rfl rfl (fun b9 => ?_)
  apply wl_store tt_ok; rfl; exact Upd.here; rfl; rfl; rfl; rfl; rfl; rfl
  refine wP rfl rfl (wNT (wSR (wP rfl rfl (wP (v := .pointer (some ⟨b8, 1, none⟩)) rfl rfl (wl_val (v := .int .u64 v55.F) (val_load tt_ok rfl (mTT (mR (mR (mT (mR (mT (mR (mTT mH)))))))) rfl) rfl ?_)))))
  replace h := bsome h; obtain ⟨⟨zq, zbw, zcj, zdt⟩, x71, h⟩ := h; try dsimp only at h
  refine wl_cs Tryz.call13 rfl rfl rfl (s_sp (k_hindcastref26_Engine_Confirm (p0 := (T_hindcastref26_Engine.mk zz zaa (T_api_State.mk zm zn zo zb zh) ze)) (p0_4 := (T_hindcastref24_Queue.mk zk zl za)) zbm zbn zbr zbs zbk zbl x71) (pCons (sCC (sAA (sCA (sCA hC)))) (pApp (sCC (sAA (sCA (sCA (sCC hA'))))) (pApp (sCC (sAA (sCA (sCA (sCC hA'))))) (pCons (sCC (sAA (sCA (sCA hC)))) (pApp (sCC (sAA (sCA (sCA (sC hA'))))) pNil))))) (fun _ _ => trivial)) rfl ?_
  rintro _ _ ⟨_, ⟨zek, zeo, zem, zei, zel, zep, zen, zej, zer, zet, zes, zeq, zcu, zcw, zcv, zcx, zcy, zcz, rfl, rfl⟩, rfl⟩
  iterate 3 refine wP rfl rfl ?_
  refine wl_alloc tt_ok rfl rfl (fun b11 => ?_)
  apply wl_store tt_ok; rfl; exact Upd.here; rfl; rfl; rfl; rfl; rfl; rfl
  refine wP rfl rfl (wNT (wSR (wl_val (v := .agg #[.int .u8 zci.1, .int .u8 zci.2]) (val_load tt_ok rfl (mTT (mR (mR (mT (mR mH))))) rfl) rfl (wl_val (v := .agg #[.int .u8 zcj.1, .int .u8 zcj.2]) (val_load tt_ok rfl mH rfl) rfl (wl_val (v := .bool (!((zci.1 == zcj.1) && (zci.2 == zcj.2)))) (val_nes tt_ok tt_eq tt_one Tryz.eqGuardType49 rfl rfl rfl rfl rfl) rfl (wP rfl rfl ?_))))))
  obtain ⟨v81, h, hg81⟩ := bsome h
  refine wl_split (t := 77) rfl (fun hc => ?_) (fun hc => ?_)
  ·replace h := ct hc h
   iterate 3 refine wl_skip rfl rfl ?_
   obtain rfl := sI h
   have h := hg81; clear hg81
   refine wP (v := .bool true) rfl rfl (wNT ?_)
   replace h := ct rfl h
   refine wc_cond_true rfl ?_
   refine wSR (wP rfl rfl (wNT (wc_ret (wx_block_ret (wx_then_ret (wx_block_ret (wx_then_ret ?_)))))))
   obtain rfl := Option.some.inj h
   have h := hl35; clear hl35; try dsimp only [orE_l, orE_r] at h
   refine wx_then_ret (wx_block_ret (wx_then_ret ?_))
   obtain rfl := sI h
   exact wx_pf tt_ok (.inl rfl) Tryz.results3 (Res.tmp rfl Res.nil) rfl
  replace h := cf hc h
  refine wl_run rfl (wP rfl rfl (wl_run rfl (wP rfl rfl (wl_run rfl (wP (v := .bool (zds != zdt)) rfl rfl ?_)))))
  obtain rfl := sI h
  have h := hg81; clear hg81
  refine wP (v := .bool (zds != zdt)) rfl rfl (wNT (wc_cond rfl (fun hc => ?_) (fun hc => ?_)))
  ·replace h := ct hc h
   refine wSR (wP rfl rfl (wNT (wc_ret (wx_block_ret (wx_then_ret (wx_block_ret (wx_then_ret ?_)))))))
   obtain rfl := Option.some.inj h
   have h := hl35; clear hl35; try dsimp only [orE_l, orE_r] at h
   refine wx_then_ret (wx_block_ret (wx_then_ret ?_))
   obtain rfl := sI h
   exact wx_pf tt_ok (.inl rfl) Tryz.results3 (Res.tmp rfl Res.nil) rfl
  replace h := cf hc h
  refine wc_skip (wx_block (wx_then (wSR ?_)))
  iterate 2 refine wP rfl rfl ?_
  refine wP (v := .pointer (some ⟨b8, 3, none⟩)) rfl rfl (wl_val (v := .bool v55.Ask) (val_load tt_ok rfl (mTT (mR (mR (mT (mR (mTT (mR (mR (mT (mR (mT (mR mH)))))))))))) rfl) rfl ?_)
  replace h := bsome h; obtain ⟨⟨zj, v114⟩, x114, h⟩ := h; try dsimp only at h
  refine wl_cs Tryz.call14 rfl rfl rfl (s_sp (k_hindcastlaw26_alike (p0 := zp) (p0_4 := zbv) (p0_5 := zcg) (p1 := zq) (p1_4 := zbw) zco zcq zcp zcr zcs zct zeh zeg zcu zcw zcv zcx zcy zcz x114) (pCons (sCC (sAA (sCA (sC hC)))) (pApp (sCC (sAA (sCA (sC hA')))) (pApp (sCC (sAA (sCA (sC hA')))) (pCons (sCC (sAA (sCA (sC hC)))) (pApp (sCC (sAA (sCA (sC hA')))) (pCons (sCC (sAA (sCA (sC hC)))) (pApp (sCC (sAA (sCA (sC hA')))) (pS (qS (qS (pS (qS pNil)))))))))))) (fun w hI => ⟨(Rds.call G0S (pCons (sCC (sAA (sCA (sC hC)))) (pApp (sCC (sAA (sCA (sC hA')))) (pApp (sCC (sAA (sCA (sC hA')))) (pCons (sCC (sAA (sCA (sC hC)))) (pApp (sCC (sAA (sCA (sC hA')))) (pCons (sCC (sAA (sCA (sC hC)))) (pApp (sCC (sAA (sCA (sC hA')))) (pS (qS (qS (pS (qS pNil)))))))))))) rsub_nil) w hI, (Rds.call G1S (pCons (sCC (sAA (sCA (sC hC)))) (pApp (sCC (sAA (sCA (sC hA')))) (pApp (sCC (sAA (sCA (sC hA')))) (pCons (sCC (sAA (sCA (sC hC)))) (pApp (sCC (sAA (sCA (sC hA')))) (pCons (sCC (sAA (sCA (sC hC)))) (pApp (sCC (sAA (sCA (sC hA')))) (pS (qS (qS (pS (qS pNil)))))))))))) rsub_nil) w hI⟩)) rfl ?_
  rintro _ _ ⟨_, ⟨zcf, zce, zcd, zcc, rfl, rfl⟩, rfl⟩
  refine wP (v := .bool (!v114)) rfl rfl (wNT (wc_cond rfl (fun hc => ?_) (fun hc => ?_)))
  ·replace h := ct hc h
   refine wSR (wP rfl rfl (wNT (wc_ret (wx_block_ret (wx_then_ret ?_)))))
   obtain rfl := Option.some.inj h
   have h := hl35; clear hl35; try dsimp only [orE_l, orE_r] at h
   refine wx_then_ret (wx_block_ret (wx_then_ret ?_))
   obtain rfl := sI h
   exact wx_pf tt_ok (.inl rfl) Tryz.results3 (Res.tmp rfl Res.nil) rfl
  replace h := cf hc h
  refine wc_skip (wx_block (wx_then (wc_region (wP rfl rfl (wP (v := .int .i64 (IntKind.wrap .i64 (zby + (1 : Int)))) rfl rfl (wP rfl rfl (wl_nil ?_)))))))
  exact wx_round m35 (Nat.lt_succ_self m35) ⟨(IntKind.wrap .i64 (zby + (1 : Int))), zp.player, zp.window, zp.sure.Frame, zp.sure.Seed, zp.sure.Players, zp.sure.Shots, zp.sure.Score, zp.own, zbv.first_, zbv.l, zbv.last, zj.size, zj.places, zq.Player, zq.Window, zq.Sure.Frame, zq.Sure.Seed, zq.Sure.Players, zq.Sure.Shots, zq.Sure.Score, zq.Own, zbw.Begin, zbw.First, zbw.L, zdw, zea, zdy, zdu, zdx, zeb, zdz, zdv, zed, zef, zee, zec, zcf, zce, zek, zeo, zem, zei, zel, zep, zen, zej, zer, zet, zes, zeq, h, zco, zcq, zcp, zcr, zcs, zct, zcd, zcc, zcu, zcw, zcv, zcx, zcy, zcz, rfl, rfl⟩ (agree_cons rfl (agree_cons rfl (agree_cons rfl (agree_cons rfl (agree_cons rfl agree_nil))))) (pSub (pH (pCons (sAA hC) (pCons (sAA (sA hC)) (pCons (sAA (sAA hC)) (pCons (sAA (sAA (sAA hC))) (pAA (pAA (pAA (pA pNil))))))))))
 replace h := cf hc h
 refine wc_exit (wx_then_exit ?_)
 obtain rfl := Option.some.inj h
 have h := hl35; clear hl35; try dsimp only [orE_l, orE_r] at h
 refine wx_then_exit (wx_block_exit (wx_then (wSR ?_)))
 iterate 2 refine wP rfl rfl ?_
 replace h := bsome h; obtain ⟨⟨zch, v118⟩, x118, h⟩ := h; try dsimp only at h
 refine wl_cs Tryz.call14 rfl rfl rfl (s_sp (k_hindcastlaw26_alike (p0 := (T_rollback_Engine.mk zad zae (T_api_State.mk zv zw zx zd zi) zf)) (p0_4 := (T_queue_Queue.mk zt zc zu)) (p0_5 := (T_ring_Ring.mk zy zg)) (p1 := (T_hindcastref26_Engine.mk zz zaa (T_api_State.mk zm zn zo zb zh) ze)) (p1_4 := (T_hindcastref24_Queue.mk zk zl za)) zbf zbg zbp zbq zbc zbd zbu zbt zbm zbn zbr zbs zbk zbl x118) (pH (pApp (sCC (sCC hA')) (pApp (sCC (sCC hA')) (pH (pApp (sCC (sC hA')) (pH (pApp (sCC hA') (pH (qS (qS (pH (pA pNil)))))))))))) (fun w hI => ⟨(Rds.call G0S (pH (pApp (sCC (sCC hA')) (pApp (sCC (sCC hA')) (pH (pApp (sCC (sC hA')) (pH (pApp (sCC hA') (pH (qS (qS (pH (pA pNil)))))))))))) rsub_nil) w hI, (Rds.call G1S (pH (pApp (sCC (sCC hA')) (pApp (sCC (sCC hA')) (pH (pApp (sCC (sC hA')) (pH (pApp (sCC hA') (pH (qS (qS (pH (pA pNil)))))))))))) rsub_nil) w hI⟩)) rfl ?_
 rintro _ _ ⟨_, ⟨zfr, zfq, zfp, zfo, rfl, rfl⟩, rfl⟩
 refine wP rfl rfl ?_
 obtain ⟨v121, h, hg121⟩ := bsome h
 refine wl_split (t := 119) rfl (fun hc => ?_) (fun hc => ?_)
 ·replace h := ct hc h
  obtain ⟨v120, x120, h⟩ := bsome h
  refine wl_run rfl (wl_cq Tryz.call4 rfl rfl rfl (q_pf (k_hindcastlaw26_works x120) (fun w hI => ⟨(Rds.call G0S pNil rsub_nil) w hI, (Rds.call G1S pNil rsub_nil) w hI⟩)) rfl ?_)
  obtain rfl := sI h
  have h := hg121; clear hg121
  refine wP (v := .bool v120) rfl rfl (wP rfl rfl (wNT (wc_ret ?_)))
  obtain rfl := sI h
  exact wx_pf tt_ok (.inl rfl) Tryz.results3 (Res.tmp rfl Res.nil) rfl
 replace h := cf hc h
 refine wl_skip rfl rfl ?_
 obtain rfl := sI h
 have h := hg121; clear hg121
 refine wP (v := .bool false) rfl rfl (wP rfl rfl (wNT (wc_ret ?_)))
 obtain rfl := sI h
 exact wx_pf tt_ok (.inl rfl) Tryz.results3 (Res.tmp rfl Res.nil) rfl

end Go.Proofs.YtkekgagekgadmaaGreatDoor
