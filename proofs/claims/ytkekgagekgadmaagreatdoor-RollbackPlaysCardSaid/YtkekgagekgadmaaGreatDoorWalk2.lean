/-
  Each function computes what its model says. Printed by a program of this claim's own.
-/
import Derived.Test.YtkekgagekgadmaaGreatDoorTab
import Derived.Test.YtkekgagekgadmaaGreatDoorMod
import Derived.Test.YtkekgagekgadmaaGreatDoorWalk1
namespace Go.Proofs.YtkekgagekgadmaaGreatDoor
open Go.Proofs.YtkekgagekgadmaaGreatDoor.Eng
set_option linter.unusedVariables false
set_option linter.unusedSimpArgs false
set_option maxHeartbeats 4000000
set_option maxRecDepth 20000

theorem k_step_fly {F : Nat} {p0 : T_api_State} {p0b p0t : Nat} {p0a0 : Option Addr} {p0n0 p0c0 : Nat} {p0B0 : List Blk} {r0 : T_api_State} (p0N0 : p0n0 = p0.Shots.length) (p0V0 : Own 93 6 p0a0 p0n0 p0c0 (flat c_T_api_Shot p0.Shots) p0B0) (h : m_step_fly F p0 = some r0) :
    SpD Tryz.prog 71 [.pointer (some ⟨p0b, 0, none⟩)] (⟨p0b, (st19 p0 p0a0 p0n0 p0c0 []), p0t, (0, 0)⟩ :: (p0B0 ++ [])) (fun w => True) (fun v D => ∃ (r0a0 : Option Addr) (r0n0 r0c0 : Nat) (r0B0 : List Blk), r0n0 = r0.Shots.length ∧ Own 93 6 r0a0 r0n0 r0c0 (flat c_T_api_Shot r0.Shots) r0B0 ∧ v = .tuple #[] ∧ D = fun F => (⟨p0b, (st19 r0 r0a0 r0n0 r0c0 []), p0t, (0, 0)⟩ :: (r0B0 ++ F))) := by
 unfold m_step_fly at h
 refine sp_of_wc Tryz.func71 rfl Tryz.ntmps71 rfl rfl (fun w0 hR => ?_)
 refine wSR (wP (v := .agg #[.int .i32 (0 : Int), .int .i32 (0 : Int), .int .i32 (65536 : Int), .int .i32 (32768 : Int)]) rfl rfl (wl_alloc tt_ok rfl rfl (fun b2 => ?_)))
 apply wl_store tt_ok; rfl; exact Upd.here; rfl; rfl; rfl; rfl; rfl; rfl
 refine wNT (wSR (wP rfl rfl (wNT (wc_seq (wSR ?_)))))
 iterate 2 refine wP rfl rfl ?_
 refine wP (v := .pointer (some ⟨p0b, 16, none⟩)) rfl rfl (wl_val (v := .slice p0a0 p0n0 p0c0) (val_load tt_ok rfl (mT mH) rfl) rfl (wl_val (v := .int .i64 (p0.Shots.length : Int)) (val_len tt_ok rfl rfl p0N0) rfl (wP rfl rfl (wNT (wc_block ?_)))))
 replace h := bsome h; obtain ⟨⟨zm, zk, zl⟩, h, hl9⟩ := h; try dsimp only at hl9
 refine wc_loop (fun m E L => ∃ (zb : (List T_api_Shot)) (zd : Int) (za : (T_api_Player × T_api_Player)) (zc : (Int × Int)) (zg : Option Addr) (zf zh : Nat) (ze : List Blk), m_step_fly_L8 F p0 m zb zd za zc = some (zm, zk, zl) ∧ zf = zb.length ∧ Own 93 6 zg zf zh (flat c_T_api_Shot zb) ze ∧ E = [(0, .pointer (some ⟨p0b, 0, none⟩)), (2, .pointer (some ⟨b2, 0, none⟩)), (3, .slice zg zf zh), (12, .slice p0a0 p0n0 p0c0), (13, .int .i64 (p0.Shots.length : Int)), (14, .int .i64 zd)] ∧ L = (⟨p0b, (.int .u64 p0.Frame :: .int .u64 p0.Seed :: pl14 za [.slice p0a0 p0n0 p0c0, .int .u16 zc.1, .int .u16 zc.2]), p0t, (0, 0)⟩ :: (⟨b2, [.int .i32 (0 : Int), .int .i32 (0 : Int), .int .i32 (65536 : Int), .int .i32 (32768 : Int)], 118, (0, 0)⟩ :: (p0B0 ++ (ze ++ []))))) F ⟨([] : List T_api_Shot), (0 : Int), p0.Players, p0.Score, none, 0, 0, [], h, rfl, Own.zero, rfl, rfl⟩ (agree_cons rfl (agree_cons rfl (agree_cons rfl (agree_cons rfl (agree_cons rfl (agree_cons rfl agree_nil)))))) (pSub (pS (pH (pA (pNo pNil))))) ?_
 clear h
 rintro m9 _ _ ⟨zb, zd, za, zc, zg, zf, zh, ze, h, zi, zj, rfl, rfl⟩
 rcases m9 with _ | m9
 ·rw [m_step_fly_L8.eq_1] at h; cases h
 rw [m_step_fly_L8.eq_2] at h
 refine wSR (wP (v := .bool (decide (zd < (p0.Shots.length : Int)))) rfl rfl (wNT (wc_seq (wc_cond rfl (fun hc => ?_) (fun hc => ?_)))))
 ·replace h := ct hc h
  refine wc_skip (wx_then (wc_seq (wc_block (wSR ?_))))
  obtain ⟨v16, x16, h⟩ := bsome h
  refine wl_val (v := .pointer (some ((adOf p0a0).add (zd.toNat * 6 + 0)))) (val_ix (enc := c_T_api_Shot) tt_ok rfl rfl rfl rfl p0N0 (Rds.of_vec p0V0) c_T_api_Shot_len rfl x16) rfl ?_
  refine wl_val (v := .agg #[.int .i32 v16.X, .int .i32 v16.Y, .int .i32 v16.VX, .int .i32 v16.VY, .int .u8 v16.Owner, .int .u8 v16.Life]) (val_le (enc := c_T_api_Shot) (xs := p0.Shots) tt_ok rfl (Rds.of_vec p0V0) ⟨_, (sCC hA')⟩ c_T_api_Shot_len x16 rfl) rfl ?_
  refine wl_alloc tt_ok rfl rfl (fun b5 => ?_)
  apply wl_store tt_ok; rfl; exact Upd.here; rfl; rfl; rfl; rfl; rfl; rfl
  refine wNT (wSR (wP (v := .pointer (some ⟨b5, 0, none⟩)) rfl rfl (wl_val (v := .int .i32 v16.X) (val_load tt_ok rfl mH rfl) rfl (wP (v := .pointer (some ⟨b5, 2, none⟩)) rfl rfl (wl_val (v := .int .i32 v16.VX) (val_load tt_ok rfl mH rfl) rfl (wP (v := .int .i32 (IntKind.wrap .i32 (v16.X + v16.VX))) rfl rfl (wP (v := .pointer (some ⟨b5, 1, none⟩)) rfl rfl (wl_val (v := .int .i32 v16.Y) (val_load tt_ok rfl mH rfl) rfl (wP (v := .pointer (some ⟨b5, 3, none⟩)) rfl rfl (wl_val (v := .int .i32 v16.VY) (val_load tt_ok rfl mH rfl) rfl (wP (v := .int .i32 (IntKind.wrap .i32 (v16.Y + v16.VY))) rfl rfl ?_)))))))))))
  refine wP (v := .pointer (some ⟨b5, 0, none⟩)) rfl rfl ?_
  apply wl_store tt_ok; rfl; exact Upd.here; rfl; rfl; rfl; rfl; rfl; rfl
  refine wP (v := .pointer (some ⟨b5, 1, none⟩)) rfl rfl ?_
  apply wl_store tt_ok; rfl; exact Upd.here; rfl; rfl; rfl; rfl; rfl; rfl
  refine wNT (wSR (wP (v := .pointer (some ⟨b5, 5, none⟩)) rfl rfl (wl_val (v := .int .u8 v16.Life) (val_load tt_ok rfl mH rfl) rfl (wP (v := .int .u8 (IntKind.wrap .u8 (v16.Life - (1 : Int)))) rfl rfl (wP (v := .pointer (some ⟨b5, 5, none⟩)) rfl rfl ?_)))))
  apply wl_store tt_ok; rfl; exact Upd.here; rfl; rfl; rfl; rfl; rfl; rfl
  refine wNT (wSR (wP (v := .pointer (some ⟨b5, 0, none⟩)) rfl rfl (wl_val (v := .int .i32 (IntKind.wrap .i32 (v16.X + v16.VX))) (val_load tt_ok rfl mH rfl) rfl (wP (v := .pointer (some ⟨b5, 1, none⟩)) rfl rfl (wl_val (v := .int .i32 (IntKind.wrap .i32 (v16.Y + v16.VY))) (val_load tt_ok rfl mH rfl) rfl (wP (v := .agg #[.int .i32 (IntKind.wrap .i32 (v16.X + v16.VX)), .int .i32 (IntKind.wrap .i32 (v16.Y + v16.VY)), .int .i32 (512 : Int), .int .i32 (512 : Int)]) rfl rfl (wl_alloc tt_ok rfl rfl (fun b6 => ?_))))))))
  apply wl_store tt_ok; rfl; exact Upd.here; rfl; rfl; rfl; rfl; rfl; rfl
  refine wNT (wc_seq (wc_quiet (by kernel_rfl) (by kernel_rfl) (qP rfl rfl (qP (v := .pointer (some ⟨b5, 4, none⟩)) rfl rfl (wq_val (v := .int .u8 v16.Owner) (val_load tt_ok rfl (mT mH) rfl) rfl (qP (v := .int .u8 (IntKind.wrap .u8 ((1 : Int) - v16.Owner))) rfl rfl (qP rfl rfl (qP (v := .pointer (some ⟨p0b, 2, none⟩)) rfl rfl ?_))))))))
  rcases Bool.eq_false_or_eq_true ((IntKind.wrap .u8 ((1 : Int) - v16.Owner)) == (0 : Int)) with hx450 | hx450
  ·replace h := ct hx450 h
   refine wq_val (v := .pointer (some ⟨p0b, 2, none⟩)) (val_ia (j := 0) tt_ok rfl rfl rfl rfl (by simpa using hx450) rfl rfl) rfl ?_
   refine qP rfl rfl (wq_nil (wx_then (wc_block (wSR (wl_val (v := .agg #[.int .i32 (IntKind.wrap .i32 (v16.X + v16.VX)), .int .i32 (IntKind.wrap .i32 (v16.Y + v16.VY)), .int .i32 (512 : Int), .int .i32 (512 : Int)]) (val_load tt_ok rfl mH rfl) rfl (wl_val (v := .agg #[.int .i32 (0 : Int), .int .i32 (0 : Int), .int .i32 (65536 : Int), .int .i32 (32768 : Int)]) (val_load tt_ok rfl (mTT (mT mH)) rfl) rfl ?_))))))
   obtain ⟨v49, x49, h⟩ := bsome h
   refine wl_cq Tryz.call91 rfl rfl rfl (q_pf (k_geom_Inside x49) (fun _ _ => trivial)) rfl ?_
   refine wP (v := .bool (!v49)) rfl rfl (wP rfl rfl (wNT (wc_cond rfl (fun hc => ?_) (fun hc => ?_))))
   ·replace h := ct hc h
    refine wc_skip (wx_block (wx_block (wx_then (wc_region (wP (v := .int .i64 (IntKind.wrap .i64 (zd + (1 : Int)))) rfl rfl (wP rfl rfl (wl_nil ?_)))))))
    exact wx_round m9 (Nat.lt_succ_self m9) ⟨zb, (IntKind.wrap .i64 (zd + (1 : Int))), za, zc, zg, zf, zh, ze, h, zi, zj, rfl, rfl⟩ (agree_cons rfl (agree_cons rfl (agree_cons rfl (agree_cons rfl (agree_cons rfl (agree_cons rfl agree_nil)))))) (pSub (pCons (sCC hC) (pCons (sCC hC) (pApp (sCC hA') (pApp (sCC hA') pNil)))))
   replace h := cf hc h
   refine wc_seq (wc_quiet (by kernel_rfl) (by kernel_rfl) (wq_val (v := .agg #[.int .i32 (IntKind.wrap .i32 (v16.X + v16.VX)), .int .i32 (IntKind.wrap .i32 (v16.Y + v16.VY)), .int .i32 (512 : Int), .int .i32 (512 : Int)]) (val_load tt_ok rfl mH rfl) rfl ?_))
   iterate 2 refine qP rfl rfl ?_
   refine wq_val (v := agP za.1) (val_load tt_ok rfl (mTT mH) rfl) rfl ?_
   obtain ⟨v56, x56, h⟩ := bsome h
   refine wq_cq Tryz.call69 rfl rfl rfl (q_pf (k_step_box x56) (fun _ _ => trivial)) rfl ?_
   obtain ⟨v57, x57, h⟩ := bsome h
   refine wq_cq Tryz.call68 rfl rfl rfl (q_pf (k_geom_Over x57) (fun _ _ => trivial)) rfl ?_
   refine qP rfl rfl (wq_nil (wx_then (wc_cond rfl (fun hc => ?_) (fun hc => ?_))))
   ·replace h := ct hc h
    refine wc_seq (wc_k2 (Ls := (⟨b6, [.int .i32 (IntKind.wrap .i32 (v16.X + v16.VX)), .int .i32 (IntKind.wrap .i32 (v16.Y + v16.VY)), .int .i32 (512 : Int), .int .i32 (512 : Int)], 118, (0, 0)⟩ :: (⟨b5, [.int .i32 (IntKind.wrap .i32 (v16.X + v16.VX)), .int .i32 (IntKind.wrap .i32 (v16.Y + v16.VY)), .int .i32 v16.VX, .int .i32 v16.VY, .int .u8 v16.Owner, .int .u8 (IntKind.wrap .u8 (v16.Life - (1 : Int)))], 93, (0, 0)⟩ :: (⟨p0b, (.int .u64 p0.Frame :: .int .u64 p0.Seed :: pl14 za [.slice p0a0 p0n0 p0c0, .int .u16 zc.1, .int .u16 zc.2]), p0t, (0, 0)⟩ :: (⟨b2, [.int .i32 (0 : Int), .int .i32 (0 : Int), .int .i32 (65536 : Int), .int .i32 (32768 : Int)], 118, (0, 0)⟩ :: (p0B0 ++ (ze ++ []))))))) [12] [12] [0, 1, 3, 7, 0, 16, 48, 112, 240, 511, 1023, 2047, 4095] [0, 1, 2, 3, 4, 5, 6, 7, 8, 9, 10, 11, 12] (by kernel_rfl) (by kernel_rfl) (by kernel_rfl) ?_)
    iterate 2 refine k_val rfl rfl rfl (pSub (pH4 (pAA pNil))) (sV rfl) rfl ?_
    refine k_val (v := .pointer (some ⟨p0b, 6, none⟩)) rfl rfl rfl (pSub (pH4 (pAA pNil))) (sV rfl) rfl (k_val (v := .int .u8 za.1.Health) rfl rfl rfl (pSub (pH4 (pAA pNil))) (val_load tt_ok rfl (mTT mH) rfl) rfl ?_)
    iterate 2 refine k_val rfl rfl rfl (pSub (pH4 (pAA pNil))) (sV rfl) rfl ?_
    refine k_val (v := .pointer (some ⟨p0b, 6, none⟩)) rfl rfl rfl (pSub (pH4 (pAA pNil))) (sV rfl) rfl (k_val (v := .int .u8 za.1.Health) rfl rfl rfl (pSub (pH4 (pAA pNil))) (val_load tt_ok rfl (mTT mH) rfl) rfl (k_val (v := .int .u8 (min za.1.Health (10 : Int))) rfl rfl rfl (pSub (pH4 (pAA pNil))) (sV rfl) rfl (k_val (v := .int .u8 (IntKind.wrap .u8 (za.1.Health - (min za.1.Health (10 : Int))))) rfl rfl rfl (pSub (pH4 (pAA pNil))) (sV rfl) rfl ?_)))
    refine k_val rfl rfl rfl (pSub (pH4 (pAA pNil))) (sV rfl) rfl (k_val (v := .pointer (some ⟨p0b, 6, none⟩)) rfl rfl rfl (pSub (pH4 (pAA pNil))) (sV rfl) rfl (k_chg0 rfl rfl rfl (chg_store tt_ok rfl (Upd.there (Upd.there Upd.here)) rfl rfl rfl rfl rfl rfl) (.inl rfl) ?_))
    rintro _ _ rfl
    refine k_end (by kernel_rfl) ?_
    refine wx_then (wc_k2 (Ls := (⟨b6, [.int .i32 (IntKind.wrap .i32 (v16.X + v16.VX)), .int .i32 (IntKind.wrap .i32 (v16.Y + v16.VY)), .int .i32 (512 : Int), .int .i32 (512 : Int)], 118, (0, 0)⟩ :: (⟨b5, [.int .i32 (IntKind.wrap .i32 (v16.X + v16.VX)), .int .i32 (IntKind.wrap .i32 (v16.Y + v16.VY)), .int .i32 v16.VX, .int .i32 v16.VY, .int .u8 v16.Owner, .int .u8 (IntKind.wrap .u8 (v16.Life - (1 : Int)))], 93, (0, 0)⟩ :: (⟨p0b, (.int .u64 p0.Frame :: .int .u64 p0.Seed :: .int .i32 za.1.X :: .int .i32 za.1.Y :: .int .i32 za.1.VX :: .int .i32 za.1.VY :: .int .u8 (IntKind.wrap .u8 (za.1.Health - (min za.1.Health (10 : Int)))) :: .int .u8 za.1.Cool :: .int .u8 za.1.Face :: pl7 za.2 [.slice p0a0 p0n0 p0c0, .int .u16 zc.1, .int .u16 zc.2]), p0t, (0, 0)⟩ :: (⟨b2, [.int .i32 (0 : Int), .int .i32 (0 : Int), .int .i32 (65536 : Int), .int .i32 (32768 : Int)], 118, (0, 0)⟩ :: (p0B0 ++ (ze ++ []))))))) [15] [15] [0, 0, 2, 0, 0, 16, 8, 72, 248, 504, 1016, 2040, 1, 4097, 16383, 32767] [0, 1, 2, 3, 4, 5, 6, 7, 8, 9, 10, 11, 12, 13, 14, 15] (by kernel_rfl) (by kernel_rfl) (by kernel_rfl) ?_)
    refine k_val rfl rfl rfl (pSub (pH4 (pAA pNil))) (sV rfl) rfl (k_val (v := .pointer (some ⟨b5, 4, none⟩)) rfl rfl rfl (pSub (pH4 (pAA pNil))) (sV rfl) rfl (k_val (v := .int .u8 v16.Owner) rfl rfl rfl (pSub (pH4 (pAA pNil))) (val_load tt_ok rfl (mT mH) rfl) rfl (k_val rfl rfl rfl (pSub (pH4 (pAA pNil))) (sV rfl) rfl (k_val (v := .pointer (some ⟨b5, 4, none⟩)) rfl rfl rfl (pSub (pH4 (pAA pNil))) (sV rfl) rfl ?_))))
    refine k_val (v := .int .u8 v16.Owner) rfl rfl rfl (pSub (pH4 (pAA pNil))) (val_load tt_ok rfl (mT mH) rfl) rfl (k_val rfl rfl rfl (pSub (pH4 (pAA pNil))) (sV rfl) rfl (k_val (v := .pointer (some ⟨p0b, 17, none⟩)) rfl rfl rfl (pSub (pH4 (pAA pNil))) (sV rfl) rfl ?_))
    rcases Bool.eq_false_or_eq_true (v16.Owner == (0 : Int)) with hx780 | hx780
    ·replace h := ct hx780 h
     refine k_val (v := .pointer (some ⟨p0b, 17, none⟩)) rfl rfl rfl (pSub (pH4 (pAA pNil))) (val_ia (j := 0) tt_ok rfl rfl rfl rfl (by simpa using hx780) rfl rfl) rfl (k_val (v := .int .u16 zc.1) rfl rfl rfl (pSub (pH4 (pAA pNil))) (val_load tt_ok rfl (mTT mH) rfl) rfl (k_val (v := .int .u16 (min zc.1 (65534 : Int))) rfl rfl rfl (pSub (pH4 (pAA pNil))) (sV rfl) rfl (k_val (v := .int .u16 (IntKind.wrap .u16 ((min zc.1 (65534 : Int)) + (1 : Int)))) rfl rfl rfl (pSub (pH4 (pAA pNil))) (sV rfl) rfl ?_)))
     refine k_val rfl rfl rfl (pSub (pH4 (pAA pNil))) (sV rfl) rfl (k_val (v := .pointer (some ⟨p0b, 17, none⟩)) rfl rfl rfl (pSub (pH4 (pAA pNil))) (sV rfl) rfl (k_val (v := .pointer (some ⟨p0b, 17, none⟩)) rfl rfl rfl (pSub (pH4 (pAA pNil))) (val_ia (j := 0) tt_ok rfl rfl rfl rfl (by simpa using hx780) rfl rfl) rfl (k_chg0 rfl rfl rfl (chg_store tt_ok rfl (Upd.there (Upd.there Upd.here)) rfl rfl rfl rfl rfl rfl) (.inl rfl) ?_)))
     rintro _ _ rfl
     refine k_end (by kernel_rfl) ?_
     refine wx_block (wx_block (wx_then (wc_region (wP (v := .int .i64 (IntKind.wrap .i64 (zd + (1 : Int)))) rfl rfl (wP rfl rfl (wl_nil ?_))))))
     exact wx_round m9 (Nat.lt_succ_self m9) ⟨zb, (IntKind.wrap .i64 (zd + (1 : Int))), ((T_api_Player.mk za.1.X za.1.Y za.1.VX za.1.VY (IntKind.wrap .u8 (za.1.Health - (min za.1.Health (10 : Int)))) za.1.Cool za.1.Face), za.2), ((IntKind.wrap .u16 ((min zc.1 (65534 : Int)) + (1 : Int))), zc.2), zg, zf, zh, ze, h, zi, zj, rfl, rfl⟩ (agree_cons rfl (agree_cons rfl (agree_cons rfl (agree_cons rfl (agree_cons rfl (agree_cons rfl agree_nil)))))) (pSub (pCons (sCC hC) (pCons (sCC hC) (pApp (sCC hA') (pApp (sCC hA') pNil)))))
    replace h := cf hx780 h
    rcases Bool.eq_false_or_eq_true (v16.Owner == (1 : Int)) with hx781 | hx781
    ·replace h := ct hx781 h
     refine k_val (v := .pointer (some ⟨p0b, 18, none⟩)) rfl rfl rfl (pSub (pH4 (pAA pNil))) (val_ia (j := 1) tt_ok rfl rfl rfl rfl (by simpa using hx781) rfl rfl) rfl (k_val (v := .int .u16 zc.2) rfl rfl rfl (pSub (pH4 (pAA pNil))) (val_load tt_ok rfl (mTT mH) rfl) rfl (k_val (v := .int .u16 (min zc.2 (65534 : Int))) rfl rfl rfl (pSub (pH4 (pAA pNil))) (sV rfl) rfl (k_val (v := .int .u16 (IntKind.wrap .u16 ((min zc.2 (65534 : Int)) + (1 : Int)))) rfl rfl rfl (pSub (pH4 (pAA pNil))) (sV rfl) rfl ?_)))
     refine k_val rfl rfl rfl (pSub (pH4 (pAA pNil))) (sV rfl) rfl (k_val (v := .pointer (some ⟨p0b, 17, none⟩)) rfl rfl rfl (pSub (pH4 (pAA pNil))) (sV rfl) rfl (k_val (v := .pointer (some ⟨p0b, 18, none⟩)) rfl rfl rfl (pSub (pH4 (pAA pNil))) (val_ia (j := 1) tt_ok rfl rfl rfl rfl (by simpa using hx781) rfl rfl) rfl (k_chg0 rfl rfl rfl (chg_store tt_ok rfl (Upd.there (Upd.there Upd.here)) rfl rfl rfl rfl rfl rfl) (.inl rfl) ?_)))
     rintro _ _ rfl
     refine k_end (by kernel_rfl) ?_
     refine wx_block (wx_block (wx_then (wc_region (wP (v := .int .i64 (IntKind.wrap .i64 (zd + (1 : Int)))) rfl rfl (wP rfl rfl (wl_nil ?_))))))
     exact wx_round m9 (Nat.lt_succ_self m9) ⟨zb, (IntKind.wrap .i64 (zd + (1 : Int))), ((T_api_Player.mk za.1.X za.1.Y za.1.VX za.1.VY (IntKind.wrap .u8 (za.1.Health - (min za.1.Health (10 : Int)))) za.1.Cool za.1.Face), za.2), (zc.1, (IntKind.wrap .u16 ((min zc.2 (65534 : Int)) + (1 : Int)))), zg, zf, zh, ze, h, zi, zj, rfl, rfl⟩ (agree_cons rfl (agree_cons rfl (agree_cons rfl (agree_cons rfl (agree_cons rfl (agree_cons rfl agree_nil)))))) (pSub (pCons (sCC hC) (pCons (sCC hC) (pApp (sCC hA') (pApp (sCC hA') pNil)))))
    replace h := cf hx781 h
    cases h
   replace h := cf hc h
   refine wSR (wP (v := .pointer (some ⟨b5, 5, none⟩)) rfl rfl (wl_val (v := .int .u8 (IntKind.wrap .u8 (v16.Life - (1 : Int)))) (val_load tt_ok rfl (mT mH) rfl) rfl (wP (v := .bool (decide ((0 : Int) < (IntKind.wrap .u8 (v16.Life - (1 : Int)))))) rfl rfl (wP rfl rfl (wNT (wc_cond rfl (fun hc => ?_) (fun hc => ?_)))))))
   ·replace h := ct hc h
    refine wc_region (wP rfl rfl (wl_val (v := .agg #[.int .i32 (IntKind.wrap .i32 (v16.X + v16.VX)), .int .i32 (IntKind.wrap .i32 (v16.Y + v16.VY)), .int .i32 v16.VX, .int .i32 v16.VY, .int .u8 v16.Owner, .int .u8 (IntKind.wrap .u8 (v16.Life - (1 : Int)))]) (val_load tt_ok rfl (mT mH) rfl) rfl (wl_chg (chg_bsv (enc := c_T_api_Shot) (xs := ([(T_api_Shot.mk (IntKind.wrap .i32 (v16.X + v16.VX)) (IntKind.wrap .i32 (v16.Y + v16.VY)) v16.VX v16.VY v16.Owner (IntKind.wrap .u8 (v16.Life - (1 : Int))))] : List T_api_Shot)) tt_ok rfl rfl rfl rfl rfl rfl rfl rfl c_T_api_Shot_len) rfl ?_)))
    rintro _ _ ⟨a91, n91_, c91, B91, rfl, N91, V91, rfl⟩
    obtain ⟨v92, x92, h⟩ := bsome h
    refine wl_chg (chg_app (enc := c_T_api_Shot) (ys := ([(T_api_Shot.mk (IntKind.wrap .i32 (v16.X + v16.VX)) (IntKind.wrap .i32 (v16.Y + v16.VY)) v16.VX v16.VY v16.Owner (IntKind.wrap .u8 (v16.Life - (1 : Int))))] : List T_api_Shot)) tt_ok rfl rfl rfl rfl rfl rfl zi N91 zj (sA (sCC (sCC (sA hA')))) (Rds.of_vec V91) ⟨_, hA'⟩ c_T_api_Shot_len (fun _ => rfl) rfl x92) rfl ?_
    rintro _ _ ⟨a92, n92_, c92, B92, rfl, N92, V92, rfl⟩
    refine wP rfl rfl (wl_nil (wx_block (wx_block (wx_then (wc_region (wP (v := .int .i64 (IntKind.wrap .i64 (zd + (1 : Int)))) rfl rfl (wP rfl rfl (wl_nil ?_))))))))
    exact wx_round m9 (Nat.lt_succ_self m9) ⟨v92, (IntKind.wrap .i64 (zd + (1 : Int))), za, zc, a92, n92_, c92, B92, h, N92, V92, rfl, rfl⟩ (agree_cons rfl (agree_cons rfl (agree_cons rfl (agree_cons rfl (agree_cons rfl (agree_cons rfl agree_nil)))))) (pSub (pCons (sAA (sCC hC)) (pCons (sAA (sCC hC)) (pApp (sAA (sCC hA')) (pA pNil)))))
   replace h := cf hc h
   refine wc_skip (wx_block (wx_block (wx_then (wc_region (wP (v := .int .i64 (IntKind.wrap .i64 (zd + (1 : Int)))) rfl rfl (wP rfl rfl (wl_nil ?_)))))))
   exact wx_round m9 (Nat.lt_succ_self m9) ⟨zb, (IntKind.wrap .i64 (zd + (1 : Int))), za, zc, zg, zf, zh, ze, h, zi, zj, rfl, rfl⟩ (agree_cons rfl (agree_cons rfl (agree_cons rfl (agree_cons rfl (agree_cons rfl (agree_cons rfl agree_nil)))))) (pSub (pCons (sCC hC) (pCons (sCC hC) (pApp (sCC hA') (pApp (sCC hA') pNil)))))
  replace h := cf hx450 h
  rcases Bool.eq_false_or_eq_true ((IntKind.wrap .u8 ((1 : Int) - v16.Owner)) == (1 : Int)) with hx451 | hx451
  ·replace h := ct hx451 h
   refine wq_val (v := .pointer (some ⟨p0b, 9, none⟩)) (val_ia (j := 1) tt_ok rfl rfl rfl rfl (by simpa using hx451) rfl rfl) rfl ?_
   refine qP rfl rfl (wq_nil (wx_then (wc_block (wSR (wl_val (v := .agg #[.int .i32 (IntKind.wrap .i32 (v16.X + v16.VX)), .int .i32 (IntKind.wrap .i32 (v16.Y + v16.VY)), .int .i32 (512 : Int), .int .i32 (512 : Int)]) (val_load tt_ok rfl mH rfl) rfl (wl_val (v := .agg #[.int .i32 (0 : Int), .int .i32 (0 : Int), .int .i32 (65536 : Int), .int .i32 (32768 : Int)]) (val_load tt_ok rfl (mTT (mT mH)) rfl) rfl ?_))))))
   obtain ⟨v49, x49, h⟩ := bsome h
   refine wl_cq Tryz.call91 rfl rfl rfl (q_pf (k_geom_Inside x49) (fun _ _ => trivial)) rfl ?_
   refine wP (v := .bool (!v49)) rfl rfl (wP rfl rfl (wNT (wc_cond rfl (fun hc => ?_) (fun hc => ?_))))
   ·replace h := ct hc h
    refine wc_skip (wx_block (wx_block (wx_then (wc_region (wP (v := .int .i64 (IntKind.wrap .i64 (zd + (1 : Int)))) rfl rfl (wP rfl rfl (wl_nil ?_)))))))
    exact wx_round m9 (Nat.lt_succ_self m9) ⟨zb, (IntKind.wrap .i64 (zd + (1 : Int))), za, zc, zg, zf, zh, ze, h, zi, zj, rfl, rfl⟩ (agree_cons rfl (agree_cons rfl (agree_cons rfl (agree_cons rfl (agree_cons rfl (agree_cons rfl agree_nil)))))) (pSub (pCons (sCC hC) (pCons (sCC hC) (pApp (sCC hA') (pApp (sCC hA') pNil)))))
   replace h := cf hc h
   refine wc_seq (wc_quiet (by kernel_rfl) (by kernel_rfl) (wq_val (v := .agg #[.int .i32 (IntKind.wrap .i32 (v16.X + v16.VX)), .int .i32 (IntKind.wrap .i32 (v16.Y + v16.VY)), .int .i32 (512 : Int), .int .i32 (512 : Int)]) (val_load tt_ok rfl mH rfl) rfl ?_))
   iterate 2 refine qP rfl rfl ?_
   refine wq_val (v := agP za.2) (val_load tt_ok rfl (mTT mH) rfl) rfl ?_
   obtain ⟨v56, x56, h⟩ := bsome h
   refine wq_cq Tryz.call69 rfl rfl rfl (q_pf (k_step_box x56) (fun _ _ => trivial)) rfl ?_
   obtain ⟨v57, x57, h⟩ := bsome h
   refine wq_cq Tryz.call68 rfl rfl rfl (q_pf (k_geom_Over x57) (fun _ _ => trivial)) rfl ?_
   refine qP rfl rfl (wq_nil (wx_then (wc_cond rfl (fun hc => ?_) (fun hc => ?_))))
   ·replace h := ct hc h
    refine wc_seq (wc_k2 (Ls := (⟨b6, [.int .i32 (IntKind.wrap .i32 (v16.X + v16.VX)), .int .i32 (IntKind.wrap .i32 (v16.Y + v16.VY)), .int .i32 (512 : Int), .int .i32 (512 : Int)], 118, (0, 0)⟩ :: (⟨b5, [.int .i32 (IntKind.wrap .i32 (v16.X + v16.VX)), .int .i32 (IntKind.wrap .i32 (v16.Y + v16.VY)), .int .i32 v16.VX, .int .i32 v16.VY, .int .u8 v16.Owner, .int .u8 (IntKind.wrap .u8 (v16.Life - (1 : Int)))], 93, (0, 0)⟩ :: (⟨p0b, (.int .u64 p0.Frame :: .int .u64 p0.Seed :: pl14 za [.slice p0a0 p0n0 p0c0, .int .u16 zc.1, .int .u16 zc.2]), p0t, (0, 0)⟩ :: (⟨b2, [.int .i32 (0 : Int), .int .i32 (0 : Int), .int .i32 (65536 : Int), .int .i32 (32768 : Int)], 118, (0, 0)⟩ :: (p0B0 ++ (ze ++ []))))))) [12] [12] [0, 1, 3, 7, 0, 16, 48, 112, 240, 511, 1023, 2047, 4095] [0, 1, 2, 3, 4, 5, 6, 7, 8, 9, 10, 11, 12] (by kernel_rfl) (by kernel_rfl) (by kernel_rfl) ?_)
    iterate 2 refine k_val rfl rfl rfl (pSub (pH4 (pAA pNil))) (sV rfl) rfl ?_
    refine k_val (v := .pointer (some ⟨p0b, 13, none⟩)) rfl rfl rfl (pSub (pH4 (pAA pNil))) (sV rfl) rfl (k_val (v := .int .u8 za.2.Health) rfl rfl rfl (pSub (pH4 (pAA pNil))) (val_load tt_ok rfl (mTT mH) rfl) rfl ?_)
    iterate 2 refine k_val rfl rfl rfl (pSub (pH4 (pAA pNil))) (sV rfl) rfl ?_
    refine k_val (v := .pointer (some ⟨p0b, 13, none⟩)) rfl rfl rfl (pSub (pH4 (pAA pNil))) (sV rfl) rfl (k_val (v := .int .u8 za.2.Health) rfl rfl rfl (pSub (pH4 (pAA pNil))) (val_load tt_ok rfl (mTT mH) rfl) rfl (k_val (v := .int .u8 (min za.2.Health (10 : Int))) rfl rfl rfl (pSub (pH4 (pAA pNil))) (sV rfl) rfl (k_val (v := .int .u8 (IntKind.wrap .u8 (za.2.Health - (min za.2.Health (10 : Int))))) rfl rfl rfl (pSub (pH4 (pAA pNil))) (sV rfl) rfl ?_)))
    refine k_val rfl rfl rfl (pSub (pH4 (pAA pNil))) (sV rfl) rfl (k_val (v := .pointer (some ⟨p0b, 13, none⟩)) rfl rfl rfl (pSub (pH4 (pAA pNil))) (sV rfl) rfl (k_chg0 rfl rfl rfl (chg_store tt_ok rfl (Upd.there (Upd.there Upd.here)) rfl rfl rfl rfl rfl rfl) (.inl rfl) ?_))
    rintro _ _ rfl
    refine k_end (by kernel_rfl) ?_
    refine wx_then (wc_k2 (Ls := (⟨b6, [.int .i32 (IntKind.wrap .i32 (v16.X + v16.VX)), .int .i32 (IntKind.wrap .i32 (v16.Y + v16.VY)), .int .i32 (512 : Int), .int .i32 (512 : Int)], 118, (0, 0)⟩ :: (⟨b5, [.int .i32 (IntKind.wrap .i32 (v16.X + v16.VX)), .int .i32 (IntKind.wrap .i32 (v16.Y + v16.VY)), .int .i32 v16.VX, .int .i32 v16.VY, .int .u8 v16.Owner, .int .u8 (IntKind.wrap .u8 (v16.Life - (1 : Int)))], 93, (0, 0)⟩ :: (⟨p0b, (.int .u64 p0.Frame :: .int .u64 p0.Seed :: pl7 za.1 [.int .i32 za.2.X, .int .i32 za.2.Y, .int .i32 za.2.VX, .int .i32 za.2.VY, .int .u8 (IntKind.wrap .u8 (za.2.Health - (min za.2.Health (10 : Int)))), .int .u8 za.2.Cool, .int .u8 za.2.Face, .slice p0a0 p0n0 p0c0, .int .u16 zc.1, .int .u16 zc.2]), p0t, (0, 0)⟩ :: (⟨b2, [.int .i32 (0 : Int), .int .i32 (0 : Int), .int .i32 (65536 : Int), .int .i32 (32768 : Int)], 118, (0, 0)⟩ :: (p0B0 ++ (ze ++ []))))))) [15] [15] [0, 0, 2, 0, 0, 16, 8, 72, 248, 504, 1016, 2040, 1, 4097, 16383, 32767] [0, 1, 2, 3, 4, 5, 6, 7, 8, 9, 10, 11, 12, 13, 14, 15] (by kernel_rfl) (by kernel_rfl) (by kernel_rfl) ?_)
    refine k_val rfl rfl rfl (pSub (pH4 (pAA pNil))) (sV rfl) rfl (k_val (v := .pointer (some ⟨b5, 4, none⟩)) rfl rfl rfl (pSub (pH4 (pAA pNil))) (sV rfl) rfl (k_val (v := .int .u8 v16.Owner) rfl rfl rfl (pSub (pH4 (pAA pNil))) (val_load tt_ok rfl (mT mH) rfl) rfl (k_val rfl rfl rfl (pSub (pH4 (pAA pNil))) (sV rfl) rfl (k_val (v := .pointer (some ⟨b5, 4, none⟩)) rfl rfl rfl (pSub (pH4 (pAA pNil))) (sV rfl) rfl ?_))))
    refine k_val (v := .int .u8 v16.Owner) rfl rfl rfl (pSub (pH4 (pAA pNil))) (val_load tt_ok rfl (mT mH) rfl) rfl (k_val rfl rfl rfl (pSub (pH4 (pAA pNil))) (sV rfl) rfl (k_val (v := .pointer (some ⟨p0b, 17, none⟩)) rfl rfl rfl (pSub (pH4 (pAA pNil))) (sV rfl) rfl ?_))
    rcases Bool.eq_false_or_eq_true (v16.Owner == (0 : Int)) with hx780 | hx780
    ·replace h := ct hx780 h
     refine k_val (v := .pointer (some ⟨p0b, 17, none⟩)) rfl rfl rfl (pSub (pH4 (pAA pNil))) (val_ia (j := 0) tt_ok rfl rfl rfl rfl (by simpa using hx780) rfl rfl) rfl (k_val (v := .int .u16 zc.1) rfl rfl rfl (pSub (pH4 (pAA pNil))) (val_load tt_ok rfl (mTT mH) rfl) rfl (k_val (v := .int .u16 (min zc.1 (65534 : Int))) rfl rfl rfl (pSub (pH4 (pAA pNil))) (sV rfl) rfl (k_val (v := .int .u16 (IntKind.wrap .u16 ((min zc.1 (65534 : Int)) + (1 : Int)))) rfl rfl rfl (pSub (pH4 (pAA pNil))) (sV rfl) rfl ?_)))
     refine k_val rfl rfl rfl (pSub (pH4 (pAA pNil))) (sV rfl) rfl (k_val (v := .pointer (some ⟨p0b, 17, none⟩)) rfl rfl rfl (pSub (pH4 (pAA pNil))) (sV rfl) rfl (k_val (v := .pointer (some ⟨p0b, 17, none⟩)) rfl rfl rfl (pSub (pH4 (pAA pNil))) (val_ia (j := 0) tt_ok rfl rfl rfl rfl (by simpa using hx780) rfl rfl) rfl (k_chg0 rfl rfl rfl (chg_store tt_ok rfl (Upd.there (Upd.there Upd.here)) rfl rfl rfl rfl rfl rfl) (.inl rfl) ?_)))
     rintro _ _ rfl
     refine k_end (by kernel_rfl) ?_
     refine wx_block (wx_block (wx_then (wc_region (wP (v := .int .i64 (IntKind.wrap .i64 (zd + (1 : Int)))) rfl rfl (wP rfl rfl (wl_nil ?_))))))
     exact wx_round m9 (Nat.lt_succ_self m9) ⟨zb, (IntKind.wrap .i64 (zd + (1 : Int))), (za.1, (T_api_Player.mk za.2.X za.2.Y za.2.VX za.2.VY (IntKind.wrap .u8 (za.2.Health - (min za.2.Health (10 : Int)))) za.2.Cool za.2.Face)), ((IntKind.wrap .u16 ((min zc.1 (65534 : Int)) + (1 : Int))), zc.2), zg, zf, zh, ze, h, zi, zj, rfl, rfl⟩ (agree_cons rfl (agree_cons rfl (agree_cons rfl (agree_cons rfl (agree_cons rfl (agree_cons rfl agree_nil)))))) (pSub (pCons (sCC hC) (pCons (sCC hC) (pApp (sCC hA') (pApp (sCC hA') pNil)))))
    replace h := cf hx780 h
    rcases Bool.eq_false_or_eq_true (v16.Owner == (1 : Int)) with hx781 | hx781
    ·replace h := ct hx781 h
     refine k_val (v := .pointer (some ⟨p0b, 18, none⟩)) rfl rfl rfl (pSub (pH4 (pAA pNil))) (val_ia (j := 1) tt_ok rfl rfl rfl rfl (by simpa using hx781) rfl rfl) rfl (k_val (v := .int .u16 zc.2) rfl rfl rfl (pSub (pH4 (pAA pNil))) (val_load tt_ok rfl (mTT mH) rfl) rfl (k_val (v := .int .u16 (min zc.2 (65534 : Int))) rfl rfl rfl (pSub (pH4 (pAA pNil))) (sV rfl) rfl (k_val (v := .int .u16 (IntKind.wrap .u16 ((min zc.2 (65534 : Int)) + (1 : Int)))) rfl rfl rfl (pSub (pH4 (pAA pNil))) (sV rfl) rfl ?_)))
     refine k_val rfl rfl rfl (pSub (pH4 (pAA pNil))) (sV rfl) rfl (k_val (v := .pointer (some ⟨p0b, 17, none⟩)) rfl rfl rfl (pSub (pH4 (pAA pNil))) (sV rfl) rfl (k_val (v := .pointer (some ⟨p0b, 18, none⟩)) rfl rfl rfl (pSub (pH4 (pAA pNil))) (val_ia (j := 1) tt_ok rfl rfl rfl rfl (by simpa using hx781) rfl rfl) rfl (k_chg0 rfl rfl rfl (chg_store tt_ok rfl (Upd.there (Upd.there Upd.here)) rfl rfl rfl rfl rfl rfl) (.inl rfl) ?_)))
     rintro _ _ rfl
     refine k_end (by kernel_rfl) ?_
     refine wx_block (wx_block (wx_then (wc_region (wP (v := .int .i64 (IntKind.wrap .i64 (zd + (1 : Int)))) rfl rfl (wP rfl rfl (wl_nil ?_))))))
     exact wx_round m9 (Nat.lt_succ_self m9) ⟨zb, (IntKind.wrap .i64 (zd + (1 : Int))), (za.1, (T_api_Player.mk za.2.X za.2.Y za.2.VX za.2.VY (IntKind.wrap .u8 (za.2.Health - (min za.2.Health (10 : Int)))) za.2.Cool za.2.Face)), (zc.1, (IntKind.wrap .u16 ((min zc.2 (65534 : Int)) + (1 : Int)))), zg, zf, zh, ze, h, zi, zj, rfl, rfl⟩ (agree_cons rfl (agree_cons rfl (agree_cons rfl (agree_cons rfl (agree_cons rfl (agree_cons rfl agree_nil)))))) (pSub (pCons (sCC hC) (pCons (sCC hC) (pApp (sCC hA') (pApp (sCC hA') pNil)))))
    replace h := cf hx781 h
    cases h
   replace h := cf hc h
   refine wSR (wP (v := .pointer (some ⟨b5, 5, none⟩)) rfl rfl (wl_val (v := .int .u8 (IntKind.wrap .u8 (v16.Life - (1 : Int)))) (val_load tt_ok rfl (mT mH) rfl) rfl (wP (v := .bool (decide ((0 : Int) < (IntKind.wrap .u8 (v16.Life - (1 : Int)))))) rfl rfl (wP rfl rfl (wNT (wc_cond rfl (fun hc => ?_) (fun hc => ?_)))))))
   ·replace h := ct hc h
    refine wc_region (wP rfl rfl (wl_val (v := .agg #[.int .i32 (IntKind.wrap .i32 (v16.X + v16.VX)), .int .i32 (IntKind.wrap .i32 (v16.Y + v16.VY)), .int .i32 v16.VX, .int .i32 v16.VY, .int .u8 v16.Owner, .int .u8 (IntKind.wrap .u8 (v16.Life - (1 : Int)))]) (val_load tt_ok rfl (mT mH) rfl) rfl (wl_chg (chg_bsv (enc := c_T_api_Shot) (xs := ([(T_api_Shot.mk (IntKind.wrap .i32 (v16.X + v16.VX)) (IntKind.wrap .i32 (v16.Y + v16.VY)) v16.VX v16.VY v16.Owner (IntKind.wrap .u8 (v16.Life - (1 : Int))))] : List T_api_Shot)) tt_ok rfl rfl rfl rfl rfl rfl rfl rfl c_T_api_Shot_len) rfl ?_)))
    rintro _ _ ⟨a91, n91_, c91, B91, rfl, N91, V91, rfl⟩
    obtain ⟨v92, x92, h⟩ := bsome h
    refine wl_chg (chg_app (enc := c_T_api_Shot) (ys := ([(T_api_Shot.mk (IntKind.wrap .i32 (v16.X + v16.VX)) (IntKind.wrap .i32 (v16.Y + v16.VY)) v16.VX v16.VY v16.Owner (IntKind.wrap .u8 (v16.Life - (1 : Int))))] : List T_api_Shot)) tt_ok rfl rfl rfl rfl rfl rfl zi N91 zj (sA (sCC (sCC (sA hA')))) (Rds.of_vec V91) ⟨_, hA'⟩ c_T_api_Shot_len (fun _ => rfl) rfl x92) rfl ?_
    rintro _ _ ⟨a92, n92_, c92, B92, rfl, N92, V92, rfl⟩
    refine wP rfl rfl (wl_nil (wx_block (wx_block (wx_then (wc_region (wP (v := .int .i64 (IntKind.wrap .i64 (zd + (1 : Int)))) rfl rfl (wP rfl rfl (wl_nil ?_))))))))
    exact wx_round m9 (Nat.lt_succ_self m9) ⟨v92, (IntKind.wrap .i64 (zd + (1 : Int))), za, zc, a92, n92_, c92, B92, h, N92, V92, rfl, rfl⟩ (agree_cons rfl (agree_cons rfl (agree_cons rfl (agree_cons rfl (agree_cons rfl (agree_cons rfl agree_nil)))))) (pSub (pCons (sAA (sCC hC)) (pCons (sAA (sCC hC)) (pApp (sAA (sCC hA')) (pA pNil)))))
   replace h := cf hc h
   refine wc_skip (wx_block (wx_block (wx_then (wc_region (wP (v := .int .i64 (IntKind.wrap .i64 (zd + (1 : Int)))) rfl rfl (wP rfl rfl (wl_nil ?_)))))))
   exact wx_round m9 (Nat.lt_succ_self m9) ⟨zb, (IntKind.wrap .i64 (zd + (1 : Int))), za, zc, zg, zf, zh, ze, h, zi, zj, rfl, rfl⟩ (agree_cons rfl (agree_cons rfl (agree_cons rfl (agree_cons rfl (agree_cons rfl (agree_cons rfl agree_nil)))))) (pSub (pCons (sCC hC) (pCons (sCC hC) (pApp (sCC hA') (pApp (sCC hA') pNil)))))
  replace h := cf hx451 h
  cases h
 replace h := cf hc h
 refine wc_exit (wx_then_exit ?_)
 obtain ⟨rfl, rfl, rfl⟩ := pJ3 h
 have h := hl9; clear hl9; try dsimp only [orE_l, orE_r] at h
 refine wx_then_exit (wx_block_exit (wx_then (wc_region ?_)))
 iterate 3 refine wP rfl rfl ?_
 refine wP (v := .pointer (some ⟨p0b, 16, none⟩)) rfl rfl ?_
 apply wl_store tt_ok; rfl; exact Upd.here; rfl; rfl; rfl; rfl; rfl; rfl
 refine wl_nil ?_
 obtain rfl := sI h
 exact wx_spD tt_ok (.inr rfl) Tryz.results71 Res.nil ⟨zg, zf, zh, ze, zi, zj, rfl, rfl⟩ (fun F => by simp) (pSub (pH (pApp (sCA hA') pNil)))

theorem k_rng_Source_Skip {F : Nat} {p0 : T_rng_Source} {p1 : Int} {r0 : T_rng_Source} (h : m_rng_Source_Skip F p0 p1 = some r0) :
    Pf Tryz.prog 113 [.agg #[.int .u64 p0.S], .int .u64 p1] (fun w => True) (.agg #[.int .u64 r0.S]) := by
 unfold m_rng_Source_Skip at h
 refine pf_of_wc Tryz.func113 rfl Tryz.ntmps113 rfl rfl (fun w0 hR => ?_)
 refine wSR (wl_box rfl rfl rfl (fun b2 => (wl_alloc tt_ok rfl rfl (fun b4 => (wNT (wSR (wP (v := .pointer (some ⟨b2, 0, none⟩)) rfl rfl (wl_val (v := .int .u64 p0.S) (val_load tt_ok rfl (mT mH) rfl) rfl (wP rfl rfl (wP (v := .int .u64 (IntKind.wrap .u64 (p1 * (11400714819323198485 : Int)))) rfl rfl (wP (v := .int .u64 (IntKind.wrap .u64 (p0.S + (IntKind.wrap .u64 (p1 * (11400714819323198485 : Int)))))) rfl rfl (wP (v := .agg #[.int .u64 (IntKind.wrap .u64 (p0.S + (IntKind.wrap .u64 (p1 * (11400714819323198485 : Int)))))]) rfl rfl ?_))))))))))))
 apply wl_store tt_ok; rfl; exact Upd.here; rfl; rfl; rfl; rfl; rfl; rfl
 refine wNT (wc_ret ?_)
 obtain rfl := sI h
 exact wx_pf tt_ok (.inl rfl) Tryz.results113 (Res.cell rfl mH rfl Res.nil) rfl

theorem k_rng_Mix {F : Nat} {p0 : Int} {r0 : Int} (h : m_rng_Mix F p0 = some r0) :
    Pf Tryz.prog 114 [.int .u64 p0] (fun w => True) (.int .u64 r0) := by
 unfold m_rng_Mix at h
 refine pf_of_wc Tryz.func114 rfl Tryz.ntmps114 rfl rfl (fun w0 hR => ?_)
 refine wSR (wP rfl rfl (wNT (wSR ?_)))
 iterate 2 refine wP rfl rfl ?_
 refine wP (v := .int .u64 (p0 / 2 ^ (min 30 (IntKind.bits .u64)))) rfl rfl (wP (v := .int .u64 (bits .xor .u64 p0 (p0 / 2 ^ (min 30 (IntKind.bits .u64))))) rfl rfl (wP (v := .int .u64 (IntKind.wrap .u64 ((bits .xor .u64 p0 (p0 / 2 ^ (min 30 (IntKind.bits .u64)))) * (13787848793156543929 : Int)))) rfl rfl (wP rfl rfl (wNT (wSR ?_)))))
 iterate 2 refine wP rfl rfl ?_
 refine wP (v := .int .u64 ((IntKind.wrap .u64 ((bits .xor .u64 p0 (p0 / 2 ^ (min 30 (IntKind.bits .u64)))) * (13787848793156543929 : Int))) / 2 ^ (min 27 (IntKind.bits .u64)))) rfl rfl (wP (v := .int .u64 (bits .xor .u64 (IntKind.wrap .u64 ((bits .xor .u64 p0 (p0 / 2 ^ (min 30 (IntKind.bits .u64)))) * (13787848793156543929 : Int))) ((IntKind.wrap .u64 ((bits .xor .u64 p0 (p0 / 2 ^ (min 30 (IntKind.bits .u64)))) * (13787848793156543929 : Int))) / 2 ^ (min 27 (IntKind.bits .u64))))) rfl rfl (wP (v := .int .u64 (IntKind.wrap .u64 ((bits .xor .u64 (IntKind.wrap .u64 ((bits .xor .u64 p0 (p0 / 2 ^ (min 30 (IntKind.bits .u64)))) * (13787848793156543929 : Int))) ((IntKind.wrap .u64 ((bits .xor .u64 p0 (p0 / 2 ^ (min 30 (IntKind.bits .u64)))) * (13787848793156543929 : Int))) / 2 ^ (min 27 (IntKind.bits .u64)))) * (10723151780598845931 : Int)))) rfl rfl ?_))
 refine wP rfl rfl (wNT (wSR ?_))
 iterate 2 refine wP rfl rfl ?_
 refine wP (v := .int .u64 ((IntKind.wrap .u64 ((bits .xor .u64 (IntKind.wrap .u64 ((bits .xor .u64 p0 (p0 / 2 ^ (min 30 (IntKind.bits .u64)))) * (13787848793156543929 : Int))) ((IntKind.wrap .u64 ((bits .xor .u64 p0 (p0 / 2 ^ (min 30 (IntKind.bits .u64)))) * (13787848793156543929 : Int))) / 2 ^ (min 27 (IntKind.bits .u64)))) * (10723151780598845931 : Int))) / 2 ^ (min 31 (IntKind.bits .u64)))) rfl rfl (wP (v := .int .u64 (bits .xor .u64 (IntKind.wrap .u64 ((bits .xor .u64 (IntKind.wrap .u64 ((bits .xor .u64 p0 (p0 / 2 ^ (min 30 (IntKind.bits .u64)))) * (13787848793156543929 : Int))) ((IntKind.wrap .u64 ((bits .xor .u64 p0 (p0 / 2 ^ (min 30 (IntKind.bits .u64)))) * (13787848793156543929 : Int))) / 2 ^ (min 27 (IntKind.bits .u64)))) * (10723151780598845931 : Int))) ((IntKind.wrap .u64 ((bits .xor .u64 (IntKind.wrap .u64 ((bits .xor .u64 p0 (p0 / 2 ^ (min 30 (IntKind.bits .u64)))) * (13787848793156543929 : Int))) ((IntKind.wrap .u64 ((bits .xor .u64 p0 (p0 / 2 ^ (min 30 (IntKind.bits .u64)))) * (13787848793156543929 : Int))) / 2 ^ (min 27 (IntKind.bits .u64)))) * (10723151780598845931 : Int))) / 2 ^ (min 31 (IntKind.bits .u64))))) rfl rfl ?_)
 refine wP rfl rfl (wNT (wc_ret ?_))
 obtain rfl := sI h
 exact wx_pf tt_ok (.inl rfl) Tryz.results114 (Res.tmp rfl Res.nil) rfl

theorem k_rng_Source_Next {F : Nat} {p0 : T_rng_Source} {r0 : Int} {r1 : T_rng_Source} (h : m_rng_Source_Next F p0 = some (r0, r1)) :
    Pf Tryz.prog 106 [.agg #[.int .u64 p0.S]] (fun w => True) (.tuple #[.int .u64 r0, .agg #[.int .u64 r1.S]]) := by
 unfold m_rng_Source_Next at h
 refine pf_of_wc Tryz.func106 rfl Tryz.ntmps106 rfl rfl (fun w0 hR => ?_)
 refine wSR (wl_box rfl rfl rfl (fun b1 => (wP rfl rfl (wl_alloc tt_ok rfl rfl (fun b3 => (wNT (wSR (wl_val (v := .agg #[.int .u64 p0.S]) (val_load tt_ok rfl (mT mH) rfl) rfl ?_))))))))
 obtain ⟨v5, x5, h⟩ := bsome h
 refine wl_cq Tryz.call113 rfl rfl rfl (q_pf (k_rng_Source_Skip x5) (fun _ _ => trivial)) rfl ?_
 apply wl_store tt_ok; rfl; exact (Upd.there Upd.here); rfl; rfl; rfl; rfl; rfl; rfl
 refine wNT (wc_seq (wc_k2 (Ls := (⟨b3, [.int .u64 (0 : Int)], 139, (0, 0)⟩ :: (⟨b1, [.int .u64 v5.S], 139, (0, 0)⟩ :: []))) [2, 4, 5] [5] [0, 1, 3, 0, 7, 31] [0, 1, 3, 2, 4, 5] (by kernel_rfl) (by kernel_rfl) (by kernel_rfl) (k_val (v := .pointer (some ⟨b1, 0, none⟩)) rfl rfl rfl (pSub (pHH pNil)) (sV rfl) rfl (k_val (v := .int .u64 v5.S) rfl rfl rfl (pSub (pHH pNil)) (val_load tt_ok rfl (mT mH) rfl) rfl (k_val (v := .agg #[.int .u64 v5.S]) rfl rfl rfl (pSub (pHH pNil)) (val_load tt_ok rfl (mT mH) rfl) rfl ?_)))))
 obtain ⟨v8, x8, h⟩ := bsome h
 refine k_cq rfl rfl rfl Tryz.call114 rfl rfl rfl (q_pf (k_rng_Mix x8) (fun _ _ => trivial)) rfl (pSub (pHH pNil)) ?_
 refine k_chg rfl rfl rfl (Chg.of_val (sV rfl)) rfl (.inr (by rintro _ _ ⟨rfl, rfl⟩; exact (pSub (pHH pNil)))) ?_
 rintro _ _ ⟨rfl, rfl⟩
 refine k_chg0 rfl rfl rfl (chg_store tt_ok rfl Upd.here rfl rfl rfl rfl rfl rfl) (.inl rfl) ?_
 rintro _ _ rfl
 refine k_end (by kernel_rfl) ?_
 refine wx_then (wc_ret ?_)
 obtain ⟨rfl, rfl⟩ := pJ2 h
 exact wx_pf tt_ok (.inl rfl) Tryz.results106 (Res.tmp rfl (Res.cell rfl mH rfl Res.nil)) rfl

theorem k_rng_Source_Below {F : Nat} {p0 : T_rng_Source} {p1 : Int} {r0 : Int} {r1 : T_rng_Source} (h : m_rng_Source_Below F p0 p1 = some (r0, r1)) :
    Pf Tryz.prog 92 [.agg #[.int .u64 p0.S], .int .i64 p1] (fun w => True) (.tuple #[.int .i64 r0, .agg #[.int .u64 r1.S]]) := by
 unfold m_rng_Source_Below at h
 refine pf_of_wc Tryz.func92 rfl Tryz.ntmps92 rfl rfl (fun w0 hR => ?_)
 refine wSR (wl_box rfl rfl rfl (fun b2 => (wP rfl rfl (wl_alloc tt_ok rfl rfl (fun b5 => (wNT (wc_seq (wSR (wP rfl rfl (wP (v := .bool (decide (p1 < (1 : Int)))) rfl rfl (wNT (wc_cond rfl (fun hc => ?_) (fun hc => ?_)))))))))))))
 ·replace h := ct hc h
  refine wc_seq (wc_k2 (Ls := (⟨b5, [.int .u64 (0 : Int)], 139, (0, 0)⟩ :: (⟨b2, [.int .u64 p0.S], 139, (0, 0)⟩ :: []))) [2] [2] [0, 0, 3] [0, 1, 2] (by kernel_rfl) (by kernel_rfl) (by kernel_rfl) (k_val (v := .agg #[.int .u64 p0.S]) rfl rfl rfl (pSub (pHH pNil)) (val_load tt_ok rfl (mT mH) rfl) rfl (k_val rfl rfl rfl (pSub (pHH pNil)) (sV rfl) rfl (k_chg0 rfl rfl rfl (chg_store tt_ok rfl Upd.here rfl rfl rfl rfl rfl rfl) (.inl rfl) ?_))))
  rintro _ _ rfl
  refine k_end (by kernel_rfl) ?_
  refine wx_then (wc_ret (wx_then_ret ?_))
  obtain ⟨rfl, rfl⟩ := pJ2 h
  exact wx_pf tt_ok (.inl rfl) Tryz.results92 (Res.tmp rfl (Res.cell rfl mH rfl Res.nil)) rfl
 replace h := cf hc h
 refine wc_skip (wx_then (wSR (wl_val (v := .agg #[.int .u64 p0.S]) (val_load tt_ok rfl (mT mH) rfl) rfl ?_)))
 replace h := bsome h; obtain ⟨⟨za, zb⟩, x13, h⟩ := h; try dsimp only at h
 refine wl_cq Tryz.call106 rfl rfl rfl (q_pf (k_rng_Source_Next x13) (fun _ _ => trivial)) rfl ?_
 iterate 3 refine wP rfl rfl ?_
 refine wl_alloc tt_ok rfl rfl (fun b7 => ?_)
 refine wP rfl rfl ?_
 apply wl_store tt_ok; rfl; exact Upd.here; rfl; rfl; rfl; rfl; rfl; rfl
 refine wNT (wc_seq (wc_k2 (Ls := (⟨b7, [.int .u64 zb.S], 139, (0, 0)⟩ :: (⟨b5, [.int .u64 (0 : Int)], 139, (0, 0)⟩ :: (⟨b2, [.int .u64 p0.S], 139, (0, 0)⟩ :: [])))) [10] [10] [0, 1, 0, 4, 12, 31, 63, 127, 0, 255, 1023] [0, 1, 2, 3, 4, 5, 6, 7, 8, 9, 10] (by kernel_rfl) (by kernel_rfl) (by kernel_rfl) (k_val rfl rfl rfl (pSub (pHH (pH pNil))) (sV rfl) rfl (k_val (v := .int .u64 (za / 2 ^ (min 32 (IntKind.bits .u64)))) rfl rfl rfl (pSub (pHH (pH pNil))) (sV rfl) rfl (k_val rfl rfl rfl (pSub (pHH (pH pNil))) (sV rfl) rfl (k_val (v := .int .i64 (min p1 (2147483648 : Int))) rfl rfl rfl (pSub (pHH (pH pNil))) (sV rfl) rfl ?_))))))
 refine k_val (v := .int .u64 (IntKind.wrap .u64 (min p1 (2147483648 : Int)))) rfl rfl rfl (pSub (pHH (pH pNil))) (sV rfl) rfl (k_val (v := .int .u64 (IntKind.wrap .u64 ((za / 2 ^ (min 32 (IntKind.bits .u64))) * (IntKind.wrap .u64 (min p1 (2147483648 : Int)))))) rfl rfl rfl (pSub (pHH (pH pNil))) (sV rfl) rfl (k_val (v := .int .u64 ((IntKind.wrap .u64 ((za / 2 ^ (min 32 (IntKind.bits .u64))) * (IntKind.wrap .u64 (min p1 (2147483648 : Int))))) / 2 ^ (min 32 (IntKind.bits .u64)))) rfl rfl rfl (pSub (pHH (pH pNil))) (sV rfl) rfl (k_val (v := .int .i64 (IntKind.wrap .i64 ((IntKind.wrap .u64 ((za / 2 ^ (min 32 (IntKind.bits .u64))) * (IntKind.wrap .u64 (min p1 (2147483648 : Int))))) / 2 ^ (min 32 (IntKind.bits .u64))))) rfl rfl rfl (pSub (pHH (pH pNil))) (sV rfl) rfl ?_)))
 refine k_val (v := .agg #[.int .u64 zb.S]) rfl rfl rfl (pSub (pHH (pH pNil))) (val_load tt_ok rfl mH rfl) rfl (k_val rfl rfl rfl (pSub (pHH (pH pNil))) (sV rfl) rfl (k_chg0 rfl rfl rfl (chg_store tt_ok rfl (Upd.there Upd.here) rfl rfl rfl rfl rfl rfl) (.inl rfl) ?_))
 rintro _ _ rfl
 refine k_end (by kernel_rfl) ?_
 refine wx_then (wc_ret ?_)
 obtain ⟨rfl, rfl⟩ := pJ2 h
 exact wx_pf tt_ok (.inl rfl) Tryz.results92 (Res.tmp rfl (Res.cell rfl (mT mH) rfl Res.nil)) rfl

theorem k_step_revive {F : Nat} {p0 : T_api_State} {p0b p0t : Nat} {p0a0 : Option Addr} {p0n0 p0c0 : Nat} {p0B0 : List Blk} {p1 : Int} {r0 : T_api_State} (p0N0 : p0n0 = p0.Shots.length) (p0V0 : Own 93 6 p0a0 p0n0 p0c0 (flat c_T_api_Shot p0.Shots) p0B0) (h : m_step_revive F p0 p1 = some r0) :
    SpD Tryz.prog 72 [.pointer (some ⟨p0b, 0, none⟩), .int .i64 p1] (⟨p0b, (st19 p0 p0a0 p0n0 p0c0 []), p0t, (0, 0)⟩ :: (p0B0 ++ [])) (fun w => True) (fun v D => ∃ (r0a0 : Option Addr) (r0n0 r0c0 : Nat) (r0B0 : List Blk), r0n0 = r0.Shots.length ∧ Own 93 6 r0a0 r0n0 r0c0 (flat c_T_api_Shot r0.Shots) r0B0 ∧ v = .tuple #[] ∧ D = fun F => (⟨p0b, (st19 r0 r0a0 r0n0 r0c0 []), p0t, (0, 0)⟩ :: (r0B0 ++ F))) := by
 unfold m_step_revive at h
 refine sp_of_wc Tryz.func72 rfl Tryz.ntmps72 rfl rfl (fun w0 hR => ?_)
 refine wSR ?_
 iterate 3 refine wP rfl rfl ?_
 refine wP (v := .pointer (some ⟨p0b, 2, none⟩)) rfl rfl ?_
 rcases Bool.eq_false_or_eq_true (p1 == (0 : Int)) with hx130 | hx130
 ·replace h := ct hx130 h
  refine wl_val (v := .pointer (some ⟨p0b, 2, none⟩)) (val_ia (j := 0) tt_ok rfl rfl rfl rfl (by simpa using hx130) rfl rfl) rfl ?_
  refine wl_val (v := agP p0.Players.1) (val_load tt_ok rfl mH rfl) rfl ?_
  obtain ⟨v15, x15, h⟩ := bsome h
  refine wl_cq Tryz.call70 rfl rfl rfl (q_pf (k_step_stopped x15) (fun _ _ => trivial)) rfl ?_
  refine wl_alloc tt_ok rfl rfl (fun b4 => ?_)
  apply wl_store tt_ok; rfl; exact Upd.here; rfl; rfl; rfl; rfl; rfl; rfl
  refine wNT (wSR (wP (v := .pointer (some ⟨b4, 4, none⟩)) rfl rfl ?_))
  apply wl_store tt_ok; rfl; exact Upd.here; rfl; rfl; rfl; rfl; rfl; rfl
  refine wNT (wSR ?_)
  iterate 2 refine wP rfl rfl ?_
  refine wP (v := .pointer (some ⟨p0b, 1, none⟩)) rfl rfl (wl_val (v := .int .u64 p0.Seed) (val_load tt_ok rfl (mT mH) rfl) rfl (wP (v := .agg #[.int .u64 p0.Seed]) rfl rfl (wl_alloc tt_ok rfl rfl (fun b5 => ?_))))
  apply wl_store tt_ok; rfl; exact Upd.here; rfl; rfl; rfl; rfl; rfl; rfl
  refine wNT (wSR (wl_val (v := .agg #[.int .u64 p0.Seed]) (val_load tt_ok rfl mH rfl) rfl ?_))
  replace h := bsome h; obtain ⟨⟨zc, ze⟩, x24, h⟩ := h; try dsimp only at h
  refine wl_cq Tryz.call92 rfl rfl rfl (q_pf (k_rng_Source_Below x24) (fun _ _ => trivial)) rfl ?_
  iterate 4 refine wP rfl rfl ?_
  apply wl_store tt_ok; rfl; exact Upd.here; rfl; rfl; rfl; rfl; rfl; rfl
  refine wNT (wSR (wl_val (v := .agg #[.int .u64 ze.S]) (val_load tt_ok rfl mH rfl) rfl ?_))
  replace h := bsome h; obtain ⟨⟨zd, zb⟩, x29, h⟩ := h; try dsimp only at h
  refine wl_cq Tryz.call92 rfl rfl rfl (q_pf (k_rng_Source_Below x29) (fun _ _ => trivial)) rfl ?_
  iterate 4 refine wP rfl rfl ?_
  apply wl_store tt_ok; rfl; exact Upd.here; rfl; rfl; rfl; rfl; rfl; rfl
  refine wNT (wSR (wP rfl rfl (wP (v := .pointer (some ⟨b5, 0, none⟩)) rfl rfl (wl_val (v := .int .u64 zb.S) (val_load tt_ok rfl mH rfl) rfl (wP rfl rfl (wP (v := .pointer (some ⟨p0b, 1, none⟩)) rfl rfl ?_))))))
  apply wl_store tt_ok; rfl; exact (Upd.there (Upd.there Upd.here)); rfl; rfl; rfl; rfl; rfl; rfl
  refine wNT (wSR (wl_val (v := .agg #[.int .i32 v15.X, .int .i32 v15.Y, .int .i32 v15.VX, .int .i32 v15.VY, .int .u8 (100 : Int), .int .u8 v15.Cool, .int .u8 v15.Face]) (val_load tt_ok rfl (mT mH) rfl) rfl (wl_alloc tt_ok rfl rfl (fun b8 => ?_))))
  apply wl_store tt_ok; rfl; exact Upd.here; rfl; rfl; rfl; rfl; rfl; rfl
  refine wNT (wSR (wP rfl rfl (wP (v := .int .i32 (IntKind.wrap .i32 zc)) rfl rfl (wP rfl rfl (wP (v := .int .i32 (IntKind.wrap .i32 zd)) rfl rfl (wP (v := .pointer (some ⟨b8, 0, none⟩)) rfl rfl ?_))))))
  apply wl_store tt_ok; rfl; exact Upd.here; rfl; rfl; rfl; rfl; rfl; rfl
  refine wP (v := .pointer (some ⟨b8, 1, none⟩)) rfl rfl ?_
  apply wl_store tt_ok; rfl; exact Upd.here; rfl; rfl; rfl; rfl; rfl; rfl
  refine wNT (wc_seq (wc_seq (wc_quiet (by kernel_rfl) (by kernel_rfl) (wq_val (v := .agg #[.int .i32 (IntKind.wrap .i32 zc), .int .i32 (IntKind.wrap .i32 zd), .int .i32 v15.VX, .int .i32 v15.VY, .int .u8 (100 : Int), .int .u8 v15.Cool, .int .u8 v15.Face]) (val_load tt_ok rfl mH rfl) rfl ?_))))
  obtain ⟨v45, x45, h⟩ := bsome h
  refine wq_cq Tryz.call69 rfl rfl rfl (q_pf (k_step_box x45) (fun _ _ => trivial)) rfl ?_
  iterate 2 refine qP rfl rfl ?_
  refine qP (v := .int .i64 (IntKind.wrap .i64 ((1 : Int) - p1))) rfl rfl (qP rfl rfl (qP (v := .pointer (some ⟨p0b, 2, none⟩)) rfl rfl ?_))
  rcases Bool.eq_false_or_eq_true ((IntKind.wrap .i64 ((1 : Int) - p1)) == (0 : Int)) with hx510 | hx510
  ·replace h := ct hx510 h
   refine wq_val (v := .pointer (some ⟨p0b, 2, none⟩)) (val_ia (j := 0) tt_ok rfl rfl rfl rfl (by simpa using hx510) rfl rfl) rfl ?_
   refine wq_val (v := agP p0.Players.1) (val_load tt_ok rfl (mTT (mT mH)) rfl) rfl ?_
   obtain ⟨v53, x53, h⟩ := bsome h
   refine wq_cq Tryz.call69 rfl rfl rfl (q_pf (k_step_box x53) (fun _ _ => trivial)) rfl ?_
   obtain ⟨v54, x54, h⟩ := bsome h
   refine wq_cq Tryz.call68 rfl rfl rfl (q_pf (k_geom_Over x54) (fun _ _ => trivial)) rfl ?_
   refine qP (v := .bool (!v54)) rfl rfl (wq_nil (wx_then ?_))
   obtain ⟨za, h, hj20⟩ := bsome h
   refine wc_join2 (fun E L => E = [(0, .pointer (some ⟨p0b, 0, none⟩)), (1, .int .i64 p1), (4, .pointer (some ⟨b4, 0, none⟩))] ∧ L = (⟨p0b, (.int .u64 p0.Frame :: .int .u64 zb.S :: pl14 p0.Players [.slice p0a0 p0n0 p0c0, .int .u16 p0.Score.1, .int .u16 p0.Score.2]), p0t, (0, 0)⟩ :: (⟨b4, (pl7 za []), 24, (0, 0)⟩ :: (p0B0 ++ [])))) ?_ ?_
   ·refine wc_cond rfl (fun hc => ?_) (fun hc => ?_)
    ·replace h := ct hc h
     refine wc_region (wl_val (v := .agg #[.int .i32 (IntKind.wrap .i32 zc), .int .i32 (IntKind.wrap .i32 zd), .int .i32 v15.VX, .int .i32 v15.VY, .int .u8 (100 : Int), .int .u8 v15.Cool, .int .u8 v15.Face]) (val_load tt_ok rfl mH rfl) rfl ?_)
     apply wl_store tt_ok; rfl; exact (Upd.there (Upd.there Upd.here)); rfl; rfl; rfl; rfl; rfl; rfl
     refine wl_nil ?_
     obtain rfl := sI h
     exact wx_join ⟨rfl, rfl⟩ (agree_cons rfl (agree_cons rfl (agree_cons rfl agree_nil))) (pSub (pCons (sCC (sC hC)) (pCons (sCC hC) (pApp (sCC hA') pNil))))
    replace h := cf hc h
    refine wc_skip ?_
    obtain rfl := sI h
    exact wx_join ⟨rfl, rfl⟩ (agree_cons rfl (agree_cons rfl (agree_cons rfl agree_nil))) (pSub (pCons (sCC (sC hC)) (pCons (sCC hC) (pApp (sCC hA') pNil))))
   rintro _ _ ⟨rfl, rfl⟩
   have h := hj20; clear hj20
   refine wc_k2 (Ls := (⟨p0b, (.int .u64 p0.Frame :: .int .u64 zb.S :: pl14 p0.Players [.slice p0a0 p0n0 p0c0, .int .u16 p0.Score.1, .int .u16 p0.Score.2]), p0t, (0, 0)⟩ :: (⟨b4, (pl7 za []), 24, (0, 0)⟩ :: (p0B0 ++ [])))) [6] [6] [0, 0, 0, 1, 9, 31, 63] [0, 1, 2, 3, 4, 5, 6] (by kernel_rfl) (by kernel_rfl) (by kernel_rfl) ?_
   iterate 2 refine k_val rfl rfl rfl (pSub (pHH (pA pNil))) (sV rfl) rfl ?_
   refine k_val (v := agP za) rfl rfl rfl (pSub (pHH (pA pNil))) (val_load tt_ok rfl (mT mH) rfl) rfl (k_val rfl rfl rfl (pSub (pHH (pA pNil))) (sV rfl) rfl (k_val (v := .pointer (some ⟨p0b, 2, none⟩)) rfl rfl rfl (pSub (pHH (pA pNil))) (sV rfl) rfl (k_val (v := .pointer (some ⟨p0b, 2, none⟩)) rfl rfl rfl (pSub (pHH (pA pNil))) (val_ia (j := 0) tt_ok rfl rfl rfl rfl (by simpa using hx130) rfl rfl) rfl ?_)))
   refine k_chg0 rfl rfl rfl (chg_store tt_ok rfl Upd.here rfl rfl rfl rfl rfl rfl) (.inl rfl) ?_
   rintro _ _ rfl
   refine k_end (by kernel_rfl) ?_
   obtain rfl := sI h
   exact wx_spD tt_ok (.inr rfl) Tryz.results72 Res.nil ⟨p0a0, p0n0, p0c0, p0B0, p0N0, p0V0, rfl, rfl⟩ (fun F => by simp) (pSub (pH (qS pNil)))
  replace h := cf hx510 h
  rcases Bool.eq_false_or_eq_true ((IntKind.wrap .i64 ((1 : Int) - p1)) == (1 : Int)) with hx511 | hx511
  ·replace h := ct hx511 h
   refine wq_val (v := .pointer (some ⟨p0b, 9, none⟩)) (val_ia (j := 1) tt_ok rfl rfl rfl rfl (by simpa using hx511) rfl rfl) rfl ?_
   refine wq_val (v := agP p0.Players.2) (val_load tt_ok rfl (mTT (mT mH)) rfl) rfl ?_
   obtain ⟨v53, x53, h⟩ := bsome h
   refine wq_cq Tryz.call69 rfl rfl rfl (q_pf (k_step_box x53) (fun _ _ => trivial)) rfl ?_
   obtain ⟨v54, x54, h⟩ := bsome h
   refine wq_cq Tryz.call68 rfl rfl rfl (q_pf (k_geom_Over x54) (fun _ _ => trivial)) rfl ?_
   refine qP (v := .bool (!v54)) rfl rfl (wq_nil (wx_then ?_))
   obtain ⟨za, h, hj20⟩ := bsome h
   refine wc_join2 (fun E L => E = [(0, .pointer (some ⟨p0b, 0, none⟩)), (1, .int .i64 p1), (4, .pointer (some ⟨b4, 0, none⟩))] ∧ L = (⟨p0b, (.int .u64 p0.Frame :: .int .u64 zb.S :: pl14 p0.Players [.slice p0a0 p0n0 p0c0, .int .u16 p0.Score.1, .int .u16 p0.Score.2]), p0t, (0, 0)⟩ :: (⟨b4, (pl7 za []), 24, (0, 0)⟩ :: (p0B0 ++ [])))) ?_ ?_
   ·refine wc_cond rfl (fun hc => ?_) (fun hc => ?_)
    ·replace h := ct hc h
     refine wc_region (wl_val (v := .agg #[.int .i32 (IntKind.wrap .i32 zc), .int .i32 (IntKind.wrap .i32 zd), .int .i32 v15.VX, .int .i32 v15.VY, .int .u8 (100 : Int), .int .u8 v15.Cool, .int .u8 v15.Face]) (val_load tt_ok rfl mH rfl) rfl ?_)
     apply wl_store tt_ok; rfl; exact (Upd.there (Upd.there Upd.here)); rfl; rfl; rfl; rfl; rfl; rfl
     refine wl_nil ?_
     obtain rfl := sI h
     exact wx_join ⟨rfl, rfl⟩ (agree_cons rfl (agree_cons rfl (agree_cons rfl agree_nil))) (pSub (pCons (sCC (sC hC)) (pCons (sCC hC) (pApp (sCC hA') pNil))))
    replace h := cf hc h
    refine wc_skip ?_
    obtain rfl := sI h
    exact wx_join ⟨rfl, rfl⟩ (agree_cons rfl (agree_cons rfl (agree_cons rfl agree_nil))) (pSub (pCons (sCC (sC hC)) (pCons (sCC hC) (pApp (sCC hA') pNil))))
   rintro _ _ ⟨rfl, rfl⟩
   have h := hj20; clear hj20
   refine wc_k2 (Ls := (⟨p0b, (.int .u64 p0.Frame :: .int .u64 zb.S :: pl14 p0.Players [.slice p0a0 p0n0 p0c0, .int .u16 p0.Score.1, .int .u16 p0.Score.2]), p0t, (0, 0)⟩ :: (⟨b4, (pl7 za []), 24, (0, 0)⟩ :: (p0B0 ++ [])))) [6] [6] [0, 0, 0, 1, 9, 31, 63] [0, 1, 2, 3, 4, 5, 6] (by kernel_rfl) (by kernel_rfl) (by kernel_rfl) ?_
   iterate 2 refine k_val rfl rfl rfl (pSub (pHH (pA pNil))) (sV rfl) rfl ?_
   refine k_val (v := agP za) rfl rfl rfl (pSub (pHH (pA pNil))) (val_load tt_ok rfl (mT mH) rfl) rfl (k_val rfl rfl rfl (pSub (pHH (pA pNil))) (sV rfl) rfl (k_val (v := .pointer (some ⟨p0b, 2, none⟩)) rfl rfl rfl (pSub (pHH (pA pNil))) (sV rfl) rfl (k_val (v := .pointer (some ⟨p0b, 2, none⟩)) rfl rfl rfl (pSub (pHH (pA pNil))) (val_ia (j := 0) tt_ok rfl rfl rfl rfl (by simpa using hx130) rfl rfl) rfl ?_)))
   refine k_chg0 rfl rfl rfl (chg_store tt_ok rfl Upd.here rfl rfl rfl rfl rfl rfl) (.inl rfl) ?_
   rintro _ _ rfl
   refine k_end (by kernel_rfl) ?_
   obtain rfl := sI h
   exact wx_spD tt_ok (.inr rfl) Tryz.results72 Res.nil ⟨p0a0, p0n0, p0c0, p0B0, p0N0, p0V0, rfl, rfl⟩ (fun F => by simp) (pSub (pH (qS pNil)))
  replace h := cf hx511 h
  cases h
 replace h := cf hx130 h
 rcases Bool.eq_false_or_eq_true (p1 == (1 : Int)) with hx131 | hx131
 ·replace h := ct hx131 h
  refine wl_val (v := .pointer (some ⟨p0b, 9, none⟩)) (val_ia (j := 1) tt_ok rfl rfl rfl rfl (by simpa using hx131) rfl rfl) rfl ?_
  refine wl_val (v := agP p0.Players.2) (val_load tt_ok rfl mH rfl) rfl ?_
  obtain ⟨v15, x15, h⟩ := bsome h
  refine wl_cq Tryz.call70 rfl rfl rfl (q_pf (k_step_stopped x15) (fun _ _ => trivial)) rfl ?_
  refine wl_alloc tt_ok rfl rfl (fun b4 => ?_)
  apply wl_store tt_ok; rfl; exact Upd.here; rfl; rfl; rfl; rfl; rfl; rfl
  refine wNT (wSR (wP (v := .pointer (some ⟨b4, 4, none⟩)) rfl rfl ?_))
  apply wl_store tt_ok; rfl; exact Upd.here; rfl; rfl; rfl; rfl; rfl; rfl
  refine wNT (wSR ?_)
  iterate 2 refine wP rfl rfl ?_
  refine wP (v := .pointer (some ⟨p0b, 1, none⟩)) rfl rfl (wl_val (v := .int .u64 p0.Seed) (val_load tt_ok rfl (mT mH) rfl) rfl (wP (v := .agg #[.int .u64 p0.Seed]) rfl rfl (wl_alloc tt_ok rfl rfl (fun b5 => ?_))))
  apply wl_store tt_ok; rfl; exact Upd.here; rfl; rfl; rfl; rfl; rfl; rfl
  refine wNT (wSR (wl_val (v := .agg #[.int .u64 p0.Seed]) (val_load tt_ok rfl mH rfl) rfl ?_))
  replace h := bsome h; obtain ⟨⟨zc, ze⟩, x24, h⟩ := h; try dsimp only at h
  refine wl_cq Tryz.call92 rfl rfl rfl (q_pf (k_rng_Source_Below x24) (fun _ _ => trivial)) rfl ?_
  iterate 4 refine wP rfl rfl ?_
  apply wl_store tt_ok; rfl; exact Upd.here; rfl; rfl; rfl; rfl; rfl; rfl
  refine wNT (wSR (wl_val (v := .agg #[.int .u64 ze.S]) (val_load tt_ok rfl mH rfl) rfl ?_))
  replace h := bsome h; obtain ⟨⟨zd, zb⟩, x29, h⟩ := h; try dsimp only at h
  refine wl_cq Tryz.call92 rfl rfl rfl (q_pf (k_rng_Source_Below x29) (fun _ _ => trivial)) rfl ?_
  iterate 4 refine wP rfl rfl ?_
  apply wl_store tt_ok; rfl; exact Upd.here; rfl; rfl; rfl; rfl; rfl; rfl
  refine wNT (wSR (wP rfl rfl (wP (v := .pointer (some ⟨b5, 0, none⟩)) rfl rfl (wl_val (v := .int .u64 zb.S) (val_load tt_ok rfl mH rfl) rfl (wP rfl rfl (wP (v := .pointer (some ⟨p0b, 1, none⟩)) rfl rfl ?_))))))
  apply wl_store tt_ok; rfl; exact (Upd.there (Upd.there Upd.here)); rfl; rfl; rfl; rfl; rfl; rfl
  refine wNT (wSR (wl_val (v := .agg #[.int .i32 v15.X, .int .i32 v15.Y, .int .i32 v15.VX, .int .i32 v15.VY, .int .u8 (100 : Int), .int .u8 v15.Cool, .int .u8 v15.Face]) (val_load tt_ok rfl (mT mH) rfl) rfl (wl_alloc tt_ok rfl rfl (fun b8 => ?_))))
  apply wl_store tt_ok; rfl; exact Upd.here; rfl; rfl; rfl; rfl; rfl; rfl
  refine wNT (wSR (wP rfl rfl (wP (v := .int .i32 (IntKind.wrap .i32 zc)) rfl rfl (wP rfl rfl (wP (v := .int .i32 (IntKind.wrap .i32 zd)) rfl rfl (wP (v := .pointer (some ⟨b8, 0, none⟩)) rfl rfl ?_))))))
  apply wl_store tt_ok; rfl; exact Upd.here; rfl; rfl; rfl; rfl; rfl; rfl
  refine wP (v := .pointer (some ⟨b8, 1, none⟩)) rfl rfl ?_
  apply wl_store tt_ok; rfl; exact Upd.here; rfl; rfl; rfl; rfl; rfl; rfl
  refine wNT (wc_seq (wc_seq (wc_quiet (by kernel_rfl) (by kernel_rfl) (wq_val (v := .agg #[.int .i32 (IntKind.wrap .i32 zc), .int .i32 (IntKind.wrap .i32 zd), .int .i32 v15.VX, .int .i32 v15.VY, .int .u8 (100 : Int), .int .u8 v15.Cool, .int .u8 v15.Face]) (val_load tt_ok rfl mH rfl) rfl ?_))))
  obtain ⟨v45, x45, h⟩ := bsome h
  refine wq_cq Tryz.call69 rfl rfl rfl (q_pf (k_step_box x45) (fun _ _ => trivial)) rfl ?_
  iterate 2 refine qP rfl rfl ?_
  refine qP (v := .int .i64 (IntKind.wrap .i64 ((1 : Int) - p1))) rfl rfl (qP rfl rfl (qP (v := .pointer (some ⟨p0b, 2, none⟩)) rfl rfl ?_))
  rcases Bool.eq_false_or_eq_true ((IntKind.wrap .i64 ((1 : Int) - p1)) == (0 : Int)) with hx510 | hx510
  ·replace h := ct hx510 h
   refine wq_val (v := .pointer (some ⟨p0b, 2, none⟩)) (val_ia (j := 0) tt_ok rfl rfl rfl rfl (by simpa using hx510) rfl rfl) rfl ?_
   refine wq_val (v := agP p0.Players.1) (val_load tt_ok rfl (mTT (mT mH)) rfl) rfl ?_
   obtain ⟨v53, x53, h⟩ := bsome h
   refine wq_cq Tryz.call69 rfl rfl rfl (q_pf (k_step_box x53) (fun _ _ => trivial)) rfl ?_
   obtain ⟨v54, x54, h⟩ := bsome h
   refine wq_cq Tryz.call68 rfl rfl rfl (q_pf (k_geom_Over x54) (fun _ _ => trivial)) rfl ?_
   refine qP (v := .bool (!v54)) rfl rfl (wq_nil (wx_then ?_))
   obtain ⟨za, h, hj20⟩ := bsome h
   refine wc_join2 (fun E L => E = [(0, .pointer (some ⟨p0b, 0, none⟩)), (1, .int .i64 p1), (4, .pointer (some ⟨b4, 0, none⟩))] ∧ L = (⟨p0b, (.int .u64 p0.Frame :: .int .u64 zb.S :: pl14 p0.Players [.slice p0a0 p0n0 p0c0, .int .u16 p0.Score.1, .int .u16 p0.Score.2]), p0t, (0, 0)⟩ :: (⟨b4, (pl7 za []), 24, (0, 0)⟩ :: (p0B0 ++ [])))) ?_ ?_
   ·refine wc_cond rfl (fun hc => ?_) (fun hc => ?_)
    ·replace h := ct hc h
     refine wc_region (wl_val (v := .agg #[.int .i32 (IntKind.wrap .i32 zc), .int .i32 (IntKind.wrap .i32 zd), .int .i32 v15.VX, .int .i32 v15.VY, .int .u8 (100 : Int), .int .u8 v15.Cool, .int .u8 v15.Face]) (val_load tt_ok rfl mH rfl) rfl ?_)
     apply wl_store tt_ok; rfl; exact (Upd.there (Upd.there Upd.here)); rfl; rfl; rfl; rfl; rfl; rfl
     refine wl_nil ?_
     obtain rfl := sI h
     exact wx_join ⟨rfl, rfl⟩ (agree_cons rfl (agree_cons rfl (agree_cons rfl agree_nil))) (pSub (pCons (sCC (sC hC)) (pCons (sCC hC) (pApp (sCC hA') pNil))))
    replace h := cf hc h
    refine wc_skip ?_
    obtain rfl := sI h
    exact wx_join ⟨rfl, rfl⟩ (agree_cons rfl (agree_cons rfl (agree_cons rfl agree_nil))) (pSub (pCons (sCC (sC hC)) (pCons (sCC hC) (pApp (sCC hA') pNil))))
   rintro _ _ ⟨rfl, rfl⟩
   have h := hj20; clear hj20
   refine wc_k2 (Ls := (⟨p0b, (.int .u64 p0.Frame :: .int .u64 zb.S :: pl14 p0.Players [.slice p0a0 p0n0 p0c0, .int .u16 p0.Score.1, .int .u16 p0.Score.2]), p0t, (0, 0)⟩ :: (⟨b4, (pl7 za []), 24, (0, 0)⟩ :: (p0B0 ++ [])))) [6] [6] [0, 0, 0, 1, 9, 31, 63] [0, 1, 2, 3, 4, 5, 6] (by kernel_rfl) (by kernel_rfl) (by kernel_rfl) ?_
   iterate 2 refine k_val rfl rfl rfl (pSub (pHH (pA pNil))) (sV rfl) rfl ?_
   refine k_val (v := agP za) rfl rfl rfl (pSub (pHH (pA pNil))) (val_load tt_ok rfl (mT mH) rfl) rfl (k_val rfl rfl rfl (pSub (pHH (pA pNil))) (sV rfl) rfl (k_val (v := .pointer (some ⟨p0b, 2, none⟩)) rfl rfl rfl (pSub (pHH (pA pNil))) (sV rfl) rfl (k_val (v := .pointer (some ⟨p0b, 9, none⟩)) rfl rfl rfl (pSub (pHH (pA pNil))) (val_ia (j := 1) tt_ok rfl rfl rfl rfl (by simpa using hx131) rfl rfl) rfl ?_)))
   refine k_chg0 rfl rfl rfl (chg_store tt_ok rfl Upd.here rfl rfl rfl rfl rfl rfl) (.inl rfl) ?_
   rintro _ _ rfl
   refine k_end (by kernel_rfl) ?_
   obtain rfl := sI h
   exact wx_spD tt_ok (.inr rfl) Tryz.results72 Res.nil ⟨p0a0, p0n0, p0c0, p0B0, p0N0, p0V0, rfl, rfl⟩ (fun F => by simp) (pSub (pH (qS pNil)))
  replace h := cf hx510 h
  rcases Bool.eq_false_or_eq_true ((IntKind.wrap .i64 ((1 : Int) - p1)) == (1 : Int)) with hx511 | hx511
  ·replace h := ct hx511 h
   refine wq_val (v := .pointer (some ⟨p0b, 9, none⟩)) (val_ia (j := 1) tt_ok rfl rfl rfl rfl (by simpa using hx511) rfl rfl) rfl ?_
   refine wq_val (v := agP p0.Players.2) (val_load tt_ok rfl (mTT (mT mH)) rfl) rfl ?_
   obtain ⟨v53, x53, h⟩ := bsome h
   refine wq_cq Tryz.call69 rfl rfl rfl (q_pf (k_step_box x53) (fun _ _ => trivial)) rfl ?_
   obtain ⟨v54, x54, h⟩ := bsome h
   refine wq_cq Tryz.call68 rfl rfl rfl (q_pf (k_geom_Over x54) (fun _ _ => trivial)) rfl ?_
   refine qP (v := .bool (!v54)) rfl rfl (wq_nil (wx_then ?_))
   obtain ⟨za, h, hj20⟩ := bsome h
   refine wc_join2 (fun E L => E = [(0, .pointer (some ⟨p0b, 0, none⟩)), (1, .int .i64 p1), (4, .pointer (some ⟨b4, 0, none⟩))] ∧ L = (⟨p0b, (.int .u64 p0.Frame :: .int .u64 zb.S :: pl14 p0.Players [.slice p0a0 p0n0 p0c0, .int .u16 p0.Score.1, .int .u16 p0.Score.2]), p0t, (0, 0)⟩ :: (⟨b4, (pl7 za []), 24, (0, 0)⟩ :: (p0B0 ++ [])))) ?_ ?_
   ·refine wc_cond rfl (fun hc => ?_) (fun hc => ?_)
    ·replace h := ct hc h
     refine wc_region (wl_val (v := .agg #[.int .i32 (IntKind.wrap .i32 zc), .int .i32 (IntKind.wrap .i32 zd), .int .i32 v15.VX, .int .i32 v15.VY, .int .u8 (100 : Int), .int .u8 v15.Cool, .int .u8 v15.Face]) (val_load tt_ok rfl mH rfl) rfl ?_)
     apply wl_store tt_ok; rfl; exact (Upd.there (Upd.there Upd.here)); rfl; rfl; rfl; rfl; rfl; rfl
     refine wl_nil ?_
     obtain rfl := sI h
     exact wx_join ⟨rfl, rfl⟩ (agree_cons rfl (agree_cons rfl (agree_cons rfl agree_nil))) (pSub (pCons (sCC (sC hC)) (pCons (sCC hC) (pApp (sCC hA') pNil))))
    replace h := cf hc h
    refine wc_skip ?_
    obtain rfl := sI h
    exact wx_join ⟨rfl, rfl⟩ (agree_cons rfl (agree_cons rfl (agree_cons rfl agree_nil))) (pSub (pCons (sCC (sC hC)) (pCons (sCC hC) (pApp (sCC hA') pNil))))
   rintro _ _ ⟨rfl, rfl⟩
   have h := hj20; clear hj20
   refine wc_k2 (Ls := (⟨p0b, (.int .u64 p0.Frame :: .int .u64 zb.S :: pl14 p0.Players [.slice p0a0 p0n0 p0c0, .int .u16 p0.Score.1, .int .u16 p0.Score.2]), p0t, (0, 0)⟩ :: (⟨b4, (pl7 za []), 24, (0, 0)⟩ :: (p0B0 ++ [])))) [6] [6] [0, 0, 0, 1, 9, 31, 63] [0, 1, 2, 3, 4, 5, 6] (by kernel_rfl) (by kernel_rfl) (by kernel_rfl) ?_
   iterate 2 refine k_val rfl rfl rfl (pSub (pHH (pA pNil))) (sV rfl) rfl ?_
   refine k_val (v := agP za) rfl rfl rfl (pSub (pHH (pA pNil))) (val_load tt_ok rfl (mT mH) rfl) rfl (k_val rfl rfl rfl (pSub (pHH (pA pNil))) (sV rfl) rfl (k_val (v := .pointer (some ⟨p0b, 2, none⟩)) rfl rfl rfl (pSub (pHH (pA pNil))) (sV rfl) rfl (k_val (v := .pointer (some ⟨p0b, 9, none⟩)) rfl rfl rfl (pSub (pHH (pA pNil))) (val_ia (j := 1) tt_ok rfl rfl rfl rfl (by simpa using hx131) rfl rfl) rfl ?_)))
   refine k_chg0 rfl rfl rfl (chg_store tt_ok rfl Upd.here rfl rfl rfl rfl rfl rfl) (.inl rfl) ?_
   rintro _ _ rfl
   refine k_end (by kernel_rfl) ?_
   obtain rfl := sI h
   exact wx_spD tt_ok (.inr rfl) Tryz.results72 Res.nil ⟨p0a0, p0n0, p0c0, p0B0, p0N0, p0V0, rfl, rfl⟩ (fun F => by simp) (pSub (pH (qS pNil)))
  replace h := cf hx511 h
  cases h
 replace h := cf hx131 h
 cases h

theorem k_step_Step {F : Nat} {p0 : T_api_State} {p0a0 : Option Addr} {p0n0 p0c0 : Nat} {p1 : (Int × Int)} {r0 : T_api_State} (p0N0 : p0n0 = p0.Shots.length) (p0H0 : p0n0 ≤ p0c0) (h : m_step_Step F p0 p1 = some r0) :
    SpD Tryz.prog 34 [agS p0 p0a0 p0n0 p0c0, .agg #[.int .u8 p1.1, .int .u8 p1.2]] [] (fun w => Rds w (ids []) [] p0a0 (flat c_T_api_Shot p0.Shots) ∧ Rds w (ids []) [] (some ⟨0, 0, none⟩) (flat (fun _ : Unit => gl_state_playerBounds) [()]) ∧ Rds w (ids []) [] (some ⟨1, 0, none⟩) (flat (fun _ : Unit => gl_state_shotBounds) [()])) (fun v D => ∃ (r0a0 : Option Addr) (r0n0 r0c0 : Nat) (r0B0 : List Blk), r0n0 = r0.Shots.length ∧ Own 93 6 r0a0 r0n0 r0c0 (flat c_T_api_Shot r0.Shots) r0B0 ∧ v = agS r0 r0a0 r0n0 r0c0 ∧ D = fun F => (r0B0 ++ F)) := by
 unfold m_step_Step at h
 refine sp_of_wc Tryz.func34 rfl Tryz.ntmps34 rfl rfl (fun w0 hR => ?_)
 obtain ⟨p0S0, G0S, G1S⟩ := hR
 refine wSR (wl_box rfl rfl rfl (fun b2 => (wl_box rfl rfl rfl (fun b3 => (wl_alloc tt_ok rfl rfl (fun b4 => (wNT (wSR (wl_val (v := agS p0 p0a0 p0n0 p0c0) (val_load tt_ok rfl (mTT mH) rfl) rfl ?_)))))))))
 obtain ⟨v12, x12, h⟩ := bsome h
 refine wl_cs Tryz.call20 rfl rfl rfl (s_sp (k_state_Copy (p0 := p0) p0N0 p0H0 x12) pNil (Rds.call p0S0 pNil rsub_nil)) rfl ?_
 rintro _ _ ⟨_, ⟨v12a0, v12n0, v12c0, v12B0, v12N0, v12V0, rfl, rfl⟩, rfl⟩
 apply wl_store tt_ok; rfl; exact (Upd.right (Upd.there (Upd.there Upd.here))); rfl; rfl; rfl; rfl; rfl; rfl
 refine wNT (wc_seq (wSR (wl_val (v := agS v12 v12a0 v12n0 v12c0) (val_load tt_ok rfl (mR (mTT mH)) rfl) rfl ?_)))
 obtain ⟨v14, x14, h⟩ := bsome h
 refine wl_cq Tryz.call19 rfl rfl rfl (q_pf (k_state_Check (p0 := v12) v12N0 (vec_cap v12V0) x14) (fun w hI => ⟨(Rds.call (Rds.of_vec v12V0) pNil ⟨_, hA'⟩) w hI, (Rds.call G0S pNil rsub_nil) w hI, (Rds.call G1S pNil rsub_nil) w hI⟩)) rfl ?_
 refine wP (v := .bool (v14 != (0 : Int))) rfl rfl (wP rfl rfl ?_)
 obtain ⟨v21, h, hg21⟩ := bsome h
 refine wl_split (t := 16) rfl (fun hc => ?_) (fun hc => ?_)
 ·replace h := ct hc h
  iterate 4 refine wl_skip rfl rfl ?_
  obtain rfl := sI h
  have h := hg21; clear hg21
  refine wP (v := .bool true) rfl rfl (wP rfl rfl ?_)
  obtain ⟨v27, h, hg27⟩ := bsome h
  replace h := ct rfl h
  iterate 4 refine wl_skip rfl rfl ?_
  obtain rfl := sI h
  have h := hg27; clear hg27
  refine wP (v := .bool true) rfl rfl (wNT ?_)
  replace h := ct rfl h
  refine wc_cond_true rfl ?_
  refine wSR (wl_val (v := agS v12 v12a0 v12n0 v12c0) (val_load tt_ok rfl (mR (mTT mH)) rfl) rfl ?_)
  apply wl_store tt_ok; rfl; exact (Upd.right Upd.here); rfl; rfl; rfl; rfl; rfl; rfl
  refine wNT (wc_ret (wx_then_ret ?_))
  obtain rfl := sI h
  exact wx_spD tt_ok (.inl rfl) Tryz.results34 (Res.cell rfl (mR mH) rfl Res.nil) ⟨v12a0, v12n0, v12c0, v12B0, v12N0, v12V0, rfl, rfl⟩ (fun F => by simp) (pSub (pA pNil))
 replace h := cf hc h
 refine wl_run rfl (wl_val (v := .pointer (some ⟨b3, 0, none⟩)) (val_ia (j := 0) tt_ok rfl rfl rfl rfl rfl rfl rfl) rfl (wl_run rfl (wl_val (v := .int .u8 p1.1) (val_load tt_ok rfl (mR (mT mH)) rfl) rfl ?_)))
 obtain ⟨v19, x19, h⟩ := bsome h
 refine wl_run rfl (wl_cq Tryz.call27 rfl rfl rfl (q_pf (k_input_Legal x19) (fun _ _ => trivial)) rfl (wl_run rfl (wP (v := .bool (!v19)) rfl rfl ?_)))
 obtain rfl := sI h
 have h := hg21; clear hg21
 refine wP (v := .bool (!v19)) rfl rfl (wP rfl rfl ?_)
 obtain ⟨v27, h, hg27⟩ := bsome h
 refine wl_split (t := 22) rfl (fun hc => ?_) (fun hc => ?_)
 ·replace h := ct hc h
  iterate 4 refine wl_skip rfl rfl ?_
  obtain rfl := sI h
  have h := hg27; clear hg27
  refine wP (v := .bool true) rfl rfl (wNT ?_)
  replace h := ct rfl h
  refine wc_cond_true rfl ?_
  refine wSR (wl_val (v := agS v12 v12a0 v12n0 v12c0) (val_load tt_ok rfl (mR (mTT mH)) rfl) rfl ?_)
  apply wl_store tt_ok; rfl; exact (Upd.right Upd.here); rfl; rfl; rfl; rfl; rfl; rfl
  refine wNT (wc_ret (wx_then_ret ?_))
  obtain rfl := sI h
  exact wx_spD tt_ok (.inl rfl) Tryz.results34 (Res.cell rfl (mR mH) rfl Res.nil) ⟨v12a0, v12n0, v12c0, v12B0, v12N0, v12V0, rfl, rfl⟩ (fun F => by simp) (pSub (pA pNil))
 replace h := cf hc h
 refine wl_run rfl (wl_val (v := .pointer (some ⟨b3, 1, none⟩)) (val_ia (j := 1) tt_ok rfl rfl rfl rfl rfl rfl rfl) rfl (wl_run rfl (wl_val (v := .int .u8 p1.2) (val_load tt_ok rfl (mR (mT mH)) rfl) rfl ?_)))
 obtain ⟨v25, x25, h⟩ := bsome h
 refine wl_run rfl (wl_cq Tryz.call27 rfl rfl rfl (q_pf (k_input_Legal x25) (fun _ _ => trivial)) rfl (wl_run rfl (wP (v := .bool (!v25)) rfl rfl ?_)))
 obtain rfl := sI h
 have h := hg27; clear hg27
 refine wP (v := .bool (!v25)) rfl rfl (wNT (wc_cond rfl (fun hc => ?_) (fun hc => ?_)))
 ·replace h := ct hc h
  refine wSR (wl_val (v := agS v12 v12a0 v12n0 v12c0) (val_load tt_ok rfl (mR (mTT mH)) rfl) rfl ?_)
  apply wl_store tt_ok; rfl; exact (Upd.right Upd.here); rfl; rfl; rfl; rfl; rfl; rfl
  refine wNT (wc_ret (wx_then_ret ?_))
  obtain rfl := sI h
  exact wx_spD tt_ok (.inl rfl) Tryz.results34 (Res.cell rfl (mR mH) rfl Res.nil) ⟨v12a0, v12n0, v12c0, v12B0, v12N0, v12V0, rfl, rfl⟩ (fun F => by simp) (pSub (pA pNil))
 replace h := cf hc h
 refine wc_skip (wx_then (wc_seq (wSR (wP rfl rfl (wNT (wc_block ?_))))))
 obtain ⟨zah, h, hl17⟩ := bsome h
 refine wc_loop (fun m E L => ∃ (zw : Int) (zr : (T_api_Player × T_api_Player)), m_step_Step_L16 F p1 m zw zr = some zah ∧ E = [(2, .pointer (some ⟨b2, 0, none⟩)), (3, .pointer (some ⟨b3, 0, none⟩)), (4, .pointer (some ⟨b4, 0, none⟩)), (29, .int .i64 zw)] ∧ L = (⟨b2, (.int .u64 v12.Frame :: .int .u64 v12.Seed :: pl14 zr [.slice v12a0 v12n0 v12c0, .int .u16 v12.Score.1, .int .u16 v12.Score.2]), 30, (0, 0)⟩ :: (⟨b3, [.int .u8 p1.1, .int .u8 p1.2], 49, (0, 0)⟩ :: (⟨b4, [.int .u64 (0 : Int), .int .u64 (0 : Int), .int .i32 (0 : Int), .int .i32 (0 : Int), .int .i32 (0 : Int), .int .i32 (0 : Int), .int .u8 (0 : Int), .int .u8 (0 : Int), .int .u8 (0 : Int), .int .i32 (0 : Int), .int .i32 (0 : Int), .int .i32 (0 : Int), .int .i32 (0 : Int), .int .u8 (0 : Int), .int .u8 (0 : Int), .int .u8 (0 : Int), .slice none 0 0, .int .u16 (0 : Int), .int .u16 (0 : Int)], 30, (0, 0)⟩ :: (v12B0 ++ []))))) F ⟨(0 : Int), v12.Players, h, rfl, rfl⟩ (agree_cons rfl (agree_cons rfl (agree_cons rfl (agree_cons rfl agree_nil)))) (pSub (pCons (sA (sCC hC)) (pCons (sAC hC) (pCons (sA hC) (pA pNil))))) ?_
 clear h
 rintro m17 _ _ ⟨zw, zr, h, rfl, rfl⟩
 rcases m17 with _ | m17
 ·rw [m_step_Step_L16.eq_1] at h; cases h
 rw [m_step_Step_L16.eq_2] at h
 refine wSR (wP (v := .bool (decide (zw < (2 : Int)))) rfl rfl (wNT (wc_seq (wc_cond rfl (fun hc => ?_) (fun hc => ?_)))))
 ·replace h := ct hc h
  refine wc_skip (wx_then (wc_seq (wc_block (wSR ?_))))
  iterate 2 refine wP rfl rfl ?_
  refine wNT (wc_k2 (Ls := (⟨b2, (.int .u64 v12.Frame :: .int .u64 v12.Seed :: pl14 zr [.slice v12a0 v12n0 v12c0, .int .u16 v12.Score.1, .int .u16 v12.Score.2]), 30, (0, 0)⟩ :: (⟨b3, [.int .u8 p1.1, .int .u8 p1.2], 49, (0, 0)⟩ :: (⟨b4, [.int .u64 (0 : Int), .int .u64 (0 : Int), .int .i32 (0 : Int), .int .i32 (0 : Int), .int .i32 (0 : Int), .int .i32 (0 : Int), .int .u8 (0 : Int), .int .u8 (0 : Int), .int .u8 (0 : Int), .int .i32 (0 : Int), .int .i32 (0 : Int), .int .i32 (0 : Int), .int .i32 (0 : Int), .int .u8 (0 : Int), .int .u8 (0 : Int), .int .u8 (0 : Int), .slice none 0 0, .int .u16 (0 : Int), .int .u16 (0 : Int)], 30, (0, 0)⟩ :: (v12B0 ++ []))))) [8, 10, 11] [10, 11] [0, 0, 0, 6, 14, 0, 32, 96, 254, 0, 1023, 2047] [0, 1, 2, 3, 4, 5, 6, 7, 9, 8, 10, 11] (by kernel_rfl) (by kernel_rfl) (by kernel_rfl) ?_)
  iterate 2 refine k_val rfl rfl rfl (pSub (pHH (pH (pA pNil)))) (sV rfl) rfl ?_
  refine k_val (v := .pointer (some ⟨b2, 2, none⟩)) rfl rfl rfl (pSub (pHH (pH (pA pNil)))) (sV rfl) rfl ?_
  rcases Bool.eq_false_or_eq_true (zw == (0 : Int)) with hx350 | hx350
  ·replace h := ct hx350 h
   refine k_val (v := .pointer (some ⟨b2, 2, none⟩)) rfl rfl rfl (pSub (pHH (pH (pA pNil)))) (val_ia (j := 0) tt_ok rfl rfl rfl rfl (by simpa using hx350) rfl rfl) rfl (k_val (v := agP zr.1) rfl rfl rfl (pSub (pHH (pH (pA pNil)))) (val_load tt_ok rfl mH rfl) rfl (k_val rfl rfl rfl (pSub (pHH (pH (pA pNil)))) (sV rfl) rfl (k_val (v := .pointer (some ⟨b3, 0, none⟩)) rfl rfl rfl (pSub (pHH (pH (pA pNil)))) (val_ia (j := 0) tt_ok rfl rfl rfl rfl (by simpa using hx350) rfl rfl) rfl ?_)))
   refine k_val (v := .int .u8 p1.1) rfl rfl rfl (pSub (pHH (pH (pA pNil)))) (val_load tt_ok rfl (mT mH) rfl) rfl (k_val (v := .pointer (some ⟨b2, 2, none⟩)) rfl rfl rfl (pSub (pHH (pH (pA pNil)))) (sV rfl) rfl ?_)
   obtain ⟨v40, x40, h⟩ := bsome h
   refine k_cq rfl rfl rfl Tryz.call64 rfl rfl rfl (q_pf (k_step_steer x40) (fun _ _ => trivial)) rfl (pSub (pHH (pH (pA pNil)))) ?_
   refine k_chg rfl rfl rfl (Chg.of_val (v := .pointer (some ⟨b2, 2, none⟩)) (val_ia (j := 0) tt_ok rfl rfl rfl rfl (by simpa using hx350) rfl rfl)) rfl (.inl rfl) ?_
   rintro _ _ ⟨rfl, rfl⟩
   refine k_chg0 rfl rfl rfl (chg_store tt_ok rfl Upd.here rfl rfl rfl rfl rfl rfl) (.inl rfl) ?_
   rintro _ _ rfl
   refine k_end (by kernel_rfl) ?_
   refine wx_block (wx_then (wc_region (wP (v := .int .i64 (IntKind.wrap .i64 (zw + (1 : Int)))) rfl rfl (wP rfl rfl (wl_nil ?_)))))
   exact wx_round m17 (Nat.lt_succ_self m17) ⟨(IntKind.wrap .i64 (zw + (1 : Int))), (v40, zr.2), h, rfl, rfl⟩ (agree_cons rfl (agree_cons rfl (agree_cons rfl (agree_cons rfl agree_nil)))) (pSub (pHH (pH (pA pNil))))
  replace h := cf hx350 h
  rcases Bool.eq_false_or_eq_true (zw == (1 : Int)) with hx351 | hx351
  ·replace h := ct hx351 h
   refine k_val (v := .pointer (some ⟨b2, 9, none⟩)) rfl rfl rfl (pSub (pHH (pH (pA pNil)))) (val_ia (j := 1) tt_ok rfl rfl rfl rfl (by simpa using hx351) rfl rfl) rfl (k_val (v := agP zr.2) rfl rfl rfl (pSub (pHH (pH (pA pNil)))) (val_load tt_ok rfl mH rfl) rfl (k_val rfl rfl rfl (pSub (pHH (pH (pA pNil)))) (sV rfl) rfl (k_val (v := .pointer (some ⟨b3, 1, none⟩)) rfl rfl rfl (pSub (pHH (pH (pA pNil)))) (val_ia (j := 1) tt_ok rfl rfl rfl rfl (by simpa using hx351) rfl rfl) rfl ?_)))
   refine k_val (v := .int .u8 p1.2) rfl rfl rfl (pSub (pHH (pH (pA pNil)))) (val_load tt_ok rfl (mT mH) rfl) rfl (k_val (v := .pointer (some ⟨b2, 2, none⟩)) rfl rfl rfl (pSub (pHH (pH (pA pNil)))) (sV rfl) rfl ?_)
   obtain ⟨v40, x40, h⟩ := bsome h
   refine k_cq rfl rfl rfl Tryz.call64 rfl rfl rfl (q_pf (k_step_steer x40) (fun _ _ => trivial)) rfl (pSub (pHH (pH (pA pNil)))) ?_
   refine k_chg rfl rfl rfl (Chg.of_val (v := .pointer (some ⟨b2, 9, none⟩)) (val_ia (j := 1) tt_ok rfl rfl rfl rfl (by simpa using hx351) rfl rfl)) rfl (.inl rfl) ?_
   rintro _ _ ⟨rfl, rfl⟩
   refine k_chg0 rfl rfl rfl (chg_store tt_ok rfl Upd.here rfl rfl rfl rfl rfl rfl) (.inl rfl) ?_
   rintro _ _ rfl
   refine k_end (by kernel_rfl) ?_
   refine wx_block (wx_then (wc_region (wP (v := .int .i64 (IntKind.wrap .i64 (zw + (1 : Int)))) rfl rfl (wP rfl rfl (wl_nil ?_)))))
   exact wx_round m17 (Nat.lt_succ_self m17) ⟨(IntKind.wrap .i64 (zw + (1 : Int))), (zr.1, v40), h, rfl, rfl⟩ (agree_cons rfl (agree_cons rfl (agree_cons rfl (agree_cons rfl agree_nil)))) (pSub (pHH (pH (pA pNil))))
  replace h := cf hx351 h
  cases h
 replace h := cf hc h
 refine wc_exit (wx_then_exit ?_)
 obtain rfl := sI h
 have h := hl17; clear hl17; try dsimp only [orE_l, orE_r] at h
 refine wx_then_exit (wx_block_exit (wx_then (wc_seq (wSR ?_))))
 refine wP rfl rfl (wNT (wc_block ?_))
 replace h := bsome h; obtain ⟨⟨zai, zaj⟩, h, hl34⟩ := h; try dsimp only at hl34
 refine wc_loop (fun m E L => ∃ (zj : Int) (zc : (T_api_Player × T_api_Player)) (za : (List T_api_Shot)) (zf : Option Addr) (ze zg : Nat) (zi : List Blk), m_step_Step_L33 F p1 m zj zc za = some (zai, zaj) ∧ ze = za.length ∧ Own 93 6 zf ze zg (flat c_T_api_Shot za) zi ∧ E = [(2, .pointer (some ⟨b2, 0, none⟩)), (3, .pointer (some ⟨b3, 0, none⟩)), (4, .pointer (some ⟨b4, 0, none⟩)), (44, .int .i64 zj)] ∧ L = (⟨b2, (.int .u64 v12.Frame :: .int .u64 v12.Seed :: pl14 zc [.slice zf ze zg, .int .u16 v12.Score.1, .int .u16 v12.Score.2]), 30, (0, 0)⟩ :: (⟨b3, [.int .u8 p1.1, .int .u8 p1.2], 49, (0, 0)⟩ :: (⟨b4, [.int .u64 (0 : Int), .int .u64 (0 : Int), .int .i32 (0 : Int), .int .i32 (0 : Int), .int .i32 (0 : Int), .int .i32 (0 : Int), .int .u8 (0 : Int), .int .u8 (0 : Int), .int .u8 (0 : Int), .int .i32 (0 : Int), .int .i32 (0 : Int), .int .i32 (0 : Int), .int .i32 (0 : Int), .int .u8 (0 : Int), .int .u8 (0 : Int), .int .u8 (0 : Int), .slice none 0 0, .int .u16 (0 : Int), .int .u16 (0 : Int)], 30, (0, 0)⟩ :: (zi ++ []))))) F ⟨(0 : Int), zr, v12.Shots, v12a0, v12n0, v12c0, v12B0, h, v12N0, v12V0, rfl, rfl⟩ (agree_cons rfl (agree_cons rfl (agree_cons rfl (agree_cons rfl agree_nil)))) (pSub (pHH (pH (pA pNil)))) ?_
 clear h
 rintro m34 _ _ ⟨zj, zc, za, zf, ze, zg, zi, h, zk, zl, rfl, rfl⟩
 rcases m34 with _ | m34
 ·rw [m_step_Step_L33.eq_1] at h; cases h
 rw [m_step_Step_L33.eq_2] at h
 refine wSR (wP (v := .bool (decide (zj < (2 : Int)))) rfl rfl (wNT (wc_seq (wc_cond rfl (fun hc => ?_) (fun hc => ?_)))))
 ·replace h := ct hc h
  refine wc_skip (wx_then (wc_seq (wc_block (wSR ?_))))
  iterate 2 refine wP rfl rfl ?_
  refine wNT (wSR (wP rfl rfl (wP (v := .pointer (some ⟨b2, 2, none⟩)) rfl rfl ?_)))
  rcases Bool.eq_false_or_eq_true (zj == (0 : Int)) with hx490 | hx490
  ·replace h := ct hx490 h
   refine wl_val (v := .pointer (some ⟨b2, 2, none⟩)) (val_ia (j := 0) tt_ok rfl rfl rfl rfl (by simpa using hx490) rfl rfl) rfl ?_
   refine wP rfl rfl (wNT (wSR (wP rfl rfl (wl_val (v := .pointer (some ⟨b3, 0, none⟩)) (val_ia (j := 0) tt_ok rfl rfl rfl rfl (by simpa using hx490) rfl rfl) rfl (wl_val (v := .int .u8 p1.1) (val_load tt_ok rfl (mT mH) rfl) rfl ?_)))))
   obtain ⟨v53, x53, h⟩ := bsome h
   refine wl_cq Tryz.call65 rfl rfl rfl (q_pf (k_input_Fire x53) (fun _ _ => trivial)) rfl ?_
   refine wP rfl rfl ?_
   obtain ⟨v60, h, hg60⟩ := bsome h
   refine wl_split (t := 54) rfl (fun hc => ?_) (fun hc => ?_)
   ·replace h := ct hc h
    refine wl_run rfl (wP rfl rfl (wl_run rfl (wP rfl rfl (wl_run rfl (wP (v := .pointer (some ⟨b2, 7, none⟩)) rfl rfl (wl_run rfl (wl_val (v := .int .u8 zc.1.Cool) (val_load tt_ok rfl mH rfl) rfl (wl_run rfl (wP (v := .bool (zc.1.Cool == (0 : Int))) rfl rfl ?_)))))))))
    obtain rfl := sI h
    have h := hg60; clear hg60
    refine wP (v := .bool (zc.1.Cool == (0 : Int))) rfl rfl (wP rfl rfl ?_)
    obtain ⟨v66, h, hg66⟩ := bsome h
    refine wl_split (t := 61) rfl (fun hc => ?_) (fun hc => ?_)
    ·replace h := ct hc h
     refine wl_run rfl (wP (v := .pointer (some ⟨b2, 16, none⟩)) rfl rfl (wl_run rfl (wl_val (v := .slice zf ze zg) (val_load tt_ok rfl mH rfl) rfl (wl_run rfl (wl_val (v := .int .i64 (za.length : Int)) (val_len tt_ok rfl rfl zk) rfl (wl_run rfl (wP (v := .bool (decide ((za.length : Int) < (8 : Int)))) rfl rfl ?_)))))))
     obtain rfl := sI h
     have h := hg66; clear hg66
     refine wP (v := .bool (decide ((za.length : Int) < (8 : Int)))) rfl rfl (wNT (wc_cond rfl (fun hc => ?_) (fun hc => ?_)))
     ·replace h := ct hc h
      refine wc_seq (wc_k2 (Ls := (⟨b2, (.int .u64 v12.Frame :: .int .u64 v12.Seed :: pl14 zc [.slice zf ze zg, .int .u16 v12.Score.1, .int .u16 v12.Score.2]), 30, (0, 0)⟩ :: (⟨b3, [.int .u8 p1.1, .int .u8 p1.2], 49, (0, 0)⟩ :: (⟨b4, [.int .u64 (0 : Int), .int .u64 (0 : Int), .int .i32 (0 : Int), .int .i32 (0 : Int), .int .i32 (0 : Int), .int .i32 (0 : Int), .int .u8 (0 : Int), .int .u8 (0 : Int), .int .u8 (0 : Int), .int .i32 (0 : Int), .int .i32 (0 : Int), .int .i32 (0 : Int), .int .i32 (0 : Int), .int .u8 (0 : Int), .int .u8 (0 : Int), .int .u8 (0 : Int), .slice none 0 0, .int .u16 (0 : Int), .int .u16 (0 : Int)], 30, (0, 0)⟩ :: (zi ++ []))))) [7, 8, 9, 10, 11] [9, 10, 11] [0, 1, 0, 4, 12, 0, 32, 124, 252, 511, 1023, 2047] [0, 1, 2, 3, 4, 5, 6, 7, 8, 9, 10, 11] (by kernel_rfl) (by kernel_rfl) (by kernel_rfl) ?_)
      refine k_val (v := .pointer (some ⟨b2, 16, none⟩)) rfl rfl rfl (pSub (pHH (pH (pA pNil)))) (sV rfl) rfl (k_val (v := .slice zf ze zg) rfl rfl rfl (pSub (pHH (pH (pA pNil)))) (val_load tt_ok rfl mH rfl) rfl ?_)
      iterate 2 refine k_val rfl rfl rfl (pSub (pHH (pH (pA pNil)))) (sV rfl) rfl ?_
      refine k_val (v := agP zc.1) rfl rfl rfl (pSub (pHH (pH (pA pNil)))) (val_load tt_ok rfl mH rfl) rfl (k_val rfl rfl rfl (pSub (pHH (pH (pA pNil)))) (sV rfl) rfl (k_val (v := .int .u8 (IntKind.wrap .u8 zj)) rfl rfl rfl (pSub (pHH (pH (pA pNil)))) (sV rfl) rfl ?_))
      obtain ⟨v74, x74, h⟩ := bsome h
      refine k_cq rfl rfl rfl Tryz.call66 rfl rfl rfl (q_pf (k_step_shoot x74) (fun _ _ => trivial)) rfl (pSub (pHH (pH (pA pNil)))) ?_
      refine k_chg rfl rfl rfl (chg_bsv (enc := c_T_api_Shot) (xs := ([v74] : List T_api_Shot)) tt_ok rfl rfl rfl rfl rfl rfl rfl rfl c_T_api_Shot_len) rfl (.inr (by rintro _ _ ⟨_, _, _, _, rfl, _, _, rfl⟩; exact ⟨_, (pCons (sA hC) (pCons (sA hC) (pCons (sA hC) (pApp (sA hA') pNil))))⟩)) ?_
      rintro _ _ ⟨a75, n75_, c75, B75, rfl, N75, V75, rfl⟩
      obtain ⟨v76, x76, h⟩ := bsome h
      refine k_chg rfl rfl rfl (chg_app (enc := c_T_api_Shot) (ys := ([v74] : List T_api_Shot)) tt_ok rfl rfl rfl rfl rfl rfl zk N75 zl (sA (sCC (sC hA'))) (Rds.of_vec V75) ⟨_, hA'⟩ c_T_api_Shot_len (fun _ => rfl) rfl x76) rfl (.inl rfl) ?_
      rintro _ _ ⟨a76, n76_, c76, B76, rfl, N76, V76, rfl⟩
      refine k_chg rfl rfl rfl (Chg.of_val (v := .pointer (some ⟨b2, 16, none⟩)) (sV rfl)) rfl (.inl rfl) ?_
      rintro _ _ ⟨rfl, rfl⟩
      refine k_chg0 rfl rfl rfl (chg_store tt_ok rfl (Upd.right (Upd.right Upd.here)) rfl rfl rfl rfl rfl rfl) (.inl rfl) ?_
      rintro _ _ rfl
      refine k_end (by kernel_rfl) ?_
      refine wx_then (wc_region ?_)
      iterate 2 refine wP rfl rfl ?_
      refine wP (v := .pointer (some ⟨b2, 7, none⟩)) rfl rfl ?_
      apply wl_store tt_ok; rfl; exact (Upd.right (Upd.right Upd.here)); rfl; rfl; rfl; rfl; rfl; rfl
      refine wl_nil (wx_block (wx_then (wc_region (wP (v := .int .i64 (IntKind.wrap .i64 (zj + (1 : Int)))) rfl rfl (wP rfl rfl (wl_nil ?_))))))
      exact wx_round m34 (Nat.lt_succ_self m34) ⟨(IntKind.wrap .i64 (zj + (1 : Int))), ((T_api_Player.mk zc.1.X zc.1.Y zc.1.VX zc.1.VY zc.1.Health (10 : Int) zc.1.Face), zc.2), v76, a76, n76_, c76, B76, h, N76, V76, rfl, rfl⟩ (agree_cons rfl (agree_cons rfl (agree_cons rfl (agree_cons rfl agree_nil)))) (pSub (pCons (sAA hC) (pCons (sAA hC) (pCons (sAA hC) (pA pNil)))))
     replace h := cf hc h
     refine wc_skip (wx_block (wx_then (wc_region (wP (v := .int .i64 (IntKind.wrap .i64 (zj + (1 : Int)))) rfl rfl (wP rfl rfl (wl_nil ?_))))))
     exact wx_round m34 (Nat.lt_succ_self m34) ⟨(IntKind.wrap .i64 (zj + (1 : Int))), zc, za, zf, ze, zg, zi, h, zk, zl, rfl, rfl⟩ (agree_cons rfl (agree_cons rfl (agree_cons rfl (agree_cons rfl agree_nil)))) (pSub (pHH (pH (pA pNil))))
    replace h := cf hc h
    iterate 4 refine wl_skip rfl rfl ?_
    obtain rfl := sI h
    have h := hg66; clear hg66
    refine wP (v := .bool false) rfl rfl (wNT ?_)
    replace h := cf rfl h
    refine wc_cond_false rfl ?_
    refine wc_skip (wx_block (wx_then (wc_region (wP (v := .int .i64 (IntKind.wrap .i64 (zj + (1 : Int)))) rfl rfl (wP rfl rfl (wl_nil ?_))))))
    exact wx_round m34 (Nat.lt_succ_self m34) ⟨(IntKind.wrap .i64 (zj + (1 : Int))), zc, za, zf, ze, zg, zi, h, zk, zl, rfl, rfl⟩ (agree_cons rfl (agree_cons rfl (agree_cons rfl (agree_cons rfl agree_nil)))) (pSub (pHH (pH (pA pNil))))
   replace h := cf hc h
   iterate 5 refine wl_skip rfl rfl ?_
   obtain rfl := sI h
   have h := hg60; clear hg60
   refine wP (v := .bool false) rfl rfl (wP rfl rfl ?_)
   obtain ⟨v66, h, hg66⟩ := bsome h
   replace h := cf rfl h
   iterate 4 refine wl_skip rfl rfl ?_
   obtain rfl := sI h
   have h := hg66; clear hg66
   refine wP (v := .bool false) rfl rfl (wNT ?_)
   replace h := cf rfl h
   refine wc_cond_false rfl ?_
   refine wc_skip (wx_block (wx_then (wc_region (wP (v := .int .i64 (IntKind.wrap .i64 (zj + (1 : Int)))) rfl rfl (wP rfl rfl (wl_nil ?_))))))
   exact wx_round m34 (Nat.lt_succ_self m34) ⟨(IntKind.wrap .i64 (zj + (1 : Int))), zc, za, zf, ze, zg, zi, h, zk, zl, rfl, rfl⟩ (agree_cons rfl (agree_cons rfl (agree_cons rfl (agree_cons rfl agree_nil)))) (pSub (pHH (pH (pA pNil))))
  replace h := cf hx490 h
  rcases Bool.eq_false_or_eq_true (zj == (1 : Int)) with hx491 | hx491
  ·replace h := ct hx491 h
   refine wl_val (v := .pointer (some ⟨b2, 9, none⟩)) (val_ia (j := 1) tt_ok rfl rfl rfl rfl (by simpa using hx491) rfl rfl) rfl ?_
   refine wP rfl rfl (wNT (wSR (wP rfl rfl (wl_val (v := .pointer (some ⟨b3, 1, none⟩)) (val_ia (j := 1) tt_ok rfl rfl rfl rfl (by simpa using hx491) rfl rfl) rfl (wl_val (v := .int .u8 p1.2) (val_load tt_ok rfl (mT mH) rfl) rfl ?_)))))
   obtain ⟨v53, x53, h⟩ := bsome h
   refine wl_cq Tryz.call65 rfl rfl rfl (q_pf (k_input_Fire x53) (fun _ _ => trivial)) rfl ?_
   refine wP rfl rfl ?_
   obtain ⟨v60, h, hg60⟩ := bsome h
   refine wl_split (t := 54) rfl (fun hc => ?_) (fun hc => ?_)
   ·replace h := ct hc h
    refine wl_run rfl (wP rfl rfl (wl_run rfl (wP rfl rfl (wl_run rfl (wP (v := .pointer (some ⟨b2, 14, none⟩)) rfl rfl (wl_run rfl (wl_val (v := .int .u8 zc.2.Cool) (val_load tt_ok rfl mH rfl) rfl (wl_run rfl (wP (v := .bool (zc.2.Cool == (0 : Int))) rfl rfl ?_)))))))))
    obtain rfl := sI h
    have h := hg60; clear hg60
    refine wP (v := .bool (zc.2.Cool == (0 : Int))) rfl rfl (wP rfl rfl ?_)
    obtain ⟨v66, h, hg66⟩ := bsome h
    refine wl_split (t := 61) rfl (fun hc => ?_) (fun hc => ?_)
    ·replace h := ct hc h
     refine wl_run rfl (wP (v := .pointer (some ⟨b2, 16, none⟩)) rfl rfl (wl_run rfl (wl_val (v := .slice zf ze zg) (val_load tt_ok rfl mH rfl) rfl (wl_run rfl (wl_val (v := .int .i64 (za.length : Int)) (val_len tt_ok rfl rfl zk) rfl (wl_run rfl (wP (v := .bool (decide ((za.length : Int) < (8 : Int)))) rfl rfl ?_)))))))
     obtain rfl := sI h
     have h := hg66; clear hg66
     refine wP (v := .bool (decide ((za.length : Int) < (8 : Int)))) rfl rfl (wNT (wc_cond rfl (fun hc => ?_) (fun hc => ?_)))
     ·replace h := ct hc h
      refine wc_seq (wc_k2 (Ls := (⟨b2, (.int .u64 v12.Frame :: .int .u64 v12.Seed :: pl14 zc [.slice zf ze zg, .int .u16 v12.Score.1, .int .u16 v12.Score.2]), 30, (0, 0)⟩ :: (⟨b3, [.int .u8 p1.1, .int .u8 p1.2], 49, (0, 0)⟩ :: (⟨b4, [.int .u64 (0 : Int), .int .u64 (0 : Int), .int .i32 (0 : Int), .int .i32 (0 : Int), .int .i32 (0 : Int), .int .i32 (0 : Int), .int .u8 (0 : Int), .int .u8 (0 : Int), .int .u8 (0 : Int), .int .i32 (0 : Int), .int .i32 (0 : Int), .int .i32 (0 : Int), .int .i32 (0 : Int), .int .u8 (0 : Int), .int .u8 (0 : Int), .int .u8 (0 : Int), .slice none 0 0, .int .u16 (0 : Int), .int .u16 (0 : Int)], 30, (0, 0)⟩ :: (zi ++ []))))) [7, 8, 9, 10, 11] [9, 10, 11] [0, 1, 0, 4, 12, 0, 32, 124, 252, 511, 1023, 2047] [0, 1, 2, 3, 4, 5, 6, 7, 8, 9, 10, 11] (by kernel_rfl) (by kernel_rfl) (by kernel_rfl) ?_)
      refine k_val (v := .pointer (some ⟨b2, 16, none⟩)) rfl rfl rfl (pSub (pHH (pH (pA pNil)))) (sV rfl) rfl (k_val (v := .slice zf ze zg) rfl rfl rfl (pSub (pHH (pH (pA pNil)))) (val_load tt_ok rfl mH rfl) rfl ?_)
      iterate 2 refine k_val rfl rfl rfl (pSub (pHH (pH (pA pNil)))) (sV rfl) rfl ?_
      refine k_val (v := agP zc.2) rfl rfl rfl (pSub (pHH (pH (pA pNil)))) (val_load tt_ok rfl mH rfl) rfl (k_val rfl rfl rfl (pSub (pHH (pH (pA pNil)))) (sV rfl) rfl (k_val (v := .int .u8 (IntKind.wrap .u8 zj)) rfl rfl rfl (pSub (pHH (pH (pA pNil)))) (sV rfl) rfl ?_))
      obtain ⟨v74, x74, h⟩ := bsome h
      refine k_cq rfl rfl rfl Tryz.call66 rfl rfl rfl (q_pf (k_step_shoot x74) (fun _ _ => trivial)) rfl (pSub (pHH (pH (pA pNil)))) ?_
      refine k_chg rfl rfl rfl (chg_bsv (enc := c_T_api_Shot) (xs := ([v74] : List T_api_Shot)) tt_ok rfl rfl rfl rfl rfl rfl rfl rfl c_T_api_Shot_len) rfl (.inr (by rintro _ _ ⟨_, _, _, _, rfl, _, _, rfl⟩; exact ⟨_, (pCons (sA hC) (pCons (sA hC) (pCons (sA hC) (pApp (sA hA') pNil))))⟩)) ?_
      rintro _ _ ⟨a75, n75_, c75, B75, rfl, N75, V75, rfl⟩
      obtain ⟨v76, x76, h⟩ := bsome h
      refine k_chg rfl rfl rfl (chg_app (enc := c_T_api_Shot) (ys := ([v74] : List T_api_Shot)) tt_ok rfl rfl rfl rfl rfl rfl zk N75 zl (sA (sCC (sC hA'))) (Rds.of_vec V75) ⟨_, hA'⟩ c_T_api_Shot_len (fun _ => rfl) rfl x76) rfl (.inl rfl) ?_
      rintro _ _ ⟨a76, n76_, c76, B76, rfl, N76, V76, rfl⟩
      refine k_chg rfl rfl rfl (Chg.of_val (v := .pointer (some ⟨b2, 16, none⟩)) (sV rfl)) rfl (.inl rfl) ?_
      rintro _ _ ⟨rfl, rfl⟩
      refine k_chg0 rfl rfl rfl (chg_store tt_ok rfl (Upd.right (Upd.right Upd.here)) rfl rfl rfl rfl rfl rfl) (.inl rfl) ?_
      rintro _ _ rfl
      refine k_end (by kernel_rfl) ?_
      refine wx_then (wc_region ?_)
      iterate 2 refine wP rfl rfl ?_
      refine wP (v := .pointer (some ⟨b2, 14, none⟩)) rfl rfl ?_
      apply wl_store tt_ok; rfl; exact (Upd.right (Upd.right Upd.here)); rfl; rfl; rfl; rfl; rfl; rfl
      refine wl_nil (wx_block (wx_then (wc_region (wP (v := .int .i64 (IntKind.wrap .i64 (zj + (1 : Int)))) rfl rfl (wP rfl rfl (wl_nil ?_))))))
      exact wx_round m34 (Nat.lt_succ_self m34) ⟨(IntKind.wrap .i64 (zj + (1 : Int))), (zc.1, (T_api_Player.mk zc.2.X zc.2.Y zc.2.VX zc.2.VY zc.2.Health (10 : Int) zc.2.Face)), v76, a76, n76_, c76, B76, h, N76, V76, rfl, rfl⟩ (agree_cons rfl (agree_cons rfl (agree_cons rfl (agree_cons rfl agree_nil)))) (pSub (pCons (sAA hC) (pCons (sAA hC) (pCons (sAA hC) (pA pNil)))))
     replace h := cf hc h
     refine wc_skip (wx_block (wx_then (wc_region (wP (v := .int .i64 (IntKind.wrap .i64 (zj + (1 : Int)))) rfl rfl (wP rfl rfl (wl_nil ?_))))))
     exact wx_round m34 (Nat.lt_succ_self m34) ⟨(IntKind.wrap .i64 (zj + (1 : Int))), zc, za, zf, ze, zg, zi, h, zk, zl, rfl, rfl⟩ (agree_cons rfl (agree_cons rfl (agree_cons rfl (agree_cons rfl agree_nil)))) (pSub (pHH (pH (pA pNil))))
    replace h := cf hc h
    iterate 4 refine wl_skip rfl rfl ?_
    obtain rfl := sI h
    have h := hg66; clear hg66
    refine wP (v := .bool false) rfl rfl (wNT ?_)
    replace h := cf rfl h
    refine wc_cond_false rfl ?_
    refine wc_skip (wx_block (wx_then (wc_region (wP (v := .int .i64 (IntKind.wrap .i64 (zj + (1 : Int)))) rfl rfl (wP rfl rfl (wl_nil ?_))))))
    exact wx_round m34 (Nat.lt_succ_self m34) ⟨(IntKind.wrap .i64 (zj + (1 : Int))), zc, za, zf, ze, zg, zi, h, zk, zl, rfl, rfl⟩ (agree_cons rfl (agree_cons rfl (agree_cons rfl (agree_cons rfl agree_nil)))) (pSub (pHH (pH (pA pNil))))
   replace h := cf hc h
   iterate 5 refine wl_skip rfl rfl ?_
   obtain rfl := sI h
   have h := hg60; clear hg60
   refine wP (v := .bool false) rfl rfl (wP rfl rfl ?_)
   obtain ⟨v66, h, hg66⟩ := bsome h
   replace h := cf rfl h
   iterate 4 refine wl_skip rfl rfl ?_
   obtain rfl := sI h
   have h := hg66; clear hg66
   refine wP (v := .bool false) rfl rfl (wNT ?_)
   replace h := cf rfl h
   refine wc_cond_false rfl ?_
   refine wc_skip (wx_block (wx_then (wc_region (wP (v := .int .i64 (IntKind.wrap .i64 (zj + (1 : Int)))) rfl rfl (wP rfl rfl (wl_nil ?_))))))
   exact wx_round m34 (Nat.lt_succ_self m34) ⟨(IntKind.wrap .i64 (zj + (1 : Int))), zc, za, zf, ze, zg, zi, h, zk, zl, rfl, rfl⟩ (agree_cons rfl (agree_cons rfl (agree_cons rfl (agree_cons rfl agree_nil)))) (pSub (pHH (pH (pA pNil))))
  replace h := cf hx491 h
  cases h
 replace h := cf hc h
 refine wc_exit (wx_then_exit ?_)
 obtain ⟨rfl, rfl⟩ := pJ2 h
 have h := hl34; clear hl34; try dsimp only [orE_l, orE_r] at h
 refine wx_then_exit (wx_block_exit (wx_then (wc_seq ?_)))
 obtain ⟨v85, x85, h⟩ := bsome h
 obtain ⟨v89, x89, h⟩ := bsome h
 refine wc_join2 (fun E L => ∃ (b8 b9 : Nat), E = [(2, .pointer (some ⟨b2, 0, none⟩)), (4, .pointer (some ⟨b4, 0, none⟩)), (8, .pointer (some ⟨b8, 0, none⟩)), (9, .pointer (some ⟨b9, 0, none⟩))] ∧ L = (⟨b2, (.int .u64 v12.Frame :: .int .u64 v12.Seed :: pl14 zc [.slice zf ze zg, .int .u16 v12.Score.1, .int .u16 v12.Score.2]), 30, (0, 0)⟩ :: (⟨b4, [.int .u64 (0 : Int), .int .u64 (0 : Int), .int .i32 (0 : Int), .int .i32 (0 : Int), .int .i32 (0 : Int), .int .i32 (0 : Int), .int .u8 (0 : Int), .int .u8 (0 : Int), .int .u8 (0 : Int), .int .i32 (0 : Int), .int .i32 (0 : Int), .int .i32 (0 : Int), .int .i32 (0 : Int), .int .u8 (0 : Int), .int .u8 (0 : Int), .int .u8 (0 : Int), .slice none 0 0, .int .u16 (0 : Int), .int .u16 (0 : Int)], 30, (0, 0)⟩ :: (⟨b8, (pl7 v85 []), 24, (0, 0)⟩ :: (⟨b9, (pl7 v89 []), 24, (0, 0)⟩ :: (zi ++ [])))))) ?_ ?_
 ·refine wc_k2 (Ls := (⟨b2, (.int .u64 v12.Frame :: .int .u64 v12.Seed :: pl14 zc [.slice zf ze zg, .int .u16 v12.Score.1, .int .u16 v12.Score.2]), 30, (0, 0)⟩ :: (⟨b3, [.int .u8 p1.1, .int .u8 p1.2], 49, (0, 0)⟩ :: (⟨b4, [.int .u64 (0 : Int), .int .u64 (0 : Int), .int .i32 (0 : Int), .int .i32 (0 : Int), .int .i32 (0 : Int), .int .i32 (0 : Int), .int .u8 (0 : Int), .int .u8 (0 : Int), .int .u8 (0 : Int), .int .i32 (0 : Int), .int .i32 (0 : Int), .int .i32 (0 : Int), .int .i32 (0 : Int), .int .u8 (0 : Int), .int .u8 (0 : Int), .int .u8 (0 : Int), .slice none 0 0, .int .u16 (0 : Int), .int .u16 (0 : Int)], 30, (0, 0)⟩ :: (zi ++ []))))) [3, 7, 8, 9, 10, 11] [7, 10, 11] [0, 1, 3, 7, 0, 16, 48, 127, 0, 0, 1023, 2047] [0, 1, 2, 4, 5, 6] (by kernel_rfl) (by kernel_rfl) (by kernel_rfl) ?_
  refine k_val (v := .pointer (some ⟨b2, 2, none⟩)) rfl rfl rfl (pSub (pHH (pH (pA pNil)))) (sV rfl) rfl (k_val (v := .pointer (some ⟨b2, 2, none⟩)) rfl rfl rfl (pSub (pHH (pH (pA pNil)))) (val_ia (j := 0) tt_ok rfl rfl rfl rfl rfl rfl rfl) rfl (k_val (v := agP zc.1) rfl rfl rfl (pSub (pHH (pH (pA pNil)))) (val_load tt_ok rfl mH rfl) rfl (k_val (v := .pointer (some ⟨b2, 2, none⟩)) rfl rfl rfl (pSub (pHH (pH (pA pNil)))) (sV rfl) rfl ?_)))
  refine k_val (v := .pointer (some ⟨b2, 9, none⟩)) rfl rfl rfl (pSub (pHH (pH (pA pNil)))) (val_ia (j := 1) tt_ok rfl rfl rfl rfl rfl rfl rfl) rfl (k_val (v := agP zc.2) rfl rfl rfl (pSub (pHH (pH (pA pNil)))) (val_load tt_ok rfl mH rfl) rfl (k_three (i := 3) (j := 8) (k := 9) (t1 := []) (t2 := []) (t3 := []) (by kernel_rfl) (by kernel_rfl) (by kernel_rfl) (by kernel_rfl) (by kernel_rfl) ?_ ?_ ?_))
  ·refine k_cqf rfl rfl Tryz.call67 rfl rfl rfl (q_pf (k_step_moved x85) (fun _ _ => trivial)) rfl (pSub (pHH (pH (pA pNil)))) ?_
   refine k_three (i := 7) (j := 8) (k := 9) (t1 := []) (t2 := []) (t3 := []) (by kernel_rfl) (by kernel_rfl) (by kernel_rfl) (by kernel_rfl) (by kernel_rfl) ?_ ?_ ?_
   ·refine k_cqf rfl rfl Tryz.call67 rfl rfl rfl (q_pf (k_step_moved x89) (fun _ _ => trivial)) rfl (pSub (pHH (pH (pA pNil)))) ?_
    refine k_two (i := 8) (j := 9) (t1 := [9, 10, 11]) (t2 := [8, 10, 11]) (by kernel_rfl) (by kernel_rfl) (by kernel_rfl) (by kernel_rfl) ?_ ?_
    ·refine k_chgf rfl rfl (chg_alloc tt_ok rfl) rfl (.inr (by rintro _ _ ⟨_, rfl, rfl⟩; exact ⟨_, (pS (pS (pS (qS pNil))))⟩)) ?_
     rintro _ _ ⟨b8, rfl, rfl⟩
     refine k_chg rfl rfl rfl (chg_alloc tt_ok rfl) rfl (.inr (by rintro _ _ ⟨_, rfl, rfl⟩; exact ⟨_, (pCons (sCC hC) (pCons (sCC hC) (pCons (sCC hC) (pApp (sCC hA') pNil))))⟩)) ?_
     rintro _ _ ⟨b9, rfl, rfl⟩
     refine k_chg0 rfl rfl rfl (chg_store tt_ok rfl (Upd.there Upd.here) rfl rfl rfl rfl rfl rfl) (.inl rfl) ?_
     rintro _ _ rfl
     refine k_chg0 rfl rfl rfl (chg_store tt_ok rfl Upd.here rfl rfl rfl rfl rfl rfl) (.inl rfl) ?_
     rintro _ _ rfl
     refine k_end (by kernel_rfl) ?_
     exact wx_join ⟨b8, b9, rfl, rfl⟩ (agree_cons rfl (agree_cons rfl (agree_cons rfl (agree_cons rfl agree_nil)))) (pSub (pCons (sCC hC) (pCons (sCC (sC hC)) (pS (pH (qS pNil))))))
    refine k_chgf rfl rfl (chg_alloc tt_ok rfl) rfl (.inr (by rintro _ _ ⟨_, rfl, rfl⟩; exact ⟨_, (pS (pS (pS (qS pNil))))⟩)) ?_
    rintro _ _ ⟨b9, rfl, rfl⟩
    refine k_chg rfl rfl rfl (chg_alloc tt_ok rfl) rfl (.inr (by rintro _ _ ⟨_, rfl, rfl⟩; exact ⟨_, (pCons (sCC hC) (pCons (sCC hC) (pCons (sCC hC) (pApp (sCC hA') pNil))))⟩)) ?_
    rintro _ _ ⟨b8, rfl, rfl⟩
    refine k_chg0 rfl rfl rfl (chg_store tt_ok rfl Upd.here rfl rfl rfl rfl rfl rfl) (.inl rfl) ?_
    rintro _ _ rfl
    refine k_chg0 rfl rfl rfl (chg_store tt_ok rfl (Upd.there Upd.here) rfl rfl rfl rfl rfl rfl) (.inl rfl) ?_
    rintro _ _ rfl
    refine k_end (by kernel_rfl) ?_
    exact wx_join ⟨b8, b9, rfl, rfl⟩ (agree_cons rfl (agree_cons rfl (agree_cons rfl (agree_cons rfl agree_nil)))) (pSub (pCons (sCC hC) (pCons (sCC (sC hC)) (pHH (qS pNil)))))
   ·refine k_chgf rfl rfl (chg_alloc tt_ok rfl) rfl (.inr (by rintro _ _ ⟨_, rfl, rfl⟩; exact ⟨_, (pS (pS (pS (qS pNil))))⟩)) ?_
    rintro _ _ ⟨b8, rfl, rfl⟩
    refine k_two (i := 7) (j := 9) (t1 := [9, 10, 11]) (t2 := [7, 10, 11]) (by kernel_rfl) (by kernel_rfl) (by kernel_rfl) (by kernel_rfl) ?_ ?_
    ·refine k_cqf rfl rfl Tryz.call67 rfl rfl rfl (q_pf (k_step_moved x89) (fun _ _ => trivial)) rfl (pSub (pS (pS (pS (qS pNil))))) ?_
     refine k_chg rfl rfl rfl (chg_alloc tt_ok rfl) rfl (.inr (by rintro _ _ ⟨_, rfl, rfl⟩; exact ⟨_, (pCons (sCC hC) (pCons (sCC hC) (pCons (sCC hC) (pApp (sCC hA') pNil))))⟩)) ?_
     rintro _ _ ⟨b9, rfl, rfl⟩
     refine k_chg0 rfl rfl rfl (chg_store tt_ok rfl (Upd.there Upd.here) rfl rfl rfl rfl rfl rfl) (.inl rfl) ?_
     rintro _ _ rfl
     refine k_chg0 rfl rfl rfl (chg_store tt_ok rfl Upd.here rfl rfl rfl rfl rfl rfl) (.inl rfl) ?_
     rintro _ _ rfl
     refine k_end (by kernel_rfl) ?_
     exact wx_join ⟨b8, b9, rfl, rfl⟩ (agree_cons rfl (agree_cons rfl (agree_cons rfl (agree_cons rfl agree_nil)))) (pSub (pCons (sCC hC) (pCons (sCC (sC hC)) (pS (pH (qS pNil))))))
    refine k_chgf rfl rfl (chg_alloc tt_ok rfl) rfl (.inr (by rintro _ _ ⟨_, rfl, rfl⟩; exact ⟨_, (pCons (sCC hC) (pCons (sCC hC) (pCons (sCC hC) (pApp (sCC hA') pNil))))⟩)) ?_
    rintro _ _ ⟨b9, rfl, rfl⟩
    refine k_cq rfl rfl rfl Tryz.call67 rfl rfl rfl (q_pf (k_step_moved x89) (fun _ _ => trivial)) rfl (pSub (pCons (sCC hC) (pCons (sCC hC) (pCons (sCC hC) (pApp (sCC hA') pNil))))) ?_
    refine k_chg0 rfl rfl rfl (chg_store tt_ok rfl (Upd.there Upd.here) rfl rfl rfl rfl rfl rfl) (.inl rfl) ?_
    rintro _ _ rfl
    refine k_chg0 rfl rfl rfl (chg_store tt_ok rfl Upd.here rfl rfl rfl rfl rfl rfl) (.inl rfl) ?_
    rintro _ _ rfl
    refine k_end (by kernel_rfl) ?_
    exact wx_join ⟨b8, b9, rfl, rfl⟩ (agree_cons rfl (agree_cons rfl (agree_cons rfl (agree_cons rfl agree_nil)))) (pSub (pCons (sCC hC) (pCons (sCC (sC hC)) (pS (pH (qS pNil))))))
   refine k_chgf rfl rfl (chg_alloc tt_ok rfl) rfl (.inr (by rintro _ _ ⟨_, rfl, rfl⟩; exact ⟨_, (pS (pS (pS (qS pNil))))⟩)) ?_
   rintro _ _ ⟨b9, rfl, rfl⟩
   refine k_two (i := 7) (j := 8) (t1 := [8, 10, 11]) (t2 := [7, 10, 11]) (by kernel_rfl) (by kernel_rfl) (by kernel_rfl) (by kernel_rfl) ?_ ?_
   ·refine k_cqf rfl rfl Tryz.call67 rfl rfl rfl (q_pf (k_step_moved x89) (fun _ _ => trivial)) rfl (pSub (pS (pS (pS (qS pNil))))) ?_
    refine k_chg rfl rfl rfl (chg_alloc tt_ok rfl) rfl (.inr (by rintro _ _ ⟨_, rfl, rfl⟩; exact ⟨_, (pCons (sCC hC) (pCons (sCC hC) (pCons (sCC hC) (pApp (sCC hA') pNil))))⟩)) ?_
    rintro _ _ ⟨b8, rfl, rfl⟩
    refine k_chg0 rfl rfl rfl (chg_store tt_ok rfl Upd.here rfl rfl rfl rfl rfl rfl) (.inl rfl) ?_
    rintro _ _ rfl
    refine k_chg0 rfl rfl rfl (chg_store tt_ok rfl (Upd.there Upd.here) rfl rfl rfl rfl rfl rfl) (.inl rfl) ?_
    rintro _ _ rfl
    refine k_end (by kernel_rfl) ?_
    exact wx_join ⟨b8, b9, rfl, rfl⟩ (agree_cons rfl (agree_cons rfl (agree_cons rfl (agree_cons rfl agree_nil)))) (pSub (pCons (sCC hC) (pCons (sCC (sC hC)) (pHH (qS pNil)))))
   refine k_chgf rfl rfl (chg_alloc tt_ok rfl) rfl (.inr (by rintro _ _ ⟨_, rfl, rfl⟩; exact ⟨_, (pCons (sCC hC) (pCons (sCC hC) (pCons (sCC hC) (pApp (sCC hA') pNil))))⟩)) ?_
   rintro _ _ ⟨b8, rfl, rfl⟩
   refine k_cq rfl rfl rfl Tryz.call67 rfl rfl rfl (q_pf (k_step_moved x89) (fun _ _ => trivial)) rfl (pSub (pCons (sCC hC) (pCons (sCC hC) (pCons (sCC hC) (pApp (sCC hA') pNil))))) ?_
   refine k_chg0 rfl rfl rfl (chg_store tt_ok rfl Upd.here rfl rfl rfl rfl rfl rfl) (.inl rfl) ?_
   rintro _ _ rfl
   refine k_chg0 rfl rfl rfl (chg_store tt_ok rfl (Upd.there Upd.here) rfl rfl rfl rfl rfl rfl) (.inl rfl) ?_
   rintro _ _ rfl
   refine k_end (by kernel_rfl) ?_
   exact wx_join ⟨b8, b9, rfl, rfl⟩ (agree_cons rfl (agree_cons rfl (agree_cons rfl (agree_cons rfl agree_nil)))) (pSub (pCons (sCC hC) (pCons (sCC (sC hC)) (pHH (qS pNil)))))
  ·refine k_chgf rfl rfl (chg_alloc tt_ok rfl) rfl (.inr (by rintro _ _ ⟨_, rfl, rfl⟩; exact ⟨_, (pS (pS (pS (qS pNil))))⟩)) ?_
   rintro _ _ ⟨b8, rfl, rfl⟩
   refine k_two (i := 3) (j := 9) (t1 := []) (t2 := [3, 7, 10, 11]) (by kernel_rfl) (by kernel_rfl) (by kernel_rfl) (by kernel_rfl) ?_ ?_
   ·refine k_cqf rfl rfl Tryz.call67 rfl rfl rfl (q_pf (k_step_moved x85) (fun _ _ => trivial)) rfl (pSub (pS (pS (pS (qS pNil))))) ?_
    refine k_two (i := 7) (j := 9) (t1 := [9, 10, 11]) (t2 := [7, 10, 11]) (by kernel_rfl) (by kernel_rfl) (by kernel_rfl) (by kernel_rfl) ?_ ?_
    ·refine k_cqf rfl rfl Tryz.call67 rfl rfl rfl (q_pf (k_step_moved x89) (fun _ _ => trivial)) rfl (pSub (pS (pS (pS (qS pNil))))) ?_
     refine k_chg rfl rfl rfl (chg_alloc tt_ok rfl) rfl (.inr (by rintro _ _ ⟨_, rfl, rfl⟩; exact ⟨_, (pCons (sCC hC) (pCons (sCC hC) (pCons (sCC hC) (pApp (sCC hA') pNil))))⟩)) ?_
     rintro _ _ ⟨b9, rfl, rfl⟩
     refine k_chg0 rfl rfl rfl (chg_store tt_ok rfl (Upd.there Upd.here) rfl rfl rfl rfl rfl rfl) (.inl rfl) ?_
     rintro _ _ rfl
     refine k_chg0 rfl rfl rfl (chg_store tt_ok rfl Upd.here rfl rfl rfl rfl rfl rfl) (.inl rfl) ?_
     rintro _ _ rfl
     refine k_end (by kernel_rfl) ?_
     exact wx_join ⟨b8, b9, rfl, rfl⟩ (agree_cons rfl (agree_cons rfl (agree_cons rfl (agree_cons rfl agree_nil)))) (pSub (pCons (sCC hC) (pCons (sCC (sC hC)) (pS (pH (qS pNil))))))
    refine k_chgf rfl rfl (chg_alloc tt_ok rfl) rfl (.inr (by rintro _ _ ⟨_, rfl, rfl⟩; exact ⟨_, (pCons (sCC hC) (pCons (sCC hC) (pCons (sCC hC) (pApp (sCC hA') pNil))))⟩)) ?_
    rintro _ _ ⟨b9, rfl, rfl⟩
    refine k_cq rfl rfl rfl Tryz.call67 rfl rfl rfl (q_pf (k_step_moved x89) (fun _ _ => trivial)) rfl (pSub (pCons (sCC hC) (pCons (sCC hC) (pCons (sCC hC) (pApp (sCC hA') pNil))))) ?_
    refine k_chg0 rfl rfl rfl (chg_store tt_ok rfl (Upd.there Upd.here) rfl rfl rfl rfl rfl rfl) (.inl rfl) ?_
    rintro _ _ rfl
    refine k_chg0 rfl rfl rfl (chg_store tt_ok rfl Upd.here rfl rfl rfl rfl rfl rfl) (.inl rfl) ?_
    rintro _ _ rfl
    refine k_end (by kernel_rfl) ?_
    exact wx_join ⟨b8, b9, rfl, rfl⟩ (agree_cons rfl (agree_cons rfl (agree_cons rfl (agree_cons rfl agree_nil)))) (pSub (pCons (sCC hC) (pCons (sCC (sC hC)) (pS (pH (qS pNil))))))
   refine k_chgf rfl rfl (chg_alloc tt_ok rfl) rfl (.inr (by rintro _ _ ⟨_, rfl, rfl⟩; exact ⟨_, (pCons (sCC hC) (pCons (sCC hC) (pCons (sCC hC) (pApp (sCC hA') pNil))))⟩)) ?_
   rintro _ _ ⟨b9, rfl, rfl⟩
   refine k_cq rfl rfl rfl Tryz.call67 rfl rfl rfl (q_pf (k_step_moved x85) (fun _ _ => trivial)) rfl (pSub (pCons (sCC hC) (pCons (sCC hC) (pCons (sCC hC) (pApp (sCC hA') pNil))))) ?_
   refine k_cq rfl rfl rfl Tryz.call67 rfl rfl rfl (q_pf (k_step_moved x89) (fun _ _ => trivial)) rfl (pSub (pCons (sCC hC) (pCons (sCC hC) (pCons (sCC hC) (pApp (sCC hA') pNil))))) ?_
   refine k_chg0 rfl rfl rfl (chg_store tt_ok rfl (Upd.there Upd.here) rfl rfl rfl rfl rfl rfl) (.inl rfl) ?_
   rintro _ _ rfl
   refine k_chg0 rfl rfl rfl (chg_store tt_ok rfl Upd.here rfl rfl rfl rfl rfl rfl) (.inl rfl) ?_
   rintro _ _ rfl
   refine k_end (by kernel_rfl) ?_
   exact wx_join ⟨b8, b9, rfl, rfl⟩ (agree_cons rfl (agree_cons rfl (agree_cons rfl (agree_cons rfl agree_nil)))) (pSub (pCons (sCC hC) (pCons (sCC (sC hC)) (pS (pH (qS pNil))))))
  refine k_chgf rfl rfl (chg_alloc tt_ok rfl) rfl (.inr (by rintro _ _ ⟨_, rfl, rfl⟩; exact ⟨_, (pS (pS (pS (qS pNil))))⟩)) ?_
  rintro _ _ ⟨b9, rfl, rfl⟩
  refine k_two (i := 3) (j := 8) (t1 := []) (t2 := [3, 7, 10, 11]) (by kernel_rfl) (by kernel_rfl) (by kernel_rfl) (by kernel_rfl) ?_ ?_
  ·refine k_cqf rfl rfl Tryz.call67 rfl rfl rfl (q_pf (k_step_moved x85) (fun _ _ => trivial)) rfl (pSub (pS (pS (pS (qS pNil))))) ?_
   refine k_two (i := 7) (j := 8) (t1 := [8, 10, 11]) (t2 := [7, 10, 11]) (by kernel_rfl) (by kernel_rfl) (by kernel_rfl) (by kernel_rfl) ?_ ?_
   ·refine k_cqf rfl rfl Tryz.call67 rfl rfl rfl (q_pf (k_step_moved x89) (fun _ _ => trivial)) rfl (pSub (pS (pS (pS (qS pNil))))) ?_
    refine k_chg rfl rfl rfl (chg_alloc tt_ok rfl) rfl (.inr (by rintro _ _ ⟨_, rfl, rfl⟩; exact ⟨_, (pCons (sCC hC) (pCons (sCC hC) (pCons (sCC hC) (pApp (sCC hA') pNil))))⟩)) ?_
    rintro _ _ ⟨b8, rfl, rfl⟩
    refine k_chg0 rfl rfl rfl (chg_store tt_ok rfl Upd.here rfl rfl rfl rfl rfl rfl) (.inl rfl) ?_
    rintro _ _ rfl
    refine k_chg0 rfl rfl rfl (chg_store tt_ok rfl (Upd.there Upd.here) rfl rfl rfl rfl rfl rfl) (.inl rfl) ?_
    rintro _ _ rfl
    refine k_end (by kernel_rfl) ?_
    exact wx_join ⟨b8, b9, rfl, rfl⟩ (agree_cons rfl (agree_cons rfl (agree_cons rfl (agree_cons rfl agree_nil)))) (pSub (pCons (sCC hC) (pCons (sCC (sC hC)) (pHH (qS pNil)))))
   refine k_chgf rfl rfl (chg_alloc tt_ok rfl) rfl (.inr (by rintro _ _ ⟨_, rfl, rfl⟩; exact ⟨_, (pCons (sCC hC) (pCons (sCC hC) (pCons (sCC hC) (pApp (sCC hA') pNil))))⟩)) ?_
   rintro _ _ ⟨b8, rfl, rfl⟩
   refine k_cq rfl rfl rfl Tryz.call67 rfl rfl rfl (q_pf (k_step_moved x89) (fun _ _ => trivial)) rfl (pSub (pCons (sCC hC) (pCons (sCC hC) (pCons (sCC hC) (pApp (sCC hA') pNil))))) ?_
   refine k_chg0 rfl rfl rfl (chg_store tt_ok rfl Upd.here rfl rfl rfl rfl rfl rfl) (.inl rfl) ?_
   rintro _ _ rfl
   refine k_chg0 rfl rfl rfl (chg_store tt_ok rfl (Upd.there Upd.here) rfl rfl rfl rfl rfl rfl) (.inl rfl) ?_
   rintro _ _ rfl
   refine k_end (by kernel_rfl) ?_
   exact wx_join ⟨b8, b9, rfl, rfl⟩ (agree_cons rfl (agree_cons rfl (agree_cons rfl (agree_cons rfl agree_nil)))) (pSub (pCons (sCC hC) (pCons (sCC (sC hC)) (pHH (qS pNil)))))
  refine k_chgf rfl rfl (chg_alloc tt_ok rfl) rfl (.inr (by rintro _ _ ⟨_, rfl, rfl⟩; exact ⟨_, (pCons (sCC hC) (pCons (sCC hC) (pCons (sCC hC) (pApp (sCC hA') pNil))))⟩)) ?_
  rintro _ _ ⟨b8, rfl, rfl⟩
  refine k_cq rfl rfl rfl Tryz.call67 rfl rfl rfl (q_pf (k_step_moved x85) (fun _ _ => trivial)) rfl (pSub (pCons (sCC hC) (pCons (sCC hC) (pCons (sCC hC) (pApp (sCC hA') pNil))))) ?_
  refine k_cq rfl rfl rfl Tryz.call67 rfl rfl rfl (q_pf (k_step_moved x89) (fun _ _ => trivial)) rfl (pSub (pCons (sCC hC) (pCons (sCC hC) (pCons (sCC hC) (pApp (sCC hA') pNil))))) ?_
  refine k_chg0 rfl rfl rfl (chg_store tt_ok rfl Upd.here rfl rfl rfl rfl rfl rfl) (.inl rfl) ?_
  rintro _ _ rfl
  refine k_chg0 rfl rfl rfl (chg_store tt_ok rfl (Upd.there Upd.here) rfl rfl rfl rfl rfl rfl) (.inl rfl) ?_
  rintro _ _ rfl
  refine k_end (by kernel_rfl) ?_
  exact wx_join ⟨b8, b9, rfl, rfl⟩ (agree_cons rfl (agree_cons rfl (agree_cons rfl (agree_cons rfl agree_nil)))) (pSub (pCons (sCC hC) (pCons (sCC (sC hC)) (pHH (qS pNil)))))
 rintro _ _ ⟨b8, b9, rfl, rfl⟩
 refine wc_seq (wc_seq (wc_quiet (by kernel_rfl) (by kernel_rfl) (wq_val (v := agP v85) (val_load tt_ok rfl (mTT mH) rfl) rfl ?_)))
 obtain ⟨v91, x91, h⟩ := bsome h
 refine wq_cq Tryz.call69 rfl rfl rfl (q_pf (k_step_box x91) (fun _ _ => trivial)) rfl ?_
 refine wq_val (v := agP v89) (val_load tt_ok rfl (mTT (mT mH)) rfl) rfl ?_
 obtain ⟨v93, x93, h⟩ := bsome h
 refine wq_cq Tryz.call69 rfl rfl rfl (q_pf (k_step_box x93) (fun _ _ => trivial)) rfl ?_
 obtain ⟨v94, x94, h⟩ := bsome h
 refine wq_cq Tryz.call68 rfl rfl rfl (q_pf (k_geom_Over x94) (fun _ _ => trivial)) rfl ?_
 refine wq_nil (wx_then ?_)
 replace h := bsome h; obtain ⟨⟨zx, zy⟩, h, hj60⟩ := h; try dsimp only at hj60
 refine wc_join2 (fun E L => E = [(2, .pointer (some ⟨b2, 0, none⟩)), (4, .pointer (some ⟨b4, 0, none⟩)), (8, .pointer (some ⟨b8, 0, none⟩)), (9, .pointer (some ⟨b9, 0, none⟩))] ∧ L = (⟨b2, (.int .u64 v12.Frame :: .int .u64 v12.Seed :: pl14 zc [.slice zf ze zg, .int .u16 v12.Score.1, .int .u16 v12.Score.2]), 30, (0, 0)⟩ :: (⟨b4, [.int .u64 (0 : Int), .int .u64 (0 : Int), .int .i32 (0 : Int), .int .i32 (0 : Int), .int .i32 (0 : Int), .int .i32 (0 : Int), .int .u8 (0 : Int), .int .u8 (0 : Int), .int .u8 (0 : Int), .int .i32 (0 : Int), .int .i32 (0 : Int), .int .i32 (0 : Int), .int .i32 (0 : Int), .int .u8 (0 : Int), .int .u8 (0 : Int), .int .u8 (0 : Int), .slice none 0 0, .int .u16 (0 : Int), .int .u16 (0 : Int)], 30, (0, 0)⟩ :: (⟨b8, (pl7 zx []), 24, (0, 0)⟩ :: (⟨b9, (pl7 zy []), 24, (0, 0)⟩ :: (zi ++ [])))))) ?_ ?_
 ·refine wc_cond rfl (fun hc => ?_) (fun hc => ?_)
  ·replace h := ct hc h
   refine wc_k2 (Ls := (⟨b2, (.int .u64 v12.Frame :: .int .u64 v12.Seed :: pl14 zc [.slice zf ze zg, .int .u16 v12.Score.1, .int .u16 v12.Score.2]), 30, (0, 0)⟩ :: (⟨b4, [.int .u64 (0 : Int), .int .u64 (0 : Int), .int .i32 (0 : Int), .int .i32 (0 : Int), .int .i32 (0 : Int), .int .i32 (0 : Int), .int .u8 (0 : Int), .int .u8 (0 : Int), .int .u8 (0 : Int), .int .i32 (0 : Int), .int .i32 (0 : Int), .int .i32 (0 : Int), .int .i32 (0 : Int), .int .u8 (0 : Int), .int .u8 (0 : Int), .int .u8 (0 : Int), .slice none 0 0, .int .u16 (0 : Int), .int .u16 (0 : Int)], 30, (0, 0)⟩ :: (⟨b8, (pl7 v85 []), 24, (0, 0)⟩ :: (⟨b9, (pl7 v89 []), 24, (0, 0)⟩ :: (zi ++ [])))))) [3, 7, 8, 9] [7, 8, 9] [0, 1, 3, 7, 0, 16, 48, 127, 255, 511] [0, 1, 2, 4, 5, 6, 3, 7, 8, 9] (by kernel_rfl) (by kernel_rfl) (by kernel_rfl) ?_
   refine k_val (v := .pointer (some ⟨b2, 2, none⟩)) rfl rfl rfl (pSub (pH4 (pA pNil))) (sV rfl) rfl (k_val (v := .pointer (some ⟨b2, 2, none⟩)) rfl rfl rfl (pSub (pH4 (pA pNil))) (val_ia (j := 0) tt_ok rfl rfl rfl rfl rfl rfl rfl) rfl (k_val (v := agP zc.1) rfl rfl rfl (pSub (pH4 (pA pNil))) (val_load tt_ok rfl mH rfl) rfl ?_))
   refine k_val (v := .pointer (some ⟨b2, 2, none⟩)) rfl rfl rfl (pSub (pH4 (pA pNil))) (sV rfl) rfl (k_val (v := .pointer (some ⟨b2, 9, none⟩)) rfl rfl rfl (pSub (pH4 (pA pNil))) (val_ia (j := 1) tt_ok rfl rfl rfl rfl rfl rfl rfl) rfl (k_val (v := agP zc.2) rfl rfl rfl (pSub (pH4 (pA pNil))) (val_load tt_ok rfl mH rfl) rfl ?_))
   obtain ⟨v98, x98, h⟩ := bsome h
   refine k_cq rfl rfl rfl Tryz.call70 rfl rfl rfl (q_pf (k_step_stopped x98) (fun _ _ => trivial)) rfl (pSub (pH4 (pA pNil))) ?_
   obtain ⟨v102, x102, h⟩ := bsome h
   refine k_cq rfl rfl rfl Tryz.call70 rfl rfl rfl (q_pf (k_step_stopped x102) (fun _ _ => trivial)) rfl (pSub (pH4 (pA pNil))) ?_
   refine k_chg0 rfl rfl rfl (chg_store tt_ok rfl (Upd.there (Upd.there Upd.here)) rfl rfl rfl rfl rfl rfl) (.inl rfl) ?_
   rintro _ _ rfl
   refine k_chg0 rfl rfl rfl (chg_store tt_ok rfl (Upd.there (Upd.there (Upd.there Upd.here))) rfl rfl rfl rfl rfl rfl) (.inl rfl) ?_
   rintro _ _ rfl
   refine k_end (by kernel_rfl) ?_
   obtain ⟨rfl, rfl⟩ := pJ2 h
   exact wx_join ⟨rfl, rfl⟩ (agree_cons rfl (agree_cons rfl (agree_cons rfl (agree_cons rfl agree_nil)))) (pSub (pH4 (pA pNil)))
  replace h := cf hc h
  refine wc_skip ?_
  obtain ⟨rfl, rfl⟩ := pJ2 h
  exact wx_join ⟨rfl, rfl⟩ (agree_cons rfl (agree_cons rfl (agree_cons rfl (agree_cons rfl agree_nil)))) (pSub (pH4 (pA pNil)))
 rintro _ _ ⟨rfl, rfl⟩
 have h := hj60; clear hj60
 refine wSR (wl_val (v := agP zx) (val_load tt_ok rfl (mTT mH) rfl) rfl (wl_val (v := agP zy) (val_load tt_ok rfl (mTT (mT mH)) rfl) rfl (wP (v := .agg #[.int .i32 zx.X, .int .i32 zx.Y, .int .i32 zx.VX, .int .i32 zx.VY, .int .u8 zx.Health, .int .u8 zx.Cool, .int .u8 zx.Face, .int .i32 zy.X, .int .i32 zy.Y, .int .i32 zy.VX, .int .i32 zy.VY, .int .u8 zy.Health, .int .u8 zy.Cool, .int .u8 zy.Face]) rfl rfl ?_)))
 refine wP (v := .pointer (some ⟨b2, 2, none⟩)) rfl rfl ?_
 apply wl_store tt_ok; rfl; exact Upd.here; rfl; rfl; rfl; rfl; rfl; rfl
 refine wNT (wSR ?_)
 obtain ⟨zm, x107, h⟩ := bsome h
 refine wl_cs Tryz.call71 rfl rfl rfl (s_sp (k_step_fly (p0 := (T_api_State.mk v12.Frame v12.Seed (zx, zy) za v12.Score)) zk zl x107) (pH (pApp (sCC (sC hA')) pNil)) (fun _ _ => trivial)) rfl ?_
 rintro _ _ ⟨_, ⟨zas, zau, zat, zap, zaq, zar, rfl, rfl⟩, rfl⟩
 refine wNT (wc_seq (wSR (wP rfl rfl (wNT (wc_block ?_)))))
 replace h := bsome h; obtain ⟨⟨zak, zal, zam, zan, zao⟩, h, hl71⟩ := h; try dsimp only at hl71
 refine wc_loop (fun m E L => ∃ (zn : Int) (zo : Int) (zu : Int) (zd : (T_api_Player × T_api_Player)) (zb : (List T_api_Shot)) (zq : (Int × Int)) (zs : Option Addr) (zp zt : Nat) (zv : List Blk), m_step_Step_L70 F m zn zo zu zd zb zq = some (zak, zal, zam, zan, zao) ∧ zp = zb.length ∧ Own 93 6 zs zp zt (flat c_T_api_Shot zb) zv ∧ E = [(2, .pointer (some ⟨b2, 0, none⟩)), (4, .pointer (some ⟨b4, 0, none⟩)), (108, .int .i64 zn)] ∧ L = (⟨b2, (.int .u64 zo :: .int .u64 zu :: pl14 zd [.slice zs zp zt, .int .u16 zq.1, .int .u16 zq.2]), 30, (0, 0)⟩ :: (⟨b4, [.int .u64 (0 : Int), .int .u64 (0 : Int), .int .i32 (0 : Int), .int .i32 (0 : Int), .int .i32 (0 : Int), .int .i32 (0 : Int), .int .u8 (0 : Int), .int .u8 (0 : Int), .int .u8 (0 : Int), .int .i32 (0 : Int), .int .i32 (0 : Int), .int .i32 (0 : Int), .int .i32 (0 : Int), .int .u8 (0 : Int), .int .u8 (0 : Int), .int .u8 (0 : Int), .slice none 0 0, .int .u16 (0 : Int), .int .u16 (0 : Int)], 30, (0, 0)⟩ :: (zv ++ [])))) F ⟨(0 : Int), zm.Frame, zm.Seed, zm.Players, zm.Shots, zm.Score, zas, zau, zat, zap, h, zaq, zar, rfl, rfl⟩ (agree_cons rfl (agree_cons rfl (agree_cons rfl agree_nil))) (pSub (pH (pCons (sA hC) (pA pNil)))) ?_
 clear h
 rintro m71 _ _ ⟨zn, zo, zu, zd, zb, zq, zs, zp, zt, zv, h, zz, zaa, rfl, rfl⟩
 rcases m71 with _ | m71
 ·rw [m_step_Step_L70.eq_1] at h; cases h
 rw [m_step_Step_L70.eq_2] at h
 refine wSR (wP (v := .bool (decide (zn < (2 : Int)))) rfl rfl (wNT (wc_seq (wc_cond rfl (fun hc => ?_) (fun hc => ?_)))))
 ·replace h := ct hc h
  refine wc_skip (wx_then (wc_seq (wc_block (wSR ?_))))
  iterate 2 refine wP rfl rfl ?_
  refine wNT (wSR (wP rfl rfl (wP (v := .pointer (some ⟨b2, 2, none⟩)) rfl rfl ?_)))
  rcases Bool.eq_false_or_eq_true (zn == (0 : Int)) with hx1130 | hx1130
  ·replace h := ct hx1130 h
   refine wl_val (v := .pointer (some ⟨b2, 2, none⟩)) (val_ia (j := 0) tt_ok rfl rfl rfl rfl (by simpa using hx1130) rfl rfl) rfl ?_
   refine wP (v := .pointer (some ⟨b2, 6, none⟩)) rfl rfl (wl_val (v := .int .u8 zd.1.Health) (val_load tt_ok rfl mH rfl) rfl (wP (v := .bool (zd.1.Health == (0 : Int))) rfl rfl (wNT (wc_cond rfl (fun hc => ?_) (fun hc => ?_)))))
   ·replace h := ct hc h
    refine wc_region (wP rfl rfl ?_)
    obtain ⟨zh, x118, h⟩ := bsome h
    refine wl_cs Tryz.call72 rfl rfl rfl (s_sp (k_step_revive (p0 := (T_api_State.mk zo zu zd zb zq)) zz zaa x118) (pH (qS pNil)) (fun _ _ => trivial)) rfl ?_
    rintro _ _ ⟨_, ⟨zae, zag, zaf, zab, zac, zad, rfl, rfl⟩, rfl⟩
    refine wl_nil (wx_block (wx_then (wc_region (wP (v := .int .i64 (IntKind.wrap .i64 (zn + (1 : Int)))) rfl rfl (wP rfl rfl (wl_nil ?_))))))
    exact wx_round m71 (Nat.lt_succ_self m71) ⟨(IntKind.wrap .i64 (zn + (1 : Int))), zh.Frame, zh.Seed, zh.Players, zh.Shots, zh.Score, zae, zag, zaf, zab, h, zac, zad, rfl, rfl⟩ (agree_cons rfl (agree_cons rfl (agree_cons rfl agree_nil))) (pSub (pH (pCons (sA hC) (pA pNil))))
   replace h := cf hc h
   refine wc_skip (wx_block (wx_then (wc_region (wP (v := .int .i64 (IntKind.wrap .i64 (zn + (1 : Int)))) rfl rfl (wP rfl rfl (wl_nil ?_))))))
   exact wx_round m71 (Nat.lt_succ_self m71) ⟨(IntKind.wrap .i64 (zn + (1 : Int))), zo, zu, zd, zb, zq, zs, zp, zt, zv, h, zz, zaa, rfl, rfl⟩ (agree_cons rfl (agree_cons rfl (agree_cons rfl agree_nil))) (pSub (pHH (pA pNil)))
  replace h := cf hx1130 h
  rcases Bool.eq_false_or_eq_true (zn == (1 : Int)) with hx1131 | hx1131
  ·replace h := ct hx1131 h
   refine wl_val (v := .pointer (some ⟨b2, 9, none⟩)) (val_ia (j := 1) tt_ok rfl rfl rfl rfl (by simpa using hx1131) rfl rfl) rfl ?_
   refine wP (v := .pointer (some ⟨b2, 13, none⟩)) rfl rfl (wl_val (v := .int .u8 zd.2.Health) (val_load tt_ok rfl mH rfl) rfl (wP (v := .bool (zd.2.Health == (0 : Int))) rfl rfl (wNT (wc_cond rfl (fun hc => ?_) (fun hc => ?_)))))
   ·replace h := ct hc h
    refine wc_region (wP rfl rfl ?_)
    obtain ⟨zh, x118, h⟩ := bsome h
    refine wl_cs Tryz.call72 rfl rfl rfl (s_sp (k_step_revive (p0 := (T_api_State.mk zo zu zd zb zq)) zz zaa x118) (pH (qS pNil)) (fun _ _ => trivial)) rfl ?_
    rintro _ _ ⟨_, ⟨zae, zag, zaf, zab, zac, zad, rfl, rfl⟩, rfl⟩
    refine wl_nil (wx_block (wx_then (wc_region (wP (v := .int .i64 (IntKind.wrap .i64 (zn + (1 : Int)))) rfl rfl (wP rfl rfl (wl_nil ?_))))))
    exact wx_round m71 (Nat.lt_succ_self m71) ⟨(IntKind.wrap .i64 (zn + (1 : Int))), zh.Frame, zh.Seed, zh.Players, zh.Shots, zh.Score, zae, zag, zaf, zab, h, zac, zad, rfl, rfl⟩ (agree_cons rfl (agree_cons rfl (agree_cons rfl agree_nil))) (pSub (pH (pCons (sA hC) (pA pNil))))
   replace h := cf hc h
   refine wc_skip (wx_block (wx_then (wc_region (wP (v := .int .i64 (IntKind.wrap .i64 (zn + (1 : Int)))) rfl rfl (wP rfl rfl (wl_nil ?_))))))
   exact wx_round m71 (Nat.lt_succ_self m71) ⟨(IntKind.wrap .i64 (zn + (1 : Int))), zo, zu, zd, zb, zq, zs, zp, zt, zv, h, zz, zaa, rfl, rfl⟩ (agree_cons rfl (agree_cons rfl (agree_cons rfl agree_nil))) (pSub (pHH (pA pNil)))
  replace h := cf hx1131 h
  cases h
 replace h := cf hc h
 refine wc_exit (wx_then_exit ?_)
 obtain ⟨rfl, rfl, rfl, rfl, rfl⟩ := pJ5 h
 have h := hl71; clear hl71; try dsimp only [orE_l, orE_r] at h
 refine wx_then_exit (wx_block_exit (wx_then (wSR ?_)))
 refine wP (v := .pointer (some ⟨b2, 0, none⟩)) rfl rfl (wl_val (v := .int .u64 zo) (val_load tt_ok rfl mH rfl) rfl (wP (v := .int .u64 (IntKind.wrap .u64 (zo + (1 : Int)))) rfl rfl (wP (v := .pointer (some ⟨b2, 0, none⟩)) rfl rfl ?_)))
 apply wl_store tt_ok; rfl; exact Upd.here; rfl; rfl; rfl; rfl; rfl; rfl
 refine wNT (wSR (wl_val (v := .agg #[.int .u64 (IntKind.wrap .u64 (zo + (1 : Int))), .int .u64 zu, .int .i32 zd.1.X, .int .i32 zd.1.Y, .int .i32 zd.1.VX, .int .i32 zd.1.VY, .int .u8 zd.1.Health, .int .u8 zd.1.Cool, .int .u8 zd.1.Face, .int .i32 zd.2.X, .int .i32 zd.2.Y, .int .i32 zd.2.VX, .int .i32 zd.2.VY, .int .u8 zd.2.Health, .int .u8 zd.2.Cool, .int .u8 zd.2.Face, .slice zs zp zt, .int .u16 zq.1, .int .u16 zq.2]) (val_load tt_ok rfl mH rfl) rfl ?_))
 apply wl_store tt_ok; rfl; exact (Upd.there Upd.here); rfl; rfl; rfl; rfl; rfl; rfl
 refine wNT (wc_ret ?_)
 obtain rfl := sI h
 exact wx_spD tt_ok (.inl rfl) Tryz.results34 (Res.cell rfl (mT mH) rfl Res.nil) ⟨zs, zp, zt, zv, zz, zaa, rfl, rfl⟩ (fun F => by simp) (pSub (pApp (sCC hA') pNil))

theorem k_rollback_Engine_Shown {F : Nat} {p0 : T_rollback_Engine} {p0b p0t : Nat} {p0a0 : Option Addr} {p0n0 p0c0 : Nat} {p0B0 : List Blk} {p0a1 : Option Addr} {p0n1 p0c1 : Nat} {p0B1 : List Blk} {p0_4 : T_queue_Queue} {p0_4b p0_4t : Nat} {p0_4a0 : Option Addr} {p0_4n0 p0_4c0 : Nat} {p0_4B0 : List Blk} {p0_5 : T_ring_Ring} {p0_5b p0_5t : Nat} {p0_5g0 : List (T_ring_place × G)} {p0_5P0 : List Blk} {r0 : T_ring_Ring} {r1 : T_api_State} (p0N0 : p0n0 = p0.sure.Shots.length) (p0V0 : Own 93 6 p0a0 p0n0 p0c0 (flat c_T_api_Shot p0.sure.Shots) p0B0) (p0N1 : p0n1 = p0.own.length) (p0V1 : Own 40 1 p0a1 p0n1 p0c1 (flat (e1 .u8) p0.own) p0B1) (p0_4N0 : p0_4n0 = p0_4.l.length) (p0_4V0 : Own 40 1 p0_4a0 p0_4n0 p0_4c0 (flat (e1 .u8) p0_4.l) p0_4B0) (p0_5G0 : p0_5.places.1 = unG p0_5g0) (p0_5A0 : AllP sh_T_ring_place c_T_api_Shot p0_5P0 p0_5g0) (h : m_rollback_Engine_Shown F p0 p0_4 p0_5 = some (r0, r1)) :
    SpD Tryz.prog 16 [.pointer (some ⟨p0b, 0, none⟩)] (⟨p0b, (.int .u8 p0.player :: .int .i64 p0.window :: st19 p0.sure p0a0 p0n0 p0c0 [.slice p0a1 p0n1 p0c1, .pointer (some ⟨p0_4b, 0, none⟩), .pointer (some ⟨p0_5b, 0, none⟩)]), p0t, (0, 0)⟩ :: (p0B0 ++ (p0B1 ++ (⟨p0_4b, [.int .u64 p0_4.first_, .slice p0_4a0 p0_4n0 p0_4c0, .int .u8 p0_4.last], p0_4t, (0, 0)⟩ :: (p0_4B0 ++ (⟨p0_5b, ([.int .i64 p0_5.size] ++ flat cg_T_ring_place p0_5g0), p0_5t, (0, 0)⟩ :: (p0_5P0 ++ []))))))) (fun w => Rds w (ids (⟨p0b, (.int .u8 p0.player :: .int .i64 p0.window :: st19 p0.sure p0a0 p0n0 p0c0 [.slice p0a1 p0n1 p0c1, .pointer (some ⟨p0_4b, 0, none⟩), .pointer (some ⟨p0_5b, 0, none⟩)]), p0t, (0, 0)⟩ :: (p0B0 ++ (p0B1 ++ (⟨p0_4b, [.int .u64 p0_4.first_, .slice p0_4a0 p0_4n0 p0_4c0, .int .u8 p0_4.last], p0_4t, (0, 0)⟩ :: (p0_4B0 ++ (⟨p0_5b, ([.int .i64 p0_5.size] ++ flat cg_T_ring_place p0_5g0), p0_5t, (0, 0)⟩ :: (p0_5P0 ++ [])))))))) [] (some ⟨0, 0, none⟩) (flat (fun _ : Unit => gl_state_playerBounds) [()]) ∧ Rds w (ids (⟨p0b, (.int .u8 p0.player :: .int .i64 p0.window :: st19 p0.sure p0a0 p0n0 p0c0 [.slice p0a1 p0n1 p0c1, .pointer (some ⟨p0_4b, 0, none⟩), .pointer (some ⟨p0_5b, 0, none⟩)]), p0t, (0, 0)⟩ :: (p0B0 ++ (p0B1 ++ (⟨p0_4b, [.int .u64 p0_4.first_, .slice p0_4a0 p0_4n0 p0_4c0, .int .u8 p0_4.last], p0_4t, (0, 0)⟩ :: (p0_4B0 ++ (⟨p0_5b, ([.int .i64 p0_5.size] ++ flat cg_T_ring_place p0_5g0), p0_5t, (0, 0)⟩ :: (p0_5P0 ++ [])))))))) [] (some ⟨1, 0, none⟩) (flat (fun _ : Unit => gl_state_shotBounds) [()])) (fun v D => ∃ (r0g0 : List (T_ring_place × G)) (r0P0 : List Blk) (r1a0 : Option Addr) (r1n0 r1c0 : Nat) (r1B0 : List Blk), r0.places.1 = unG r0g0 ∧ AllP sh_T_ring_place c_T_api_Shot r0P0 r0g0 ∧ r1n0 = r1.Shots.length ∧ Own 93 6 r1a0 r1n0 r1c0 (flat c_T_api_Shot r1.Shots) r1B0 ∧ v = agS r1 r1a0 r1n0 r1c0 ∧ D = fun F => (⟨p0b, (.int .u8 p0.player :: .int .i64 p0.window :: st19 p0.sure p0a0 p0n0 p0c0 [.slice p0a1 p0n1 p0c1, .pointer (some ⟨p0_4b, 0, none⟩), .pointer (some ⟨p0_5b, 0, none⟩)]), p0t, (0, 0)⟩ :: (p0B0 ++ (p0B1 ++ (⟨p0_4b, [.int .u64 p0_4.first_, .slice p0_4a0 p0_4n0 p0_4c0, .int .u8 p0_4.last], p0_4t, (0, 0)⟩ :: (p0_4B0 ++ (⟨p0_5b, ([.int .i64 r0.size] ++ flat cg_T_ring_place r0g0), p0_5t, (0, 0)⟩ :: (r0P0 ++ (r1B0 ++ F))))))))) := by
 unfold m_rollback_Engine_Shown at h
 refine sp_of_wc Tryz.func16 rfl Tryz.ntmps16 rfl rfl (fun w0 hR => ?_)
 obtain ⟨G0S, G1S⟩ := hR
 refine wSR (wl_alloc tt_ok rfl rfl (fun b2 => (wNT (wc_seq (wSR (wP rfl rfl ?_))))))
 obtain ⟨v7, x7, h⟩ := bsome h
 refine wl_cq Tryz.call26 rfl rfl rfl (q_rd (k_rollback_Engine_is (p0 := p0) (p0_4 := p0_4) (p0_5 := p0_5) p0N0 p0V0 p0N1 p0V1 p0_4N0 p0_4V0 p0_5G0 p0_5A0 x7) (pS (qS (qS (pS (qS (pS (qS pNil))))))) (fun _ _ => trivial)) rfl ?_
 refine wP (v := .bool (!v7)) rfl rfl (wNT (wc_cond rfl (fun hc => ?_) (fun hc => ?_)))
 ·replace h := ct hc h
  refine wSR (wP (v := .agg #[.int .u64 (0 : Int), .int .u64 (0 : Int), .int .i32 (0 : Int), .int .i32 (0 : Int), .int .i32 (0 : Int), .int .i32 (0 : Int), .int .u8 (0 : Int), .int .u8 (0 : Int), .int .u8 (0 : Int), .int .i32 (0 : Int), .int .i32 (0 : Int), .int .i32 (0 : Int), .int .i32 (0 : Int), .int .u8 (0 : Int), .int .u8 (0 : Int), .int .u8 (0 : Int), .slice none 0 0, .int .u16 (0 : Int), .int .u16 (0 : Int)]) rfl rfl ?_)
  apply wl_store tt_ok; rfl; exact Upd.here; rfl; rfl; rfl; rfl; rfl; rfl
  refine wNT (wc_ret (wx_then_ret ?_))
  obtain ⟨rfl, rfl⟩ := pJ2 h
  exact wx_spD tt_ok (.inl rfl) Tryz.results16 (Res.cell rfl mH rfl Res.nil) ⟨p0_5g0, p0_5P0, none, 0, 0, [], p0_5G0, p0_5A0, rfl, Own.zero, rfl, rfl⟩ (fun F => by simp) (pSub (pS (qS (qS (pS (qS (pS (qS (pNo pNil)))))))))
 replace h := cf hc h
 refine wc_skip (wx_then (wSR ?_))
 iterate 2 refine wP rfl rfl ?_
 refine wP (v := .pointer (some ⟨p0b, 23, none⟩)) rfl rfl (wl_val (v := .pointer (some ⟨p0_5b, 0, none⟩)) (val_load tt_ok rfl (mT mH) rfl) rfl ?_)
 replace h := bsome h; obtain ⟨⟨zf, zbb⟩, x15, h⟩ := h; try dsimp only at h
 refine wl_cs Tryz.call48 rfl rfl rfl (s_sp (k_ring_Ring_Newest (p0 := p0_5) p0_5G0 p0_5A0 x15) (pCons (sCC (sAA (sCA hC))) (pApp (sCC (sAA (sCA hA'))) pNil)) (fun _ _ => trivial)) rfl ?_
 rintro _ _ ⟨_, ⟨zaj, zal, zak, zba, zat, zz, rfl, rfl⟩, rfl⟩
 iterate 3 refine wP rfl rfl ?_
 refine wl_alloc tt_ok rfl rfl (fun b3 => ?_)
 apply wl_store tt_ok; rfl; exact Upd.here; rfl; rfl; rfl; rfl; rfl; rfl
 refine wP rfl rfl (wNT (wSR (wP rfl rfl (wl_val (v := agS zf zaj zal zak) (val_load tt_ok rfl mH rfl) rfl ?_))))
 refine wl_inl Tryz.call49 rfl rfl rfl Tryz.func49 rfl Tryz.ntmps49 rfl rfl rfl ?_
 refine wSR (wl_box rfl rfl rfl (fun b100002 => (wl_box rfl rfl rfl (fun b100003 => (wP rfl rfl (wNT (wSR ?_)))))))
 iterate 2 refine wP rfl rfl ?_
 refine wNT (wc_ret (wx_inl (v := .func (.func 80) #[] #[.pointer (some ⟨b100003, 0, none⟩), .pointer (some ⟨b100002, 0, none⟩)]) tt_ok (.inl rfl) Tryz.results49 (Res.tmp rfl Res.nil) rfl (wP rfl rfl (wNT (wc_seq (wc_block ?_))))))
 replace h := bsome h; obtain ⟨⟨zan, zao, zau, zav, zaw, zax, zay, zae, zaf, zag, zah, zai⟩, h, hl17⟩ := h; try dsimp only at hl17
 refine wc_loop (fun m E L => ∃ (zn : Int) (zc : (Arr T_ring_place 14)) (zr : Int) (zw : Int) (ze : (T_api_Player × T_api_Player)) (zb : (List T_api_Shot)) (zl : (Int × Int)) (zh : Int) (zp : Int) (zd : (T_api_Player × T_api_Player)) (za : (List T_api_Shot)) (zg : (Int × Int)) (zm : List (T_ring_place × G)) (zq : List Blk) (zu : Option Addr) (zs zv : Nat) (zt : List Blk) (zi : Option Addr) (zk zj : Nat), m_rollback_Engine_Shown_L16 F p0 p0_4 m zn zc zr zw ze zb zl zh zp zd za zg = some (zan, zao, zau, zav, zaw, zax, zay, zae, zaf, zag, zah, zai) ∧ zc.1 = unG zm ∧ AllP sh_T_ring_place c_T_api_Shot zq zm ∧ zs = zb.length ∧ Own 93 6 zu zs zv (flat c_T_api_Shot zb) zt ∧ zk = za.length ∧ zk ≤ zj ∧ Rds w0 (ids (⟨p0b, (.int .u8 p0.player :: .int .i64 p0.window :: st19 p0.sure p0a0 p0n0 p0c0 [.slice p0a1 p0n1 p0c1, .pointer (some ⟨p0_4b, 0, none⟩), .pointer (some ⟨p0_5b, 0, none⟩)]), p0t, (0, 0)⟩ :: (p0B0 ++ (p0B1 ++ (⟨p0_4b, [.int .u64 p0_4.first_, .slice p0_4a0 p0_4n0 p0_4c0, .int .u8 p0_4.last], p0_4t, (0, 0)⟩ :: (p0_4B0 ++ (⟨p0_5b, ([.int .i64 p0_5.size] ++ flat cg_T_ring_place p0_5g0), p0_5t, (0, 0)⟩ :: (p0_5P0 ++ [])))))))) zt zi (flat c_T_api_Shot za) ∧ (zi = none → zj = 0) ∧ E = [(0, .pointer (some ⟨p0b, 0, none⟩)), (2, .pointer (some ⟨b2, 0, none⟩)), (3, .pointer (some ⟨b3, 0, none⟩)), (5, .func (.func 80) #[] #[.pointer (some ⟨b100003, 0, none⟩), .pointer (some ⟨b100002, 0, none⟩)])] ∧ L = (⟨p0b, (.int .u8 p0.player :: .int .i64 p0.window :: st19 p0.sure p0a0 p0n0 p0c0 [.slice p0a1 p0n1 p0c1, .pointer (some ⟨p0_4b, 0, none⟩), .pointer (some ⟨p0_5b, 0, none⟩)]), p0t, (0, 0)⟩ :: (⟨p0_4b, [.int .u64 p0_4.first_, .slice p0_4a0 p0_4n0 p0_4c0, .int .u8 p0_4.last], p0_4t, (0, 0)⟩ :: (⟨p0_5b, ([.int .i64 zn] ++ flat cg_T_ring_place zm), p0_5t, (0, 0)⟩ :: (⟨b2, [.int .u64 (0 : Int), .int .u64 (0 : Int), .int .i32 (0 : Int), .int .i32 (0 : Int), .int .i32 (0 : Int), .int .i32 (0 : Int), .int .u8 (0 : Int), .int .u8 (0 : Int), .int .u8 (0 : Int), .int .i32 (0 : Int), .int .i32 (0 : Int), .int .i32 (0 : Int), .int .i32 (0 : Int), .int .u8 (0 : Int), .int .u8 (0 : Int), .int .u8 (0 : Int), .slice none 0 0, .int .u16 (0 : Int), .int .u16 (0 : Int)], 30, (0, 0)⟩ :: (⟨b3, (.int .u64 zr :: .int .u64 zw :: pl14 ze [.slice zu zs zv, .int .u16 zl.1, .int .u16 zl.2]), 30, (0, 0)⟩ :: (⟨b100003, (.int .u64 zh :: .int .u64 zp :: pl14 zd [.slice zi zk zj, .int .u16 zg.1, .int .u16 zg.2]), 30, (0, 0)⟩ :: (⟨b100002, [.pointer (some ⟨p0b, 0, none⟩)], 35, (0, 0)⟩ :: (p0B0 ++ (p0B1 ++ (p0_4B0 ++ (zq ++ (zt ++ []))))))))))))) F ⟨p0_5.size, p0_5.places, zf.Frame, zf.Seed, zf.Players, zf.Shots, zf.Score, zf.Frame, zf.Seed, zf.Players, zf.Shots, zf.Score, p0_5g0, p0_5P0, zaj, zal, zak, zba, zaj, zal, zak, h, p0_5G0, p0_5A0, zat, zz, zat, (vec_cap zz), (Rds.of_vec zz), (own_Z zz), rfl, rfl⟩ (agree_cons rfl (agree_cons rfl (agree_cons rfl (agree_cons rfl agree_nil)))) (pSub (pCons (sCC (sCC (sAA (sC hC)))) (pCons (sCC (sCC (sAA (sC (sAA hC))))) (pCons (sCC (sC hC)) (pCons (sCC (sC (sAA hC))) (pCons (sCC hC) (pHH (pApp (sAA hA') (pApp (sAA hA') (pApp (sAA hA') (pAA pNil))))))))))) ?_
 clear h
 rintro m17 _ _ ⟨zn, zc, zr, zw, ze, zb, zl, zh, zp, zd, za, zg, zm, zq, zu, zs, zv, zt, zi, zk, zj, h, zy, zx, zam, zaa, zac, zab, zad, zaz, rfl, rfl⟩
 rcases m17 with _ | m17
 ·rw [m_rollback_Engine_Shown_L16.eq_1] at h; cases h
 rw [m_rollback_Engine_Shown_L16.eq_2] at h
 refine wc_seq (wc_seq (wc_quiet (by kernel_rfl) (by kernel_rfl) (qP (v := .pointer (some ⟨b3, 0, none⟩)) rfl rfl (wq_val (v := .int .u64 zr) (val_load tt_ok rfl (mTT (mTT mH)) rfl) rfl (qP rfl rfl ?_)))))
 obtain ⟨v24, x24, h⟩ := bsome h
 refine wq_cq Tryz.call18 rfl rfl rfl (q_rd (k_rollback_Engine_T (p0 := p0) (p0_4 := p0_4) (p0_5 := (T_ring_Ring.mk zn zc)) p0N0 p0V0 p0N1 p0V1 p0_4N0 p0_4V0 zy zx x24) (pH (pApp (sCC (sCC (sCC hA'))) (pApp (sCC (sCC (sCC hA'))) (pH (pApp (sCC (sCC (sC hA'))) (pH (pApp (sCC (sCC hA')) pNil))))))) (fun _ _ => trivial)) rfl ?_
 refine qP (v := .bool (decide (zr < v24))) rfl rfl (wq_nil (wx_then (wc_cond rfl (fun hc => ?_) (fun hc => ?_))))
 ·replace h := ct hc h
  refine wc_skip (wx_then (wc_block (wc_region (wP rfl rfl (wl_inl Tryz.call80 rfl rfl rfl Tryz.func80 rfl Tryz.ntmps80 rfl rfl rfl (wSR (wl_alloc tt_ok rfl rfl (fun b200002 => (wNT (wc_seq (wc_k2 (Ls := (⟨b200002, [.int .u64 (0 : Int), .int .u64 (0 : Int), .int .i32 (0 : Int), .int .i32 (0 : Int), .int .i32 (0 : Int), .int .i32 (0 : Int), .int .u8 (0 : Int), .int .u8 (0 : Int), .int .u8 (0 : Int), .int .i32 (0 : Int), .int .i32 (0 : Int), .int .i32 (0 : Int), .int .i32 (0 : Int), .int .u8 (0 : Int), .int .u8 (0 : Int), .int .u8 (0 : Int), .slice none 0 0, .int .u16 (0 : Int), .int .u16 (0 : Int)], 30, (0, 0)⟩ :: (⟨p0b, (.int .u8 p0.player :: .int .i64 p0.window :: st19 p0.sure p0a0 p0n0 p0c0 [.slice p0a1 p0n1 p0c1, .pointer (some ⟨p0_4b, 0, none⟩), .pointer (some ⟨p0_5b, 0, none⟩)]), p0t, (0, 0)⟩ :: (⟨p0_4b, [.int .u64 p0_4.first_, .slice p0_4a0 p0_4n0 p0_4c0, .int .u8 p0_4.last], p0_4t, (0, 0)⟩ :: (⟨p0_5b, ([.int .i64 zn] ++ flat cg_T_ring_place zm), p0_5t, (0, 0)⟩ :: (⟨b2, [.int .u64 (0 : Int), .int .u64 (0 : Int), .int .i32 (0 : Int), .int .i32 (0 : Int), .int .i32 (0 : Int), .int .i32 (0 : Int), .int .u8 (0 : Int), .int .u8 (0 : Int), .int .u8 (0 : Int), .int .i32 (0 : Int), .int .i32 (0 : Int), .int .i32 (0 : Int), .int .i32 (0 : Int), .int .u8 (0 : Int), .int .u8 (0 : Int), .int .u8 (0 : Int), .slice none 0 0, .int .u16 (0 : Int), .int .u16 (0 : Int)], 30, (0, 0)⟩ :: (⟨b3, (.int .u64 zr :: .int .u64 zw :: pl14 ze [.slice zu zs zv, .int .u16 zl.1, .int .u16 zl.2]), 30, (0, 0)⟩ :: (⟨b100003, (.int .u64 zh :: .int .u64 zp :: pl14 zd [.slice zi zk zj, .int .u16 zg.1, .int .u16 zg.2]), 30, (0, 0)⟩ :: (⟨b100002, [.pointer (some ⟨p0b, 0, none⟩)], 35, (0, 0)⟩ :: (p0B0 ++ (p0B1 ++ (p0_4B0 ++ (zq ++ (zt ++ [])))))))))))))) [4, 5, 6] [5, 6] [0, 0, 0, 4, 14, 31, 63] [0, 1, 2, 3, 4, 5, 6] (by kernel_rfl) (by kernel_rfl) (by kernel_rfl) ?_)))))))))))
  refine k_val (v := .agg #[.int .u64 zh, .int .u64 zp, .int .i32 zd.1.X, .int .i32 zd.1.Y, .int .i32 zd.1.VX, .int .i32 zd.1.VY, .int .u8 zd.1.Health, .int .u8 zd.1.Cool, .int .u8 zd.1.Face, .int .i32 zd.2.X, .int .i32 zd.2.Y, .int .i32 zd.2.VX, .int .i32 zd.2.VY, .int .u8 zd.2.Health, .int .u8 zd.2.Cool, .int .u8 zd.2.Face, .slice zi zk zj, .int .u16 zg.1, .int .u16 zg.2]) rfl rfl rfl (pSub (pH4 (pH4 (pAA (pAA (pA pNil)))))) (val_load tt_ok rfl (mTT (mTT (mTT mH))) rfl) rfl ?_
  refine k_val (v := .pointer (some ⟨p0b, 0, none⟩)) rfl rfl rfl (pSub (pH4 (pH4 (pAA (pAA (pA pNil)))))) (val_load tt_ok rfl (mTT (mTT (mTT (mT mH)))) rfl) rfl (k_val (v := .pointer (some ⟨b100003, 0, none⟩)) rfl rfl rfl (pSub (pH4 (pH4 (pAA (pAA (pA pNil)))))) (sV rfl) rfl ?_)
  refine k_val (v := .int .u64 zh) rfl rfl rfl (pSub (pH4 (pH4 (pAA (pAA (pA pNil)))))) (val_load tt_ok rfl (mTT (mTT (mTT mH))) rfl) rfl ?_
  obtain ⟨v200007, x200007, h⟩ := bsome h
  refine k_cq rfl rfl rfl Tryz.call63 rfl rfl rfl (q_rd (k_rollback_Engine_pair (p0 := p0) (p0_4 := p0_4) (p0_5 := (T_ring_Ring.mk zn zc)) p0N0 p0V0 p0N1 p0V1 p0_4N0 p0_4V0 zy zx x200007) (pS (pApp (sCC (sCC (sCC (sC hA')))) (pApp (sCC (sCC (sCC (sC hA')))) (pS (pApp (sCC (sCC (sCC hA'))) (pS (pApp (sCC (sCC (sC hA'))) pNil))))))) (fun _ _ => trivial)) rfl (pSub (pH4 (pH4 (pAA (pAA (pA pNil)))))) ?_
  obtain ⟨v200008, x200008, h⟩ := bsome h
  refine k_cs rfl rfl rfl Tryz.call34 rfl rfl rfl (s_sp (k_step_Step (p0 := (T_api_State.mk zh zp zd za zg)) zac zab x200008) pNil (fun w hI => ⟨(Rds.call zad pNil ⟨_, (sCC (sCC (sCC (sCC (sAA (sAA hA'))))))⟩) w hI, (Rds.call G0S pNil rsub_nil) w hI, (Rds.call G1S pNil rsub_nil) w hI⟩)) rfl (.inl rfl) ?_
  rintro _ _ ⟨_, ⟨v200008a0, v200008n0, v200008c0, v200008B0, v200008N0, v200008V0, rfl, rfl⟩, rfl⟩
  refine k_chg0 rfl rfl rfl (chg_store tt_ok rfl (Upd.right (Upd.there (Upd.there (Upd.there (Upd.there (Upd.there (Upd.there Upd.here))))))) rfl rfl rfl rfl rfl rfl) (.inl rfl) ?_
  rintro _ _ rfl
  refine k_end (by kernel_rfl) ?_
  refine wx_then (wc_seq (wc_k2 (Ls := (v200008B0 ++ (⟨b200002, [.int .u64 (0 : Int), .int .u64 (0 : Int), .int .i32 (0 : Int), .int .i32 (0 : Int), .int .i32 (0 : Int), .int .i32 (0 : Int), .int .u8 (0 : Int), .int .u8 (0 : Int), .int .u8 (0 : Int), .int .i32 (0 : Int), .int .i32 (0 : Int), .int .i32 (0 : Int), .int .i32 (0 : Int), .int .u8 (0 : Int), .int .u8 (0 : Int), .int .u8 (0 : Int), .slice none 0 0, .int .u16 (0 : Int), .int .u16 (0 : Int)], 30, (0, 0)⟩ :: (⟨p0b, (.int .u8 p0.player :: .int .i64 p0.window :: st19 p0.sure p0a0 p0n0 p0c0 [.slice p0a1 p0n1 p0c1, .pointer (some ⟨p0_4b, 0, none⟩), .pointer (some ⟨p0_5b, 0, none⟩)]), p0t, (0, 0)⟩ :: (⟨p0_4b, [.int .u64 p0_4.first_, .slice p0_4a0 p0_4n0 p0_4c0, .int .u8 p0_4.last], p0_4t, (0, 0)⟩ :: (⟨p0_5b, ([.int .i64 zn] ++ flat cg_T_ring_place zm), p0_5t, (0, 0)⟩ :: (⟨b2, [.int .u64 (0 : Int), .int .u64 (0 : Int), .int .i32 (0 : Int), .int .i32 (0 : Int), .int .i32 (0 : Int), .int .i32 (0 : Int), .int .u8 (0 : Int), .int .u8 (0 : Int), .int .u8 (0 : Int), .int .i32 (0 : Int), .int .i32 (0 : Int), .int .i32 (0 : Int), .int .i32 (0 : Int), .int .u8 (0 : Int), .int .u8 (0 : Int), .int .u8 (0 : Int), .slice none 0 0, .int .u16 (0 : Int), .int .u16 (0 : Int)], 30, (0, 0)⟩ :: (⟨b3, (.int .u64 zr :: .int .u64 zw :: pl14 ze [.slice zu zs zv, .int .u16 zl.1, .int .u16 zl.2]), 30, (0, 0)⟩ :: (⟨b100003, (st19 v200008 v200008a0 v200008n0 v200008c0 []), 30, (0, 0)⟩ :: (⟨b100002, [.pointer (some ⟨p0b, 0, none⟩)], 35, (0, 0)⟩ :: (p0B0 ++ (p0B1 ++ (p0_4B0 ++ (zq ++ (zt ++ []))))))))))))))) [5] [5] [0, 1, 3, 7, 0, 31] [0, 1, 2, 3, 4, 5] (by kernel_rfl) (by kernel_rfl) (by kernel_rfl) ?_))
  refine k_val (v := .pointer (some ⟨p0b, 0, none⟩)) rfl rfl rfl (pSub (pA (pH4 (pH4 (pAA (pAA (pA pNil))))))) (val_load tt_ok rfl (mR (mTT (mTT (mTT (mT mH))))) rfl) rfl (k_val rfl rfl rfl (pSub (pA (pH4 (pH4 (pAA (pAA (pA pNil))))))) (sV rfl) rfl ?_)
  refine k_val (v := .pointer (some ⟨p0b, 23, none⟩)) rfl rfl rfl (pSub (pA (pH4 (pH4 (pAA (pAA (pA pNil))))))) (sV rfl) rfl (k_val (v := .pointer (some ⟨p0_5b, 0, none⟩)) rfl rfl rfl (pSub (pA (pH4 (pH4 (pAA (pAA (pA pNil))))))) (val_load tt_ok rfl (mR (mT mH)) rfl) rfl (k_val (v := agS v200008 v200008a0 v200008n0 v200008c0) rfl rfl rfl (pSub (pA (pH4 (pH4 (pAA (pAA (pA pNil))))))) (val_load tt_ok rfl (mR (mTT (mTT (mTT mH)))) rfl) rfl ?_))
  replace h := bsome h; obtain ⟨⟨zo, v200014⟩, x200014, h⟩ := h; try dsimp only at h
  refine k_cs rfl rfl rfl Tryz.call23 rfl rfl rfl (s_sp (k_ring_Ring_Put (p0 := (T_ring_Ring.mk zn zc)) (p1 := v200008) zy zx v200008N0 (vec_cap v200008V0) (own_Z v200008V0) x200014) (pCons (sA (sCC (sC hC))) (pApp (sA (sCC (sCC (sCC (sC (sAA (sA hA'))))))) pNil)) (fun w hI => ⟨(Rds.call (Rds.of_vec v200008V0) (pCons (sA (sCC (sC hC))) (pApp (sA (sCC (sCC (sCC (sC (sAA (sA hA'))))))) pNil)) ⟨_, hA'⟩) w hI, (Rds.call G0S (pCons (sA (sCC (sC hC))) (pApp (sA (sCC (sCC (sCC (sC (sAA (sA hA'))))))) pNil)) rsub_nil) w hI, (Rds.call G1S (pCons (sA (sCC (sC hC))) (pApp (sA (sCC (sCC (sCC (sC (sAA (sA hA'))))))) pNil)) rsub_nil) w hI⟩)) rfl (.inl rfl) ?_
  rintro _ _ ⟨_, ⟨zas, zar, zaq, zap, rfl, rfl⟩, rfl⟩
  refine k_end (by kernel_rfl) ?_
  refine wx_then (wSR (wl_val (v := agS v200008 v200008a0 v200008n0 v200008c0) (val_load tt_ok rfl (mT (mR (mR (mTT (mTT (mT mH)))))) rfl) rfl ?_))
  apply wl_store tt_ok; rfl; exact (Upd.there (Upd.right (Upd.right Upd.here))); rfl; rfl; rfl; rfl; rfl; rfl
  refine wNT (wc_ret (wx_inl (v := agS v200008 v200008a0 v200008n0 v200008c0) tt_ok (.inl rfl) Tryz.results80 (Res.cell rfl (mT (mR (mR mH))) rfl Res.nil) rfl ?_))
  apply wl_store tt_ok; rfl; exact (Upd.there (Upd.right (Upd.right (Upd.there (Upd.there (Upd.there (Upd.there Upd.here))))))); rfl; rfl; rfl; rfl; rfl; rfl
  refine wl_nil (wx_block ?_)
  exact wx_round m17 (Nat.lt_succ_self m17) ⟨zo.size, zo.places, v200008.Frame, v200008.Seed, v200008.Players, v200008.Shots, v200008.Score, v200008.Frame, v200008.Seed, v200008.Players, v200008.Shots, v200008.Score, zas, zar, v200008a0, v200008n0, v200008c0, v200008B0, v200008a0, v200008n0, v200008c0, h, zaq, zap, v200008N0, v200008V0, v200008N0, (vec_cap v200008V0), (Rds.of_vec v200008V0), (own_Z v200008V0), rfl, rfl⟩ (agree_cons rfl (agree_cons rfl (agree_cons rfl (agree_cons rfl agree_nil)))) (pSub (pCons (sC (sAA (sC hC))) (pCons (sC (sAA (sC hC))) (pH (pCons (sAA (sC hC)) (pCons (sAA (sC hC)) (pCons (sAA (sC hC)) (pCons (sAA (sC hC)) (pApp (sAA (sC hA')) (pApp (sAA (sC hA')) (pApp (sAA (sC hA')) (pAA pNil))))))))))))
 replace h := cf hc h
 refine wc_exit (wx_then_exit ?_)
 simp only [Option.some.injEq, Prod.mk.injEq] at h
 obtain ⟨rfl, rfl, rfl, rfl, rfl, rfl, rfl, rfl, rfl, rfl, rfl, rfl⟩ := h
 have h := hl17; clear hl17; try dsimp only [orE_l, orE_r] at h
 refine wx_then_exit (wx_block_exit (wx_then (wSR ?_)))
 refine wl_val (v := .agg #[.int .u64 zr, .int .u64 zw, .int .i32 ze.1.X, .int .i32 ze.1.Y, .int .i32 ze.1.VX, .int .i32 ze.1.VY, .int .u8 ze.1.Health, .int .u8 ze.1.Cool, .int .u8 ze.1.Face, .int .i32 ze.2.X, .int .i32 ze.2.Y, .int .i32 ze.2.VX, .int .i32 ze.2.VY, .int .u8 ze.2.Health, .int .u8 ze.2.Cool, .int .u8 ze.2.Face, .slice zu zs zv, .int .u16 zl.1, .int .u16 zl.2]) (val_load tt_ok rfl (mTT (mTT mH)) rfl) rfl ?_
 obtain ⟨v29, x29, h⟩ := bsome h
 refine wl_cs Tryz.call20 rfl rfl rfl (s_sp (k_state_Copy (p0 := (T_api_State.mk zr zw ze zb zl)) zam (vec_cap zaa) x29) pNil (Rds.call (Rds.of_vec zaa) pNil ⟨_, (sCC (sCC (sCC (sC (sAA (sAA hA'))))))⟩)) rfl ?_
 rintro _ _ ⟨_, ⟨v29a0, v29n0, v29c0, v29B0, v29N0, v29V0, rfl, rfl⟩, rfl⟩
 apply wl_store tt_ok; rfl; exact (Upd.right (Upd.there (Upd.there (Upd.there Upd.here)))); rfl; rfl; rfl; rfl; rfl; rfl
 refine wNT (wc_ret ?_)
 obtain ⟨rfl, rfl⟩ := pJ2 h
 exact wx_spD tt_ok (.inl rfl) Tryz.results16 (Res.cell rfl (mR (mTT (mT mH))) rfl Res.nil) ⟨zm, zq, v29a0, v29n0, v29c0, v29B0, zy, zx, v29N0, v29V0, rfl, rfl⟩ (fun F => by simp) (pSub (pCons (sA hC) (pApp (sA (sCC (sCC (sCC hA')))) (pApp (sA (sCC (sCC (sCC hA')))) (pCons (sA hC) (pApp (sA (sCC (sCC (sC hA')))) (pCons (sA hC) (pApp (sA (sCC (sCC hA'))) (pA pNil)))))))))

theorem k_queue_Queue_Add {F : Nat} {p0 : T_queue_Queue} {p0b p0t : Nat} {p0a0 : Option Addr} {p0n0 p0c0 : Nat} {p0B0 : List Blk} {p1 : Int} {p2 : Int} {r0 : T_queue_Queue} {r1 : Int} (p0N0 : p0n0 = p0.l.length) (p0V0 : Own 40 1 p0a0 p0n0 p0c0 (flat (e1 .u8) p0.l) p0B0) (h : m_queue_Queue_Add F p0 p1 p2 = some (r0, r1)) :
    SpD Tryz.prog 30 [.pointer (some ⟨p0b, 0, none⟩), .int .u64 p1, .int .u8 p2] (⟨p0b, [.int .u64 p0.first_, .slice p0a0 p0n0 p0c0, .int .u8 p0.last], p0t, (0, 0)⟩ :: (p0B0 ++ [])) (fun w => True) (fun v D => ∃ (r0a0 : Option Addr) (r0n0 r0c0 : Nat) (r0B0 : List Blk), r0n0 = r0.l.length ∧ Own 40 1 r0a0 r0n0 r0c0 (flat (e1 .u8) r0.l) r0B0 ∧ v = .int .i64 r1 ∧ D = fun F => (⟨p0b, [.int .u64 r0.first_, .slice r0a0 r0n0 r0c0, .int .u8 r0.last], p0t, (0, 0)⟩ :: (r0B0 ++ F))) := by
 unfold m_queue_Queue_Add at h
 refine sp_of_wc Tryz.func30 rfl Tryz.ntmps30 rfl rfl (fun w0 hR => ?_)
 refine wSR (wP rfl rfl (wNT (wc_seq (wc_block (wSR (wP rfl rfl (wP (v := .bool false) rfl rfl (wP rfl rfl (wNT (wc_cond_false rfl (wSR (wP rfl rfl ?_))))))))))))
 obtain ⟨v14, x14, h⟩ := bsome h
 refine wl_cq Tryz.call27 rfl rfl rfl (q_pf (k_input_Legal x14) (fun _ _ => trivial)) rfl ?_
 refine wP (v := .bool (!v14)) rfl rfl (wP rfl rfl (wNT (wc_cond rfl (fun hc => ?_) (fun hc => ?_))))
 ·replace h := ct hc h
  refine wSR (wP rfl rfl (wNT (wc_ret (wx_block_ret (wx_then_ret ?_)))))
  obtain ⟨rfl, rfl⟩ := pJ2 h
  exact wx_spD tt_ok (.inl rfl) Tryz.results30 (Res.tmp rfl Res.nil) ⟨p0a0, p0n0, p0c0, p0B0, p0N0, p0V0, rfl, rfl⟩ (fun F => by simp) (pSub (pH (pA pNil)))
 replace h := cf hc h
 refine wSR ?_
 iterate 3 refine wP rfl rfl ?_
 refine wP (v := .pointer (some ⟨p0b, 0, none⟩)) rfl rfl (wl_val (v := .int .u64 p0.first_) (val_load tt_ok rfl mH rfl) rfl (wP (v := .bool (decide (p1 < p0.first_))) rfl rfl (wP rfl rfl (wNT (wc_cond rfl (fun hc => ?_) (fun hc => ?_))))))
 ·replace h := ct hc h
  refine wSR (wP rfl rfl (wNT (wc_ret (wx_block_ret (wx_then_ret ?_)))))
  obtain ⟨rfl, rfl⟩ := pJ2 h
  exact wx_spD tt_ok (.inl rfl) Tryz.results30 (Res.tmp rfl Res.nil) ⟨p0a0, p0n0, p0c0, p0B0, p0N0, p0V0, rfl, rfl⟩ (fun F => by simp) (pSub (pH (pA pNil)))
 replace h := cf hc h
 refine wc_skip (wx_block (wx_then (wc_seq (wSR ?_))))
 iterate 2 refine wP rfl rfl ?_
 replace h := bsome h; obtain ⟨⟨za, zb⟩, x26, h⟩ := h; try dsimp only at h
 refine wl_cq Tryz.call61 rfl rfl rfl (q_rd (k_queue_Queue_At (p0 := p0) p0N0 p0V0 x26) (pH (pA pNil)) (fun _ _ => trivial)) rfl ?_
 iterate 5 refine wP rfl rfl ?_
 refine wNT (wc_block (wSR ?_))
 iterate 2 refine wP rfl rfl ?_
 obtain ⟨v35, h, hg35⟩ := bsome h
 refine wl_split (t := 31) rfl (fun hc => ?_) (fun hc => ?_)
 ·replace h := ct hc h
  refine wl_run rfl (wP rfl rfl (wl_run rfl (wP rfl rfl (wl_run rfl (wP (v := .bool (za != p2)) rfl rfl ?_)))))
  obtain rfl := sI h
  have h := hg35; clear hg35
  refine wP (v := .bool (za != p2)) rfl rfl (wP rfl rfl (wNT (wc_cond rfl (fun hc => ?_) (fun hc => ?_))))
  ·replace h := ct hc h
   refine wSR (wP rfl rfl (wNT (wc_ret (wx_block_ret (wx_then_ret ?_)))))
   obtain ⟨rfl, rfl⟩ := pJ2 h
   exact wx_spD tt_ok (.inl rfl) Tryz.results30 (Res.tmp rfl Res.nil) ⟨p0a0, p0n0, p0c0, p0B0, p0N0, p0V0, rfl, rfl⟩ (fun F => by simp) (pSub (pH (pA pNil)))
  replace h := cf hc h
  refine wSR ?_
  iterate 2 refine wP rfl rfl ?_
  refine wNT (wc_cond rfl (fun hc => ?_) (fun hc => ?_))
  ·replace h := ct hc h
   refine wSR (wP rfl rfl (wNT (wc_ret (wx_block_ret (wx_then_ret ?_)))))
   obtain ⟨rfl, rfl⟩ := pJ2 h
   exact wx_spD tt_ok (.inl rfl) Tryz.results30 (Res.tmp rfl Res.nil) ⟨p0a0, p0n0, p0c0, p0B0, p0N0, p0V0, rfl, rfl⟩ (fun F => by simp) (pSub (pH (pA pNil)))
  replace h := cf hc h
  refine wSR ?_
  iterate 2 refine wP rfl rfl ?_
  obtain ⟨v41, x41, h⟩ := bsome h
  refine wl_cq Tryz.call28 rfl rfl rfl (q_rd (k_queue_Queue_Known (p0 := p0) p0N0 p0V0 x41) (pH (pA pNil)) (fun _ _ => trivial)) rfl ?_
  refine wP (v := .bool (decide (v41 < p1))) rfl rfl (wP rfl rfl ?_)
  obtain ⟨v46, h, hg46⟩ := bsome h
  refine wl_split (t := 43) rfl (fun hc => ?_) (fun hc => ?_)
  ·replace h := ct hc h
   iterate 2 refine wl_skip rfl rfl ?_
   obtain rfl := sI h
   have h := hg46; clear hg46
   refine wP (v := .bool true) rfl rfl (wP rfl rfl (wNT ?_))
   replace h := ct rfl h
   refine wc_cond_true rfl ?_
   refine wSR (wP rfl rfl (wNT (wc_ret (wx_block_ret (wx_then_ret ?_)))))
   obtain ⟨rfl, rfl⟩ := pJ2 h
   exact wx_spD tt_ok (.inl rfl) Tryz.results30 (Res.tmp rfl Res.nil) ⟨p0a0, p0n0, p0c0, p0B0, p0N0, p0V0, rfl, rfl⟩ (fun F => by simp) (pSub (pH (pA pNil)))
  replace h := cf hc h
  refine wl_run rfl (wP rfl rfl (wl_run rfl (wP (v := .bool (p1 == (18446744073709551615 : Int))) rfl rfl ?_)))
  obtain rfl := sI h
  have h := hg46; clear hg46
  refine wP (v := .bool (p1 == (18446744073709551615 : Int))) rfl rfl (wP rfl rfl (wNT (wc_cond rfl (fun hc => ?_) (fun hc => ?_))))
  ·replace h := ct hc h
   refine wSR (wP rfl rfl (wNT (wc_ret (wx_block_ret (wx_then_ret ?_)))))
   obtain ⟨rfl, rfl⟩ := pJ2 h
   exact wx_spD tt_ok (.inl rfl) Tryz.results30 (Res.tmp rfl Res.nil) ⟨p0a0, p0n0, p0c0, p0B0, p0N0, p0V0, rfl, rfl⟩ (fun F => by simp) (pSub (pH (pA pNil)))
  replace h := cf hc h
  refine wSR ?_
  iterate 2 refine wP rfl rfl ?_
  refine wP (v := .pointer (some ⟨p0b, 1, none⟩)) rfl rfl (wl_val (v := .slice p0a0 p0n0 p0c0) (val_load tt_ok rfl mH rfl) rfl (wl_val (v := .int .i64 (p0.l.length : Int)) (val_len tt_ok rfl rfl p0N0) rfl (wP (v := .bool (decide ((24 : Int) ≤ (p0.l.length : Int)))) rfl rfl (wP rfl rfl (wNT (wc_cond rfl (fun hc => ?_) (fun hc => ?_)))))))
  ·replace h := ct hc h
   refine wSR (wP rfl rfl (wNT (wc_ret (wx_block_ret (wx_then_ret ?_)))))
   obtain ⟨rfl, rfl⟩ := pJ2 h
   exact wx_spD tt_ok (.inl rfl) Tryz.results30 (Res.tmp rfl Res.nil) ⟨p0a0, p0n0, p0c0, p0B0, p0N0, p0V0, rfl, rfl⟩ (fun F => by simp) (pSub (pH (pA pNil)))
  replace h := cf hc h
  refine wc_skip (wx_block (wx_then (wSR ?_)))
  iterate 4 refine wP rfl rfl ?_
  refine wP (v := .pointer (some ⟨p0b, 1, none⟩)) rfl rfl (wl_val (v := .slice p0a0 p0n0 p0c0) (val_load tt_ok rfl mH rfl) rfl (wP rfl rfl (wl_chg (chg_bsv (enc := (e1 .u8)) (xs := ([p2] : List Int)) tt_ok rfl rfl rfl rfl rfl rfl rfl rfl (e1_len _)) rfl ?_)))
  rintro _ _ ⟨a61, n61_, c61, B61, rfl, N61, V61, rfl⟩
  obtain ⟨v62, x62, h⟩ := bsome h
  refine wl_chg (chg_app (enc := (e1 .u8)) (ys := ([p2] : List Int)) tt_ok rfl rfl rfl rfl rfl rfl p0N0 N61 p0V0 (sAC hA') (Rds.of_vec V61) ⟨_, hA'⟩ (e1_len _) (fun _ => rfl) rfl x62) rfl ?_
  rintro _ _ ⟨a62, n62_, c62, B62, rfl, N62, V62, rfl⟩
  iterate 2 refine wP rfl rfl ?_
  refine wP (v := .pointer (some ⟨p0b, 1, none⟩)) rfl rfl ?_
  apply wl_store tt_ok; rfl; exact (Upd.right (Upd.right Upd.here)); rfl; rfl; rfl; rfl; rfl; rfl
  refine wP rfl rfl (wP (v := .pointer (some ⟨p0b, 2, none⟩)) rfl rfl ?_)
  apply wl_store tt_ok; rfl; exact (Upd.right (Upd.right Upd.here)); rfl; rfl; rfl; rfl; rfl; rfl
  refine wNT (wSR (wP rfl rfl (wNT (wc_ret ?_))))
  obtain ⟨rfl, rfl⟩ := pJ2 h
  exact wx_spD tt_ok (.inl rfl) Tryz.results30 (Res.tmp rfl Res.nil) ⟨a62, n62_, c62, B62, N62, V62, rfl, rfl⟩ (fun F => by simp) (pSub (pCons (sAA hC) (pA pNil)))
 replace h := cf hc h
 iterate 3 refine wl_skip rfl rfl ?_
 obtain rfl := sI h
 have h := hg35; clear hg35
 refine wP (v := .bool false) rfl rfl (wP rfl rfl (wNT ?_))
 replace h := cf rfl h
 refine wc_cond_false rfl ?_
 refine wSR ?_
 iterate 2 refine wP rfl rfl ?_
 refine wNT (wc_cond rfl (fun hc => ?_) (fun hc => ?_))
 ·replace h := ct hc h
  refine wSR (wP rfl rfl (wNT (wc_ret (wx_block_ret (wx_then_ret ?_)))))
  obtain ⟨rfl, rfl⟩ := pJ2 h
  exact wx_spD tt_ok (.inl rfl) Tryz.results30 (Res.tmp rfl Res.nil) ⟨p0a0, p0n0, p0c0, p0B0, p0N0, p0V0, rfl, rfl⟩ (fun F => by simp) (pSub (pH (pA pNil)))
 replace h := cf hc h
 refine wSR ?_
 iterate 2 refine wP rfl rfl ?_
 obtain ⟨v41, x41, h⟩ := bsome h
 refine wl_cq Tryz.call28 rfl rfl rfl (q_rd (k_queue_Queue_Known (p0 := p0) p0N0 p0V0 x41) (pH (pA pNil)) (fun _ _ => trivial)) rfl ?_
 refine wP (v := .bool (decide (v41 < p1))) rfl rfl (wP rfl rfl ?_)
 obtain ⟨v46, h, hg46⟩ := bsome h
 refine wl_split (t := 43) rfl (fun hc => ?_) (fun hc => ?_)
 ·replace h := ct hc h
  iterate 2 refine wl_skip rfl rfl ?_
  obtain rfl := sI h
  have h := hg46; clear hg46
  refine wP (v := .bool true) rfl rfl (wP rfl rfl (wNT ?_))
  replace h := ct rfl h
  refine wc_cond_true rfl ?_
  refine wSR (wP rfl rfl (wNT (wc_ret (wx_block_ret (wx_then_ret ?_)))))
  obtain ⟨rfl, rfl⟩ := pJ2 h
  exact wx_spD tt_ok (.inl rfl) Tryz.results30 (Res.tmp rfl Res.nil) ⟨p0a0, p0n0, p0c0, p0B0, p0N0, p0V0, rfl, rfl⟩ (fun F => by simp) (pSub (pH (pA pNil)))
 replace h := cf hc h
 refine wl_run rfl (wP rfl rfl (wl_run rfl (wP (v := .bool (p1 == (18446744073709551615 : Int))) rfl rfl ?_)))
 obtain rfl := sI h
 have h := hg46; clear hg46
 refine wP (v := .bool (p1 == (18446744073709551615 : Int))) rfl rfl (wP rfl rfl (wNT (wc_cond rfl (fun hc => ?_) (fun hc => ?_))))
 ·replace h := ct hc h
  refine wSR (wP rfl rfl (wNT (wc_ret (wx_block_ret (wx_then_ret ?_)))))
  obtain ⟨rfl, rfl⟩ := pJ2 h
  exact wx_spD tt_ok (.inl rfl) Tryz.results30 (Res.tmp rfl Res.nil) ⟨p0a0, p0n0, p0c0, p0B0, p0N0, p0V0, rfl, rfl⟩ (fun F => by simp) (pSub (pH (pA pNil)))
 replace h := cf hc h
 refine wSR ?_
 iterate 2 refine wP rfl rfl ?_
 refine wP (v := .pointer (some ⟨p0b, 1, none⟩)) rfl rfl (wl_val (v := .slice p0a0 p0n0 p0c0) (val_load tt_ok rfl mH rfl) rfl (wl_val (v := .int .i64 (p0.l.length : Int)) (val_len tt_ok rfl rfl p0N0) rfl (wP (v := .bool (decide ((24 : Int) ≤ (p0.l.length : Int)))) rfl rfl (wP rfl rfl (wNT (wc_cond rfl (fun hc => ?_) (fun hc => ?_)))))))
 ·replace h := ct hc h
  refine wSR (wP rfl rfl (wNT (wc_ret (wx_block_ret (wx_then_ret ?_)))))
  obtain ⟨rfl, rfl⟩ := pJ2 h
  exact wx_spD tt_ok (.inl rfl) Tryz.results30 (Res.tmp rfl Res.nil) ⟨p0a0, p0n0, p0c0, p0B0, p0N0, p0V0, rfl, rfl⟩ (fun F => by simp) (pSub (pH (pA pNil)))
 replace h := cf hc h
 refine wc_skip (wx_block (wx_then (wSR ?_)))
 iterate 4 refine wP rfl rfl ?_
 refine wP (v := .pointer (some ⟨p0b, 1, none⟩)) rfl rfl (wl_val (v := .slice p0a0 p0n0 p0c0) (val_load tt_ok rfl mH rfl) rfl (wP rfl rfl (wl_chg (chg_bsv (enc := (e1 .u8)) (xs := ([p2] : List Int)) tt_ok rfl rfl rfl rfl rfl rfl rfl rfl (e1_len _)) rfl ?_)))
 rintro _ _ ⟨a61, n61_, c61, B61, rfl, N61, V61, rfl⟩
 obtain ⟨v62, x62, h⟩ := bsome h
 refine wl_chg (chg_app (enc := (e1 .u8)) (ys := ([p2] : List Int)) tt_ok rfl rfl rfl rfl rfl rfl p0N0 N61 p0V0 (sAC hA') (Rds.of_vec V61) ⟨_, hA'⟩ (e1_len _) (fun _ => rfl) rfl x62) rfl ?_
 rintro _ _ ⟨a62, n62_, c62, B62, rfl, N62, V62, rfl⟩
 iterate 2 refine wP rfl rfl ?_
 refine wP (v := .pointer (some ⟨p0b, 1, none⟩)) rfl rfl ?_
 apply wl_store tt_ok; rfl; exact (Upd.right (Upd.right Upd.here)); rfl; rfl; rfl; rfl; rfl; rfl
 refine wP rfl rfl (wP (v := .pointer (some ⟨p0b, 2, none⟩)) rfl rfl ?_)
 apply wl_store tt_ok; rfl; exact (Upd.right (Upd.right Upd.here)); rfl; rfl; rfl; rfl; rfl; rfl
 refine wNT (wSR (wP rfl rfl (wNT (wc_ret ?_))))
 obtain ⟨rfl, rfl⟩ := pJ2 h
 exact wx_spD tt_ok (.inl rfl) Tryz.results30 (Res.tmp rfl Res.nil) ⟨a62, n62_, c62, B62, N62, V62, rfl, rfl⟩ (fun F => by simp) (pSub (pCons (sAA hC) (pA pNil)))

theorem k_ring_Ring_Cut {F : Nat} {p0 : T_ring_Ring} {p0b p0t : Nat} {p0g0 : List (T_ring_place × G)} {p0P0 : List Blk} {p1 : Int} {r0 : T_ring_Ring} {r1 : Int} (p0G0 : p0.places.1 = unG p0g0) (p0A0 : AllP sh_T_ring_place c_T_api_Shot p0P0 p0g0) (h : m_ring_Ring_Cut F p0 p1 = some (r0, r1)) :
    SpD Tryz.prog 31 [.pointer (some ⟨p0b, 0, none⟩), .int .u64 p1] (⟨p0b, ([.int .i64 p0.size] ++ flat cg_T_ring_place p0g0), p0t, (0, 0)⟩ :: (p0P0 ++ [])) (fun w => True) (fun v D => ∃ (r0g0 : List (T_ring_place × G)) (r0P0 : List Blk), r0.places.1 = unG r0g0 ∧ AllP sh_T_ring_place c_T_api_Shot r0P0 r0g0 ∧ v = .int .i64 r1 ∧ D = fun F => (⟨p0b, ([.int .i64 r0.size] ++ flat cg_T_ring_place r0g0), p0t, (0, 0)⟩ :: (r0P0 ++ F))) := by
 unfold m_ring_Ring_Cut at h
 refine sp_of_wc Tryz.func31 rfl Tryz.ntmps31 rfl rfl (fun w0 hR => ?_)
 refine wSR (wP rfl rfl (wNT (wc_seq (wSR (wP rfl rfl ?_)))))
 obtain ⟨v9, x9, h⟩ := bsome h
 refine wl_cq Tryz.call56 rfl rfl rfl (q_rd (k_ring_Ring_is (p0 := p0) p0G0 p0A0 x9) (pH (pA pNil)) (fun _ _ => trivial)) rfl ?_
 refine wP (v := .bool (!v9)) rfl rfl (wNT (wc_cond rfl (fun hc => ?_) (fun hc => ?_)))
 ·replace h := ct hc h
  refine wSR (wP rfl rfl (wNT (wc_ret (wx_then_ret ?_))))
  obtain ⟨rfl, rfl⟩ := pJ2 h
  exact wx_spD tt_ok (.inl rfl) Tryz.results31 (Res.tmp rfl Res.nil) ⟨p0g0, p0P0, p0G0, p0A0, rfl, rfl⟩ (fun F => by simp) (pSub (pH (pA pNil)))
 replace h := cf hc h
 refine wc_skip (wx_then (wSR (wP rfl rfl (wNT (wc_seq (wSR ?_))))))
 iterate 2 refine wP rfl rfl ?_
 refine wP (v := .pointer (some ⟨p0b, 1, none⟩)) rfl rfl (wl_val (v := .agg (flat cg_T_ring_place p0g0 : List Value).toArray) (val_load tt_ok rfl mH (partV_arr (enc := cg_T_ring_place) (pre := [.int .i64 p0.size]) (post := []) (xs := p0g0) rfl c_np rfl (arr_len cg_T_ring_place_len (arrg_len p0G0 p0.places.2) rfl))) rfl (wP rfl rfl (wNT (wc_block ?_))))
 replace h := bsome h; obtain ⟨⟨zh, zg⟩, h, hl17⟩ := h; try dsimp only at hl17
 refine wc_loop (fun m E L => ∃ (zf : Int) (zc : Int) (za : (Arr T_ring_place 14)) (zb : List (T_ring_place × G)), m_ring_Ring_Cut_L16 F p0 p1 m zf zc za = some (zh, zg) ∧ za.1 = unG zb ∧ AllP sh_T_ring_place c_T_api_Shot p0P0 zb ∧ E = [(0, .pointer (some ⟨p0b, 0, none⟩)), (1, .int .u64 p1), (4, .int .i64 (0 : Int)), (5, .int .i64 zf), (14, .agg (flat cg_T_ring_place p0g0 : List Value).toArray), (15, .int .i64 zc)] ∧ L = (⟨p0b, ([.int .i64 p0.size] ++ flat cg_T_ring_place zb), p0t, (0, 0)⟩ :: (p0P0 ++ []))) F ⟨(0 : Int), (0 : Int), p0.places, p0g0, h, p0G0, p0A0, rfl, rfl⟩ (agree_cons rfl (agree_cons rfl (agree_cons rfl (agree_cons rfl (agree_cons rfl (agree_cons rfl agree_nil)))))) (pSub (pH (pA pNil))) ?_
 clear h
 rintro m17 _ _ ⟨zf, zc, za, zb, h, zd, ze, rfl, rfl⟩
 rcases m17 with _ | m17
 ·rw [m_ring_Ring_Cut_L16.eq_1] at h; cases h
 rw [m_ring_Ring_Cut_L16.eq_2] at h
 refine wSR (wP (v := .bool (decide (zc < (14 : Int)))) rfl rfl (wNT (wc_seq (wc_cond rfl (fun hc => ?_) (fun hc => ?_)))))
 ·replace h := ct hc h
  refine wc_skip (wx_then (wc_seq (wc_block (wSR (wP rfl rfl ?_)))))
  obtain ⟨v18, x18, h⟩ := bsome h
  obtain ⟨G18, y18⟩ := getI_g p0G0 x18
  refine wl_val (v := .agg #[.int .u64 v18.s.Frame, .int .u64 v18.s.Seed, .int .i32 v18.s.Players.1.X, .int .i32 v18.s.Players.1.Y, .int .i32 v18.s.Players.1.VX, .int .i32 v18.s.Players.1.VY, .int .u8 v18.s.Players.1.Health, .int .u8 v18.s.Players.1.Cool, .int .u8 v18.s.Players.1.Face, .int .i32 v18.s.Players.2.X, .int .i32 v18.s.Players.2.Y, .int .i32 v18.s.Players.2.VX, .int .i32 v18.s.Players.2.VY, .int .u8 v18.s.Players.2.Health, .int .u8 v18.s.Players.2.Cool, .int .u8 v18.s.Players.2.Face, .slice G18.1 G18.2.1 G18.2.2, .int .u16 v18.s.Score.1, .int .u16 v18.s.Score.2, .bool v18.is_]) (val_xv (enc := cg_T_ring_place) (xs := p0g0) tt_ok rfl rfl rfl rfl rfl (arrg_len p0G0 p0.places.2) cg_T_ring_place_len y18) rfl ?_
  refine wl_alloc tt_ok rfl rfl (fun b7 => ?_)
  refine wP rfl rfl ?_
  apply wl_store tt_ok; rfl; exact Upd.here; rfl; rfl; rfl; rfl; rfl; rfl
  refine wNT (wSR (wP (v := .pointer (some ⟨b7, 19, none⟩)) rfl rfl (wl_val (v := .bool v18.is_) (val_load tt_ok rfl mH rfl) rfl (wP rfl rfl ?_))))
  obtain ⟨v27, h, hg27⟩ := bsome h
  refine wl_split (t := 21) rfl (fun hc => ?_) (fun hc => ?_)
  ·replace h := ct hc h
   refine wl_run rfl (wP (v := .pointer (some ⟨b7, 0, none⟩)) rfl rfl (wl_run rfl (wP (v := .pointer (some ⟨b7, 0, none⟩)) rfl rfl (wl_run rfl (wl_val (v := .int .u64 v18.s.Frame) (val_load tt_ok rfl mH rfl) rfl (wl_run rfl (wP rfl rfl (wl_run rfl (wP (v := .bool (decide (p1 < v18.s.Frame))) rfl rfl ?_)))))))))
   obtain rfl := sI h
   have h := hg27; clear hg27
   refine wP (v := .bool (decide (p1 < v18.s.Frame))) rfl rfl (wNT (wc_cond rfl (fun hc => ?_) (fun hc => ?_)))
   ·replace h := ct hc h
    refine wSR ?_
    iterate 2 refine wP rfl rfl ?_
    refine wP (v := .agg #[.int .u64 (0 : Int), .int .u64 (0 : Int), .int .i32 (0 : Int), .int .i32 (0 : Int), .int .i32 (0 : Int), .int .i32 (0 : Int), .int .u8 (0 : Int), .int .u8 (0 : Int), .int .u8 (0 : Int), .int .i32 (0 : Int), .int .i32 (0 : Int), .int .i32 (0 : Int), .int .i32 (0 : Int), .int .u8 (0 : Int), .int .u8 (0 : Int), .int .u8 (0 : Int), .slice none 0 0, .int .u16 (0 : Int), .int .u16 (0 : Int), .bool false]) rfl rfl (wP rfl rfl (wP (v := .pointer (some ⟨p0b, 1, none⟩)) rfl rfl ?_))
    obtain ⟨v33, x33, h⟩ := bsome h
    obtain ⟨G33, y33⟩ := getI_g zd x33
    refine wl_val (v := .pointer (some ⟨p0b, 1 + zc.toNat * 20 + 0, none⟩)) (val_xa (a := za) tt_ok rfl rfl rfl rfl x33) rfl ?_
    refine wl_chg0 (chg_stx (enc := cg_T_ring_place) (pre := [.int .i64 p0.size]) (post := []) (xs := zb) (y' := ((T_ring_place.mk (T_api_State.mk (0 : Int) (0 : Int) ((T_api_Player.mk (0 : Int) (0 : Int) (0 : Int) (0 : Int) (0 : Int) (0 : Int) (0 : Int)), (T_api_Player.mk (0 : Int) (0 : Int) (0 : Int) (0 : Int) (0 : Int) (0 : Int) (0 : Int))) ([] : List T_api_Shot) ((0 : Int), (0 : Int))) false), (none, 0, 0))) (c' := ([.int .i64 p0.size] ++ flat cg_T_ring_place (setI zb zc ((T_ring_place.mk (T_api_State.mk (0 : Int) (0 : Int) ((T_api_Player.mk (0 : Int) (0 : Int) (0 : Int) (0 : Int) (0 : Int) (0 : Int) (0 : Int)), (T_api_Player.mk (0 : Int) (0 : Int) (0 : Int) (0 : Int) (0 : Int) (0 : Int) (0 : Int))) ([] : List T_api_Shot) ((0 : Int), (0 : Int))) false), (none, 0, 0))))) tt_ok rfl rfl rfl rfl rfl rfl (Upd.there Upd.here) c_np c_np rfl cg_T_ring_place_len y33 rfl (by intro h; cases h)) ?_
    rintro _ _ rfl
    refine wNT (wc_region (wP rfl rfl (wP (v := .int .i64 (IntKind.wrap .i64 (zf + (1 : Int)))) rfl rfl (wP rfl rfl (wl_nil (wx_block (wx_then (wc_region (wP (v := .int .i64 (IntKind.wrap .i64 (zc + (1 : Int)))) rfl rfl (wP rfl rfl (wl_nil ?_)))))))))))
    exact wx_round m17 (Nat.lt_succ_self m17) ⟨(IntKind.wrap .i64 (zf + (1 : Int))), (IntKind.wrap .i64 (zc + (1 : Int))), (Arr.set za zc (T_ring_place.mk (T_api_State.mk (0 : Int) (0 : Int) ((T_api_Player.mk (0 : Int) (0 : Int) (0 : Int) (0 : Int) (0 : Int) (0 : Int) (0 : Int)), (T_api_Player.mk (0 : Int) (0 : Int) (0 : Int) (0 : Int) (0 : Int) (0 : Int) (0 : Int))) ([] : List T_api_Shot) ((0 : Int), (0 : Int))) false)), (setI zb zc ((T_ring_place.mk (T_api_State.mk (0 : Int) (0 : Int) ((T_api_Player.mk (0 : Int) (0 : Int) (0 : Int) (0 : Int) (0 : Int) (0 : Int) (0 : Int)), (T_api_Player.mk (0 : Int) (0 : Int) (0 : Int) (0 : Int) (0 : Int) (0 : Int) (0 : Int))) ([] : List T_api_Shot) ((0 : Int), (0 : Int))) false), (none, 0, 0))), h, (setI_g zd zc ((T_ring_place.mk (T_api_State.mk (0 : Int) (0 : Int) ((T_api_Player.mk (0 : Int) (0 : Int) (0 : Int) (0 : Int) (0 : Int) (0 : Int) (0 : Int)), (T_api_Player.mk (0 : Int) (0 : Int) (0 : Int) (0 : Int) (0 : Int) (0 : Int) (0 : Int))) ([] : List T_api_Shot) ((0 : Int), (0 : Int))) false), (none, 0, 0))), (fun w A => allrd_set (ze w A) (allrd_one (sh := sh_T_ring_place) (x := (T_ring_place.mk (T_api_State.mk (0 : Int) (0 : Int) ((T_api_Player.mk (0 : Int) (0 : Int) (0 : Int) (0 : Int) (0 : Int) (0 : Int) (0 : Int)), (T_api_Player.mk (0 : Int) (0 : Int) (0 : Int) (0 : Int) (0 : Int) (0 : Int) (0 : Int))) ([] : List T_api_Shot) ((0 : Int), (0 : Int))) false)) (s := ([] : List T_api_Shot)) rfl rfl (Nat.le_refl _) Rds.nil (fun _ => rfl))), rfl, rfl⟩ (agree_cons rfl (agree_cons rfl (agree_cons rfl (agree_cons rfl (agree_cons rfl (agree_cons rfl agree_nil)))))) (pSub (pS (qS pNil)))
   replace h := cf hc h
   refine wc_skip (wx_block (wx_then (wc_region (wP (v := .int .i64 (IntKind.wrap .i64 (zc + (1 : Int)))) rfl rfl (wP rfl rfl (wl_nil ?_))))))
   exact wx_round m17 (Nat.lt_succ_self m17) ⟨zf, (IntKind.wrap .i64 (zc + (1 : Int))), za, zb, h, zd, ze, rfl, rfl⟩ (agree_cons rfl (agree_cons rfl (agree_cons rfl (agree_cons rfl (agree_cons rfl (agree_cons rfl agree_nil)))))) (pSub (pS (qS pNil)))
  replace h := cf hc h
  iterate 5 refine wl_skip rfl rfl ?_
  obtain rfl := sI h
  have h := hg27; clear hg27
  refine wP (v := .bool false) rfl rfl (wNT ?_)
  replace h := cf rfl h
  refine wc_cond_false rfl ?_
  refine wc_skip (wx_block (wx_then (wc_region (wP (v := .int .i64 (IntKind.wrap .i64 (zc + (1 : Int)))) rfl rfl (wP rfl rfl (wl_nil ?_))))))
  exact wx_round m17 (Nat.lt_succ_self m17) ⟨zf, (IntKind.wrap .i64 (zc + (1 : Int))), za, zb, h, zd, ze, rfl, rfl⟩ (agree_cons rfl (agree_cons rfl (agree_cons rfl (agree_cons rfl (agree_cons rfl (agree_cons rfl agree_nil)))))) (pSub (pS (qS pNil)))
 replace h := cf hc h
 refine wc_exit (wx_then_exit ?_)
 obtain ⟨rfl, rfl⟩ := pJ2 h
 have h := hl17; clear hl17; try dsimp only [orE_l, orE_r] at h
 refine wx_then_exit (wx_block_exit (wx_then (wSR ?_)))
 iterate 2 refine wP rfl rfl ?_
 refine wNT (wc_ret ?_)
 obtain ⟨rfl, rfl⟩ := pJ2 h
 exact wx_spD tt_ok (.inl rfl) Tryz.results31 (Res.tmp rfl Res.nil) ⟨zb, p0P0, zd, ze, rfl, rfl⟩ (fun F => by simp) (pSub (pH (pA pNil)))

theorem k_rollback_Engine_Remote {F : Nat} {p0 : T_rollback_Engine} {p0b p0t : Nat} {p0a0 : Option Addr} {p0n0 p0c0 : Nat} {p0B0 : List Blk} {p0a1 : Option Addr} {p0n1 p0c1 : Nat} {p0B1 : List Blk} {p0_4 : T_queue_Queue} {p0_4b p0_4t : Nat} {p0_4a0 : Option Addr} {p0_4n0 p0_4c0 : Nat} {p0_4B0 : List Blk} {p0_5 : T_ring_Ring} {p0_5b p0_5t : Nat} {p0_5g0 : List (T_ring_place × G)} {p0_5P0 : List Blk} {p1 : Int} {p2 : Int} {r0 : T_queue_Queue} {r1 : T_ring_Ring} {r2 : Int} (p0N0 : p0n0 = p0.sure.Shots.length) (p0V0 : Own 93 6 p0a0 p0n0 p0c0 (flat c_T_api_Shot p0.sure.Shots) p0B0) (p0N1 : p0n1 = p0.own.length) (p0V1 : Own 40 1 p0a1 p0n1 p0c1 (flat (e1 .u8) p0.own) p0B1) (p0_4N0 : p0_4n0 = p0_4.l.length) (p0_4V0 : Own 40 1 p0_4a0 p0_4n0 p0_4c0 (flat (e1 .u8) p0_4.l) p0_4B0) (p0_5G0 : p0_5.places.1 = unG p0_5g0) (p0_5A0 : AllP sh_T_ring_place c_T_api_Shot p0_5P0 p0_5g0) (h : m_rollback_Engine_Remote F p0 p0_4 p0_5 p1 p2 = some (r0, r1, r2)) :
    SpD Tryz.prog 10 [.pointer (some ⟨p0b, 0, none⟩), .int .u64 p1, .int .u8 p2] (⟨p0b, (.int .u8 p0.player :: .int .i64 p0.window :: st19 p0.sure p0a0 p0n0 p0c0 [.slice p0a1 p0n1 p0c1, .pointer (some ⟨p0_4b, 0, none⟩), .pointer (some ⟨p0_5b, 0, none⟩)]), p0t, (0, 0)⟩ :: (p0B0 ++ (p0B1 ++ (⟨p0_4b, [.int .u64 p0_4.first_, .slice p0_4a0 p0_4n0 p0_4c0, .int .u8 p0_4.last], p0_4t, (0, 0)⟩ :: (p0_4B0 ++ (⟨p0_5b, ([.int .i64 p0_5.size] ++ flat cg_T_ring_place p0_5g0), p0_5t, (0, 0)⟩ :: (p0_5P0 ++ []))))))) (fun w => True) (fun v D => ∃ (r0a0 : Option Addr) (r0n0 r0c0 : Nat) (r0B0 : List Blk) (r1g0 : List (T_ring_place × G)) (r1P0 : List Blk), r0n0 = r0.l.length ∧ Own 40 1 r0a0 r0n0 r0c0 (flat (e1 .u8) r0.l) r0B0 ∧ r1.places.1 = unG r1g0 ∧ AllP sh_T_ring_place c_T_api_Shot r1P0 r1g0 ∧ v = .int .i64 r2 ∧ D = fun F => (⟨p0b, (.int .u8 p0.player :: .int .i64 p0.window :: st19 p0.sure p0a0 p0n0 p0c0 [.slice p0a1 p0n1 p0c1, .pointer (some ⟨p0_4b, 0, none⟩), .pointer (some ⟨p0_5b, 0, none⟩)]), p0t, (0, 0)⟩ :: (p0B0 ++ (p0B1 ++ (⟨p0_4b, [.int .u64 r0.first_, .slice r0a0 r0n0 r0c0, .int .u8 r0.last], p0_4t, (0, 0)⟩ :: (r0B0 ++ (⟨p0_5b, ([.int .i64 r1.size] ++ flat cg_T_ring_place r1g0), p0_5t, (0, 0)⟩ :: (r1P0 ++ F)))))))) := by
 unfold m_rollback_Engine_Remote at h
 refine sp_of_wc Tryz.func10 rfl Tryz.ntmps10 rfl rfl (fun w0 hR => ?_)
 refine wSR (wP rfl rfl (wNT (wc_seq (wSR (wP rfl rfl ?_)))))
 obtain ⟨v11, x11, h⟩ := bsome h
 refine wl_cq Tryz.call26 rfl rfl rfl (q_rd (k_rollback_Engine_is (p0 := p0) (p0_4 := p0_4) (p0_5 := p0_5) p0N0 p0V0 p0N1 p0V1 p0_4N0 p0_4V0 p0_5G0 p0_5A0 x11) (pH (pAA (pH (pA (pH (pA pNil)))))) (fun _ _ => trivial)) rfl ?_
 refine wP (v := .bool (!v11)) rfl rfl (wNT (wc_cond rfl (fun hc => ?_) (fun hc => ?_)))
 ·replace h := ct hc h
  refine wSR (wP rfl rfl (wNT (wc_ret (wx_then_ret ?_))))
  obtain ⟨rfl, rfl, rfl⟩ := pJ3 h
  exact wx_spD tt_ok (.inl rfl) Tryz.results10 (Res.tmp rfl Res.nil) ⟨p0_4a0, p0_4n0, p0_4c0, p0_4B0, p0_5g0, p0_5P0, p0_4N0, p0_4V0, p0_5G0, p0_5A0, rfl, rfl⟩ (fun F => by simp) (pSub (pH (pAA (pH (pA (pH (pA pNil)))))))
 replace h := cf hc h
 refine wc_skip (wx_then (wc_seq (wc_quiet (by kernel_rfl) (by kernel_rfl) ?_)))
 iterate 2 refine qP rfl rfl ?_
 refine qP (v := .pointer (some ⟨p0b, 22, none⟩)) rfl rfl (wq_val (v := .pointer (some ⟨p0_4b, 0, none⟩)) (val_load tt_ok rfl mH rfl) rfl ?_)
 obtain ⟨v17, x17, h⟩ := bsome h
 refine wq_cq Tryz.call28 rfl rfl rfl (q_rd (k_queue_Queue_Known (p0 := p0_4) p0_4N0 p0_4V0 x17) (pCons (sC (sAA hC)) (pApp (sC (sAA hA')) pNil)) (fun _ _ => trivial)) rfl ?_
 iterate 2 refine qP rfl rfl ?_
 refine qP (v := .pointer (some ⟨p0b, 22, none⟩)) rfl rfl (wq_val (v := .pointer (some ⟨p0_4b, 0, none⟩)) (val_load tt_ok rfl mH rfl) rfl (qP rfl rfl ?_))
 obtain ⟨v23, x23, h⟩ := bsome h
 refine wq_cq Tryz.call29 rfl rfl rfl (q_rd (k_queue_Queue_Guess (p0 := p0_4) p0_4N0 p0_4V0 x23) (pCons (sC (sAA hC)) (pApp (sC (sAA hA')) pNil)) (fun _ _ => trivial)) rfl ?_
 iterate 2 refine qP rfl rfl ?_
 refine wq_nil (wx_then (wSR ?_))
 iterate 2 refine wP rfl rfl ?_
 refine wP (v := .pointer (some ⟨p0b, 22, none⟩)) rfl rfl (wl_val (v := .pointer (some ⟨p0_4b, 0, none⟩)) (val_load tt_ok rfl mH rfl) rfl ?_)
 iterate 2 refine wP rfl rfl ?_
 replace h := bsome h; obtain ⟨⟨zb, v30⟩, x30, h⟩ := h; try dsimp only at h
 refine wl_cs Tryz.call30 rfl rfl rfl (s_sp (k_queue_Queue_Add (p0 := p0_4) p0_4N0 p0_4V0 x30) (pCons (sC (sAA hC)) (pApp (sC (sAA hA')) pNil)) (fun _ _ => trivial)) rfl ?_
 rintro _ _ ⟨_, ⟨zj, zl, zk, zi, zm, zn, rfl, rfl⟩, rfl⟩
 refine wP rfl rfl (wNT (wc_seq (wSR ?_)))
 iterate 2 refine wP rfl rfl ?_
 refine wP (v := .pointer (some ⟨p0b, 22, none⟩)) rfl rfl (wl_val (v := .pointer (some ⟨p0_4b, 0, none⟩)) (val_load tt_ok rfl (mT (mR mH)) rfl) rfl ?_)
 obtain ⟨v35, x35, h⟩ := bsome h
 refine wl_cq Tryz.call28 rfl rfl rfl (q_rd (k_queue_Queue_Known (p0 := zb) zm zn x35) (pH (pA pNil)) (fun _ _ => trivial)) rfl ?_
 refine wP rfl rfl (wP (v := .bool (decide (v17 < v35))) rfl rfl (wP rfl rfl ?_))
 obtain ⟨v42, h, hg42⟩ := bsome h
 refine wl_split (t := 38) rfl (fun hc => ?_) (fun hc => ?_)
 ·replace h := ct hc h
  refine wl_run rfl (wP rfl rfl (wl_run rfl (wP rfl rfl (wl_run rfl (wP (v := .bool (v23 != p2)) rfl rfl ?_)))))
  obtain rfl := sI h
  have h := hg42; clear hg42
  refine wP (v := .bool (v23 != p2)) rfl rfl (wNT ?_)
  replace h := bsome h; obtain ⟨⟨zh, za⟩, h, hj18⟩ := h; try dsimp only at hj18
  refine wc_join2 (fun E L => ∃ (zc : List (T_ring_place × G)) (zd : List Blk), za.1 = unG zc ∧ AllP sh_T_ring_place c_T_api_Shot zd zc ∧ E = [(6, .int .i64 (0 : Int)), (9, .int .i64 v30)] ∧ L = (⟨p0b, (.int .u8 p0.player :: .int .i64 p0.window :: st19 p0.sure p0a0 p0n0 p0c0 [.slice p0a1 p0n1 p0c1, .pointer (some ⟨p0_4b, 0, none⟩), .pointer (some ⟨p0_5b, 0, none⟩)]), p0t, (0, 0)⟩ :: (⟨p0_4b, [.int .u64 zb.first_, .slice zj zl zk, .int .u8 zb.last], p0_4t, (0, 0)⟩ :: (⟨p0_5b, ([.int .i64 zh] ++ flat cg_T_ring_place zc), p0_5t, (0, 0)⟩ :: (p0B0 ++ (p0B1 ++ (zi ++ (zd ++ [])))))))) ?_ ?_
  ·refine wc_cond rfl (fun hc => ?_) (fun hc => ?_)
   ·replace h := ct hc h
    refine wc_region ?_
    iterate 2 refine wP rfl rfl ?_
    refine wP (v := .pointer (some ⟨p0b, 23, none⟩)) rfl rfl (wl_val (v := .pointer (some ⟨p0_5b, 0, none⟩)) (val_load tt_ok rfl (mT (mR mH)) rfl) rfl (wP rfl rfl ?_))
    replace h := bsome h; obtain ⟨⟨zg, v48⟩, x48, h⟩ := h; try dsimp only at h
    refine wl_cs Tryz.call31 rfl rfl rfl (s_sp (k_ring_Ring_Cut (p0 := p0_5) p0_5G0 p0_5A0 x48) (pCons (sCA (sC (sAA hC))) (pApp (sCA (sC (sAA hA'))) pNil)) (fun _ _ => trivial)) rfl ?_
    rintro _ _ ⟨_, ⟨zr, zq, zp, zo, rfl, rfl⟩, rfl⟩
    refine wl_nil ?_
    obtain ⟨rfl, rfl⟩ := pJ2 h
    exact wx_join ⟨zr, zq, zp, zo, rfl, rfl⟩ (agree_cons rfl (agree_cons rfl agree_nil)) (pSub (pCons (sCA (sCA hC)) (pCons (sCA hC) (pH (pApp (sAA hA') (pApp (sAA hA') (pApp (sA hA') (pA pNil))))))))
   replace h := cf hc h
   refine wc_skip ?_
   obtain ⟨rfl, rfl⟩ := pJ2 h
   exact wx_join ⟨p0_5g0, p0_5P0, p0_5G0, p0_5A0, rfl, rfl⟩ (agree_cons rfl (agree_cons rfl agree_nil)) (pSub (pCons (sCA hC) (pH (pCons (sAA (sA hC)) (pApp (sA hA') (pApp (sA hA') (pAA pNil)))))))
  rintro _ _ ⟨zc, zd, zf, ze, rfl, rfl⟩
  have h := hj18; clear hj18
  refine wSR ?_
  iterate 2 refine wP rfl rfl ?_
  refine wNT (wc_ret ?_)
  obtain ⟨rfl, rfl, rfl⟩ := pJ3 h
  exact wx_spD tt_ok (.inl rfl) Tryz.results10 (Res.tmp rfl Res.nil) ⟨zj, zl, zk, zi, zc, zd, zm, zn, zf, ze, rfl, rfl⟩ (fun F => by simp) (pSub (pH (pApp (sCC hA') (pApp (sCC hA') (pH (qS (pH (pA pNil))))))))
 replace h := cf hc h
 iterate 3 refine wl_skip rfl rfl ?_
 obtain rfl := sI h
 have h := hg42; clear hg42
 refine wP (v := .bool false) rfl rfl (wNT ?_)
 replace h := bsome h; obtain ⟨⟨zh, za⟩, h, hj18⟩ := h; try dsimp only at hj18
 refine wc_join2 (fun E L => ∃ (zc : List (T_ring_place × G)) (zd : List Blk), za.1 = unG zc ∧ AllP sh_T_ring_place c_T_api_Shot zd zc ∧ E = [(6, .int .i64 (0 : Int)), (9, .int .i64 v30)] ∧ L = (⟨p0b, (.int .u8 p0.player :: .int .i64 p0.window :: st19 p0.sure p0a0 p0n0 p0c0 [.slice p0a1 p0n1 p0c1, .pointer (some ⟨p0_4b, 0, none⟩), .pointer (some ⟨p0_5b, 0, none⟩)]), p0t, (0, 0)⟩ :: (⟨p0_4b, [.int .u64 zb.first_, .slice zj zl zk, .int .u8 zb.last], p0_4t, (0, 0)⟩ :: (⟨p0_5b, ([.int .i64 zh] ++ flat cg_T_ring_place zc), p0_5t, (0, 0)⟩ :: (p0B0 ++ (p0B1 ++ (zi ++ (zd ++ [])))))))) ?_ ?_
 ·replace h := cf rfl h
  refine wc_cond_false rfl ?_
  refine wc_skip ?_
  obtain ⟨rfl, rfl⟩ := pJ2 h
  exact wx_join ⟨p0_5g0, p0_5P0, p0_5G0, p0_5A0, rfl, rfl⟩ (agree_cons rfl (agree_cons rfl agree_nil)) (pSub (pCons (sCA hC) (pH (pCons (sAA (sA hC)) (pApp (sA hA') (pApp (sA hA') (pAA pNil)))))))
 rintro _ _ ⟨zc, zd, zf, ze, rfl, rfl⟩
 have h := hj18; clear hj18
 refine wSR ?_
 iterate 2 refine wP rfl rfl ?_
 refine wNT (wc_ret ?_)
 obtain ⟨rfl, rfl, rfl⟩ := pJ3 h
 exact wx_spD tt_ok (.inl rfl) Tryz.results10 (Res.tmp rfl Res.nil) ⟨zj, zl, zk, zi, zc, zd, zm, zn, zf, ze, rfl, rfl⟩ (fun F => by simp) (pSub (pH (pApp (sCC hA') (pApp (sCC hA') (pH (qS (pH (pA pNil))))))))

theorem k_rollback_Engine_Next {F : Nat} {p0 : T_rollback_Engine} {p0b p0t : Nat} {p0a0 : Option Addr} {p0n0 p0c0 : Nat} {p0B0 : List Blk} {p0a1 : Option Addr} {p0n1 p0c1 : Nat} {p0B1 : List Blk} {p0_4 : T_queue_Queue} {p0_4b p0_4t : Nat} {p0_4a0 : Option Addr} {p0_4n0 p0_4c0 : Nat} {p0_4B0 : List Blk} {p0_5 : T_ring_Ring} {p0_5b p0_5t : Nat} {p0_5g0 : List (T_ring_place × G)} {p0_5P0 : List Blk} {r0 : (Int × Int)} {r1 : Bool} (p0N0 : p0n0 = p0.sure.Shots.length) (p0V0 : Own 93 6 p0a0 p0n0 p0c0 (flat c_T_api_Shot p0.sure.Shots) p0B0) (p0N1 : p0n1 = p0.own.length) (p0V1 : Own 40 1 p0a1 p0n1 p0c1 (flat (e1 .u8) p0.own) p0B1) (p0_4N0 : p0_4n0 = p0_4.l.length) (p0_4V0 : Own 40 1 p0_4a0 p0_4n0 p0_4c0 (flat (e1 .u8) p0_4.l) p0_4B0) (p0_5G0 : p0_5.places.1 = unG p0_5g0) (p0_5A0 : AllP sh_T_ring_place c_T_api_Shot p0_5P0 p0_5g0) (h : m_rollback_Engine_Next F p0 p0_4 p0_5 = some (r0, r1)) :
    Rd2 Tryz.prog 33 [.pointer (some ⟨p0b, 0, none⟩)] (⟨p0b, (.int .u8 p0.player :: .int .i64 p0.window :: st19 p0.sure p0a0 p0n0 p0c0 [.slice p0a1 p0n1 p0c1, .pointer (some ⟨p0_4b, 0, none⟩), .pointer (some ⟨p0_5b, 0, none⟩)]), p0t, (0, 0)⟩ :: (p0B0 ++ (p0B1 ++ (⟨p0_4b, [.int .u64 p0_4.first_, .slice p0_4a0 p0_4n0 p0_4c0, .int .u8 p0_4.last], p0_4t, (0, 0)⟩ :: (p0_4B0 ++ (⟨p0_5b, ([.int .i64 p0_5.size] ++ flat cg_T_ring_place p0_5g0), p0_5t, (0, 0)⟩ :: (p0_5P0 ++ []))))))) (fun w => True) (.tuple #[.agg #[.int .u8 r0.1, .int .u8 r0.2], .bool r1]) := by
 unfold m_rollback_Engine_Next at h
 refine sp_of_wc Tryz.func33 rfl Tryz.ntmps33 rfl rfl (fun w0 hR => ?_)
 refine wSR (wl_alloc tt_ok rfl rfl (fun b2 => (wP rfl rfl (wNT (wc_seq (wc_seq (wc_quiet (by kernel_rfl) (by kernel_rfl) (qP rfl rfl ?_))))))))
 obtain ⟨v5, x5, h⟩ := bsome h
 refine wq_cq Tryz.call26 rfl rfl rfl (q_rd (k_rollback_Engine_is (p0 := p0) (p0_4 := p0_4) (p0_5 := p0_5) p0N0 p0V0 p0N1 p0V1 p0_4N0 p0_4V0 p0_5G0 p0_5A0 x5) (pS (qS (qS (pS (qS (pS (qS pNil))))))) (fun _ _ => trivial)) rfl ?_
 refine qP (v := .bool (!v5)) rfl rfl (qP rfl rfl ?_)
 obtain ⟨v14, h, hg14⟩ := bsome h
 refine wq_split (t := 7) rfl (fun hc => ?_) (fun hc => ?_)
 ·replace h := ct hc h
  refine wq_skip rfl rfl (wq_skip rfl rfl (wq_skip rfl rfl (wq_skip rfl rfl (wq_skip rfl rfl (wq_skip rfl rfl ?_)))))
  obtain rfl := sI h
  have h := hg14; clear hg14
  refine qP (v := .bool true) rfl rfl (qP rfl rfl ?_)
  obtain ⟨v27, h, hg27⟩ := bsome h
  replace h := ct rfl h
  refine wq_skip rfl rfl (wq_skip rfl rfl (wq_skip rfl rfl (wq_skip rfl rfl (wq_skip rfl rfl (wq_skip rfl rfl (wq_skip rfl rfl (wq_skip rfl rfl (wq_skip rfl rfl (wq_skip rfl rfl (wq_skip rfl rfl ?_))))))))))
  obtain rfl := sI h
  have h := hg27; clear hg27
  refine qP (v := .bool true) rfl rfl (wq_nil (wx_then ?_))
  replace h := ct rfl h
  refine wc_cond_true rfl ?_
  refine wSR (wP (v := .agg #[.int .u8 (0 : Int), .int .u8 (0 : Int)]) rfl rfl ?_)
  apply wl_store tt_ok; rfl; exact Upd.here; rfl; rfl; rfl; rfl; rfl; rfl
  refine wP rfl rfl (wNT (wc_ret (wx_then_ret ?_)))
  obtain ⟨rfl, rfl⟩ := pJ2 h
  exact wx_rd tt_ok (.inl rfl) Tryz.results33 (Res.cell rfl mH rfl (Res.tmp rfl Res.nil)) (pSub (pS (qS (qS (pS (qS (pS (qS pNil)))))))) rfl
 replace h := cf hc h
 refine wq_run rfl (qP rfl rfl (wq_run rfl (qP rfl rfl (wq_run rfl (qP (v := .pointer (some ⟨p0b, 21, none⟩)) rfl rfl (wq_run rfl (wq_val (v := .slice p0a1 p0n1 p0c1) (val_load tt_ok rfl (mT mH) rfl) rfl (wq_run rfl (wq_val (v := .int .i64 (p0.own.length : Int)) (val_len tt_ok rfl rfl p0N1) rfl (wq_run rfl (qP (v := .bool ((p0.own.length : Int) == (0 : Int))) rfl rfl ?_)))))))))))
 obtain rfl := sI h
 have h := hg14; clear hg14
 refine qP (v := .bool ((p0.own.length : Int) == (0 : Int))) rfl rfl (qP rfl rfl ?_)
 obtain ⟨v27, h, hg27⟩ := bsome h
 refine wq_split (t := 15) rfl (fun hc => ?_) (fun hc => ?_)
 ·replace h := ct hc h
  refine wq_skip rfl rfl (wq_skip rfl rfl (wq_skip rfl rfl (wq_skip rfl rfl (wq_skip rfl rfl (wq_skip rfl rfl (wq_skip rfl rfl (wq_skip rfl rfl (wq_skip rfl rfl (wq_skip rfl rfl (wq_skip rfl rfl ?_))))))))))
  obtain rfl := sI h
  have h := hg27; clear hg27
  refine qP (v := .bool true) rfl rfl (wq_nil (wx_then ?_))
  replace h := ct rfl h
  refine wc_cond_true rfl ?_
  refine wSR (wP (v := .agg #[.int .u8 (0 : Int), .int .u8 (0 : Int)]) rfl rfl ?_)
  apply wl_store tt_ok; rfl; exact Upd.here; rfl; rfl; rfl; rfl; rfl; rfl
  refine wP rfl rfl (wNT (wc_ret (wx_then_ret ?_)))
  obtain ⟨rfl, rfl⟩ := pJ2 h
  exact wx_rd tt_ok (.inl rfl) Tryz.results33 (Res.cell rfl mH rfl (Res.tmp rfl Res.nil)) (pSub (pS (qS (qS (pS (qS (pS (qS pNil)))))))) rfl
 replace h := cf hc h
 refine wq_run rfl (qP rfl rfl (wq_run rfl (qP rfl rfl (wq_run rfl (qP (v := .pointer (some ⟨p0b, 22, none⟩)) rfl rfl (wq_run rfl (wq_val (v := .pointer (some ⟨p0_4b, 0, none⟩)) (val_load tt_ok rfl (mT mH) rfl) rfl ?_)))))))
 obtain ⟨v20, x20, h⟩ := bsome h
 refine wq_run rfl (wq_cq Tryz.call28 rfl rfl rfl (q_rd (k_queue_Queue_Known (p0 := p0_4) p0_4N0 p0_4V0 x20) (pCons (sCC (sAA hC)) (pApp (sCC (sAA hA')) pNil)) (fun _ _ => trivial)) rfl (wq_run rfl (qP rfl rfl (wq_run rfl (qP rfl rfl (wq_run rfl (qP (v := .pointer (some ⟨p0b, 2, none⟩)) rfl rfl (wq_run rfl (qP (v := .pointer (some ⟨p0b, 2, none⟩)) rfl rfl (wq_run rfl (wq_val (v := .int .u64 p0.sure.Frame) (val_load tt_ok rfl (mT mH) rfl) rfl (wq_run rfl (qP (v := .bool (decide (v20 ≤ p0.sure.Frame))) rfl rfl ?_)))))))))))))
 obtain rfl := sI h
 have h := hg27; clear hg27
 refine qP (v := .bool (decide (v20 ≤ p0.sure.Frame))) rfl rfl (wq_nil (wx_then (wc_cond rfl (fun hc => ?_) (fun hc => ?_))))
 ·replace h := ct hc h
  refine wSR (wP (v := .agg #[.int .u8 (0 : Int), .int .u8 (0 : Int)]) rfl rfl ?_)
  apply wl_store tt_ok; rfl; exact Upd.here; rfl; rfl; rfl; rfl; rfl; rfl
  refine wP rfl rfl (wNT (wc_ret (wx_then_ret ?_)))
  obtain ⟨rfl, rfl⟩ := pJ2 h
  exact wx_rd tt_ok (.inl rfl) Tryz.results33 (Res.cell rfl mH rfl (Res.tmp rfl Res.nil)) (pSub (pS (qS (qS (pS (qS (pS (qS pNil)))))))) rfl
 replace h := cf hc h
 refine wc_skip (wx_then (wSR ?_))
 iterate 3 refine wP rfl rfl ?_
 refine wP (v := .pointer (some ⟨p0b, 2, none⟩)) rfl rfl (wP (v := .pointer (some ⟨p0b, 2, none⟩)) rfl rfl (wl_val (v := .int .u64 p0.sure.Frame) (val_load tt_ok rfl (mT mH) rfl) rfl ?_))
 obtain ⟨v35, x35, h⟩ := bsome h
 refine wl_cq Tryz.call63 rfl rfl rfl (q_rd (k_rollback_Engine_pair (p0 := p0) (p0_4 := p0_4) (p0_5 := p0_5) p0N0 p0V0 p0N1 p0V1 p0_4N0 p0_4V0 p0_5G0 p0_5A0 x35) (pS (qS (qS (pS (qS (pS (qS pNil))))))) (fun _ _ => trivial)) rfl ?_
 apply wl_store tt_ok; rfl; exact Upd.here; rfl; rfl; rfl; rfl; rfl; rfl
 refine wP rfl rfl (wNT (wc_ret ?_))
 obtain ⟨rfl, rfl⟩ := pJ2 h
 exact wx_rd tt_ok (.inl rfl) Tryz.results33 (Res.cell rfl mH rfl (Res.tmp rfl Res.nil)) (pSub (pS (qS (qS (pS (qS (pS (qS pNil)))))))) rfl

theorem k_queue_Queue_Drop {F : Nat} {p0 : T_queue_Queue} {p0b p0t : Nat} {p0a0 : Option Addr} {p0n0 p0c0 : Nat} {p0B0 : List Blk} {p1 : Int} {r0 : T_queue_Queue} (p0N0 : p0n0 = p0.l.length) (p0V0 : Own 40 1 p0a0 p0n0 p0c0 (flat (e1 .u8) p0.l) p0B0) (h : m_queue_Queue_Drop F p0 p1 = some r0) :
    SpD Tryz.prog 36 [.pointer (some ⟨p0b, 0, none⟩), .int .u64 p1] (⟨p0b, [.int .u64 p0.first_, .slice p0a0 p0n0 p0c0, .int .u8 p0.last], p0t, (0, 0)⟩ :: (p0B0 ++ [])) (fun w => True) (fun v D => ∃ (r0a0 : Option Addr) (r0n0 r0c0 : Nat) (r0B0 : List Blk), r0n0 = r0.l.length ∧ Own 40 1 r0a0 r0n0 r0c0 (flat (e1 .u8) r0.l) r0B0 ∧ v = .tuple #[] ∧ D = fun F => (⟨p0b, [.int .u64 r0.first_, .slice r0a0 r0n0 r0c0, .int .u8 r0.last], p0t, (0, 0)⟩ :: (r0B0 ++ F))) := by
 unfold m_queue_Queue_Drop at h
 refine sp_of_wc Tryz.func36 rfl Tryz.ntmps36 rfl rfl (fun w0 hR => ?_)
 refine wc_seq (wSR (wP rfl rfl (wP (v := .bool false) rfl rfl (wP rfl rfl (wl_run rfl (wP rfl rfl (wl_run rfl (wP rfl rfl (wl_run rfl (wP rfl rfl (wl_run rfl (wP (v := .pointer (some ⟨p0b, 0, none⟩)) rfl rfl (wl_run rfl (wl_val (v := .int .u64 p0.first_) (val_load tt_ok rfl mH rfl) rfl (wl_run rfl (wP (v := .bool (decide (p1 ≤ p0.first_))) rfl rfl (wP (v := .bool (decide (p1 ≤ p0.first_))) rfl rfl (wNT (wc_cond rfl (fun hc => ?_) (fun hc => ?_))))))))))))))))))))
 ·replace h := ct hc h
  refine wc_ret (wx_then_ret ?_)
  obtain rfl := sI h
  exact wx_spD tt_ok (.inl rfl) Tryz.results36 Res.nil ⟨p0a0, p0n0, p0c0, p0B0, p0N0, p0V0, rfl, rfl⟩ (fun F => by simp) (pSub (pH (pA pNil)))
 replace h := cf hc h
 refine wc_skip (wx_then (wSR ?_))
 iterate 2 refine wP rfl rfl ?_
 obtain ⟨v17, x17, h⟩ := bsome h
 refine wl_cq Tryz.call28 rfl rfl rfl (q_rd (k_queue_Queue_Known (p0 := p0) p0N0 p0V0 x17) (pH (pA pNil)) (fun _ _ => trivial)) rfl ?_
 refine wP (v := .int .u64 (min p1 v17)) rfl rfl (wP rfl rfl (wNT (wc_seq (wc_k2 (Ls := (⟨p0b, [.int .u64 p0.first_, .slice p0a0 p0n0 p0c0, .int .u8 p0.last], p0t, (0, 0)⟩ :: (p0B0 ++ []))) [15, 16] [15, 16] [0, 1, 3, 7, 0, 16, 48, 112, 0, 0, 512, 1536, 3584, 7936, 16368, 32767, 65535] [0, 1, 2, 3, 4, 5, 6, 7, 8, 9, 10, 11, 12, 13, 14, 15, 16] (by kernel_rfl) (by kernel_rfl) (by kernel_rfl) ?_))))
 iterate 2 refine k_val rfl rfl rfl (pSub (pH (pA pNil))) (sV rfl) rfl ?_
 refine k_val (v := .pointer (some ⟨p0b, 1, none⟩)) rfl rfl rfl (pSub (pH (pA pNil))) (sV rfl) rfl (k_val (v := .slice p0a0 p0n0 p0c0) rfl rfl rfl (pSub (pH (pA pNil))) (val_load tt_ok rfl mH rfl) rfl ?_)
 iterate 2 refine k_val rfl rfl rfl (pSub (pH (pA pNil))) (sV rfl) rfl ?_
 refine k_val (v := .pointer (some ⟨p0b, 1, none⟩)) rfl rfl rfl (pSub (pH (pA pNil))) (sV rfl) rfl (k_val (v := .slice p0a0 p0n0 p0c0) rfl rfl rfl (pSub (pH (pA pNil))) (val_load tt_ok rfl mH rfl) rfl ?_)
 iterate 3 refine k_val rfl rfl rfl (pSub (pH (pA pNil))) (sV rfl) rfl ?_
 refine k_val (v := .pointer (some ⟨p0b, 0, none⟩)) rfl rfl rfl (pSub (pH (pA pNil))) (sV rfl) rfl (k_val (v := .int .u64 p0.first_) rfl rfl rfl (pSub (pH (pA pNil))) (val_load tt_ok rfl mH rfl) rfl (k_val (v := .int .u64 (IntKind.wrap .u64 ((min p1 v17) - p0.first_))) rfl rfl rfl (pSub (pH (pA pNil))) (sV rfl) rfl ?_))
 obtain ⟨v33, x33, h⟩ := bsome h
 refine k_cut (enc := (e1 .u8)) rfl rfl rfl (pSub (pH (pA pNil))) tt_ok rfl rfl rfl p0N0 (vec_some p0V0) (e1_len _) (vec_cap p0V0) (.inr ⟨_, _, rfl, rfl⟩) (.inl ⟨rfl, by rw [p0N0]⟩) (.inl ⟨rfl, rfl⟩) (by intro h; first | rfl | cases h) (cut2 x33 p0N0 (vec_cap p0V0)) x33 rfl ?_
 intro a33 n33_ c33 N33 H33 I33 O33 Z33
 refine k_chg rfl rfl rfl (chg_copy (enc := (e1 .u8)) (ys := v33) tt_ok rfl rfl rfl rfl p0N0 N33 p0V0 (sC hA') (Rds.of_vec (O33 _ rfl p0V0)) ⟨_, (sC hA')⟩ (e1_len _) (fun _ => rfl)) rfl (.inl rfl) ?_
 rintro _ _ ⟨Bk10_15, rfl, Nk10_15, Vk10_15, rfl⟩
 refine k_chg rfl rfl rfl (Chg.of_val (sV rfl)) rfl (.inl rfl) ?_
 rintro _ _ ⟨rfl, rfl⟩
 refine k_end (by kernel_rfl) ?_
 refine wx_then (wc_region ?_)
 iterate 4 refine wP rfl rfl ?_
 refine wP (v := .pointer (some ⟨p0b, 1, none⟩)) rfl rfl (wl_val (v := .slice p0a0 p0n0 p0c0) (val_load tt_ok rfl (mR mH) rfl) rfl (wP rfl rfl ?_))
 obtain ⟨v42, x42, h⟩ := bsome h
 refine wl_cut (enc := (e1 .u8)) tt_ok rfl rfl rfl Nk10_15 (vec_some Vk10_15) (e1_len _) (vec_cap Vk10_15) (.inl ⟨rfl, rfl⟩) (.inr ⟨_, _, rfl, rfl⟩) (.inl ⟨rfl, rfl⟩) (by intro h; first | rfl | cases h) (cut2 x42 Nk10_15 (vec_cap Vk10_15)) x42 rfl ?_
 intro a42 n42_ c42 N42 H42 I42 O42 Z42
 iterate 2 refine wP rfl rfl ?_
 refine wP (v := .pointer (some ⟨p0b, 1, none⟩)) rfl rfl ?_
 apply wl_store tt_ok; rfl; exact (Upd.right Upd.here); rfl; rfl; rfl; rfl; rfl; rfl
 refine wP rfl rfl (wP (v := .pointer (some ⟨p0b, 0, none⟩)) rfl rfl ?_)
 apply wl_store tt_ok; rfl; exact (Upd.right Upd.here); rfl; rfl; rfl; rfl; rfl; rfl
 refine wl_nil ?_
 obtain rfl := sI h
 exact wx_spD tt_ok (.inr rfl) Tryz.results36 Res.nil ⟨a42, n42_, c42, Bk10_15, N42, (O42 _ rfl Vk10_15), rfl, rfl⟩ (fun F => by simp) (pSub (pCons (sA hC) (pA pNil)))

theorem k_rollback_Engine_Confirm {F : Nat} {p0 : T_rollback_Engine} {p0b p0t : Nat} {p0a0 : Option Addr} {p0n0 p0c0 : Nat} {p0B0 : List Blk} {p0a1 : Option Addr} {p0n1 p0c1 : Nat} {p0B1 : List Blk} {p0_4 : T_queue_Queue} {p0_4b p0_4t : Nat} {p0_4a0 : Option Addr} {p0_4n0 p0_4c0 : Nat} {p0_4B0 : List Blk} {p0_5 : T_ring_Ring} {p0_5b p0_5t : Nat} {p0_5g0 : List (T_ring_place × G)} {p0_5P0 : List Blk} {p1 : Int} {r0 : T_rollback_Engine} {r1 : T_queue_Queue} {r2 : T_ring_Ring} {r3 : (Int × Int)} {r4 : Bool} (p0N0 : p0n0 = p0.sure.Shots.length) (p0V0 : Own 93 6 p0a0 p0n0 p0c0 (flat c_T_api_Shot p0.sure.Shots) p0B0) (p0N1 : p0n1 = p0.own.length) (p0V1 : Own 40 1 p0a1 p0n1 p0c1 (flat (e1 .u8) p0.own) p0B1) (p0_4N0 : p0_4n0 = p0_4.l.length) (p0_4V0 : Own 40 1 p0_4a0 p0_4n0 p0_4c0 (flat (e1 .u8) p0_4.l) p0_4B0) (p0_5G0 : p0_5.places.1 = unG p0_5g0) (p0_5A0 : AllP sh_T_ring_place c_T_api_Shot p0_5P0 p0_5g0) (h : m_rollback_Engine_Confirm F p0 p0_4 p0_5 p1 = some (r0, r1, r2, r3, r4)) :
    SpD Tryz.prog 12 [.pointer (some ⟨p0b, 0, none⟩), .int .u64 p1] (⟨p0b, (.int .u8 p0.player :: .int .i64 p0.window :: st19 p0.sure p0a0 p0n0 p0c0 [.slice p0a1 p0n1 p0c1, .pointer (some ⟨p0_4b, 0, none⟩), .pointer (some ⟨p0_5b, 0, none⟩)]), p0t, (0, 0)⟩ :: (p0B0 ++ (p0B1 ++ (⟨p0_4b, [.int .u64 p0_4.first_, .slice p0_4a0 p0_4n0 p0_4c0, .int .u8 p0_4.last], p0_4t, (0, 0)⟩ :: (p0_4B0 ++ (⟨p0_5b, ([.int .i64 p0_5.size] ++ flat cg_T_ring_place p0_5g0), p0_5t, (0, 0)⟩ :: (p0_5P0 ++ []))))))) (fun w => Rds w (ids (⟨p0b, (.int .u8 p0.player :: .int .i64 p0.window :: st19 p0.sure p0a0 p0n0 p0c0 [.slice p0a1 p0n1 p0c1, .pointer (some ⟨p0_4b, 0, none⟩), .pointer (some ⟨p0_5b, 0, none⟩)]), p0t, (0, 0)⟩ :: (p0B0 ++ (p0B1 ++ (⟨p0_4b, [.int .u64 p0_4.first_, .slice p0_4a0 p0_4n0 p0_4c0, .int .u8 p0_4.last], p0_4t, (0, 0)⟩ :: (p0_4B0 ++ (⟨p0_5b, ([.int .i64 p0_5.size] ++ flat cg_T_ring_place p0_5g0), p0_5t, (0, 0)⟩ :: (p0_5P0 ++ [])))))))) [] (some ⟨0, 0, none⟩) (flat (fun _ : Unit => gl_state_playerBounds) [()]) ∧ Rds w (ids (⟨p0b, (.int .u8 p0.player :: .int .i64 p0.window :: st19 p0.sure p0a0 p0n0 p0c0 [.slice p0a1 p0n1 p0c1, .pointer (some ⟨p0_4b, 0, none⟩), .pointer (some ⟨p0_5b, 0, none⟩)]), p0t, (0, 0)⟩ :: (p0B0 ++ (p0B1 ++ (⟨p0_4b, [.int .u64 p0_4.first_, .slice p0_4a0 p0_4n0 p0_4c0, .int .u8 p0_4.last], p0_4t, (0, 0)⟩ :: (p0_4B0 ++ (⟨p0_5b, ([.int .i64 p0_5.size] ++ flat cg_T_ring_place p0_5g0), p0_5t, (0, 0)⟩ :: (p0_5P0 ++ [])))))))) [] (some ⟨1, 0, none⟩) (flat (fun _ : Unit => gl_state_shotBounds) [()])) (fun v D => ∃ (r0a0 : Option Addr) (r0n0 r0c0 : Nat) (r0B0 : List Blk) (r0a1 : Option Addr) (r0n1 r0c1 : Nat) (r0B1 : List Blk) (r1a0 : Option Addr) (r1n0 r1c0 : Nat) (r1B0 : List Blk) (r2g0 : List (T_ring_place × G)) (r2P0 : List Blk), r0n0 = r0.sure.Shots.length ∧ Own 93 6 r0a0 r0n0 r0c0 (flat c_T_api_Shot r0.sure.Shots) r0B0 ∧ r0n1 = r0.own.length ∧ Own 40 1 r0a1 r0n1 r0c1 (flat (e1 .u8) r0.own) r0B1 ∧ r1n0 = r1.l.length ∧ Own 40 1 r1a0 r1n0 r1c0 (flat (e1 .u8) r1.l) r1B0 ∧ r2.places.1 = unG r2g0 ∧ AllP sh_T_ring_place c_T_api_Shot r2P0 r2g0 ∧ v = .tuple #[.agg #[.int .u8 r3.1, .int .u8 r3.2], .bool r4] ∧ D = fun F => (⟨p0b, (.int .u8 r0.player :: .int .i64 r0.window :: st19 r0.sure r0a0 r0n0 r0c0 [.slice r0a1 r0n1 r0c1, .pointer (some ⟨p0_4b, 0, none⟩), .pointer (some ⟨p0_5b, 0, none⟩)]), p0t, (0, 0)⟩ :: (r0B0 ++ (r0B1 ++ (⟨p0_4b, [.int .u64 r1.first_, .slice r1a0 r1n0 r1c0, .int .u8 r1.last], p0_4t, (0, 0)⟩ :: (r1B0 ++ (⟨p0_5b, ([.int .i64 r2.size] ++ flat cg_T_ring_place r2g0), p0_5t, (0, 0)⟩ :: (r2P0 ++ F)))))))) := by
 unfold m_rollback_Engine_Confirm at h
 refine sp_of_wc Tryz.func12 rfl Tryz.ntmps12 rfl rfl (fun w0 hR => ?_)
 obtain ⟨G0S, G1S⟩ := hR
 refine wSR (wl_alloc tt_ok rfl rfl (fun b4 => (wP rfl rfl (wNT (wSR (wP rfl rfl ?_))))))
 replace h := bsome h; obtain ⟨⟨zb, zn⟩, x10, h⟩ := h; try dsimp only at h
 refine wl_cq Tryz.call33 rfl rfl rfl (q_rd (k_rollback_Engine_Next (p0 := p0) (p0_4 := p0_4) (p0_5 := p0_5) p0N0 p0V0 p0N1 p0V1 p0_4N0 p0_4V0 p0_5G0 p0_5A0 x10) (pS (qS (qS (pS (qS (pS (qS pNil))))))) (fun _ _ => trivial)) rfl ?_
 iterate 3 refine wP rfl rfl ?_
 refine wl_alloc tt_ok rfl rfl (fun b6 => ?_)
 apply wl_store tt_ok; rfl; exact Upd.here; rfl; rfl; rfl; rfl; rfl; rfl
 refine wP rfl rfl (wNT (wc_seq (wSR (wP rfl rfl (wP (v := .bool (!zn)) rfl rfl (wP rfl rfl ?_))))))
 obtain ⟨v23, h, hg23⟩ := bsome h
 refine wl_split (t := 15) rfl (fun hc => ?_) (fun hc => ?_)
 ·replace h := ct hc h
  iterate 7 refine wl_skip rfl rfl ?_
  obtain rfl := sI h
  have h := hg23; clear hg23
  refine wP (v := .bool true) rfl rfl (wNT ?_)
  replace h := ct rfl h
  refine wc_cond_true rfl ?_
  refine wSR (wP (v := .agg #[.int .u8 (0 : Int), .int .u8 (0 : Int)]) rfl rfl ?_)
  apply wl_store tt_ok; rfl; exact (Upd.there Upd.here); rfl; rfl; rfl; rfl; rfl; rfl
  refine wP rfl rfl (wNT (wc_ret (wx_then_ret ?_)))
  obtain ⟨rfl, rfl, rfl, rfl, rfl⟩ := pJ5 h
  exact wx_spD tt_ok (.inl rfl) Tryz.results12 (Res.cell rfl (mT mH) rfl (Res.tmp rfl Res.nil)) ⟨p0a0, p0n0, p0c0, p0B0, p0a1, p0n1, p0c1, p0B1, p0_4a0, p0_4n0, p0_4c0, p0_4B0, p0_5g0, p0_5P0, p0N0, p0V0, p0N1, p0V1, p0_4N0, p0_4V0, p0_5G0, p0_5A0, rfl, rfl⟩ (fun F => by simp) (pSub (pCons (sCC hC) (pApp (sCC hA') (pApp (sCC hA') (pCons (sCC hC) (pApp (sCC hA') (pCons (sCC hC) (pApp (sCC hA') pNil))))))))
 replace h := cf hc h
 refine wl_run rfl (wP rfl rfl (wl_run rfl (wP rfl rfl (wl_run rfl (wP (v := .pointer (some ⟨p0b, 2, none⟩)) rfl rfl (wl_run rfl (wP (v := .pointer (some ⟨p0b, 2, none⟩)) rfl rfl (wl_run rfl (wl_val (v := .int .u64 p0.sure.Frame) (val_load tt_ok rfl (mTT mH) rfl) rfl (wl_run rfl (wP rfl rfl (wl_run rfl (wP (v := .bool (decide (p1 ≤ p0.sure.Frame))) rfl rfl ?_)))))))))))))
 obtain rfl := sI h
 have h := hg23; clear hg23
 refine wP (v := .bool (decide (p1 ≤ p0.sure.Frame))) rfl rfl (wNT (wc_cond rfl (fun hc => ?_) (fun hc => ?_)))
 ·replace h := ct hc h
  refine wSR (wP (v := .agg #[.int .u8 (0 : Int), .int .u8 (0 : Int)]) rfl rfl ?_)
  apply wl_store tt_ok; rfl; exact (Upd.there Upd.here); rfl; rfl; rfl; rfl; rfl; rfl
  refine wP rfl rfl (wNT (wc_ret (wx_then_ret ?_)))
  obtain ⟨rfl, rfl, rfl, rfl, rfl⟩ := pJ5 h
  exact wx_spD tt_ok (.inl rfl) Tryz.results12 (Res.cell rfl (mT mH) rfl (Res.tmp rfl Res.nil)) ⟨p0a0, p0n0, p0c0, p0B0, p0a1, p0n1, p0c1, p0B1, p0_4a0, p0_4n0, p0_4c0, p0_4B0, p0_5g0, p0_5P0, p0N0, p0V0, p0N1, p0V1, p0_4N0, p0_4V0, p0_5G0, p0_5A0, rfl, rfl⟩ (fun F => by simp) (pSub (pCons (sCC hC) (pApp (sCC hA') (pApp (sCC hA') (pCons (sCC hC) (pApp (sCC hA') (pCons (sCC hC) (pApp (sCC hA') pNil))))))))
 replace h := cf hc h
 refine wc_skip (wx_then (wc_seq (wc_k2 (Ls := (⟨b6, [.int .u8 zb.1, .int .u8 zb.2], 49, (0, 0)⟩ :: (⟨b4, [.int .u8 (0 : Int), .int .u8 (0 : Int)], 49, (0, 0)⟩ :: (⟨p0b, (.int .u8 p0.player :: .int .i64 p0.window :: st19 p0.sure p0a0 p0n0 p0c0 [.slice p0a1 p0n1 p0c1, .pointer (some ⟨p0_4b, 0, none⟩), .pointer (some ⟨p0_5b, 0, none⟩)]), p0t, (0, 0)⟩ :: (p0B0 ++ (p0B1 ++ (⟨p0_4b, [.int .u64 p0_4.first_, .slice p0_4a0 p0_4n0 p0_4c0, .int .u8 p0_4.last], p0_4t, (0, 0)⟩ :: (p0_4B0 ++ (⟨p0_5b, ([.int .i64 p0_5.size] ++ flat cg_T_ring_place p0_5g0), p0_5t, (0, 0)⟩ :: (p0_5P0 ++ [])))))))))) [6, 7, 8, 9] [7, 8, 9] [0, 0, 2, 6, 14, 0, 62, 127, 255, 511] [0, 1, 2, 3, 4, 5, 6, 7, 8, 9] (by kernel_rfl) (by kernel_rfl) (by kernel_rfl) ?_)))
 iterate 3 refine k_val rfl rfl rfl (pSub (pHH (pH (pAA (pH (pA (pH (pA pNil)))))))) (sV rfl) rfl ?_
 refine k_val (v := .pointer (some ⟨p0b, 2, none⟩)) rfl rfl rfl (pSub (pHH (pH (pAA (pH (pA (pH (pA pNil)))))))) (sV rfl) rfl (k_val (v := agS p0.sure p0a0 p0n0 p0c0) rfl rfl rfl (pSub (pHH (pH (pAA (pH (pA (pH (pA pNil)))))))) (val_load tt_ok rfl (mTT mH) rfl) rfl ?_)
 refine k_val (v := .agg #[.int .u8 zb.1, .int .u8 zb.2]) rfl rfl rfl (pSub (pHH (pH (pAA (pH (pA (pH (pA pNil)))))))) (val_load tt_ok rfl mH rfl) rfl ?_
 obtain ⟨v31, x31, h⟩ := bsome h
 refine k_cs rfl rfl rfl Tryz.call34 rfl rfl rfl (s_sp (k_step_Step (p0 := p0.sure) p0N0 (vec_cap p0V0) x31) pNil (fun w hI => ⟨(Rds.call (Rds.of_vec p0V0) pNil ⟨_, (sCC (sC hA'))⟩) w hI, (Rds.call G0S pNil rsub_nil) w hI, (Rds.call G1S pNil rsub_nil) w hI⟩)) rfl (.inr (by rintro _ _ ⟨_, ⟨_, _, _, _, _, _, rfl, rfl⟩, rfl⟩; exact ⟨_, (pCons (sA hC) (pCons (sA hC) (pCons (sA hC) (pApp (sA hA') (pApp (sA hA') (pCons (sA hC) (pApp (sA hA') (pCons (sA hC) (pApp (sA hA') pNil)))))))))⟩)) ?_
 rintro _ _ ⟨_, ⟨v31a0, v31n0, v31c0, v31B0, v31N0, v31V0, rfl, rfl⟩, rfl⟩
 refine k_chg rfl rfl rfl (Chg.of_val (sV rfl)) rfl (.inl rfl) ?_
 rintro _ _ ⟨rfl, rfl⟩
 refine k_chg rfl rfl rfl (Chg.of_val (v := .pointer (some ⟨p0b, 2, none⟩)) (sV rfl)) rfl (.inl rfl) ?_
 rintro _ _ ⟨rfl, rfl⟩
 refine k_chg0 rfl rfl rfl (chg_store tt_ok rfl (Upd.right (Upd.there (Upd.there Upd.here))) rfl rfl rfl rfl rfl rfl) (.inl rfl) ?_
 rintro _ _ rfl
 refine k_end (by kernel_rfl) ?_
 refine wx_then (wSR ?_)
 iterate 3 refine wP rfl rfl ?_
 refine wP (v := .pointer (some ⟨p0b, 21, none⟩)) rfl rfl (wl_val (v := .slice p0a1 p0n1 p0c1) (val_load tt_ok rfl (mR (mTT mH)) rfl) rfl ?_)
 obtain ⟨v39, x39, h⟩ := bsome h
 refine wl_cut (enc := (e1 .u8)) tt_ok rfl rfl rfl p0N1 (vec_some p0V1) (e1_len _) (vec_cap p0V1) (.inr ⟨_, _, rfl, rfl⟩) (.inl ⟨rfl, by rw [p0N1]⟩) (.inl ⟨rfl, rfl⟩) (by intro h; first | rfl | cases h) (cut2 x39 p0N1 (vec_cap p0V1)) x39 rfl ?_
 intro a39 n39_ c39 N39 H39 I39 O39 Z39
 obtain ⟨v40, x40, h⟩ := bsome h
 refine wl_cs Tryz.call35 rfl rfl rfl (s_sp (k_slices_Clone___api_Input_api_Input (p0 := v39) N39 H39 x40) pNil (Rds.call (Rds.of_vec (O39 _ rfl p0V1)) pNil ⟨_, (sA (sCC (sCA hA')))⟩)) rfl ?_
 rintro _ _ ⟨_, ⟨v40a0, v40n0, v40c0, v40B0, v40N0, v40V0, rfl, rfl⟩, rfl⟩
 refine wP rfl rfl (wP (v := .pointer (some ⟨p0b, 21, none⟩)) rfl rfl ?_)
 apply wl_store tt_ok; rfl; exact (Upd.right (Upd.right (Upd.there (Upd.there Upd.here)))); rfl; rfl; rfl; rfl; rfl; rfl
 refine wNT (wc_seq (wc_k2 (Ls := (v40B0 ++ (v31B0 ++ (⟨b6, [.int .u8 zb.1, .int .u8 zb.2], 49, (0, 0)⟩ :: (⟨b4, [.int .u8 (0 : Int), .int .u8 (0 : Int)], 49, (0, 0)⟩ :: (⟨p0b, (.int .u8 p0.player :: .int .i64 p0.window :: st19 v31 v31a0 v31n0 v31c0 [.slice v40a0 v40n0 v40c0, .pointer (some ⟨p0_4b, 0, none⟩), .pointer (some ⟨p0_5b, 0, none⟩)]), p0t, (0, 0)⟩ :: (p0B0 ++ (p0B1 ++ (⟨p0_4b, [.int .u64 p0_4.first_, .slice p0_4a0 p0_4n0 p0_4c0, .int .u8 p0_4.last], p0_4t, (0, 0)⟩ :: (p0_4B0 ++ (⟨p0_5b, ([.int .i64 p0_5.size] ++ flat cg_T_ring_place p0_5g0), p0_5t, (0, 0)⟩ :: (p0_5P0 ++ [])))))))))))) [9] [9] [0, 1, 3, 7, 0, 16, 48, 112, 240, 511] [0, 1, 2, 3, 4, 5, 6, 7, 8, 9] (by kernel_rfl) (by kernel_rfl) (by kernel_rfl) ?_))
 iterate 2 refine k_val rfl rfl rfl (pSub (pAA (pHH (pH (pAA (pH (pA (pH (pA pNil))))))))) (sV rfl) rfl ?_
 refine k_val (v := .pointer (some ⟨p0b, 22, none⟩)) rfl rfl rfl (pSub (pAA (pHH (pH (pAA (pH (pA (pH (pA pNil))))))))) (sV rfl) rfl (k_val (v := .pointer (some ⟨p0_4b, 0, none⟩)) rfl rfl rfl (pSub (pAA (pHH (pH (pAA (pH (pA (pH (pA pNil))))))))) (val_load tt_ok rfl (mR (mR (mTT mH))) rfl) rfl ?_)
 iterate 2 refine k_val rfl rfl rfl (pSub (pAA (pHH (pH (pAA (pH (pA (pH (pA pNil))))))))) (sV rfl) rfl ?_
 iterate 2 refine k_val (v := .pointer (some ⟨p0b, 2, none⟩)) rfl rfl rfl (pSub (pAA (pHH (pH (pAA (pH (pA (pH (pA pNil))))))))) (sV rfl) rfl ?_
 refine k_val (v := .int .u64 v31.Frame) rfl rfl rfl (pSub (pAA (pHH (pH (pAA (pH (pA (pH (pA pNil))))))))) (val_load tt_ok rfl (mR (mR (mTT mH))) rfl) rfl ?_
 obtain ⟨za, x52, h⟩ := bsome h
 refine k_cs rfl rfl rfl Tryz.call36 rfl rfl rfl (s_sp (k_queue_Queue_Drop (p0 := p0_4) p0_4N0 p0_4V0 x52) (pCons (sAA (sCC (sC (sAA hC)))) (pApp (sAA (sCC (sC (sAA hA')))) pNil)) (fun _ _ => trivial)) rfl (.inl rfl) ?_
 rintro _ _ ⟨_, ⟨ze, zg, zf, zd, zh, zi, rfl, rfl⟩, rfl⟩
 refine k_end (by kernel_rfl) ?_
 refine wx_then (wc_seq (wc_k2 (Ls := (⟨p0_4b, [.int .u64 za.first_, .slice ze zg zf, .int .u8 za.last], p0_4t, (0, 0)⟩ :: (zd ++ (v40B0 ++ (v31B0 ++ (⟨b6, [.int .u8 zb.1, .int .u8 zb.2], 49, (0, 0)⟩ :: (⟨b4, [.int .u8 (0 : Int), .int .u8 (0 : Int)], 49, (0, 0)⟩ :: (⟨p0b, (.int .u8 p0.player :: .int .i64 p0.window :: st19 v31 v31a0 v31n0 v31c0 [.slice v40a0 v40n0 v40c0, .pointer (some ⟨p0_4b, 0, none⟩), .pointer (some ⟨p0_5b, 0, none⟩)]), p0t, (0, 0)⟩ :: (p0B0 ++ (p0B1 ++ (⟨p0_5b, ([.int .i64 p0_5.size] ++ flat cg_T_ring_place p0_5g0), p0_5t, (0, 0)⟩ :: (p0_5P0 ++ [])))))))))))) [8] [8] [0, 1, 3, 7, 0, 16, 48, 112, 255] [0, 1, 2, 3, 4, 5, 6, 7, 8] (by kernel_rfl) (by kernel_rfl) (by kernel_rfl) ?_))
 iterate 2 refine k_val rfl rfl rfl (pSub (pH (pAA (pA (pHH (pH (pAA (pH (pA pNil))))))))) (sV rfl) rfl ?_
 refine k_val (v := .pointer (some ⟨p0b, 23, none⟩)) rfl rfl rfl (pSub (pH (pAA (pA (pHH (pH (pAA (pH (pA pNil))))))))) (sV rfl) rfl (k_val (v := .pointer (some ⟨p0_5b, 0, none⟩)) rfl rfl rfl (pSub (pH (pAA (pA (pHH (pH (pAA (pH (pA pNil))))))))) (val_load tt_ok rfl (mT (mR (mR (mR (mTT mH))))) rfl) rfl ?_)
 iterate 2 refine k_val rfl rfl rfl (pSub (pH (pAA (pA (pHH (pH (pAA (pH (pA pNil))))))))) (sV rfl) rfl ?_
 refine k_val (v := .pointer (some ⟨p0b, 2, none⟩)) rfl rfl rfl (pSub (pH (pAA (pA (pHH (pH (pAA (pH (pA pNil))))))))) (sV rfl) rfl (k_val (v := agS v31 v31a0 v31n0 v31c0) rfl rfl rfl (pSub (pH (pAA (pA (pHH (pH (pAA (pH (pA pNil))))))))) (val_load tt_ok rfl (mT (mR (mR (mR (mTT mH))))) rfl) rfl ?_)
 replace h := bsome h; obtain ⟨⟨zc, v61⟩, x61, h⟩ := h; try dsimp only at h
 refine k_cs rfl rfl rfl Tryz.call23 rfl rfl rfl (s_sp (k_ring_Ring_Put (p0 := p0_5) (p1 := v31) p0_5G0 p0_5A0 v31N0 (vec_cap v31V0) (own_Z v31V0) x61) (pCons (sC (sAA (sA (sCC (sC (sAA hC)))))) (pApp (sC (sAA (sA (sCC (sC (sAA hA')))))) pNil)) (fun w hI => ⟨(Rds.call (Rds.of_vec v31V0) (pCons (sC (sAA (sA (sCC (sC (sAA hC)))))) (pApp (sC (sAA (sA (sCC (sC (sAA hA')))))) pNil)) ⟨_, (sC (sAA hA'))⟩) w hI, (Rds.call G0S (pCons (sC (sAA (sA (sCC (sC (sAA hC)))))) (pApp (sC (sAA (sA (sCC (sC (sAA hA')))))) pNil)) rsub_nil) w hI, (Rds.call G1S (pCons (sC (sAA (sA (sCC (sC (sAA hC)))))) (pApp (sC (sAA (sA (sCC (sC (sAA hA')))))) pNil)) rsub_nil) w hI⟩)) rfl (.inl rfl) ?_
 rintro _ _ ⟨_, ⟨zm, zl, zk, zj, rfl, rfl⟩, rfl⟩
 refine k_end (by kernel_rfl) ?_
 refine wx_then (wSR (wl_val (v := .agg #[.int .u8 zb.1, .int .u8 zb.2]) (val_load tt_ok rfl (mT (mR (mT (mR (mR (mR mH)))))) rfl) rfl ?_))
 apply wl_store tt_ok; rfl; exact (Upd.there (Upd.right (Upd.there (Upd.right (Upd.right (Upd.right (Upd.there Upd.here))))))); rfl; rfl; rfl; rfl; rfl; rfl
 refine wP rfl rfl (wNT (wc_ret ?_))
 obtain ⟨rfl, rfl, rfl, rfl, rfl⟩ := pJ5 h
 exact wx_spD tt_ok (.inl rfl) Tryz.results12 (Res.cell rfl (mT (mR (mT (mR (mR (mR (mT mH))))))) rfl (Res.tmp rfl Res.nil)) ⟨v31a0, v31n0, v31c0, v31B0, v40a0, v40n0, v40c0, v40B0, ze, zg, zf, zd, zm, zl, v31N0, v31V0, v40N0, v40V0, zh, zi, zk, zj, rfl, rfl⟩ (fun F => by simp) (pSub (pCons (sCA (sC (sAA (sA (sCC hC))))) (pApp (sCA (sC (sAA hA'))) (pApp (sCA (sCA hA')) (pCons (sCA hC) (pApp (sCA hA') (pH (pA pNil))))))))

theorem k_hindcastlaw26_works {F : Nat} {r0 : Bool} (h : m_hindcastlaw26_works F = some r0) :
    Pf Tryz.prog 4 [] (fun w => Rds w [] [] (some ⟨0, 0, none⟩) (flat (fun _ : Unit => gl_state_playerBounds) [()]) ∧ Rds w [] [] (some ⟨1, 0, none⟩) (flat (fun _ : Unit => gl_state_shotBounds) [()])) (.bool r0) := by
 unfold m_hindcastlaw26_works at h
 refine pf_of_wc Tryz.func4 rfl Tryz.ntmps4 rfl rfl (fun w0 hR => ?_)
 obtain ⟨G0S, G1S⟩ := hR
 refine wSR (wP rfl rfl (wNT (wSR ?_)))
 obtain ⟨v4, x4, h⟩ := bsome h
 refine wl_cs Tryz.call15 rfl rfl rfl (s_sp (k_state_Start x4) pNil (fun _ _ => trivial)) rfl ?_
 rintro _ _ ⟨_, ⟨v4a0, v4n0, v4c0, v4B0, v4N0, v4V0, rfl, rfl⟩, rfl⟩
 obtain ⟨v5, x5, h⟩ := bsome h
 rcases v5 with _ | v5s
 ·replace h := poN h
  refine wl_cs Tryz.call5 rfl rfl rfl (s_sp (k_rollback_New_none (p0 := v4) v4N0 (vec_cap v4V0) (own_Z v4V0) x5) pNil (fun w hI => ⟨(Rds.call (Rds.of_vec v4V0) pNil ⟨_, hA'⟩) w hI, (Rds.call G0S pNil rsub_nil) w hI, (Rds.call G1S pNil rsub_nil) w hI⟩)) rfl ?_
  rintro _ _ ⟨_, ⟨rfl, rfl⟩, rfl⟩
  refine wP rfl rfl (wNT (wc_seq (wSR (wP rfl rfl (wP (v := .bool true) rfl rfl (wP rfl rfl ?_))))))
  iterate 3 refine wl_skip rfl rfl ?_
  refine wP (v := .bool true) rfl rfl (wP rfl rfl ?_)
  iterate 3 refine wl_skip rfl rfl ?_
  refine wP (v := .bool true) rfl rfl (wP rfl rfl ?_)
  iterate 3 refine wl_skip rfl rfl ?_
  refine wP (v := .bool true) rfl rfl (wP rfl rfl ?_)
  iterate 6 refine wl_skip rfl rfl ?_
  refine wP (v := .bool true) rfl rfl (wP rfl rfl ?_)
  iterate 3 refine wl_skip rfl rfl ?_
  refine wP (v := .bool true) rfl rfl (wNT (wc_cond_true rfl (wSR (wP rfl rfl (wNT (wc_ret (wx_then_ret ?_)))))))
  obtain rfl := sI h
  exact wx_pf tt_ok (.inl rfl) Tryz.results4 (Res.tmp rfl Res.nil) rfl
 replace h := poS h
 refine wl_cs Tryz.call5 rfl rfl rfl (s_sp (k_rollback_New (p0 := v4) v4N0 (vec_cap v4V0) (own_Z v4V0) x5) pNil (fun w hI => ⟨(Rds.call (Rds.of_vec v4V0) pNil ⟨_, hA'⟩) w hI, (Rds.call G0S pNil rsub_nil) w hI, (Rds.call G1S pNil rsub_nil) w hI⟩)) rfl ?_
 rintro _ _ ⟨_, ⟨zbh, zdi, zdj, v5sa0, v5sn0, v5sc0, v5sB0, v5sa1, v5sn1, v5sc1, v5sB1, v5s_4a0, v5s_4n0, v5s_4c0, v5s_4B0, v5s_5g0, v5s_5P0, v5sN0, v5sV0, v5sN1, v5sV1, v5s_4N0, v5s_4V0, v5s_5G0, v5s_5A0, rfl, rfl⟩, rfl⟩
 refine wP rfl rfl (wNT (wc_seq (wSR (wP rfl rfl (wP (v := .bool false) rfl rfl (wP rfl rfl (wl_run rfl (wP rfl rfl ?_))))))))
 replace h := bsome h; obtain ⟨⟨zc, v10⟩, x10, h⟩ := h; try dsimp only at h
 refine wl_run rfl (wl_cs Tryz.call8 rfl rfl rfl (s_sp (k_rollback_Engine_Local (p0 := v5s.1) (p0_4 := v5s.2.1) (p0_5 := v5s.2.2) v5sN0 v5sV0 v5sN1 v5sV1 v5s_4N0 v5s_4V0 v5s_5G0 v5s_5A0 x10) (pH (pAA (pH (pA (pH (pA pNil)))))) (fun _ _ => trivial)) rfl ?_)
 rintro _ _ ⟨_, ⟨zbo, zbs, zbq, zbm, zbp, zbt, zbr, zbn, zam, zao, zan, zap, rfl, rfl⟩, rfl⟩
 refine wl_run rfl (wP (v := .bool (v10 != (0 : Int))) rfl rfl (wP (v := .bool (v10 != (0 : Int))) rfl rfl (wP rfl rfl ?_)))
 replace h := bsome h; obtain ⟨⟨v17, zbi, zbj, zbc, zbd, zbe, zbf, zbg, zbk⟩, h, hg17⟩ := h
 refine wl_split (t := 13) rfl (fun hc => ?_) (fun hc => ?_)
 ·replace h := ct hc h
  iterate 3 refine wl_skip rfl rfl ?_
  simp only [Option.some.injEq, Prod.mk.injEq] at h
  obtain ⟨rfl, rfl, rfl, rfl, rfl, rfl, rfl, rfl, rfl⟩ := h
  have h := hg17; clear hg17; try dsimp only at h
  refine wP (v := .bool true) rfl rfl (wP rfl rfl ?_)
  replace h := bsome h; obtain ⟨⟨v22, zah, zai, zac, zad, zae, zaf, zag, zaj⟩, h, hg22⟩ := h
  replace h := ct rfl h
  iterate 3 refine wl_skip rfl rfl ?_
  simp only [Option.some.injEq, Prod.mk.injEq] at h
  obtain ⟨rfl, rfl, rfl, rfl, rfl, rfl, rfl, rfl, rfl⟩ := h
  have h := hg22; clear hg22; try dsimp only at h
  refine wP (v := .bool true) rfl rfl (wP rfl rfl ?_)
  replace h := bsome h; obtain ⟨⟨v30, zp, zq⟩, h, hg30⟩ := h
  replace h := ct rfl h
  iterate 6 refine wl_skip rfl rfl ?_
  obtain ⟨rfl, rfl, rfl⟩ := pJ3 h
  have h := hg30; clear hg30; try dsimp only at h
  refine wP (v := .bool true) rfl rfl (wP rfl rfl ?_)
  replace h := bsome h; obtain ⟨⟨v35, zg, zh, zi, zj, zk⟩, h, hg35⟩ := h
  replace h := ct rfl h
  iterate 3 refine wl_skip rfl rfl ?_
  obtain ⟨rfl, rfl, rfl, rfl, rfl, rfl⟩ := pJ6 h
  have h := hg35; clear hg35; try dsimp only at h
  refine wP (v := .bool true) rfl rfl (wNT ?_)
  replace h := ct rfl h
  refine wc_cond_true rfl ?_
  refine wSR (wP rfl rfl (wNT (wc_ret (wx_then_ret ?_))))
  obtain rfl := sI h
  exact wx_pf tt_ok (.inl rfl) Tryz.results4 (Res.tmp rfl Res.nil) rfl
 replace h := cf hc h
 refine wl_run rfl (wP rfl rfl ?_)
 replace h := bsome h; obtain ⟨⟨zd, v15⟩, x15, h⟩ := h; try dsimp only at h
 refine wl_run rfl (wl_cs Tryz.call8 rfl rfl rfl (s_sp (k_rollback_Engine_Local (p0 := zc) (p0_4 := v5s.2.1) (p0_5 := v5s.2.2) zam zao zan zap v5s_4N0 v5s_4V0 v5s_5G0 v5s_5A0 x15) (pH (pAA (pH (pA (pH (pA pNil)))))) (fun _ _ => trivial)) rfl ?_)
 rintro _ _ ⟨_, ⟨zbw, zca, zby, zbu, zbx, zcb, zbz, zbv, zaq, zas, zar, zat, rfl, rfl⟩, rfl⟩
 refine wl_run rfl (wP (v := .bool (v15 != (0 : Int))) rfl rfl ?_)
 simp only [Option.some.injEq, Prod.mk.injEq] at h
 obtain ⟨rfl, rfl, rfl, rfl, rfl, rfl, rfl, rfl, rfl⟩ := h
 have h := hg17; clear hg17; try dsimp only at h
 refine wP (v := .bool (v15 != (0 : Int))) rfl rfl (wP rfl rfl ?_)
 replace h := bsome h; obtain ⟨⟨v22, zah, zai, zac, zad, zae, zaf, zag, zaj⟩, h, hg22⟩ := h
 refine wl_split (t := 18) rfl (fun hc => ?_) (fun hc => ?_)
 ·replace h := ct hc h
  iterate 3 refine wl_skip rfl rfl ?_
  simp only [Option.some.injEq, Prod.mk.injEq] at h
  obtain ⟨rfl, rfl, rfl, rfl, rfl, rfl, rfl, rfl, rfl⟩ := h
  have h := hg22; clear hg22; try dsimp only at h
  refine wP (v := .bool true) rfl rfl (wP rfl rfl ?_)
  replace h := bsome h; obtain ⟨⟨v30, zp, zq⟩, h, hg30⟩ := h
  replace h := ct rfl h
  iterate 6 refine wl_skip rfl rfl ?_
  obtain ⟨rfl, rfl, rfl⟩ := pJ3 h
  have h := hg30; clear hg30; try dsimp only at h
  refine wP (v := .bool true) rfl rfl (wP rfl rfl ?_)
  replace h := bsome h; obtain ⟨⟨v35, zg, zh, zi, zj, zk⟩, h, hg35⟩ := h
  replace h := ct rfl h
  iterate 3 refine wl_skip rfl rfl ?_
  obtain ⟨rfl, rfl, rfl, rfl, rfl, rfl⟩ := pJ6 h
  have h := hg35; clear hg35; try dsimp only at h
  refine wP (v := .bool true) rfl rfl (wNT ?_)
  replace h := ct rfl h
  refine wc_cond_true rfl ?_
  refine wSR (wP rfl rfl (wNT (wc_ret (wx_then_ret ?_))))
  obtain rfl := sI h
  exact wx_pf tt_ok (.inl rfl) Tryz.results4 (Res.tmp rfl Res.nil) rfl
 replace h := cf hc h
 refine wl_run rfl (wP rfl rfl ?_)
 replace h := bsome h; obtain ⟨⟨za, v20⟩, x20, h⟩ := h; try dsimp only at h
 refine wl_run rfl (wl_cs Tryz.call8 rfl rfl rfl (s_sp (k_rollback_Engine_Local (p0 := zd) (p0_4 := v5s.2.1) (p0_5 := v5s.2.2) zaq zas zar zat v5s_4N0 v5s_4V0 v5s_5G0 v5s_5A0 x20) (pH (pAA (pH (pA (pH (pA pNil)))))) (fun _ _ => trivial)) rfl ?_)
 rintro _ _ ⟨_, ⟨zce, zci, zcg, zcc, zcf, zcj, zch, zcd, zs, zu, zt, zv, rfl, rfl⟩, rfl⟩
 refine wl_run rfl (wP (v := .bool (v20 != (7 : Int))) rfl rfl ?_)
 simp only [Option.some.injEq, Prod.mk.injEq] at h
 obtain ⟨rfl, rfl, rfl, rfl, rfl, rfl, rfl, rfl, rfl⟩ := h
 have h := hg22; clear hg22; try dsimp only at h
 refine wP (v := .bool (v20 != (7 : Int))) rfl rfl (wP rfl rfl ?_)
 replace h := bsome h; obtain ⟨⟨v30, zp, zq⟩, h, hg30⟩ := h
 refine wl_split (t := 23) rfl (fun hc => ?_) (fun hc => ?_)
 ·replace h := ct hc h
  iterate 6 refine wl_skip rfl rfl ?_
  obtain ⟨rfl, rfl, rfl⟩ := pJ3 h
  have h := hg30; clear hg30; try dsimp only at h
  refine wP (v := .bool true) rfl rfl (wP rfl rfl ?_)
  replace h := bsome h; obtain ⟨⟨v35, zg, zh, zi, zj, zk⟩, h, hg35⟩ := h
  replace h := ct rfl h
  iterate 3 refine wl_skip rfl rfl ?_
  obtain ⟨rfl, rfl, rfl, rfl, rfl, rfl⟩ := pJ6 h
  have h := hg35; clear hg35; try dsimp only at h
  refine wP (v := .bool true) rfl rfl (wNT ?_)
  replace h := ct rfl h
  refine wc_cond_true rfl ?_
  refine wSR (wP rfl rfl (wNT (wc_ret (wx_then_ret ?_))))
  obtain rfl := sI h
  exact wx_pf tt_ok (.inl rfl) Tryz.results4 (Res.tmp rfl Res.nil) rfl
 replace h := cf hc h
 refine wl_run rfl (wP rfl rfl ?_)
 replace h := bsome h; obtain ⟨⟨zm, v25⟩, x25, h⟩ := h; try dsimp only at h
 refine wl_run rfl (wl_cs Tryz.call16 rfl rfl rfl (s_sp (k_rollback_Engine_Shown (p0 := za) (p0_4 := v5s.2.1) (p0_5 := v5s.2.2) zs zu zt zv v5s_4N0 v5s_4V0 v5s_5G0 v5s_5A0 x25) (pH (pAA (pH (pA (pH (pA pNil)))))) (fun w hI => ⟨(Rds.call G0S (pH (pAA (pH (pA (pH (pA pNil)))))) rsub_nil) w hI, (Rds.call G1S (pH (pAA (pH (pA (pH (pA pNil)))))) rsub_nil) w hI⟩)) rfl ?_)
 rintro _ _ ⟨_, ⟨zcl, zck, v25a0, v25n0, v25c0, v25B0, zav, zau, v25N0, v25V0, rfl, rfl⟩, rfl⟩
 refine wl_run rfl (wP (v := .agg #[.int .i32 v25.Players.1.X, .int .i32 v25.Players.1.Y, .int .i32 v25.Players.1.VX, .int .i32 v25.Players.1.VY, .int .u8 v25.Players.1.Health, .int .u8 v25.Players.1.Cool, .int .u8 v25.Players.1.Face, .int .i32 v25.Players.2.X, .int .i32 v25.Players.2.Y, .int .i32 v25.Players.2.VX, .int .i32 v25.Players.2.VY, .int .u8 v25.Players.2.Health, .int .u8 v25.Players.2.Cool, .int .u8 v25.Players.2.Face]) rfl rfl (wl_run rfl (wP (v := agP v25.Players.1) rfl rfl ?_)))
 refine wl_run rfl (wP (v := .int .i32 v25.Players.1.X) rfl rfl (wl_run rfl (wP (v := .bool (v25.Players.1.X != (8384 : Int))) rfl rfl ?_)))
 obtain ⟨rfl, rfl, rfl⟩ := pJ3 h
 have h := hg30; clear hg30; try dsimp only at h
 refine wP (v := .bool (v25.Players.1.X != (8384 : Int))) rfl rfl (wP rfl rfl ?_)
 replace h := bsome h; obtain ⟨⟨v35, zg, zh, zi, zj, zk⟩, h, hg35⟩ := h
 refine wl_split (t := 31) rfl (fun hc => ?_) (fun hc => ?_)
 ·replace h := ct hc h
  iterate 3 refine wl_skip rfl rfl ?_
  obtain ⟨rfl, rfl, rfl, rfl, rfl, rfl⟩ := pJ6 h
  have h := hg35; clear hg35; try dsimp only at h
  refine wP (v := .bool true) rfl rfl (wNT ?_)
  replace h := ct rfl h
  refine wc_cond_true rfl ?_
  refine wSR (wP rfl rfl (wNT (wc_ret (wx_then_ret ?_))))
  obtain rfl := sI h
  exact wx_pf tt_ok (.inl rfl) Tryz.results4 (Res.tmp rfl Res.nil) rfl
 replace h := cf hc h
 refine wl_run rfl (wP rfl rfl ?_)
 replace h := bsome h; obtain ⟨⟨zl, zn, v33⟩, x33, h⟩ := h; try dsimp only at h
 refine wl_run rfl (wl_cs Tryz.call10 rfl rfl rfl (s_sp (k_rollback_Engine_Remote (p0 := za) (p0_4 := v5s.2.1) (p0_5 := zm) zs zu zt zv v5s_4N0 v5s_4V0 zav zau x33) (pH (pAA (pH (pA (pH (pA pNil)))))) (fun _ _ => trivial)) rfl ?_)
 rintro _ _ ⟨_, ⟨zcn, zcp, zco, zcm, zcr, zcq, zaw, zax, zaz, zay, rfl, rfl⟩, rfl⟩
 refine wl_run rfl (wP (v := .bool (v33 != (0 : Int))) rfl rfl ?_)
 obtain ⟨rfl, rfl, rfl, rfl, rfl, rfl⟩ := pJ6 h
 have h := hg35; clear hg35; try dsimp only at h
 refine wP (v := .bool (v33 != (0 : Int))) rfl rfl (wNT (wc_cond rfl (fun hc => ?_) (fun hc => ?_)))
 ·replace h := ct hc h
  refine wSR (wP rfl rfl (wNT (wc_ret (wx_then_ret ?_))))
  obtain rfl := sI h
  exact wx_pf tt_ok (.inl rfl) Tryz.results4 (Res.tmp rfl Res.nil) rfl
 replace h := cf hc h
 refine wc_skip (wx_then (wSR (wP rfl rfl ?_)))
 replace h := bsome h; obtain ⟨⟨zb, ze, zo, zr, zbl⟩, x38, h⟩ := h; try dsimp only at h
 refine wl_cs Tryz.call12 rfl rfl rfl (s_sp (k_rollback_Engine_Confirm (p0 := za) (p0_4 := zl) (p0_5 := zn) zs zu zt zv zaw zax zaz zay x38) (pH (pAA (pH (pA (pH (pA pNil)))))) (fun w hI => ⟨(Rds.call G0S (pH (pAA (pH (pA (pH (pA pNil)))))) rsub_nil) w hI, (Rds.call G1S (pH (pAA (pH (pA (pH (pA pNil)))))) rsub_nil) w hI⟩)) rfl ?_
 rintro _ _ ⟨_, ⟨zcu, zcy, zcw, zcs, zcv, zcz, zcx, zct, zdb, zdd, zdc, zda, zdf, zde, zw, zy, zx, zz, zaa, zab, zbb, zba, rfl, rfl⟩, rfl⟩
 iterate 3 refine wP rfl rfl ?_
 refine wl_alloc tt_ok rfl rfl (fun b2 => ?_)
 apply wl_store tt_ok; rfl; exact Upd.here; rfl; rfl; rfl; rfl; rfl; rfl
 refine wP rfl rfl (wNT (wSR (wP rfl rfl ?_)))
 replace h := bsome h; obtain ⟨⟨zf, v42⟩, x42, h⟩ := h; try dsimp only at h
 refine wl_cs Tryz.call16 rfl rfl rfl (s_sp (k_rollback_Engine_Shown (p0 := zb) (p0_4 := ze) (p0_5 := zo) zw zy zx zz zaa zab zbb zba x42) (pS (qS (qS (pS (qS (pS (qS pNil))))))) (fun w hI => ⟨(Rds.call G0S (pS (qS (qS (pS (qS (pS (qS pNil))))))) rsub_nil) w hI, (Rds.call G1S (pS (qS (qS (pS (qS (pS (qS pNil))))))) rsub_nil) w hI⟩)) rfl ?_
 rintro _ _ ⟨_, ⟨zdh, zdg, v42a0, v42n0, v42c0, v42B0, zal, zak, v42N0, v42V0, rfl, rfl⟩, rfl⟩
 refine wP (v := .agg #[.int .i32 v42.Players.1.X, .int .i32 v42.Players.1.Y, .int .i32 v42.Players.1.VX, .int .i32 v42.Players.1.VY, .int .u8 v42.Players.1.Health, .int .u8 v42.Players.1.Cool, .int .u8 v42.Players.1.Face, .int .i32 v42.Players.2.X, .int .i32 v42.Players.2.Y, .int .i32 v42.Players.2.VX, .int .i32 v42.Players.2.VY, .int .u8 v42.Players.2.Health, .int .u8 v42.Players.2.Cool, .int .u8 v42.Players.2.Face]) rfl rfl (wP (v := agP v42.Players.2) rfl rfl (wP (v := .int .i32 v42.Players.2.VX) rfl rfl ?_))
 refine wP (v := .bool (v42.Players.2.VX == (-128 : Int))) rfl rfl (wP rfl rfl ?_)
 obtain ⟨v49, h, hg49⟩ := bsome h
 refine wl_split (t := 47) rfl (fun hc => ?_) (fun hc => ?_)
 ·replace h := ct hc h
  refine wl_run rfl (wP rfl rfl ?_)
  obtain rfl := sI h
  have h := hg49; clear hg49
  refine wP (v := .bool zbl) rfl rfl (wP rfl rfl ?_)
  obtain ⟨v54, h, hg54⟩ := bsome h
  refine wl_split (t := 50) rfl (fun hc => ?_) (fun hc => ?_)
  ·replace h := ct hc h
   refine wl_run rfl (wl_val (v := .agg #[.int .u8 zr.1, .int .u8 zr.2]) (val_load tt_ok rfl (mT (mR (mR (mT (mR (mT (mR (mR mH)))))))) rfl) rfl (wl_run rfl (wP (v := .agg #[.int .u8 (2 : Int), .int .u8 (1 : Int)]) rfl rfl (wl_run rfl (wl_val (v := .bool ((zr.1 == (2 : Int)) && (zr.2 == (1 : Int)))) (val_eqs tt_ok tt_eq tt_one Tryz.eqGuardType49 rfl rfl rfl rfl rfl) rfl ?_)))))
   obtain rfl := sI h
   have h := hg54; clear hg54
   refine wP (v := .bool ((zr.1 == (2 : Int)) && (zr.2 == (1 : Int)))) rfl rfl (wP rfl rfl ?_)
   obtain ⟨v59, h, hg59⟩ := bsome h
   refine wl_split (t := 55) rfl (fun hc => ?_) (fun hc => ?_)
   ·replace h := ct hc h
    refine wl_run rfl (wP rfl rfl ?_)
    obtain ⟨v57, x57, h⟩ := bsome h
    refine wl_run rfl (wl_cq Tryz.call17 rfl rfl rfl (q_rd (k_rollback_Engine_C (p0 := zb) (p0_4 := ze) (p0_5 := zf) zw zy zx zz zaa zab zal zak x57) (pH (pAA (pH (pA (pH (pA pNil)))))) (fun _ _ => trivial)) rfl (wl_run rfl (wP (v := .bool (v57 == (1 : Int))) rfl rfl ?_)))
    obtain rfl := sI h
    have h := hg59; clear hg59
    refine wP (v := .bool (v57 == (1 : Int))) rfl rfl (wP rfl rfl ?_)
    obtain ⟨v64, h, hg64⟩ := bsome h
    refine wl_split (t := 60) rfl (fun hc => ?_) (fun hc => ?_)
    ·replace h := ct hc h
     refine wl_run rfl (wP rfl rfl ?_)
     obtain ⟨v62, x62, h⟩ := bsome h
     refine wl_run rfl (wl_cq Tryz.call18 rfl rfl rfl (q_rd (k_rollback_Engine_T (p0 := zb) (p0_4 := ze) (p0_5 := zf) zw zy zx zz zaa zab zal zak x62) (pH (pAA (pH (pA (pH (pA pNil)))))) (fun _ _ => trivial)) rfl (wl_run rfl (wP (v := .bool (v62 == (2 : Int))) rfl rfl ?_)))
     obtain rfl := sI h
     have h := hg64; clear hg64
     refine wP (v := .bool (v62 == (2 : Int))) rfl rfl (wP rfl rfl (wNT (wc_ret ?_)))
     obtain rfl := sI h
     exact wx_pf tt_ok (.inl rfl) Tryz.results4 (Res.tmp rfl Res.nil) rfl
    replace h := cf hc h
    iterate 3 refine wl_skip rfl rfl ?_
    obtain rfl := sI h
    have h := hg64; clear hg64
    refine wP (v := .bool false) rfl rfl (wP rfl rfl (wNT (wc_ret ?_)))
    obtain rfl := sI h
    exact wx_pf tt_ok (.inl rfl) Tryz.results4 (Res.tmp rfl Res.nil) rfl
   replace h := cf hc h
   iterate 3 refine wl_skip rfl rfl ?_
   obtain rfl := sI h
   have h := hg59; clear hg59
   refine wP (v := .bool false) rfl rfl (wP rfl rfl ?_)
   obtain ⟨v64, h, hg64⟩ := bsome h
   replace h := cf rfl h
   iterate 3 refine wl_skip rfl rfl ?_
   obtain rfl := sI h
   have h := hg64; clear hg64
   refine wP (v := .bool false) rfl rfl (wP rfl rfl (wNT (wc_ret ?_)))
   obtain rfl := sI h
   exact wx_pf tt_ok (.inl rfl) Tryz.results4 (Res.tmp rfl Res.nil) rfl
  replace h := cf hc h
  iterate 3 refine wl_skip rfl rfl ?_
  obtain rfl := sI h
  have h := hg54; clear hg54
  refine wP (v := .bool false) rfl rfl (wP rfl rfl ?_)
  obtain ⟨v59, h, hg59⟩ := bsome h
  replace h := cf rfl h
  iterate 3 refine wl_skip rfl rfl ?_
  obtain rfl := sI h
  have h := hg59; clear hg59
  refine wP (v := .bool false) rfl rfl (wP rfl rfl ?_)
  obtain ⟨v64, h, hg64⟩ := bsome h
  replace h := cf rfl h
  iterate 3 refine wl_skip rfl rfl ?_
  obtain rfl := sI h
  have h := hg64; clear hg64
  refine wP (v := .bool false) rfl rfl (wP rfl rfl (wNT (wc_ret ?_)))
  obtain rfl := sI h
  exact wx_pf tt_ok (.inl rfl) Tryz.results4 (Res.tmp rfl Res.nil) rfl
 replace h := cf hc h
 refine wl_skip rfl rfl ?_
 obtain rfl := sI h
 have h := hg49; clear hg49
 refine wP (v := .bool false) rfl rfl (wP rfl rfl ?_)
 obtain ⟨v54, h, hg54⟩ := bsome h
 replace h := cf rfl h
 iterate 3 refine wl_skip rfl rfl ?_
 obtain rfl := sI h
 have h := hg54; clear hg54
 refine wP (v := .bool false) rfl rfl (wP rfl rfl ?_)
 obtain ⟨v59, h, hg59⟩ := bsome h
 replace h := cf rfl h
 iterate 3 refine wl_skip rfl rfl ?_
 obtain rfl := sI h
 have h := hg59; clear hg59
 refine wP (v := .bool false) rfl rfl (wP rfl rfl ?_)
 obtain ⟨v64, h, hg64⟩ := bsome h
 replace h := cf rfl h
 iterate 3 refine wl_skip rfl rfl ?_
 obtain rfl := sI h
 have h := hg64; clear hg64
 refine wP (v := .bool false) rfl rfl (wP rfl rfl (wNT (wc_ret ?_)))
 obtain rfl := sI h
 exact wx_pf tt_ok (.inl rfl) Tryz.results4 (Res.tmp rfl Res.nil) rfl

theorem k_hindcastref08_Copy {F : Nat} {p0 : T_api_State} {p0a0 : Option Addr} {p0n0 p0c0 : Nat} {r0 : T_api_State} (p0N0 : p0n0 = p0.Shots.length) (p0H0 : p0n0 ≤ p0c0) (h : m_hindcastref08_Copy F p0 = some r0) :
    SpD Tryz.prog 6 [agS p0 p0a0 p0n0 p0c0] [] (fun w => Rds w (ids []) [] p0a0 (flat c_T_api_Shot p0.Shots)) (fun v D => ∃ (r0a0 : Option Addr) (r0n0 r0c0 : Nat) (r0B0 : List Blk), r0n0 = r0.Shots.length ∧ Own 93 6 r0a0 r0n0 r0c0 (flat c_T_api_Shot r0.Shots) r0B0 ∧ v = agS r0 r0a0 r0n0 r0c0 ∧ D = fun F => (r0B0 ++ F)) := by
 unfold m_hindcastref08_Copy at h
 refine sp_of_wc Tryz.func6 rfl Tryz.ntmps6 rfl rfl (fun w0 hR => ?_)
 have p0S0 := hR
 refine wSR (wl_box rfl rfl rfl (fun b1 => (wl_alloc tt_ok rfl rfl (fun b2 => (wNT (wSR (wl_val (v := agS p0 p0a0 p0n0 p0c0) (val_load tt_ok rfl (mT mH) rfl) rfl ?_)))))))
 refine wl_alloc tt_ok rfl rfl (fun b3 => ?_)
 apply wl_store tt_ok; rfl; exact Upd.here; rfl; rfl; rfl; rfl; rfl; rfl
 refine wNT (wSR (wP (v := .pointer (some ⟨b3, 16, none⟩)) rfl rfl ?_))
 apply wl_store tt_ok; rfl; exact Upd.here; rfl; rfl; rfl; rfl; rfl; rfl
 refine wNT (wSR (wP (v := .pointer (some ⟨b3, 16, none⟩)) rfl rfl (wl_val (v := .slice none 0 0) (val_load tt_ok rfl mH rfl) rfl (wP (v := .pointer (some ⟨b1, 16, none⟩)) rfl rfl (wl_val (v := .slice p0a0 p0n0 p0c0) (val_load tt_ok rfl (mTT mH) rfl) rfl ?_)))))
 obtain ⟨v10, x10, h⟩ := bsome h
 refine wl_chg (chg_app (enc := c_T_api_Shot) (ys := p0.Shots) tt_ok rfl rfl rfl rfl rfl rfl rfl p0N0 Own.zero pNil p0S0 rsub_nil c_T_api_Shot_len (fun _ => rfl) rfl x10) rfl ?_
 rintro _ _ ⟨a10, n10_, c10, B10, rfl, N10, V10, rfl⟩
 refine wP (v := .pointer (some ⟨b3, 16, none⟩)) rfl rfl ?_
 apply wl_store tt_ok; rfl; exact (Upd.right Upd.here); rfl; rfl; rfl; rfl; rfl; rfl
 refine wNT (wSR (wl_val (v := agS p0 a10 n10_ c10) (val_load tt_ok rfl (mR mH) rfl) rfl ?_))
 apply wl_store tt_ok; rfl; exact (Upd.right (Upd.there Upd.here)); rfl; rfl; rfl; rfl; rfl; rfl
 refine wNT (wc_ret ?_)
 obtain rfl := sI h
 exact wx_spD tt_ok (.inl rfl) Tryz.results6 (Res.cell rfl (mR (mT mH)) rfl Res.nil) ⟨a10, n10_, c10, B10, N10, V10, rfl, rfl⟩ (fun F => by simp) (pSub (pA pNil))

theorem k_hindcastref08_in {F : Nat} {p0 : Int} {p1 : Int} {p2 : Int} {r0 : Bool} (h : m_hindcastref08_in F p0 p1 p2 = some r0) :
    Pf Tryz.prog 82 [.int .i32 p0, .int .i32 p1, .int .i32 p2] (fun w => True) (.bool r0) := by
 unfold m_hindcastref08_in at h
 refine pf_of_wc Tryz.func82 rfl Tryz.ntmps82 rfl rfl (fun w0 hR => ?_)
 refine wSR (wP rfl rfl (wNT (wSR ?_)))
 iterate 2 refine wP rfl rfl ?_
 refine wP (v := .bool (decide (p1 ≤ p0))) rfl rfl (wP rfl rfl ?_)
 obtain ⟨v14, h, hg14⟩ := bsome h
 refine wl_split (t := 10) rfl (fun hc => ?_) (fun hc => ?_)
 ·replace h := ct hc h
  refine wl_run rfl (wP rfl rfl (wl_run rfl (wP rfl rfl (wl_run rfl (wP (v := .bool (decide (p0 ≤ p2))) rfl rfl ?_)))))
  obtain rfl := sI h
  have h := hg14; clear hg14
  refine wP (v := .bool (decide (p0 ≤ p2))) rfl rfl (wP rfl rfl (wNT (wc_ret ?_)))
  obtain rfl := sI h
  exact wx_pf tt_ok (.inl rfl) Tryz.results82 (Res.tmp rfl Res.nil) rfl
 replace h := cf hc h
 iterate 3 refine wl_skip rfl rfl ?_
 obtain rfl := sI h
 have h := hg14; clear hg14
 refine wP (v := .bool false) rfl rfl (wP rfl rfl (wNT (wc_ret ?_)))
 obtain rfl := sI h
 exact wx_pf tt_ok (.inl rfl) Tryz.results82 (Res.tmp rfl Res.nil) rfl

end Go.Proofs.YtkekgagekgadmaaGreatDoor
