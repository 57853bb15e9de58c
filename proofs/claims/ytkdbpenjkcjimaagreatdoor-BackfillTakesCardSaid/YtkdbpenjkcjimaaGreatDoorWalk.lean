/-
  Each function computes what its model says. Printed by a program of this claim's own.
-/
import Derived.Test.YtkdbpenjkcjimaaGreatDoorTab
import Derived.Test.YtkdbpenjkcjimaaGreatDoorMod
import Derived.Test.YtkdbpenjkcjimaaGreatDoorWalk3
namespace Go.Proofs.YtkdbpenjkcjimaaGreatDoor
open Go.Proofs.YtkdbpenjkcjimaaGreatDoor.Eng
set_option linter.unusedVariables false
set_option linter.unusedSimpArgs false
set_option maxHeartbeats 4000000
set_option maxRecDepth 20000
set_option synthInstance.maxHeartbeats 400000
set_option synthInstance.maxSize 4000
variable {F p0_4b p0_4t p0_5b p0_5t p0c0 p0c1 p0n0 p0n1 p0t p1_4b p1_4t p1c0 p1c1 p1n0 p1n1 p1t : Nat}
variable {p0a0 p0a1 p1a0 p1a1 : Option Addr}

theorem k_hindcastlaw28_BackfillTakes {p0 : T_hindcastlaw28_Setup} {p1 : T_hindcastlaw28_Told} {p2 : Int} {r0 : Bool} (p0N0 : p0n0 = p0.Mine.length) (p0H0 : p0n0 ≤ p0c0) (p0N1 : p0n1 = p0.Theirs.length) (p0H1 : p0n1 ≤ p0c1) (p1N0 : p1n0 = p1.Pairs.length) (p1H0 : p1n0 ≤ p1c0) (p1N1 : p1n1 = p1.Inputs.length) (p1H1 : p1n1 ≤ p1c1) (h : m_hindcastlaw28_BackfillTakes F p0 p1 p2 = some r0) :
    Pf Tryz.prog 3 [.agg #[.int .u64 p0.Seed, .int .u8 p0.Player, .int .u8 p0.Window, .int .u8 p0.Sure, .int .u8 p0.Ahead, .int .u8 p0.Told, .int .u8 p0.From, .slice p0a0 p0n0 p0c0, .slice p0a1 p0n1 p0c1], .agg #[.int .u8 p1.Player, .int .u64 p1.First, .slice p1a0 p1n0 p1c0, .slice p1a1 p1n1 p1c1], .int .u64 p2] (fun w => Rds w [] [] p0a0 (flat (e1 .u8) p0.Mine) ∧ Rds w [] [] p0a1 (flat (e1 .u8) p0.Theirs) ∧ Rds w [] [] p1a0 (flat (e2 .u8) p1.Pairs) ∧ Rds w [] [] p1a1 (flat (e1 .u8) p1.Inputs) ∧ Rds w [] [] (some ⟨0, 0, none⟩) (flat (fun _ : Unit => gl_state_playerBounds) [()]) ∧ Rds w [] [] (some ⟨1, 0, none⟩) (flat (fun _ : Unit => gl_state_shotBounds) [()])) (.bool r0) := by
 unfold m_hindcastlaw28_BackfillTakes at h
 refine pf_of_wc Tryz.func3 rfl Tryz.ntmps3 rfl rfl (fun w0 hR => ?_)
 obtain ⟨p0S0, p0S1, p1S0, p1S1, G0S, G1S⟩ := hR
 refine wSR (wl_box rfl rfl rfl (fun b3 => (wl_box rfl rfl rfl (fun b4 => (wM 1 rfl (wNT (wc_seq (wSR (wM 1 rfl (wLd rfl (mT mH) rfl rfl (wl_val (v := .int .i64 (p0.Mine.length : Int)) (val_len tt_ok rfl rfl p0N0) rfl (wM 2 rfl ?_))))))))))))
 obtain ⟨v28, h, hg28⟩ := bsome h
 refine wls 23 h rfl ?_ ?_ <;> clear h <;> intro h
 ·refine wM 4 rfl ?_
  obtain rfl := sI h
  have h := hg28; clear hg28
  refine wM 2 rfl ?_
  obtain ⟨v34, h, hg34⟩ := bsome h
  replace h := ct rfl h
  refine wM 4 rfl ?_
  obtain rfl := sI h
  have h := hg34; clear hg34
  refine wM 2 rfl ?_
  obtain ⟨v40, h, hg40⟩ := bsome h
  replace h := ct rfl h
  refine wM 4 rfl ?_
  obtain rfl := sI h
  have h := hg40; clear hg40
  refine wM 1 rfl (wNT ?_)
  replace h := ct rfl h
  refine wc_cond_true rfl ?_
  refine wSR ?_
  obtain ⟨v41, x41, h⟩ := bsome h
  refine wl_cq Tryz.call4 rfl rfl rfl (q_pf (k_hindcastlaw28_works x41) (fun w hI => ⟨(Rds.call G0S pNil rsub_nil) w hI, (Rds.call G1S pNil rsub_nil) w hI⟩)) rfl ?_
  refine wM 1 rfl (wNT (wc_ret (wx_then_ret ?_)))
  obtain rfl := sI h
  exact pE Tryz.results3 rfl
 refine wM 1 rfl (wl_run rfl (wLd rfl (mT mH) rfl rfl (wl_run rfl (wl_val (v := .int .i64 (p0.Theirs.length : Int)) (val_len tt_ok rfl rfl p0N1) rfl (wM 1 rfl ?_)))))
 obtain rfl := sI h
 have h := hg28; clear hg28
 refine wM 2 rfl ?_
 obtain ⟨v34, h, hg34⟩ := bsome h
 refine wls 29 h rfl ?_ ?_ <;> clear h <;> intro h
 ·refine wM 4 rfl ?_
  obtain rfl := sI h
  have h := hg34; clear hg34
  refine wM 2 rfl ?_
  obtain ⟨v40, h, hg40⟩ := bsome h
  replace h := ct rfl h
  refine wM 4 rfl ?_
  obtain rfl := sI h
  have h := hg40; clear hg40
  refine wM 1 rfl (wNT ?_)
  replace h := ct rfl h
  refine wc_cond_true rfl ?_
  refine wSR ?_
  obtain ⟨v41, x41, h⟩ := bsome h
  refine wl_cq Tryz.call4 rfl rfl rfl (q_pf (k_hindcastlaw28_works x41) (fun w hI => ⟨(Rds.call G0S pNil rsub_nil) w hI, (Rds.call G1S pNil rsub_nil) w hI⟩)) rfl ?_
  refine wM 1 rfl (wNT (wc_ret (wx_then_ret ?_)))
  obtain rfl := sI h
  exact pE Tryz.results3 rfl
 refine wM 1 rfl (wl_run rfl (wLd rfl mH rfl rfl (wl_run rfl (wl_val (v := .int .i64 (p1.Pairs.length : Int)) (val_len tt_ok rfl rfl p1N0) rfl (wM 1 rfl ?_)))))
 obtain rfl := sI h
 have h := hg34; clear hg34
 refine wM 2 rfl ?_
 obtain ⟨v40, h, hg40⟩ := bsome h
 refine wls 35 h rfl ?_ ?_ <;> clear h <;> intro h
 ·refine wM 4 rfl ?_
  obtain rfl := sI h
  have h := hg40; clear hg40
  refine wM 1 rfl (wNT ?_)
  replace h := ct rfl h
  refine wc_cond_true rfl ?_
  refine wSR ?_
  obtain ⟨v41, x41, h⟩ := bsome h
  refine wl_cq Tryz.call4 rfl rfl rfl (q_pf (k_hindcastlaw28_works x41) (fun w hI => ⟨(Rds.call G0S pNil rsub_nil) w hI, (Rds.call G1S pNil rsub_nil) w hI⟩)) rfl ?_
  refine wM 1 rfl (wNT (wc_ret (wx_then_ret ?_)))
  obtain rfl := sI h
  exact pE Tryz.results3 rfl
 refine wM 1 rfl (wl_run rfl (wLd rfl mH rfl rfl (wl_run rfl (wl_val (v := .int .i64 (p1.Inputs.length : Int)) (val_len tt_ok rfl rfl p1N1) rfl (wM 1 rfl ?_)))))
 obtain rfl := sI h
 have h := hg40; clear hg40
 refine wM 1 rfl (wNT (wcc h rfl ?_ ?_)) <;> clear h <;> intro h
 ·refine wSR ?_
  obtain ⟨v41, x41, h⟩ := bsome h
  refine wl_cq Tryz.call4 rfl rfl rfl (q_pf (k_hindcastlaw28_works x41) (fun w hI => ⟨(Rds.call G0S pNil rsub_nil) w hI, (Rds.call G1S pNil rsub_nil) w hI⟩)) rfl ?_
  refine wM 1 rfl (wNT (wc_ret (wx_then_ret ?_)))
  obtain rfl := sI h
  exact pE Tryz.results3 rfl
 refine wc_skip (wx_then (wSR (wLd (v := .agg #[.int .u64 p0.Seed, .int .u8 p0.Player, .int .u8 p0.Window, .int .u8 p0.Sure, .int .u8 p0.Ahead, .int .u8 p0.Told, .int .u8 p0.From, .slice p0a0 p0n0 p0c0, .slice p0a1 p0n1 p0c1]) rfl (mT mH) rfl rfl (wl_inl Tryz.call5 rfl rfl rfl Tryz.func5 rfl Tryz.ntmps5 rfl rfl rfl (wSR (wl_box rfl rfl rfl (fun b100001 => (wM 2 rfl (wNT (wc_seq (wc_k2 (Ls := (⟨b100001, [.int .u64 p0.Seed, .int .u8 p0.Player, .int .u8 p0.Window, .int .u8 p0.Sure, .int .u8 p0.Ahead, .int .u8 p0.Told, .int .u8 p0.From, .slice p0a0 p0n0 p0c0, .slice p0a1 p0n1 p0c1], 25, (0, 0)⟩ :: (⟨b4, [.int .u8 p1.Player, .int .u64 p1.First, .slice p1a0 p1n0 p1c0, .slice p1a1 p1n1 p1c1], 28, (0, 0)⟩ :: (⟨b3, [.int .u64 p0.Seed, .int .u8 p0.Player, .int .u8 p0.Window, .int .u8 p0.Sure, .int .u8 p0.Ahead, .int .u8 p0.Told, .int .u8 p0.From, .slice p0a0 p0n0 p0c0, .slice p0a1 p0n1 p0c1], 25, (0, 0)⟩ :: [])))) [2, 11, 12] [11, 12] [0, 1, 3, 0, 8, 24, 0, 64, 192, 448, 960, 2047, 4095] [0, 1, 3, 4, 5, 6, 7, 8, 9, 10, 2, 11, 12] (by kernel_rfl) (by kernel_rfl) (by kernel_rfl) ?_)))))))))))
 refine kM pI 1 rfl (k_val (v := .int .u64 p0.Seed) rfl rfl rfl pI (val_load tt_ok rfl mH rfl) rfl (kM pI 1 rfl (k_val (v := .int .u8 p0.Player) rfl rfl rfl pI (val_load tt_ok rfl mH rfl) rfl (kM pI 2 rfl (k_val (v := .int .u8 p0.Window) rfl rfl rfl pI (val_load tt_ok rfl mH rfl) rfl (kM pI 3 rfl ?_))))))
 obtain ⟨v100012, x100012, h⟩ := bsome h
 refine k_cs rfl rfl rfl Tryz.call18 rfl rfl rfl (s_sp (k_state_Start x100012) pNil (fun _ _ => trivial)) rfl (.inr (by rintro _ _ ⟨_, ⟨_, _, _, _, _, _, rfl, rfl⟩, rfl⟩; exact ⟨_, pP⟩)) ?_
 rintro _ _ ⟨_, ⟨v100012a0, v100012n0, v100012c0, v100012B0, v100012N0, v100012V0, rfl, rfl⟩, rfl⟩
 obtain ⟨v100021, x100021, h⟩ := bsome h
 rcases v100021 with _ | v100021s
 ·cases h
 replace h := poS h
 refine k_cs rfl rfl rfl Tryz.call17 rfl rfl rfl (s_sp (k_rollback_New (p0 := v100012) v100012N0 (vec_cap v100012V0) (own_Z v100012V0) x100021) pNil (fun w hI => ⟨(Rds.call (Rds.of_vec v100012V0) pNil ⟨_, hA'⟩) w hI, (Rds.call G0S pNil rsub_nil) w hI, (Rds.call G1S pNil rsub_nil) w hI⟩)) rfl (.inl rfl) ?_
 rintro _ _ ⟨_, ⟨zp, zab, zac, v100021sa0, v100021sn0, v100021sc0, v100021sB0, v100021sa1, v100021sn1, v100021sc1, v100021sB1, v100021s_4a0, v100021s_4n0, v100021s_4c0, v100021s_4B0, v100021s_5g0, v100021s_5P0, v100021sN0, v100021sV0, v100021sN1, v100021sV1, v100021s_4N0, v100021s_4V0, v100021s_5G0, v100021s_5A0, rfl, rfl⟩, rfl⟩
 refine k_chg rfl rfl rfl (Chg.of_val (sV rfl)) rfl (.inl rfl) ?_
 rintro _ _ ⟨rfl, rfl⟩
 refine k_end (by kernel_rfl) ?_
 refine wx_then (wSR ?_)
 obtain ⟨v100022, x100022, h⟩ := bsome h
 rcases v100022 with _ | v100022s
 ·cases h
 replace h := poS h
 refine wl_cs Tryz.call19 rfl rfl rfl (s_sp (k_fold_New x100022) pNil (fun _ _ => trivial)) rfl ?_
 rintro _ _ ⟨_, ⟨zeh, rfl, rfl⟩, rfl⟩
 refine wM 1 rfl (wNT (wSR (wM 1 rfl (wLd rfl (mTT (mR (mR (mT (mR (mT (mR (mR mH)))))))) rfl rfl (wM 3 rfl (wNT (wc_seq (wSR (wM 1 rfl (wNT (wc_block ?_)))))))))))
 replace h := bsome h; obtain ⟨⟨zhe, zhf, zfx, zfy, zfz, zga, zgb, zhg, zfs, zft, zfu, zfv, zfw, zhy⟩, h, hl100013⟩ := h; try dsimp only at hl100013
 refine wc_loop (fun m E L => ∃ zfa zdf zdg zcq zcr zcs zh zbq zl zak ze zal zam zj zag zdi zcb zdj zdh zdz zct zea zdy zby zbj zbz zbx zbk zca, m_hindcastlaw28_BackfillTakes_L100012 F p0 m zfa zdf zdg zcq zcr zcs zh zbq zl zak ze zal zam zj zag = some (zhe, zhf, zfx, zfy, zfz, zga, zgb, zhg, zfs, zft, zfu, zfv, zfw, zhy) ∧ zcb = zh.length ∧ Own 119 6 zdi zcb zdj (flat c_T_api_Shot zh) zdh ∧ zct = zl.length ∧ Own 52 1 zdz zct zea (flat (e1 .u8) zl) zdy ∧ zbj = ze.length ∧ Own 52 1 zby zbj zbz (flat (e1 .u8) ze) zbx ∧ zj.1 = unG zbk ∧ AllP sh_T_ring_place c_T_api_Shot zca zbk ∧ E = [(1, .pointer (some ⟨b100001, 0, none⟩)), (4, .pointer (some ⟨zp, 0, none⟩)), (5, .pointer (some ⟨zeh, 0, none⟩)), (6, .int .i64 (IntKind.wrap .i64 (Int.tmod p0.Sure 60))), (7, .int .i64 zfa)] ∧ L = (⟨b3, [.int .u64 p0.Seed, .int .u8 p0.Player, .int .u8 p0.Window, .int .u8 p0.Sure, .int .u8 p0.Ahead, .int .u8 p0.Told, .int .u8 p0.From, .slice p0a0 p0n0 p0c0, .slice p0a1 p0n1 p0c1], 25, (0, 0)⟩ :: (⟨b4, [.int .u8 p1.Player, .int .u64 p1.First, .slice p1a0 p1n0 p1c0, .slice p1a1 p1n1 p1c1], 28, (0, 0)⟩ :: (⟨b100001, [.int .u64 p0.Seed, .int .u8 p0.Player, .int .u8 p0.Window, .int .u8 p0.Sure, .int .u8 p0.Ahead, .int .u8 p0.Told, .int .u8 p0.From, .slice p0a0 p0n0 p0c0, .slice p0a1 p0n1 p0c1], 25, (0, 0)⟩ :: (⟨zp, (.int .u8 zdf :: .int .i64 zdg :: .int .u64 zcq :: .int .u64 zcr :: pl14 zcs [.slice zdi zcb zdj, .int .u16 zbq.1, .int .u16 zbq.2, .slice zdz zct zea, .pointer (some ⟨zab, 0, none⟩), .pointer (some ⟨zac, 0, none⟩)]), 97, (0, 0)⟩ :: (⟨zab, [.int .u64 zak, .slice zby zbj zbz, .int .u8 zal], 124, (0, 0)⟩ :: (⟨zac, ([.int .i64 zam] ++ flat cg_T_ring_place zbk), 140, (0, 0)⟩ :: (⟨zeh, ([.int .u64 zag.from_, .int .u64 zag.count, .int .u64 zag.most] ++ flat (e2 .u8) zag.ring.1), 105, (0, 0)⟩ :: (zdh ++ (zdy ++ (zbx ++ (zca ++ [])))))))))))) F ⟨(0 : Int), v100021s.1.player, v100021s.1.window, v100021s.1.sure.Frame, v100021s.1.sure.Seed, v100021s.1.sure.Players, v100021s.1.sure.Shots, v100021s.1.sure.Score, v100021s.1.own, v100021s.2.1.first_, v100021s.2.1.l, v100021s.2.1.last, v100021s.2.2.size, v100021s.2.2.places, v100022s, v100021sa0, v100021sn0, v100021sc0, v100021sB0, v100021sa1, v100021sn1, v100021sc1, v100021sB1, v100021s_4a0, v100021s_4n0, v100021s_4c0, v100021s_4B0, v100021s_5g0, v100021s_5P0, h, v100021sN0, v100021sV0, v100021sN1, v100021sV1, v100021s_4N0, v100021s_4V0, v100021s_5G0, v100021s_5A0, rfl, rfl⟩ (ag5 rfl rfl rfl rfl rfl) pI ?_
 clear h
 rintro m100013 _ _ ⟨zfa, zdf, zdg, zcq, zcr, zcs, zh, zbq, zl, zak, ze, zal, zam, zj, zag, zdi, zcb, zdj, zdh, zdz, zct, zea, zdy, zby, zbj, zbz, zbx, zbk, zca, h, zep, zeq, zfg, zfh, zdb, zdc, zde, zdd, rfl, rfl⟩
 rcases m100013 with _ | m100013
 ·rw [m_hindcastlaw28_BackfillTakes_L100012.eq_1] at h; cases h
 rw [m_hindcastlaw28_BackfillTakes_L100012.eq_2] at h
 refine wc_seq (wSR (wM 3 rfl (wNT (wcc h rfl ?_ ?_)))) <;> clear h <;> intro h
 ·refine wc_skip (wx_then (wc_seq (wc_block (wSR (wM 2 rfl (wLd rfl (mTT mH) rfl rfl (wM 1 rfl ?_)))))))
  obtain ⟨v100036, x100036, h⟩ := bsome h
  refine wl_cq Tryz.call21 rfl rfl rfl (q_pf (k_hindcastlaw28_at (p0 := p0.Mine) p0N0 p0H0 x100036) (Rds.call p0S0 pNil rsub_nil)) rfl ?_
  replace h := bsome h; obtain ⟨⟨zaz, v100037⟩, x100037, h⟩ := h; try dsimp only at h
  refine wl_cs Tryz.call20 rfl rfl rfl (s_sp (k_rollback_Engine_Local (p0 := (T_rollback_Engine.mk zdf zdg (T_api_State.mk zcq zcr zcs zh zbq) zl)) (p0_4 := (T_queue_Queue.mk zak ze zal)) (p0_5 := (T_ring_Ring.mk zam zj)) (p0t := 97) (p0_4b := zab) (p0_4t := 124) (p0_5b := zac) (p0_5t := 140) zep zeq zfg zfh zdb zdc zde zdd x100037) pP (fun _ _ => trivial)) rfl ?_
  rintro _ _ ⟨_, ⟨zmn, zmr, zmp, zml, zmo, zms, zmq, zmm, zhz, zib, zia, zic, rfl, rfl⟩, rfl⟩
  refine wNT (wSR (wM 4 rfl (wLd rfl (mT (mR (mR (mT (mR (mT (mR (mTT mH)))))))) rfl rfl (wM 1 rfl ?_))))
  obtain ⟨v100044, x100044, h⟩ := bsome h
  refine wl_cq Tryz.call21 rfl rfl rfl (q_pf (k_hindcastlaw28_at (p0 := p0.Theirs) p0N1 p0H1 x100044) (Rds.call p0S1 pNil rsub_nil)) rfl ?_
  replace h := bsome h; obtain ⟨⟨zen, zez, v100045⟩, x100045, h⟩ := h; try dsimp only at h
  refine wl_cs Tryz.call22 rfl rfl rfl (s_sp (k_rollback_Engine_Remote (p0 := zaz) (p0_4 := (T_queue_Queue.mk zak ze zal)) (p0_5 := (T_ring_Ring.mk zam zj)) (p0t := 97) (p0_4b := zab) (p0_4t := 124) (p0_5b := zac) (p0_5t := 140) zhz zib zia zic zdb zdc zde zdd x100045) pP (fun _ _ => trivial)) rfl ?_
  rintro _ _ ⟨_, ⟨zmu, zmw, zmv, zmt, zmy, zmx, zii, zij, zil, zik, rfl, rfl⟩, rfl⟩
  refine wNT (wSR (wM 4 rfl ?_))
  replace h := bsome h; obtain ⟨⟨zx, zcj, zei, znp, znq⟩, x100050, h⟩ := h; try dsimp only at h
  refine wl_cs Tryz.call23 rfl rfl rfl (s_sp (k_rollback_Engine_Confirm (p0 := zaz) (p0_4 := zen) (p0_5 := zez) (p0t := 97) (p0_4b := zab) (p0_4t := 124) (p0_5b := zac) (p0_5t := 140) zhz zib zia zic zii zij zil zik x100050) pP (fun w hI => ⟨(Rds.call G0S pP rsub_nil) w hI, (Rds.call G1S pP rsub_nil) w hI⟩)) rfl ?_
  rintro _ _ ⟨_, ⟨zis, ziw, ziu, zim, zit, zix, ziv, zin, zjb, zjd, zjc, ziy, zjh, zjg, zio, ziq, zip, zir, ziz, zja, zjf, zje, rfl, rfl⟩, rfl⟩
  refine wNT (wc_region (wM 1 rfl (wLd (v := .agg #[.int .u64 p0.Seed, .int .u8 p0.Player, .int .u8 p0.Window, .int .u8 p0.Sure, .int .u8 p0.Ahead, .int .u8 p0.Told, .int .u8 p0.From, .slice p0a0 p0n0 p0c0, .slice p0a1 p0n1 p0c1]) rfl (mT (mR (mR (mT (mR (mT (mR (mTT mH)))))))) rfl rfl (wM 1 rfl ?_))))
  obtain ⟨v100054, x100054, h⟩ := bsome h
  refine wl_cq Tryz.call25 rfl rfl rfl (q_pf (k_hindcastlaw28_Setup_pair (p0 := p0) p0N0 p0H0 p0N1 p0H1 x100054) (fun w hI => ⟨(Rds.call p0S0 pNil rsub_nil) w hI, (Rds.call p0S1 pNil rsub_nil) w hI⟩)) rfl ?_
  replace h := bsome h; obtain ⟨⟨zma, v100055⟩, x100055, h⟩ := h; try dsimp only at h
  refine wl_cs Tryz.call24 rfl rfl rfl (s_sp (k_fold_History_Add (p0t := 105) x100055) pP (fun _ _ => trivial)) rfl ?_
  rintro _ _ ⟨_, ⟨rfl, rfl⟩, rfl⟩
  refine wl_nil (wx_block (wx_then (wc_region (wM 3 rfl (wl_nil ?_)))))
  exact wx_round m100013 (Nat.lt_succ_self m100013) ⟨(IntKind.wrap .i64 (zfa + (1 : Int))), zx.player, zx.window, zx.sure.Frame, zx.sure.Seed, zx.sure.Players, zx.sure.Shots, zx.sure.Score, zx.own, zcj.first_, zcj.l, zcj.last, zei.size, zei.places, zma, zis, ziw, ziu, zim, zit, zix, ziv, zin, zjb, zjd, zjc, ziy, zjh, zjg, h, zio, ziq, zip, zir, ziz, zja, zjf, zje, rfl, rfl⟩ (ag5 rfl rfl rfl rfl rfl) pI
 refine wc_exit (wx_then_exit ?_)
 simp only [Option.some.injEq, Prod.mk.injEq] at h
 obtain ⟨rfl, rfl, rfl, rfl, rfl, rfl, rfl, rfl, rfl, rfl, rfl, rfl, rfl, rfl⟩ := h
 have h := hl100013; clear hl100013; try dsimp only [orE_l, orE_r] at h
 refine wx_then_exit (wx_block_exit (wx_then (wc_seq (wSR ?_))))
 refine wM 2 rfl (wNT (wc_block ?_))
 replace h := bsome h; obtain ⟨⟨zhh, zhi, zgc, zgd, zge, zgf, zgg, zhj⟩, h, hl100034⟩ := h; try dsimp only at hl100034
 refine wc_loop (fun m E L => ∃ zfb zu zv zr zs zt za zq zb zav zah zaw zau zbc zan zbd zbb, m_hindcastlaw28_BackfillTakes_L100033 F p0 zak ze zal zam zj m zfb zu zv zr zs zt za zq zb = some (zhh, zhi, zgc, zgd, zge, zgf, zgg, zhj) ∧ zah = za.length ∧ Own 119 6 zav zah zaw (flat c_T_api_Shot za) zau ∧ zan = zb.length ∧ Own 52 1 zbc zan zbd (flat (e1 .u8) zb) zbb ∧ E = [(1, .pointer (some ⟨b100001, 0, none⟩)), (4, .pointer (some ⟨zp, 0, none⟩)), (5, .pointer (some ⟨zeh, 0, none⟩)), (6, .int .i64 (IntKind.wrap .i64 (Int.tmod p0.Sure 60))), (8, .int .i64 zfb)] ∧ L = (⟨b3, [.int .u64 p0.Seed, .int .u8 p0.Player, .int .u8 p0.Window, .int .u8 p0.Sure, .int .u8 p0.Ahead, .int .u8 p0.Told, .int .u8 p0.From, .slice p0a0 p0n0 p0c0, .slice p0a1 p0n1 p0c1], 25, (0, 0)⟩ :: (⟨b4, [.int .u8 p1.Player, .int .u64 p1.First, .slice p1a0 p1n0 p1c0, .slice p1a1 p1n1 p1c1], 28, (0, 0)⟩ :: (⟨b100001, [.int .u64 p0.Seed, .int .u8 p0.Player, .int .u8 p0.Window, .int .u8 p0.Sure, .int .u8 p0.Ahead, .int .u8 p0.Told, .int .u8 p0.From, .slice p0a0 p0n0 p0c0, .slice p0a1 p0n1 p0c1], 25, (0, 0)⟩ :: (⟨zp, (.int .u8 zu :: .int .i64 zv :: .int .u64 zr :: .int .u64 zs :: pl14 zt [.slice zav zah zaw, .int .u16 zq.1, .int .u16 zq.2, .slice zbc zan zbd, .pointer (some ⟨zab, 0, none⟩), .pointer (some ⟨zac, 0, none⟩)]), 97, (0, 0)⟩ :: (⟨zab, [.int .u64 zak, .slice zby zbj zbz, .int .u8 zal], 124, (0, 0)⟩ :: (⟨zac, ([.int .i64 zam] ++ flat cg_T_ring_place zbk), 140, (0, 0)⟩ :: (⟨zeh, ([.int .u64 zag.from_, .int .u64 zag.count, .int .u64 zag.most] ++ flat (e2 .u8) zag.ring.1), 105, (0, 0)⟩ :: (zau ++ (zbb ++ (zbx ++ (zca ++ [])))))))))))) F ⟨(IntKind.wrap .i64 (Int.tmod p0.Sure 60)), zdf, zdg, zcq, zcr, zcs, zh, zbq, zl, zdi, zcb, zdj, zdh, zdz, zct, zea, zdy, h, zep, zeq, zfg, zfh, rfl, rfl⟩ (ag5 rfl rfl rfl rfl rfl) pI ?_
 clear h
 rintro m100034 _ _ ⟨zfb, zu, zv, zr, zs, zt, za, zq, zb, zav, zah, zaw, zau, zbc, zan, zbd, zbb, h, zbl, zbm, zbr, zbs, rfl, rfl⟩
 rcases m100034 with _ | m100034
 ·rw [m_hindcastlaw28_BackfillTakes_L100033.eq_1] at h; cases h
 rw [m_hindcastlaw28_BackfillTakes_L100033.eq_2] at h
 refine wc_seq (wSR (wM 3 rfl (wLd rfl (mTT mH) rfl rfl (wM 4 rfl (wNT (wcc h rfl ?_ ?_)))))) <;> clear h <;> intro h
 ·refine wc_skip (wx_then (wc_seq (wc_block (wc_region (wM 2 rfl (wLd rfl (mTT mH) rfl rfl (wM 1 rfl ?_)))))))
  obtain ⟨v100071, x100071, h⟩ := bsome h
  refine wl_cq Tryz.call21 rfl rfl rfl (q_pf (k_hindcastlaw28_at (p0 := p0.Mine) p0N0 p0H0 x100071) (Rds.call p0S0 pNil rsub_nil)) rfl ?_
  replace h := bsome h; obtain ⟨⟨zy, v100072⟩, x100072, h⟩ := h; try dsimp only at h
  refine wl_cs Tryz.call20 rfl rfl rfl (s_sp (k_rollback_Engine_Local (p0 := (T_rollback_Engine.mk zu zv (T_api_State.mk zr zs zt za zq) zb)) (p0_4 := (T_queue_Queue.mk zak ze zal)) (p0_5 := (T_ring_Ring.mk zam zj)) (p0t := 97) (p0_4b := zab) (p0_4t := 124) (p0_5b := zac) (p0_5t := 140) zbl zbm zbr zbs zdb zdc zde zdd x100072) pP (fun _ _ => trivial)) rfl ?_
  rintro _ _ ⟨_, ⟨zjo, zjs, zjq, zji, zjp, zjt, zjr, zjj, zjk, zjm, zjl, zjn, rfl, rfl⟩, rfl⟩
  refine wl_nil (wx_block (wx_then (wc_region (wM 3 rfl (wl_nil ?_)))))
  exact wx_round m100034 (Nat.lt_succ_self m100034) ⟨(IntKind.wrap .i64 (zfb + (1 : Int))), zy.player, zy.window, zy.sure.Frame, zy.sure.Seed, zy.sure.Players, zy.sure.Shots, zy.sure.Score, zy.own, zjo, zjs, zjq, zji, zjp, zjt, zjr, zjj, h, zjk, zjm, zjl, zjn, rfl, rfl⟩ (ag5 rfl rfl rfl rfl rfl) pI
 refine wc_exit (wx_then_exit ?_)
 simp only [Option.some.injEq, Prod.mk.injEq] at h
 obtain ⟨rfl, rfl, rfl, rfl, rfl, rfl, rfl, rfl⟩ := h
 have h := hl100034; clear hl100034; try dsimp only [orE_l, orE_r] at h
 refine wx_then_exit (wx_block_exit (wx_then (wc_seq (wSR ?_))))
 refine wM 2 rfl (wNT (wc_block ?_))
 replace h := bsome h; obtain ⟨⟨zgh, zgi, zgj, zgk, zgl⟩, h, hl100049⟩ := h; try dsimp only at hl100049
 refine wc_loop (fun m E L => ∃ zfc zao zd zap zaq zo zbf zax zbg zbe zay zbh, m_hindcastlaw28_BackfillTakes_L100048 F p0 zu zv zr zs zt za zq zb m zfc zao zd zap zaq zo = some (zgh, zgi, zgj, zgk, zgl) ∧ zax = zd.length ∧ Own 52 1 zbf zax zbg (flat (e1 .u8) zd) zbe ∧ zo.1 = unG zay ∧ AllP sh_T_ring_place c_T_api_Shot zbh zay ∧ E = [(1, .pointer (some ⟨b100001, 0, none⟩)), (4, .pointer (some ⟨zp, 0, none⟩)), (5, .pointer (some ⟨zeh, 0, none⟩)), (6, .int .i64 (IntKind.wrap .i64 (Int.tmod p0.Sure 60))), (9, .int .i64 zfc)] ∧ L = (⟨b3, [.int .u64 p0.Seed, .int .u8 p0.Player, .int .u8 p0.Window, .int .u8 p0.Sure, .int .u8 p0.Ahead, .int .u8 p0.Told, .int .u8 p0.From, .slice p0a0 p0n0 p0c0, .slice p0a1 p0n1 p0c1], 25, (0, 0)⟩ :: (⟨b4, [.int .u8 p1.Player, .int .u64 p1.First, .slice p1a0 p1n0 p1c0, .slice p1a1 p1n1 p1c1], 28, (0, 0)⟩ :: (⟨b100001, [.int .u64 p0.Seed, .int .u8 p0.Player, .int .u8 p0.Window, .int .u8 p0.Sure, .int .u8 p0.Ahead, .int .u8 p0.Told, .int .u8 p0.From, .slice p0a0 p0n0 p0c0, .slice p0a1 p0n1 p0c1], 25, (0, 0)⟩ :: (⟨zp, (.int .u8 zu :: .int .i64 zv :: .int .u64 zr :: .int .u64 zs :: pl14 zt [.slice zav zah zaw, .int .u16 zq.1, .int .u16 zq.2, .slice zbc zan zbd, .pointer (some ⟨zab, 0, none⟩), .pointer (some ⟨zac, 0, none⟩)]), 97, (0, 0)⟩ :: (⟨zab, [.int .u64 zao, .slice zbf zax zbg, .int .u8 zap], 124, (0, 0)⟩ :: (⟨zac, ([.int .i64 zaq] ++ flat cg_T_ring_place zay), 140, (0, 0)⟩ :: (⟨zeh, ([.int .u64 zag.from_, .int .u64 zag.count, .int .u64 zag.most] ++ flat (e2 .u8) zag.ring.1), 105, (0, 0)⟩ :: (zau ++ (zbb ++ (zbe ++ (zbh ++ [])))))))))))) F ⟨(IntKind.wrap .i64 (Int.tmod p0.Sure 60)), zak, ze, zal, zam, zj, zby, zbj, zbz, zbx, zbk, zca, h, zdb, zdc, zde, zdd, rfl, rfl⟩ (ag5 rfl rfl rfl rfl rfl) pI ?_
 clear h
 rintro m100049 _ _ ⟨zfc, zao, zd, zap, zaq, zo, zbf, zax, zbg, zbe, zay, zbh, h, zer, zes, zeu, zet, rfl, rfl⟩
 rcases m100049 with _ | m100049
 ·rw [m_hindcastlaw28_BackfillTakes_L100048.eq_1] at h; cases h
 rw [m_hindcastlaw28_BackfillTakes_L100048.eq_2] at h
 refine wc_seq (wSR (wM 3 rfl (wLd rfl (mTT mH) rfl rfl (wM 4 rfl (wNT (wcc h rfl ?_ ?_)))))) <;> clear h <;> intro h
 ·refine wc_skip (wx_then (wc_seq (wc_block (wc_region (wM 4 rfl (wLd rfl (mTT mH) rfl rfl (wM 1 rfl ?_)))))))
  obtain ⟨v100090, x100090, h⟩ := bsome h
  refine wl_cq Tryz.call21 rfl rfl rfl (q_pf (k_hindcastlaw28_at (p0 := p0.Theirs) p0N1 p0H1 x100090) (Rds.call p0S1 pNil rsub_nil)) rfl ?_
  replace h := bsome h; obtain ⟨⟨zck, zej, v100091⟩, x100091, h⟩ := h; try dsimp only at h
  refine wl_cs Tryz.call22 rfl rfl rfl (s_sp (k_rollback_Engine_Remote (p0 := (T_rollback_Engine.mk zu zv (T_api_State.mk zr zs zt za zq) zb)) (p0_4 := (T_queue_Queue.mk zao zd zap)) (p0_5 := (T_ring_Ring.mk zaq zo)) (p0t := 97) (p0_4b := zab) (p0_4t := 124) (p0_5b := zac) (p0_5t := 140) zbl zbm zbr zbs zer zes zeu zet x100091) pP (fun _ _ => trivial)) rfl ?_
  rintro _ _ ⟨_, ⟨zjx, zjz, zjy, zju, zkd, zkc, zjv, zjw, zkb, zka, rfl, rfl⟩, rfl⟩
  refine wl_nil (wx_block (wx_then (wc_region (wM 3 rfl (wl_nil ?_)))))
  exact wx_round m100049 (Nat.lt_succ_self m100049) ⟨(IntKind.wrap .i64 (zfc + (1 : Int))), zck.first_, zck.l, zck.last, zej.size, zej.places, zjx, zjz, zjy, zju, zkd, zkc, h, zjv, zjw, zkb, zka, rfl, rfl⟩ (ag5 rfl rfl rfl rfl rfl) pI
 refine wc_exit (wx_then_exit ?_)
 obtain ⟨rfl, rfl, rfl, rfl, rfl⟩ := pJ5 h
 have h := hl100049; clear hl100049; try dsimp only [orE_l, orE_r] at h
 refine wx_then_exit (wx_block_exit (wx_then (wSR ?_)))
 refine wM 2 rfl (wLd rfl (mTT mH) rfl rfl (wM 2 rfl ?_))
 obtain ⟨zbw, x100097, h⟩ := bsome h
 refine wl_cs Tryz.call26 rfl rfl rfl (s_sp (k_fold_History_Drop (p0t := 105) x100097) pP (fun _ _ => trivial)) rfl ?_
 rintro _ _ ⟨_, ⟨rfl, rfl⟩, rfl⟩
 refine wNT (wSR (wM 4 rfl (wNT (wc_ret (wx_inl (v := .tuple #[.pointer (some ⟨zp, 0, none⟩), .pointer (some ⟨zeh, 0, none⟩)]) tt_ok (.inl rfl) Tryz.results5 (rs2 rfl rfl) rfl (wM 5 rfl (wNT (wSR (wLd (v := .agg #[.int .u64 p0.Seed, .int .u8 p0.Player, .int .u8 p0.Window, .int .u8 p0.Sure, .int .u8 p0.Ahead, .int .u8 p0.Told, .int .u8 p0.From, .slice p0a0 p0n0 p0c0, .slice p0a1 p0n1 p0c1]) rfl (mT mH) rfl rfl (wl_inl Tryz.call6 rfl rfl rfl Tryz.func6 rfl Tryz.ntmps6 rfl rfl rfl (wSR (wl_box rfl rfl rfl (fun b200001 => (wM 2 rfl (wNT (wc_seq ?_))))))))))))))))
 refine wc_k2 (Ls := (⟨b200001, [.int .u64 p0.Seed, .int .u8 p0.Player, .int .u8 p0.Window, .int .u8 p0.Sure, .int .u8 p0.Ahead, .int .u8 p0.Told, .int .u8 p0.From, .slice p0a0 p0n0 p0c0, .slice p0a1 p0n1 p0c1], 25, (0, 0)⟩ :: (⟨zeh, ([.int .u64 zbw.from_, .int .u64 zbw.count, .int .u64 zbw.most] ++ flat (e2 .u8) zbw.ring.1), 105, (0, 0)⟩ :: (⟨b3, [.int .u64 p0.Seed, .int .u8 p0.Player, .int .u8 p0.Window, .int .u8 p0.Sure, .int .u8 p0.Ahead, .int .u8 p0.Told, .int .u8 p0.From, .slice p0a0 p0n0 p0c0, .slice p0a1 p0n1 p0c1], 25, (0, 0)⟩ :: (⟨b4, [.int .u8 p1.Player, .int .u64 p1.First, .slice p1a0 p1n0 p1c0, .slice p1a1 p1n1 p1c1], 28, (0, 0)⟩ :: (⟨b100001, [.int .u64 p0.Seed, .int .u8 p0.Player, .int .u8 p0.Window, .int .u8 p0.Sure, .int .u8 p0.Ahead, .int .u8 p0.Told, .int .u8 p0.From, .slice p0a0 p0n0 p0c0, .slice p0a1 p0n1 p0c1], 25, (0, 0)⟩ :: (⟨zp, (.int .u8 zu :: .int .i64 zv :: .int .u64 zr :: .int .u64 zs :: pl14 zt [.slice zav zah zaw, .int .u16 zq.1, .int .u16 zq.2, .slice zbc zan zbd, .pointer (some ⟨zab, 0, none⟩), .pointer (some ⟨zac, 0, none⟩)]), 97, (0, 0)⟩ :: (⟨zab, [.int .u64 zao, .slice zbf zax zbg, .int .u8 zap], 124, (0, 0)⟩ :: (⟨zac, ([.int .i64 zaq] ++ flat cg_T_ring_place zay), 140, (0, 0)⟩ :: (zau ++ (zbb ++ (zbe ++ (zbh ++ []))))))))))))) [2, 11, 12] [11, 12] [0, 1, 3, 0, 8, 24, 0, 64, 192, 448, 960, 2047, 4095] [0, 1, 3, 4, 5, 6, 7, 8, 9, 10, 2, 11, 12] (by kernel_rfl) (by kernel_rfl) (by kernel_rfl) ?_
 refine kM pI 1 rfl (k_val (v := .int .u64 p0.Seed) rfl rfl rfl pI (val_load tt_ok rfl mH rfl) rfl (kM pI 1 rfl (k_val (v := .int .u8 p0.Player) rfl rfl rfl pI (val_load tt_ok rfl mH rfl) rfl ?_)))
 refine kM pI 2 rfl (k_val (v := .int .u8 p0.Window) rfl rfl rfl pI (val_load tt_ok rfl mH rfl) rfl (kM pI 3 rfl ?_))
 obtain ⟨v200012, x200012, h⟩ := bsome h
 refine k_cs rfl rfl rfl Tryz.call28 rfl rfl rfl (s_sp (k_hindcastref08_Start x200012) pNil (fun _ _ => trivial)) rfl (.inr (by rintro _ _ ⟨_, ⟨_, _, _, _, _, _, rfl, rfl⟩, rfl⟩; exact ⟨_, pP⟩)) ?_
 rintro _ _ ⟨_, ⟨v200012a0, v200012n0, v200012c0, v200012B0, v200012N0, v200012V0, rfl, rfl⟩, rfl⟩
 obtain ⟨v200021, x200021, h⟩ := bsome h
 rcases v200021 with _ | v200021s
 ·cases h
 replace h := poS h
 refine k_cs rfl rfl rfl Tryz.call27 rfl rfl rfl (s_sp (k_hindcastref26_New (p0 := v200012) v200012N0 (vec_cap v200012V0) x200021) pNil (Rds.call (Rds.of_vec v200012V0) pNil ⟨_, hA'⟩)) rfl (.inl rfl) ?_
 rintro _ _ ⟨_, ⟨zat, zbi, v200021sa0, v200021sn0, v200021sc0, v200021sB0, v200021sa1, v200021sn1, v200021sc1, v200021sB1, v200021s_4a0, v200021s_4n0, v200021s_4c0, v200021s_4B0, v200021sN0, v200021sV0, v200021sN1, v200021sV1, v200021s_4N0, v200021s_4V0, rfl, rfl⟩, rfl⟩
 refine k_chg rfl rfl rfl (Chg.of_val (sV rfl)) rfl (.inl rfl) ?_
 rintro _ _ ⟨rfl, rfl⟩
 refine k_end (by kernel_rfl) ?_
 refine wx_then (wSR (wM 1 rfl (wl_box rfl rfl rfl (fun b200023 => (wM 1 rfl (wNT (wSR (wM 1 rfl (wLd rfl (mTT (mR (mR (mT (mR (mR mH)))))) rfl rfl (wM 3 rfl (wNT (wc_seq (wSR (wM 1 rfl (wNT (wc_block ?_))))))))))))))))
 replace h := bsome h; obtain ⟨⟨zhk, zhl, zgp, zgq, zgr, zgs, zgt, zhm, zgm, zgn, zgo, zhv, zhw, zhx⟩, h, hl200013⟩ := h; try dsimp only at hl200013
 refine wc_loop (fun m E L => ∃ zfd zdm zdn zcu zcv zcw zi zbt zm zar zas zf zcg zch zk zdp zcf zdq zdo zec zcx zed zeb zcd zbn zce zcc zds zcp zdt zdr, m_hindcastlaw28_BackfillTakes_L200012 F p0 m zfd zdm zdn zcu zcv zcw zi zbt zm zar zas zf zcg zch zk = some (zhk, zhl, zgp, zgq, zgr, zgs, zgt, zhm, zgm, zgn, zgo, zhv, zhw, zhx) ∧ zcf = zi.length ∧ Own 119 6 zdp zcf zdq (flat c_T_api_Shot zi) zdo ∧ zcx = zm.length ∧ Own 52 1 zec zcx zed (flat (e1 .u8) zm) zeb ∧ zbn = zf.length ∧ Own 52 1 zcd zbn zce (flat (e1 .u8) zf) zcc ∧ zcp = zk.length ∧ Own 54 2 zds zcp zdt (flat (e2 .u8) zk) zdr ∧ E = [(1, .pointer (some ⟨b200001, 0, none⟩)), (4, .pointer (some ⟨zat, 0, none⟩)), (5, .pointer (some ⟨b200023, 0, none⟩)), (6, .int .i64 (IntKind.wrap .i64 (Int.tmod p0.Sure 60))), (7, .int .i64 zfd)] ∧ L = (⟨b3, [.int .u64 p0.Seed, .int .u8 p0.Player, .int .u8 p0.Window, .int .u8 p0.Sure, .int .u8 p0.Ahead, .int .u8 p0.Told, .int .u8 p0.From, .slice p0a0 p0n0 p0c0, .slice p0a1 p0n1 p0c1], 25, (0, 0)⟩ :: (⟨b4, [.int .u8 p1.Player, .int .u64 p1.First, .slice p1a0 p1n0 p1c0, .slice p1a1 p1n1 p1c1], 28, (0, 0)⟩ :: (⟨zp, (.int .u8 zu :: .int .i64 zv :: .int .u64 zr :: .int .u64 zs :: pl14 zt [.slice zav zah zaw, .int .u16 zq.1, .int .u16 zq.2, .slice zbc zan zbd, .pointer (some ⟨zab, 0, none⟩), .pointer (some ⟨zac, 0, none⟩)]), 97, (0, 0)⟩ :: (⟨zab, [.int .u64 zao, .slice zbf zax zbg, .int .u8 zap], 124, (0, 0)⟩ :: (⟨zac, ([.int .i64 zaq] ++ flat cg_T_ring_place zay), 140, (0, 0)⟩ :: (⟨zeh, ([.int .u64 zbw.from_, .int .u64 zbw.count, .int .u64 zbw.most] ++ flat (e2 .u8) zbw.ring.1), 105, (0, 0)⟩ :: (⟨b200001, [.int .u64 p0.Seed, .int .u8 p0.Player, .int .u8 p0.Window, .int .u8 p0.Sure, .int .u8 p0.Ahead, .int .u8 p0.Told, .int .u8 p0.From, .slice p0a0 p0n0 p0c0, .slice p0a1 p0n1 p0c1], 25, (0, 0)⟩ :: (⟨zat, (.int .u8 zdm :: .int .i64 zdn :: .int .u64 zcu :: .int .u64 zcv :: pl14 zcw [.slice zdp zcf zdq, .int .u16 zbt.1, .int .u16 zbt.2, .slice zec zcx zed, .pointer (some ⟨zbi, 0, none⟩)]), 88, (0, 0)⟩ :: (⟨zbi, [.int .u64 zar, .int .u64 zas, .slice zcd zbn zce], 117, (0, 0)⟩ :: (⟨b200023, [.int .u64 zcg, .int .i64 zch, .slice zds zcp zdt], 77, (0, 0)⟩ :: (zau ++ (zbb ++ (zbe ++ (zbh ++ (zdo ++ (zeb ++ (zcc ++ (zdr ++ []))))))))))))))))))) F ⟨(0 : Int), v200021s.1.Player, v200021s.1.Window, v200021s.1.Sure.Frame, v200021s.1.Sure.Seed, v200021s.1.Sure.Players, v200021s.1.Sure.Shots, v200021s.1.Sure.Score, v200021s.1.Own, v200021s.2.Begin, v200021s.2.First, v200021s.2.L, (0 : Int), (256 : Int), ([] : List (Int × Int)), v200021sa0, v200021sn0, v200021sc0, v200021sB0, v200021sa1, v200021sn1, v200021sc1, v200021sB1, v200021s_4a0, v200021s_4n0, v200021s_4c0, v200021s_4B0, none, 0, 0, [], h, v200021sN0, v200021sV0, v200021sN1, v200021sV1, v200021s_4N0, v200021s_4V0, rfl, Own.zero, rfl, rfl⟩ (ag5 rfl rfl rfl rfl rfl) pI ?_
 clear h
 rintro m200013 _ _ ⟨zfd, zdm, zdn, zcu, zcv, zcw, zi, zbt, zm, zar, zas, zf, zcg, zch, zk, zdp, zcf, zdq, zdo, zec, zcx, zed, zeb, zcd, zbn, zce, zcc, zds, zcp, zdt, zdr, h, zev, zew, zfi, zfj, zdk, zdl, zfm, zfn, rfl, rfl⟩
 rcases m200013 with _ | m200013
 ·rw [m_hindcastlaw28_BackfillTakes_L200012.eq_1] at h; cases h
 rw [m_hindcastlaw28_BackfillTakes_L200012.eq_2] at h
 refine wc_seq (wSR (wM 3 rfl (wNT (wcc h rfl ?_ ?_)))) <;> clear h <;> intro h
 ·refine wc_skip (wx_then (wc_seq (wc_block (wSR (wM 2 rfl (wLd rfl (mTT (mTT (mTT mH))) rfl rfl (wM 1 rfl ?_)))))))
  obtain ⟨v200037, x200037, h⟩ := bsome h
  refine wl_cq Tryz.call21 rfl rfl rfl (q_pf (k_hindcastlaw28_at (p0 := p0.Mine) p0N0 p0H0 x200037) (Rds.call p0S0 pNil rsub_nil)) rfl ?_
  replace h := bsome h; obtain ⟨⟨zba, v200038⟩, x200038, h⟩ := h; try dsimp only at h
  refine wl_cs Tryz.call29 rfl rfl rfl (s_sp (k_hindcastref26_Engine_Local (p0 := (T_hindcastref26_Engine.mk zdm zdn (T_api_State.mk zcu zcv zcw zi zbt) zm)) (p0_4 := (T_hindcastref24_Queue.mk zar zas zf)) (p0t := 88) (p0_4b := zbi) (p0_4t := 117) zev zew zfi zfj zdk zdl x200038) pP (fun _ _ => trivial)) rfl ?_
  rintro _ _ ⟨_, ⟨znb, znf, znd, zmz, znc, zng, zne, zna, zid, zif, zie, zig, rfl, rfl⟩, rfl⟩
  refine wNT (wSR (wM 4 rfl (wLd rfl (mT (mR (mR (mT (mR (mTT (mTT (mTT mH)))))))) rfl rfl (wM 1 rfl ?_))))
  obtain ⟨v200045, x200045, h⟩ := bsome h
  refine wl_cq Tryz.call21 rfl rfl rfl (q_pf (k_hindcastlaw28_at (p0 := p0.Theirs) p0N1 p0H1 x200045) (Rds.call p0S1 pNil rsub_nil)) rfl ?_
  replace h := bsome h; obtain ⟨⟨zeo, v200046⟩, x200046, h⟩ := h; try dsimp only at h
  refine wl_cs Tryz.call30 rfl rfl rfl (s_sp (k_hindcastref26_Engine_Remote (p0 := zba) (p0_4 := (T_hindcastref24_Queue.mk zar zas zf)) (p0t := 88) (p0_4b := zbi) (p0_4t := 117) zid zif zie zig zdk zdl x200046) pP (fun _ _ => trivial)) rfl ?_
  rintro _ _ ⟨_, ⟨zni, znk, znj, znh, zke, zkf, rfl, rfl⟩, rfl⟩
  refine wNT (wSR (wM 4 rfl ?_))
  replace h := bsome h; obtain ⟨⟨zz, zcl, znr, zns⟩, x200051, h⟩ := h; try dsimp only at h
  refine wl_cs Tryz.call31 rfl rfl rfl (s_sp (k_hindcastref26_Engine_Confirm (p0 := zba) (p0_4 := zeo) (p0t := 88) (p0_4b := zbi) (p0_4t := 117) zid zif zie zig zke zkf x200051) pP (fun _ _ => trivial)) rfl ?_
  rintro _ _ ⟨_, ⟨zkm, zkq, zko, zkg, zkn, zkr, zkp, zkh, zkv, zkx, zkw, zks, zki, zkk, zkj, zkl, zkt, zku, rfl, rfl⟩, rfl⟩
  refine wNT (wc_region (wM 1 rfl (wLd (v := .agg #[.int .u64 p0.Seed, .int .u8 p0.Player, .int .u8 p0.Window, .int .u8 p0.Sure, .int .u8 p0.Ahead, .int .u8 p0.Told, .int .u8 p0.From, .slice p0a0 p0n0 p0c0, .slice p0a1 p0n1 p0c1]) rfl (mT (mR (mR (mT (mR (mTT (mTT (mTT mH)))))))) rfl rfl (wM 1 rfl ?_))))
  obtain ⟨v200055, x200055, h⟩ := bsome h
  refine wl_cq Tryz.call25 rfl rfl rfl (q_pf (k_hindcastlaw28_Setup_pair (p0 := p0) p0N0 p0H0 p0N1 p0H1 x200055) (fun w hI => ⟨(Rds.call p0S0 pNil rsub_nil) w hI, (Rds.call p0S1 pNil rsub_nil) w hI⟩)) rfl ?_
  replace h := bsome h; obtain ⟨⟨zcm, v200056⟩, x200056, h⟩ := h; try dsimp only at h
  refine wl_cs Tryz.call32 rfl rfl rfl (s_sp (k_hindcastref11_History_Add (p0 := (T_hindcastref11_History.mk zcg zch zk)) (p0t := 77) zfm zfn x200056) pP (fun _ _ => trivial)) rfl ?_
  rintro _ _ ⟨_, ⟨zlb, zld, zlc, zky, zkz, zla, rfl, rfl⟩, rfl⟩
  refine wl_nil (wx_block (wx_then (wc_region (wM 3 rfl (wl_nil ?_)))))
  exact wx_round m200013 (Nat.lt_succ_self m200013) ⟨(IntKind.wrap .i64 (zfd + (1 : Int))), zz.Player, zz.Window, zz.Sure.Frame, zz.Sure.Seed, zz.Sure.Players, zz.Sure.Shots, zz.Sure.Score, zz.Own, zcl.Begin, zcl.First, zcl.L, zcm.From, zcm.Most, zcm.L, zkm, zkq, zko, zkg, zkn, zkr, zkp, zkh, zkv, zkx, zkw, zks, zlb, zld, zlc, zky, h, zki, zkk, zkj, zkl, zkt, zku, zkz, zla, rfl, rfl⟩ (ag5 rfl rfl rfl rfl rfl) pI
 refine wc_exit (wx_then_exit ?_)
 simp only [Option.some.injEq, Prod.mk.injEq] at h
 obtain ⟨rfl, rfl, rfl, rfl, rfl, rfl, rfl, rfl, rfl, rfl, rfl, rfl, rfl, rfl⟩ := h
 have h := hl200013; clear hl200013; try dsimp only [orE_l, orE_r] at h
 refine wx_then_exit (wx_block_exit (wx_then (wc_seq (wSR ?_))))
 refine wM 2 rfl (wNT (wc_block ?_))
 replace h := bsome h; obtain ⟨⟨zhn, zho, zgu, zgv, zgw, zgx, zgy, zhp⟩, h, hl200034⟩ := h; try dsimp only at hl200034
 refine wc_loop (fun m E L => ∃ zfe zai zaj zad zae zaf zc zw zg zdv zci zdw zdu zef zcy zeg zee, m_hindcastlaw28_BackfillTakes_L200033 F p0 zar zas zf m zfe zai zaj zad zae zaf zc zw zg = some (zhn, zho, zgu, zgv, zgw, zgx, zgy, zhp) ∧ zci = zc.length ∧ Own 119 6 zdv zci zdw (flat c_T_api_Shot zc) zdu ∧ zcy = zg.length ∧ Own 52 1 zef zcy zeg (flat (e1 .u8) zg) zee ∧ E = [(1, .pointer (some ⟨b200001, 0, none⟩)), (4, .pointer (some ⟨zat, 0, none⟩)), (5, .pointer (some ⟨b200023, 0, none⟩)), (6, .int .i64 (IntKind.wrap .i64 (Int.tmod p0.Sure 60))), (8, .int .i64 zfe)] ∧ L = (⟨b3, [.int .u64 p0.Seed, .int .u8 p0.Player, .int .u8 p0.Window, .int .u8 p0.Sure, .int .u8 p0.Ahead, .int .u8 p0.Told, .int .u8 p0.From, .slice p0a0 p0n0 p0c0, .slice p0a1 p0n1 p0c1], 25, (0, 0)⟩ :: (⟨b4, [.int .u8 p1.Player, .int .u64 p1.First, .slice p1a0 p1n0 p1c0, .slice p1a1 p1n1 p1c1], 28, (0, 0)⟩ :: (⟨zp, (.int .u8 zu :: .int .i64 zv :: .int .u64 zr :: .int .u64 zs :: pl14 zt [.slice zav zah zaw, .int .u16 zq.1, .int .u16 zq.2, .slice zbc zan zbd, .pointer (some ⟨zab, 0, none⟩), .pointer (some ⟨zac, 0, none⟩)]), 97, (0, 0)⟩ :: (⟨zab, [.int .u64 zao, .slice zbf zax zbg, .int .u8 zap], 124, (0, 0)⟩ :: (⟨zac, ([.int .i64 zaq] ++ flat cg_T_ring_place zay), 140, (0, 0)⟩ :: (⟨zeh, ([.int .u64 zbw.from_, .int .u64 zbw.count, .int .u64 zbw.most] ++ flat (e2 .u8) zbw.ring.1), 105, (0, 0)⟩ :: (⟨b200001, [.int .u64 p0.Seed, .int .u8 p0.Player, .int .u8 p0.Window, .int .u8 p0.Sure, .int .u8 p0.Ahead, .int .u8 p0.Told, .int .u8 p0.From, .slice p0a0 p0n0 p0c0, .slice p0a1 p0n1 p0c1], 25, (0, 0)⟩ :: (⟨zat, (.int .u8 zai :: .int .i64 zaj :: .int .u64 zad :: .int .u64 zae :: pl14 zaf [.slice zdv zci zdw, .int .u16 zw.1, .int .u16 zw.2, .slice zef zcy zeg, .pointer (some ⟨zbi, 0, none⟩)]), 88, (0, 0)⟩ :: (⟨zbi, [.int .u64 zar, .int .u64 zas, .slice zcd zbn zce], 117, (0, 0)⟩ :: (⟨b200023, [.int .u64 zcg, .int .i64 zch, .slice zds zcp zdt], 77, (0, 0)⟩ :: (zau ++ (zbb ++ (zbe ++ (zbh ++ (zdu ++ (zee ++ (zcc ++ (zdr ++ []))))))))))))))))))) F ⟨(IntKind.wrap .i64 (Int.tmod p0.Sure 60)), zdm, zdn, zcu, zcv, zcw, zi, zbt, zm, zdp, zcf, zdq, zdo, zec, zcx, zed, zeb, h, zev, zew, zfi, zfj, rfl, rfl⟩ (ag5 rfl rfl rfl rfl rfl) pI ?_
 clear h
 rintro m200034 _ _ ⟨zfe, zai, zaj, zad, zae, zaf, zc, zw, zg, zdv, zci, zdw, zdu, zef, zcy, zeg, zee, h, zbo, zbp, zbu, zbv, rfl, rfl⟩
 rcases m200034 with _ | m200034
 ·rw [m_hindcastlaw28_BackfillTakes_L200033.eq_1] at h; cases h
 rw [m_hindcastlaw28_BackfillTakes_L200033.eq_2] at h
 refine wc_seq (wSR (wM 3 rfl (wLd rfl (mTT (mTT (mTT mH))) rfl rfl (wM 4 rfl (wNT (wcc h rfl ?_ ?_)))))) <;> clear h <;> intro h
 ·refine wc_skip (wx_then (wc_seq (wc_block (wc_region (wM 2 rfl (wLd rfl (mTT (mTT (mTT mH))) rfl rfl (wM 1 rfl ?_)))))))
  obtain ⟨v200072, x200072, h⟩ := bsome h
  refine wl_cq Tryz.call21 rfl rfl rfl (q_pf (k_hindcastlaw28_at (p0 := p0.Mine) p0N0 p0H0 x200072) (Rds.call p0S0 pNil rsub_nil)) rfl ?_
  replace h := bsome h; obtain ⟨⟨zaa, v200073⟩, x200073, h⟩ := h; try dsimp only at h
  refine wl_cs Tryz.call29 rfl rfl rfl (s_sp (k_hindcastref26_Engine_Local (p0 := (T_hindcastref26_Engine.mk zai zaj (T_api_State.mk zad zae zaf zc zw) zg)) (p0_4 := (T_hindcastref24_Queue.mk zar zas zf)) (p0t := 88) (p0_4b := zbi) (p0_4t := 117) zbo zbp zbu zbv zdk zdl x200073) pP (fun _ _ => trivial)) rfl ?_
  rintro _ _ ⟨_, ⟨zlk, zlo, zlm, zle, zll, zlp, zln, zlf, zlg, zli, zlh, zlj, rfl, rfl⟩, rfl⟩
  refine wl_nil (wx_block (wx_then (wc_region (wM 3 rfl (wl_nil ?_)))))
  exact wx_round m200034 (Nat.lt_succ_self m200034) ⟨(IntKind.wrap .i64 (zfe + (1 : Int))), zaa.Player, zaa.Window, zaa.Sure.Frame, zaa.Sure.Seed, zaa.Sure.Players, zaa.Sure.Shots, zaa.Sure.Score, zaa.Own, zlk, zlo, zlm, zle, zll, zlp, zln, zlf, h, zlg, zli, zlh, zlj, rfl, rfl⟩ (ag5 rfl rfl rfl rfl rfl) pI
 refine wc_exit (wx_then_exit ?_)
 simp only [Option.some.injEq, Prod.mk.injEq] at h
 obtain ⟨rfl, rfl, rfl, rfl, rfl, rfl, rfl, rfl⟩ := h
 have h := hl200034; clear hl200034; try dsimp only [orE_l, orE_r] at h
 refine wx_then_exit (wx_block_exit (wx_then (wc_seq (wSR ?_))))
 refine wM 2 rfl (wNT (wc_block ?_))
 replace h := bsome h; obtain ⟨⟨zgz, zha, zhb⟩, h, hl200049⟩ := h; try dsimp only at hl200049
 refine wc_loop (fun m E L => ∃ zff zcz zda zn zel zdx zem zek, m_hindcastlaw28_BackfillTakes_L200048 F p0 zai zaj zad zae zaf zc zw zg m zff zcz zda zn = some (zgz, zha, zhb) ∧ zdx = zn.length ∧ Own 52 1 zel zdx zem (flat (e1 .u8) zn) zek ∧ E = [(1, .pointer (some ⟨b200001, 0, none⟩)), (4, .pointer (some ⟨zat, 0, none⟩)), (5, .pointer (some ⟨b200023, 0, none⟩)), (6, .int .i64 (IntKind.wrap .i64 (Int.tmod p0.Sure 60))), (9, .int .i64 zff)] ∧ L = (⟨b3, [.int .u64 p0.Seed, .int .u8 p0.Player, .int .u8 p0.Window, .int .u8 p0.Sure, .int .u8 p0.Ahead, .int .u8 p0.Told, .int .u8 p0.From, .slice p0a0 p0n0 p0c0, .slice p0a1 p0n1 p0c1], 25, (0, 0)⟩ :: (⟨b4, [.int .u8 p1.Player, .int .u64 p1.First, .slice p1a0 p1n0 p1c0, .slice p1a1 p1n1 p1c1], 28, (0, 0)⟩ :: (⟨zp, (.int .u8 zu :: .int .i64 zv :: .int .u64 zr :: .int .u64 zs :: pl14 zt [.slice zav zah zaw, .int .u16 zq.1, .int .u16 zq.2, .slice zbc zan zbd, .pointer (some ⟨zab, 0, none⟩), .pointer (some ⟨zac, 0, none⟩)]), 97, (0, 0)⟩ :: (⟨zab, [.int .u64 zao, .slice zbf zax zbg, .int .u8 zap], 124, (0, 0)⟩ :: (⟨zac, ([.int .i64 zaq] ++ flat cg_T_ring_place zay), 140, (0, 0)⟩ :: (⟨zeh, ([.int .u64 zbw.from_, .int .u64 zbw.count, .int .u64 zbw.most] ++ flat (e2 .u8) zbw.ring.1), 105, (0, 0)⟩ :: (⟨b200001, [.int .u64 p0.Seed, .int .u8 p0.Player, .int .u8 p0.Window, .int .u8 p0.Sure, .int .u8 p0.Ahead, .int .u8 p0.Told, .int .u8 p0.From, .slice p0a0 p0n0 p0c0, .slice p0a1 p0n1 p0c1], 25, (0, 0)⟩ :: (⟨zat, (.int .u8 zai :: .int .i64 zaj :: .int .u64 zad :: .int .u64 zae :: pl14 zaf [.slice zdv zci zdw, .int .u16 zw.1, .int .u16 zw.2, .slice zef zcy zeg, .pointer (some ⟨zbi, 0, none⟩)]), 88, (0, 0)⟩ :: (⟨zbi, [.int .u64 zcz, .int .u64 zda, .slice zel zdx zem], 117, (0, 0)⟩ :: (⟨b200023, [.int .u64 zcg, .int .i64 zch, .slice zds zcp zdt], 77, (0, 0)⟩ :: (zau ++ (zbb ++ (zbe ++ (zbh ++ (zdu ++ (zee ++ (zek ++ (zdr ++ []))))))))))))))))))) F ⟨(IntKind.wrap .i64 (Int.tmod p0.Sure 60)), zar, zas, zf, zcd, zbn, zce, zcc, h, zdk, zdl, rfl, rfl⟩ (ag5 rfl rfl rfl rfl rfl) pI ?_
 clear h
 rintro m200049 _ _ ⟨zff, zcz, zda, zn, zel, zdx, zem, zek, h, zex, zey, rfl, rfl⟩
 rcases m200049 with _ | m200049
 ·rw [m_hindcastlaw28_BackfillTakes_L200048.eq_1] at h; cases h
 rw [m_hindcastlaw28_BackfillTakes_L200048.eq_2] at h
 refine wc_seq (wSR (wM 3 rfl (wLd rfl (mTT (mTT (mTT mH))) rfl rfl (wM 4 rfl (wNT (wcc h rfl ?_ ?_)))))) <;> clear h <;> intro h
 ·refine wc_skip (wx_then (wc_seq (wc_block (wc_region (wM 4 rfl (wLd rfl (mTT (mTT (mTT mH))) rfl rfl (wM 1 rfl ?_)))))))
  obtain ⟨v200091, x200091, h⟩ := bsome h
  refine wl_cq Tryz.call21 rfl rfl rfl (q_pf (k_hindcastlaw28_at (p0 := p0.Theirs) p0N1 p0H1 x200091) (Rds.call p0S1 pNil rsub_nil)) rfl ?_
  replace h := bsome h; obtain ⟨⟨zcn, v200092⟩, x200092, h⟩ := h; try dsimp only at h
  refine wl_cs Tryz.call30 rfl rfl rfl (s_sp (k_hindcastref26_Engine_Remote (p0 := (T_hindcastref26_Engine.mk zai zaj (T_api_State.mk zad zae zaf zc zw) zg)) (p0_4 := (T_hindcastref24_Queue.mk zcz zda zn)) (p0t := 88) (p0_4b := zbi) (p0_4t := 117) zbo zbp zbu zbv zex zey x200092) pP (fun _ _ => trivial)) rfl ?_
  rintro _ _ ⟨_, ⟨zlt, zlv, zlu, zlq, zlr, zls, rfl, rfl⟩, rfl⟩
  refine wl_nil (wx_block (wx_then (wc_region (wM 3 rfl (wl_nil ?_)))))
  exact wx_round m200049 (Nat.lt_succ_self m200049) ⟨(IntKind.wrap .i64 (zff + (1 : Int))), zcn.Begin, zcn.First, zcn.L, zlt, zlv, zlu, zlq, h, zlr, zls, rfl, rfl⟩ (ag5 rfl rfl rfl rfl rfl) pI
 refine wc_exit (wx_then_exit ?_)
 obtain ⟨rfl, rfl, rfl⟩ := pJ3 h
 have h := hl200049; clear hl200049; try dsimp only [orE_l, orE_r] at h
 refine wx_then_exit (wx_block_exit (wx_then (wSR ?_)))
 refine wM 2 rfl (wLd rfl (mTT (mTT (mTT mH))) rfl rfl (wM 2 rfl ?_))
 obtain ⟨zco, x200098, h⟩ := bsome h
 refine wl_cs Tryz.call33 rfl rfl rfl (s_sp (k_hindcastref11_History_Drop (p0 := (T_hindcastref11_History.mk zcg zch zk)) (p0t := 77) zfm zfn x200098) pP (fun _ _ => trivial)) rfl ?_
 rintro _ _ ⟨_, ⟨znm, zno, znn, znl, zhc, zhd, rfl, rfl⟩, rfl⟩
 refine wNT (wSR (wM 4 rfl (wNT (wc_ret (wx_inl (v := .tuple #[.pointer (some ⟨zat, 0, none⟩), .pointer (some ⟨b200023, 0, none⟩)]) tt_ok (.inl rfl) Tryz.results6 (rs2 rfl rfl) rfl (wM 5 rfl (wNT (wc_seq (wSR (wM 6 rfl (wNT (wc_cond_false rfl (wc_skip (wx_then (wSR (wM 2 rfl ?_))))))))))))))))
 replace h := bsome h; obtain ⟨⟨zox, zoy⟩, x61, h⟩ := h; try dsimp only at h
 refine wl_cq Tryz.call7 rfl rfl rfl (q_rd (k_backfill_Plan (p0t := 105) x61) pP (fun _ _ => trivial)) rfl ?_
 refine wM 5 rfl (wNT (wSR (wM 2 rfl ?_)))
 replace h := bsome h; obtain ⟨⟨zoz, zpa⟩, x67, h⟩ := h; try dsimp only at h
 refine wl_cq Tryz.call8 rfl rfl rfl (q_rd (k_hindcastref28_Plan (p0 := zco) (p0t := 77) zhc zhd x67) pP (fun _ _ => trivial)) rfl ?_
 refine wM 5 rfl (wNT (wc_seq (wSR (wM 4 rfl ?_))))
 obtain ⟨v77, h, hg77⟩ := bsome h
 refine wls 73 h rfl ?_ ?_ <;> clear h <;> intro h
 ·refine wM 3 rfl ?_
  obtain rfl := sI h
  have h := hg77; clear hg77
  refine wM 1 rfl (wNT ?_)
  replace h := ct rfl h
  refine wc_cond_true rfl ?_
  refine wSR (wM 1 rfl (wNT (wc_ret (wx_then_ret ?_))))
  obtain rfl := sI h
  exact pE Tryz.results3 rfl
 refine wM 3 rfl ?_
 obtain rfl := sI h
 have h := hg77; clear hg77
 refine wM 1 rfl (wNT (wcc h rfl ?_ ?_)) <;> clear h <;> intro h
 ·refine wSR (wM 1 rfl (wNT (wc_ret (wx_then_ret ?_))))
  obtain rfl := sI h
  exact pE Tryz.results3 rfl
 refine wc_skip (wx_then (wSR (wM 3 rfl (wLd rfl (mT (mR (mT mH))) rfl rfl (wM 1 rfl (wLd rfl (mT (mR (mT mH))) rfl rfl (wM 1 rfl (wLd rfl (mT (mR (mT mH))) rfl rfl ?_))))))))
 replace h := bsome h; obtain ⟨⟨zfk, zhq, zpb, zpc⟩, x87, h⟩ := h; try dsimp only at h
 refine wl_cs Tryz.call9 rfl rfl rfl (s_sp (k_backfill_Pairs (p0 := (T_rollback_Engine.mk zu zv (T_api_State.mk zr zs zt za zq) zb)) (p0_4 := (T_queue_Queue.mk zao zd zap)) (p0_5 := (T_ring_Ring.mk zaq zo)) (p4 := p1.Pairs) (p0t := 97) (p0_4b := zab) (p0_4t := 124) (p0_5b := zac) (p0_5t := 140) (p1t := 105) zbl zbm zbr zbs zer zes zeu zet p1N0 p1H0 x87) pP (Rds.call p1S0 pP rsub_nil)) rfl ?_
 rintro _ _ ⟨_, ⟨zok, zom, zol, zoj, zoo, zon, zlw, zlx, zmk, zmj, rfl, rfl⟩, rfl⟩
 refine wM 5 rfl (wNT (wSR (wM 3 rfl (wLd rfl (mT (mR (mR (mT (mR (mT (mR (mTT (mR (mT mH)))))))))) rfl rfl (wM 1 rfl (wLd rfl (mT (mR (mR (mT (mR (mT (mR (mTT (mR (mT mH)))))))))) rfl rfl (wM 1 rfl (wLd rfl (mT (mR (mR (mT (mR (mT (mR (mTT (mR (mT mH)))))))))) rfl rfl ?_))))))))
 replace h := bsome h; obtain ⟨⟨zfl, zpd, zpe⟩, x99, h⟩ := h; try dsimp only at h
 refine wl_cs Tryz.call10 rfl rfl rfl (s_sp (k_hindcastref28_Pairs (p0 := (T_hindcastref26_Engine.mk zai zaj (T_api_State.mk zad zae zaf zc zw) zg)) (p0_4 := (T_hindcastref24_Queue.mk zcz zda zn)) (p1 := zco) (p4 := p1.Pairs) (p0t := 88) (p0_4b := zbi) (p0_4t := 117) (p1t := 77) zbo zbp zbu zbv zex zey zhc zhd p1N0 p1H0 x99) pP (Rds.call p1S0 pP rsub_nil)) rfl ?_
 rintro _ _ ⟨_, ⟨zoq, zos, zor, zop, zly, zlz, rfl, rfl⟩, rfl⟩
 refine wM 5 rfl (wNT (wc_seq (wSR (wM 4 rfl ?_))))
 obtain ⟨v109, h, hg109⟩ := bsome h
 refine wls 105 h rfl ?_ ?_ <;> clear h <;> intro h
 ·refine wM 3 rfl ?_
  obtain rfl := sI h
  have h := hg109; clear hg109
  refine wM 2 rfl ?_
  replace h := bsome h; obtain ⟨⟨v115, zhr, zhs⟩, h, hg115⟩ := h
  replace h := ct rfl h
  refine wM 4 rfl ?_
  obtain ⟨rfl, rfl, rfl⟩ := pJ3 h
  have h := hg115; clear hg115; try dsimp only at h
  refine wM 1 rfl (wNT ?_)
  replace h := ct rfl h
  refine wc_cond_true rfl ?_
  refine wSR (wM 1 rfl (wNT (wc_ret (wx_then_ret ?_))))
  obtain rfl := sI h
  exact pE Tryz.results3 rfl
 refine wM 3 rfl ?_
 obtain rfl := sI h
 have h := hg109; clear hg109
 refine wM 2 rfl ?_
 replace h := bsome h; obtain ⟨⟨v115, zhr, zhs⟩, h, hg115⟩ := h
 refine wls 110 h rfl ?_ ?_ <;> clear h <;> intro h
 ·refine wM 4 rfl ?_
  obtain ⟨rfl, rfl, rfl⟩ := pJ3 h
  have h := hg115; clear hg115; try dsimp only at h
  refine wM 1 rfl (wNT ?_)
  replace h := ct rfl h
  refine wc_cond_true rfl ?_
  refine wSR (wM 1 rfl (wNT (wc_ret (wx_then_ret ?_))))
  obtain rfl := sI h
  exact pE Tryz.results3 rfl
 refine wM 2 rfl ?_
 replace h := bsome h; obtain ⟨⟨zfq, v113⟩, x113, h⟩ := h; try dsimp only at h
 refine wl_run rfl (wl_cs Tryz.call11 rfl rfl rfl (s_sp (k_hindcastlaw28_alike (p0 := (T_rollback_Engine.mk zu zv (T_api_State.mk zr zs zt za zq) zb)) (p0_4 := zfk) (p0_5 := zhq) (p1 := (T_hindcastref26_Engine.mk zai zaj (T_api_State.mk zad zae zaf zc zw) zg)) (p1_4 := zfl) (p0t := 97) (p0_4b := zab) (p0_4t := 124) (p0_5b := zac) (p0_5t := 140) (p1t := 88) (p1_4b := zbi) (p1_4t := 117) zbl zbm zbr zbs zlw zlx zmk zmj zbo zbp zbu zbv zly zlz x113) pP (fun w hI => ⟨(Rds.call G0S pP rsub_nil) w hI, (Rds.call G1S pP rsub_nil) w hI⟩)) rfl ?_)
 rintro _ _ ⟨_, ⟨znu, znt, zmc, zmb, rfl, rfl⟩, rfl⟩
 refine wM 1 rfl ?_
 obtain ⟨rfl, rfl, rfl⟩ := pJ3 h
 have h := hg115; clear hg115; try dsimp only at h
 refine wM 1 rfl (wNT (wcc h rfl ?_ ?_)) <;> clear h <;> intro h
 ·refine wSR (wM 1 rfl (wNT (wc_ret (wx_then_ret ?_))))
  obtain rfl := sI h
  exact pE Tryz.results3 rfl
 refine wc_skip (wx_then (wSR (wM 3 rfl (wLd rfl (mT (mR (mR (mT (mR (mT (mR (mT (mR (mR (mT (mR (mT (mR (mTT mH))))))))))))))) rfl rfl (wM 1 rfl (wLd rfl (mT (mR (mR (mT (mR (mT (mR (mT (mR (mR (mT (mR (mT (mR (mTT mH))))))))))))))) rfl rfl (wM 1 rfl (wLd rfl (mT (mR (mR (mT (mR (mT (mR (mT (mR (mR (mT (mR (mT (mR (mTT mH))))))))))))))) rfl rfl ?_))))))))
 replace h := bsome h; obtain ⟨⟨zfo, zfr, zot, zou⟩, x125, h⟩ := h; try dsimp only at h
 refine wl_cs Tryz.call12 rfl rfl rfl (s_sp (k_backfill_Inputs (p0 := (T_rollback_Engine.mk zu zv (T_api_State.mk zr zs zt za zq) zb)) (p0_4 := zfk) (p0_5 := zfq) (p4 := p1.Inputs) (p0t := 97) (p0_4b := zab) (p0_4t := 124) (p0_5b := zac) (p0_5t := 140) (p1t := 105) zbl zbm zbr zbs zlw zlx zmc zmb p1N1 p1H1 x125) pP (Rds.call p1S1 pP rsub_nil)) rfl ?_
 rintro _ _ ⟨_, ⟨znw, zny, znx, znv, zoa, znz, zmd, zme, zmg, zmf, rfl, rfl⟩, rfl⟩
 refine wM 5 rfl (wNT (wSR (wM 3 rfl (wLd rfl (mT (mR (mR (mT (mR (mT (mR (mTT (mR (mR (mT (mR (mT (mR (mT mH))))))))))))))) rfl rfl (wM 1 rfl (wLd rfl (mT (mR (mR (mT (mR (mT (mR (mTT (mR (mR (mT (mR (mT (mR (mT mH))))))))))))))) rfl rfl (wM 1 rfl (wLd rfl (mT (mR (mR (mT (mR (mT (mR (mTT (mR (mR (mT (mR (mT (mR (mT mH))))))))))))))) rfl rfl ?_))))))))
 replace h := bsome h; obtain ⟨⟨zfp, zov, zow⟩, x137, h⟩ := h; try dsimp only at h
 refine wl_cs Tryz.call13 rfl rfl rfl (s_sp (k_hindcastref28_Inputs (p0 := (T_hindcastref26_Engine.mk zai zaj (T_api_State.mk zad zae zaf zc zw) zg)) (p0_4 := zfl) (p1 := zco) (p4 := p1.Inputs) (p0t := 88) (p0_4b := zbi) (p0_4t := 117) (p1t := 77) zbo zbp zbu zbv zly zlz zhc zhd p1N1 p1H1 x137) pP (Rds.call p1S1 pP rsub_nil)) rfl ?_
 rintro _ _ ⟨_, ⟨zoc, zoe, zod, zob, zmh, zmi, rfl, rfl⟩, rfl⟩
 refine wM 5 rfl (wNT (wSR (wM 4 rfl ?_)))
 obtain ⟨v147, h, hg147⟩ := bsome h
 refine wls 143 h rfl ?_ ?_ <;> clear h <;> intro h
 ·refine wM 3 rfl ?_
  obtain rfl := sI h
  have h := hg147; clear hg147
  refine wM 2 rfl ?_
  replace h := bsome h; obtain ⟨⟨v152, zht, zhu⟩, h, hg152⟩ := h
  refine wls 148 h rfl ?_ ?_ <;> clear h <;> intro h
  ·refine wM 2 rfl ?_
   replace h := bsome h; obtain ⟨⟨zih, v151⟩, x151, h⟩ := h; try dsimp only at h
   refine wl_run rfl (wl_cs Tryz.call11 rfl rfl rfl (s_sp (k_hindcastlaw28_alike (p0 := (T_rollback_Engine.mk zu zv (T_api_State.mk zr zs zt za zq) zb)) (p0_4 := zfo) (p0_5 := zfr) (p1 := (T_hindcastref26_Engine.mk zai zaj (T_api_State.mk zad zae zaf zc zw) zg)) (p1_4 := zfp) (p0t := 97) (p0_4b := zab) (p0_4t := 124) (p0_5b := zac) (p0_5t := 140) (p1t := 88) (p1_4b := zbi) (p1_4t := 117) zbl zbm zbr zbs zmd zme zmg zmf zbo zbp zbu zbv zmh zmi x151) pP (fun w hI => ⟨(Rds.call G0S pP rsub_nil) w hI, (Rds.call G1S pP rsub_nil) w hI⟩)) rfl ?_)
   rintro _ _ ⟨_, ⟨zoi, zoh, zog, zof, rfl, rfl⟩, rfl⟩
   obtain ⟨rfl, rfl, rfl⟩ := pJ3 h
   have h := hg152; clear hg152; try dsimp only at h
   refine wM 2 rfl ?_
   obtain ⟨v155, h, hg155⟩ := bsome h
   refine wls 153 h rfl ?_ ?_ <;> clear h <;> intro h
   ·obtain ⟨v154, x154, h⟩ := bsome h
    refine wl_run rfl (wl_cq Tryz.call4 rfl rfl rfl (q_pf (k_hindcastlaw28_works x154) (fun w hI => ⟨(Rds.call G0S pNil rsub_nil) w hI, (Rds.call G1S pNil rsub_nil) w hI⟩)) rfl ?_)
    obtain rfl := sI h
    have h := hg155; clear hg155
    refine wM 2 rfl (wNT (wc_ret ?_))
    obtain rfl := sI h
    exact pE Tryz.results3 rfl
   refine wM 1 rfl ?_
   obtain rfl := sI h
   have h := hg155; clear hg155
   refine wM 2 rfl (wNT (wc_ret ?_))
   obtain rfl := sI h
   exact pE Tryz.results3 rfl
  refine wM 3 rfl ?_
  obtain ⟨rfl, rfl, rfl⟩ := pJ3 h
  have h := hg152; clear hg152; try dsimp only at h
  refine wM 2 rfl ?_
  obtain ⟨v155, h, hg155⟩ := bsome h
  replace h := cf rfl h
  refine wM 1 rfl ?_
  obtain rfl := sI h
  have h := hg155; clear hg155
  refine wM 2 rfl (wNT (wc_ret ?_))
  obtain rfl := sI h
  exact pE Tryz.results3 rfl
 refine wM 3 rfl ?_
 obtain rfl := sI h
 have h := hg147; clear hg147
 refine wM 2 rfl ?_
 replace h := bsome h; obtain ⟨⟨v152, zht, zhu⟩, h, hg152⟩ := h
 replace h := cf rfl h
 refine wM 3 rfl ?_
 obtain ⟨rfl, rfl, rfl⟩ := pJ3 h
 have h := hg152; clear hg152; try dsimp only at h
 refine wM 2 rfl ?_
 obtain ⟨v155, h, hg155⟩ := bsome h
 replace h := cf rfl h
 refine wM 1 rfl ?_
 obtain rfl := sI h
 have h := hg155; clear hg155
 refine wM 2 rfl (wNT (wc_ret ?_))
 obtain rfl := sI h
 exact pE Tryz.results3 rfl

end Go.Proofs.YtkdbpenjkcjimaaGreatDoor
