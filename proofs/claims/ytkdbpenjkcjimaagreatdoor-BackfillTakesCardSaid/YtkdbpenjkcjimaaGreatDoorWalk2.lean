/-
  Each function computes what its model says. Printed by a program of this claim's own.
-/
import Derived.Test.YtkdbpenjkcjimaaGreatDoorTab
import Derived.Test.YtkdbpenjkcjimaaGreatDoorMod
import Derived.Test.YtkdbpenjkcjimaaGreatDoorWalk1
namespace Go.Proofs.YtkdbpenjkcjimaaGreatDoor
open Go.Proofs.YtkdbpenjkcjimaaGreatDoor.Eng
set_option linter.unusedVariables false
set_option linter.unusedSimpArgs false
set_option maxHeartbeats 4000000
set_option maxRecDepth 20000
set_option synthInstance.maxHeartbeats 400000
set_option synthInstance.maxSize 4000
variable {F p0_4b p0_4c0 p0_4n0 p0_4t p0_5b p0_5t p0b p0c0 p0c1 p0n0 p0n1 p0t p1b p1t p2_ob p2_ot p2b p2t p3_o_4b p3_o_4c0 p3_o_4n0 p3_o_4t p3_o_5b p3_o_5t p3_ob p3_oc0 p3_oc1 p3_on0 p3_on1 p3_ot p3b p3c0 p3n0 p3t p4b p4c0 p4n0 p4t : Nat}
variable {p0B0 p0B1 p0_4B0 p0_5P0 p3_oB0 p3_oB1 p3_o_4B0 p3_o_5P0 : List Blk}
variable {p0_4a0 p0a0 p0a1 p3_o_4a0 p3_oa0 p3_oa1 p3a0 p4a0 : Option Addr}

theorem k_queue_Queue_Drop {p0 : T_queue_Queue} {p1 : Int} {r0 : T_queue_Queue} (p0N0 : p0n0 = p0.l.length) (p0V0 : Own 52 1 p0a0 p0n0 p0c0 (flat (e1 .u8) p0.l) p0B0) (h : m_queue_Queue_Drop F p0 p1 = some r0) :
    SpD Tryz.prog 66 [.pointer (some ⟨p0b, 0, none⟩), .int .u64 p1] (⟨p0b, [.int .u64 p0.first_, .slice p0a0 p0n0 p0c0, .int .u8 p0.last], p0t, (0, 0)⟩ :: (p0B0 ++ [])) (fun w => True) (fun v D => ∃ r0a0 r0n0 r0c0 r0B0, r0n0 = r0.l.length ∧ Own 52 1 r0a0 r0n0 r0c0 (flat (e1 .u8) r0.l) r0B0 ∧ v = .tuple #[] ∧ D = fun F => (⟨p0b, [.int .u64 r0.first_, .slice r0a0 r0n0 r0c0, .int .u8 r0.last], p0t, (0, 0)⟩ :: (r0B0 ++ F))) := by
 unfold m_queue_Queue_Drop at h
 refine sp_of_wc Tryz.func66 rfl Tryz.ntmps66 rfl rfl (fun w0 hR => ?_)
 refine wc_seq (wSR (wM 7 rfl (wl_run rfl (wLd rfl mH rfl rfl (wM 2 rfl (wNT (wcc h rfl ?_ ?_))))))) <;> clear h <;> intro h
 ·refine wc_ret (wx_then_ret ?_)
  obtain rfl := sI h
  exact wE Tryz.results66 Res.nil ⟨p0a0, p0n0, p0c0, p0B0, p0N0, p0V0, rfl, rfl⟩ pI
 refine wc_skip (wx_then (wSR (wM 2 rfl ?_)))
 obtain ⟨v17, x17, h⟩ := bsome h
 refine wl_cq Tryz.call54 rfl rfl rfl (q_rd (k_queue_Queue_Known (p0 := p0) (p0t := p0t) p0N0 p0V0 x17) pP (fun _ _ => trivial)) rfl ?_
 refine wM 2 rfl (wNT (wc_seq (wc_k2 (Ls := (⟨p0b, [.int .u64 p0.first_, .slice p0a0 p0n0 p0c0, .int .u8 p0.last], p0t, (0, 0)⟩ :: (p0B0 ++ []))) [15, 16] [15, 16] [0, 1, 3, 7, 0, 16, 48, 112, 0, 0, 512, 1536, 3584, 7936, 16368, 32767, 65535] [0, 1, 2, 3, 4, 5, 6, 7, 8, 9, 10, 11, 12, 13, 14, 15, 16] (by kernel_rfl) (by kernel_rfl) (by kernel_rfl) (kM pI 3 rfl (k_val (v := .slice p0a0 p0n0 p0c0) rfl rfl rfl pI (val_load tt_ok rfl mH rfl) rfl (kM pI 3 rfl (k_val (v := .slice p0a0 p0n0 p0c0) rfl rfl rfl pI (val_load tt_ok rfl mH rfl) rfl ?_)))))))
 refine kM pI 4 rfl (k_val (v := .int .u64 p0.first_) rfl rfl rfl pI (val_load tt_ok rfl mH rfl) rfl (kM pI 1 rfl ?_))
 obtain ⟨v33, x33, h⟩ := bsome h
 refine k_cut (enc := (e1 .u8)) rfl rfl rfl pI tt_ok rfl rfl rfl p0N0 (vec_some p0V0) (e1_len _) (vec_cap p0V0) (.inr ⟨_, _, rfl, rfl⟩) (.inl ⟨rfl, by rw [p0N0]⟩) (.inl ⟨rfl, rfl⟩) (by intro h; first | rfl | cases h) (cut2 x33 p0N0 (vec_cap p0V0)) x33 rfl ?_
 intro a33 n33_ c33 N33 H33 I33 O33 Z33
 refine k_chg rfl rfl rfl (chg_copy (enc := (e1 .u8)) (ys := v33) tt_ok rfl rfl rfl rfl p0N0 N33 p0V0 (sC hA') (Rds.of_vec (O33 _ rfl p0V0)) ⟨_, (sC hA')⟩ (e1_len _) (fun _ => rfl)) rfl (.inl rfl) ?_
 rintro _ _ ⟨Bk10_15, rfl, Nk10_15, Vk10_15, rfl⟩
 refine k_chg rfl rfl rfl (Chg.of_val (sV rfl)) rfl (.inl rfl) ?_
 rintro _ _ ⟨rfl, rfl⟩
 refine k_end (by kernel_rfl) ?_
 refine wx_then (wc_region (wM 5 rfl (wLd rfl (mR mH) rfl rfl (wM 1 rfl ?_))))
 obtain ⟨v42, x42, h⟩ := bsome h
 refine wl_cut (enc := (e1 .u8)) tt_ok rfl rfl rfl Nk10_15 (vec_some Vk10_15) (e1_len _) (vec_cap Vk10_15) (.inl ⟨rfl, rfl⟩) (.inr ⟨_, _, rfl, rfl⟩) (.inl ⟨rfl, rfl⟩) (by intro h; first | rfl | cases h) (cut2 x42 Nk10_15 (vec_cap Vk10_15)) x42 rfl ?_
 intro a42 n42_ c42 N42 H42 I42 O42 Z42
 refine wM 3 rfl (lSt (Upd.right Upd.here) ?_)
 refine wM 2 rfl (lSt (Upd.right Upd.here) ?_)
 refine wl_nil ?_
 obtain rfl := sI h
 exact wx_spD tt_ok (.inr rfl) Tryz.results66 Res.nil ⟨a42, n42_, c42, Bk10_15, N42, (O42 _ rfl Vk10_15), rfl, rfl⟩ (fun F => by simp) pI

theorem k_rollback_Engine_Confirm {p0 : T_rollback_Engine} {p0_4 : T_queue_Queue} {p0_5 : T_ring_Ring} {p0_5g0 : List (T_ring_place × G)} {p1 : Int} {r0 : T_rollback_Engine} {r1 : T_queue_Queue} {r2 : T_ring_Ring} {r3 : (Int × Int)} {r4 : Bool} (p0N0 : p0n0 = p0.sure.Shots.length) (p0V0 : Own 119 6 p0a0 p0n0 p0c0 (flat c_T_api_Shot p0.sure.Shots) p0B0) (p0N1 : p0n1 = p0.own.length) (p0V1 : Own 52 1 p0a1 p0n1 p0c1 (flat (e1 .u8) p0.own) p0B1) (p0_4N0 : p0_4n0 = p0_4.l.length) (p0_4V0 : Own 52 1 p0_4a0 p0_4n0 p0_4c0 (flat (e1 .u8) p0_4.l) p0_4B0) (p0_5G0 : p0_5.places.1 = unG p0_5g0) (p0_5A0 : AllP sh_T_ring_place c_T_api_Shot p0_5P0 p0_5g0) (h : m_rollback_Engine_Confirm F p0 p0_4 p0_5 p1 = some (r0, r1, r2, r3, r4)) :
    SpD Tryz.prog 23 [.pointer (some ⟨p0b, 0, none⟩), .int .u64 p1] (⟨p0b, (.int .u8 p0.player :: .int .i64 p0.window :: st19 p0.sure p0a0 p0n0 p0c0 [.slice p0a1 p0n1 p0c1, .pointer (some ⟨p0_4b, 0, none⟩), .pointer (some ⟨p0_5b, 0, none⟩)]), p0t, (0, 0)⟩ :: (p0B0 ++ (p0B1 ++ (⟨p0_4b, [.int .u64 p0_4.first_, .slice p0_4a0 p0_4n0 p0_4c0, .int .u8 p0_4.last], p0_4t, (0, 0)⟩ :: (p0_4B0 ++ (⟨p0_5b, ([.int .i64 p0_5.size] ++ flat cg_T_ring_place p0_5g0), p0_5t, (0, 0)⟩ :: (p0_5P0 ++ []))))))) (fun w => Rds w (ids (⟨p0b, (.int .u8 p0.player :: .int .i64 p0.window :: st19 p0.sure p0a0 p0n0 p0c0 [.slice p0a1 p0n1 p0c1, .pointer (some ⟨p0_4b, 0, none⟩), .pointer (some ⟨p0_5b, 0, none⟩)]), p0t, (0, 0)⟩ :: (p0B0 ++ (p0B1 ++ (⟨p0_4b, [.int .u64 p0_4.first_, .slice p0_4a0 p0_4n0 p0_4c0, .int .u8 p0_4.last], p0_4t, (0, 0)⟩ :: (p0_4B0 ++ (⟨p0_5b, ([.int .i64 p0_5.size] ++ flat cg_T_ring_place p0_5g0), p0_5t, (0, 0)⟩ :: (p0_5P0 ++ [])))))))) [] (some ⟨0, 0, none⟩) (flat (fun _ : Unit => gl_state_playerBounds) [()]) ∧ Rds w (ids (⟨p0b, (.int .u8 p0.player :: .int .i64 p0.window :: st19 p0.sure p0a0 p0n0 p0c0 [.slice p0a1 p0n1 p0c1, .pointer (some ⟨p0_4b, 0, none⟩), .pointer (some ⟨p0_5b, 0, none⟩)]), p0t, (0, 0)⟩ :: (p0B0 ++ (p0B1 ++ (⟨p0_4b, [.int .u64 p0_4.first_, .slice p0_4a0 p0_4n0 p0_4c0, .int .u8 p0_4.last], p0_4t, (0, 0)⟩ :: (p0_4B0 ++ (⟨p0_5b, ([.int .i64 p0_5.size] ++ flat cg_T_ring_place p0_5g0), p0_5t, (0, 0)⟩ :: (p0_5P0 ++ [])))))))) [] (some ⟨1, 0, none⟩) (flat (fun _ : Unit => gl_state_shotBounds) [()])) (fun v D => ∃ r0a0 r0n0 r0c0 r0B0 r0a1 r0n1 r0c1 r0B1 r1a0 r1n0 r1c0 r1B0 r2g0 r2P0, r0n0 = r0.sure.Shots.length ∧ Own 119 6 r0a0 r0n0 r0c0 (flat c_T_api_Shot r0.sure.Shots) r0B0 ∧ r0n1 = r0.own.length ∧ Own 52 1 r0a1 r0n1 r0c1 (flat (e1 .u8) r0.own) r0B1 ∧ r1n0 = r1.l.length ∧ Own 52 1 r1a0 r1n0 r1c0 (flat (e1 .u8) r1.l) r1B0 ∧ r2.places.1 = unG r2g0 ∧ AllP sh_T_ring_place c_T_api_Shot r2P0 r2g0 ∧ v = .tuple #[.agg #[.int .u8 r3.1, .int .u8 r3.2], .bool r4] ∧ D = fun F => (⟨p0b, (.int .u8 r0.player :: .int .i64 r0.window :: st19 r0.sure r0a0 r0n0 r0c0 [.slice r0a1 r0n1 r0c1, .pointer (some ⟨p0_4b, 0, none⟩), .pointer (some ⟨p0_5b, 0, none⟩)]), p0t, (0, 0)⟩ :: (r0B0 ++ (r0B1 ++ (⟨p0_4b, [.int .u64 r1.first_, .slice r1a0 r1n0 r1c0, .int .u8 r1.last], p0_4t, (0, 0)⟩ :: (r1B0 ++ (⟨p0_5b, ([.int .i64 r2.size] ++ flat cg_T_ring_place r2g0), p0_5t, (0, 0)⟩ :: (r2P0 ++ F)))))))) := by
 unfold m_rollback_Engine_Confirm at h
 refine sp_of_wc Tryz.func23 rfl Tryz.ntmps23 rfl rfl (fun w0 hR => ?_)
 obtain ⟨G0S, G1S⟩ := hR
 refine wSR (wl_alloc tt_ok rfl rfl (fun b4 => (wM 1 rfl (wNT (wSR (wM 1 rfl ?_))))))
 replace h := bsome h; obtain ⟨⟨zb, zn⟩, x10, h⟩ := h; try dsimp only at h
 refine wl_cq Tryz.call44 rfl rfl rfl (q_rd (k_rollback_Engine_Next (p0 := p0) (p0_4 := p0_4) (p0_5 := p0_5) (p0t := p0t) (p0_4b := p0_4b) (p0_4t := p0_4t) (p0_5b := p0_5b) (p0_5t := p0_5t) p0N0 p0V0 p0N1 p0V1 p0_4N0 p0_4V0 p0_5G0 p0_5A0 x10) pP (fun _ _ => trivial)) rfl ?_
 refine wM 3 rfl (wl_alloc tt_ok rfl rfl (fun b6 => (lSt Upd.here ?_)))
 refine wM 1 rfl (wNT (wc_seq (wSR (wM 3 rfl ?_))))
 obtain ⟨v23, h, hg23⟩ := bsome h
 refine wls 15 h rfl ?_ ?_ <;> clear h <;> intro h
 ·refine wM 7 rfl ?_
  obtain rfl := sI h
  have h := hg23; clear hg23
  refine wM 1 rfl (wNT ?_)
  replace h := ct rfl h
  refine wc_cond_true rfl ?_
  refine wSR (wM 1 rfl (lSt (Upd.there Upd.here) ?_))
  refine wM 1 rfl (wNT (wc_ret (wx_then_ret ?_)))
  obtain ⟨rfl, rfl, rfl, rfl, rfl⟩ := pJ5 h
  exact wE Tryz.results23 (Res.cell rfl (mT mH) rfl (rs1 rfl)) ⟨p0a0, p0n0, p0c0, p0B0, p0a1, p0n1, p0c1, p0B1, p0_4a0, p0_4n0, p0_4c0, p0_4B0, p0_5g0, p0_5P0, p0N0, p0V0, p0N1, p0V1, p0_4N0, p0_4V0, p0_5G0, p0_5A0, rfl, rfl⟩ pI
 refine wM 4 rfl (wl_run rfl (wLd rfl (mTT mH) rfl rfl (wM 2 rfl ?_)))
 obtain rfl := sI h
 have h := hg23; clear hg23
 refine wM 1 rfl (wNT (wcc h rfl ?_ ?_)) <;> clear h <;> intro h
 ·refine wSR (wM 1 rfl (lSt (Upd.there Upd.here) ?_))
  refine wM 1 rfl (wNT (wc_ret (wx_then_ret ?_)))
  obtain ⟨rfl, rfl, rfl, rfl, rfl⟩ := pJ5 h
  exact wE Tryz.results23 (Res.cell rfl (mT mH) rfl (rs1 rfl)) ⟨p0a0, p0n0, p0c0, p0B0, p0a1, p0n1, p0c1, p0B1, p0_4a0, p0_4n0, p0_4c0, p0_4B0, p0_5g0, p0_5P0, p0N0, p0V0, p0N1, p0V1, p0_4N0, p0_4V0, p0_5G0, p0_5A0, rfl, rfl⟩ pI
 refine wc_skip (wx_then (wc_seq (wc_k2 (Ls := (⟨b6, [.int .u8 zb.1, .int .u8 zb.2], 54, (0, 0)⟩ :: (⟨b4, [.int .u8 0, .int .u8 0], 54, (0, 0)⟩ :: (⟨p0b, (.int .u8 p0.player :: .int .i64 p0.window :: st19 p0.sure p0a0 p0n0 p0c0 [.slice p0a1 p0n1 p0c1, .pointer (some ⟨p0_4b, 0, none⟩), .pointer (some ⟨p0_5b, 0, none⟩)]), p0t, (0, 0)⟩ :: (p0B0 ++ (p0B1 ++ (⟨p0_4b, [.int .u64 p0_4.first_, .slice p0_4a0 p0_4n0 p0_4c0, .int .u8 p0_4.last], p0_4t, (0, 0)⟩ :: (p0_4B0 ++ (⟨p0_5b, ([.int .i64 p0_5.size] ++ flat cg_T_ring_place p0_5g0), p0_5t, (0, 0)⟩ :: (p0_5P0 ++ [])))))))))) [6, 7, 8, 9] [7, 8, 9] [0, 0, 2, 6, 14, 0, 62, 127, 255, 511] [0, 1, 2, 3, 4, 5, 6, 7, 8, 9] (by kernel_rfl) (by kernel_rfl) (by kernel_rfl) ?_)))
 refine kM pI 4 rfl (k_val (v := agS p0.sure p0a0 p0n0 p0c0) rfl rfl rfl pI (val_load tt_ok rfl (mTT mH) rfl) rfl ?_)
 refine k_val (v := .agg #[.int .u8 zb.1, .int .u8 zb.2]) rfl rfl rfl pI (val_load tt_ok rfl mH rfl) rfl ?_
 obtain ⟨v31, x31, h⟩ := bsome h
 refine k_cs rfl rfl rfl Tryz.call64 rfl rfl rfl (s_sp (k_step_Step (p0 := p0.sure) p0N0 (vec_cap p0V0) x31) pNil (fun w hI => ⟨(Rds.call (Rds.of_vec p0V0) pNil ⟨_, (sCC (sC hA'))⟩) w hI, (Rds.call G0S pNil rsub_nil) w hI, (Rds.call G1S pNil rsub_nil) w hI⟩)) rfl (.inr (by rintro _ _ ⟨_, ⟨_, _, _, _, _, _, rfl, rfl⟩, rfl⟩; exact ⟨_, pP⟩)) ?_
 rintro _ _ ⟨_, ⟨v31a0, v31n0, v31c0, v31B0, v31N0, v31V0, rfl, rfl⟩, rfl⟩
 refine k_chg rfl rfl rfl (Chg.of_val (sV rfl)) rfl (.inl rfl) ?_
 rintro _ _ ⟨rfl, rfl⟩
 refine k_chg rfl rfl rfl (Chg.of_val (v := .pointer (some ⟨p0b, 2, none⟩)) (sV rfl)) rfl (.inl rfl) ?_
 rintro _ _ ⟨rfl, rfl⟩
 refine k_chg0 rfl rfl rfl (chg_store tt_ok rfl (Upd.right (Upd.there (Upd.there Upd.here))) rfl rfl rfl rfl rfl rfl) (.inl rfl) ?_
 rintro _ _ rfl
 refine k_end (by kernel_rfl) ?_
 refine wx_then (wSR (wM 4 rfl (wLd rfl (mR (mTT mH)) rfl rfl ?_)))
 obtain ⟨v39, x39, h⟩ := bsome h
 refine wl_cut (enc := (e1 .u8)) tt_ok rfl rfl rfl p0N1 (vec_some p0V1) (e1_len _) (vec_cap p0V1) (.inr ⟨_, _, rfl, rfl⟩) (.inl ⟨rfl, by rw [p0N1]⟩) (.inl ⟨rfl, rfl⟩) (by intro h; first | rfl | cases h) (cut2 x39 p0N1 (vec_cap p0V1)) x39 rfl ?_
 intro a39 n39_ c39 N39 H39 I39 O39 Z39
 obtain ⟨v40, x40, h⟩ := bsome h
 refine wl_cs Tryz.call65 rfl rfl rfl (s_sp (k_slices_Clone___api_Input_api_Input (p0 := v39) N39 H39 x40) pNil (Rds.call (Rds.of_vec (O39 _ rfl p0V1)) pNil ⟨_, (sA (sCC (sCA hA')))⟩)) rfl ?_
 rintro _ _ ⟨_, ⟨v40a0, v40n0, v40c0, v40B0, v40N0, v40V0, rfl, rfl⟩, rfl⟩
 refine wM 2 rfl (lSt (Upd.right (Upd.right (Upd.there (Upd.there Upd.here)))) ?_)
 refine wNT (wc_seq (wc_k2 (Ls := (v40B0 ++ (v31B0 ++ (⟨b6, [.int .u8 zb.1, .int .u8 zb.2], 54, (0, 0)⟩ :: (⟨b4, [.int .u8 0, .int .u8 0], 54, (0, 0)⟩ :: (⟨p0b, (.int .u8 p0.player :: .int .i64 p0.window :: st19 v31 v31a0 v31n0 v31c0 [.slice v40a0 v40n0 v40c0, .pointer (some ⟨p0_4b, 0, none⟩), .pointer (some ⟨p0_5b, 0, none⟩)]), p0t, (0, 0)⟩ :: (p0B0 ++ (p0B1 ++ (⟨p0_4b, [.int .u64 p0_4.first_, .slice p0_4a0 p0_4n0 p0_4c0, .int .u8 p0_4.last], p0_4t, (0, 0)⟩ :: (p0_4B0 ++ (⟨p0_5b, ([.int .i64 p0_5.size] ++ flat cg_T_ring_place p0_5g0), p0_5t, (0, 0)⟩ :: (p0_5P0 ++ [])))))))))))) [9] [9] [0, 1, 3, 7, 0, 16, 48, 112, 240, 511] [0, 1, 2, 3, 4, 5, 6, 7, 8, 9] (by kernel_rfl) (by kernel_rfl) (by kernel_rfl) ?_))
 refine kM pI 3 rfl (k_val (v := .pointer (some ⟨p0_4b, 0, none⟩)) rfl rfl rfl pI (val_load tt_ok rfl (mR (mR (mTT mH))) rfl) rfl (kM pI 4 rfl (k_val (v := .int .u64 v31.Frame) rfl rfl rfl pI (val_load tt_ok rfl (mR (mR (mTT mH))) rfl) rfl ?_)))
 obtain ⟨za, x52, h⟩ := bsome h
 refine k_cs rfl rfl rfl Tryz.call66 rfl rfl rfl (s_sp (k_queue_Queue_Drop (p0 := p0_4) (p0t := p0_4t) p0_4N0 p0_4V0 x52) pP (fun _ _ => trivial)) rfl (.inl rfl) ?_
 rintro _ _ ⟨_, ⟨ze, zg, zf, zd, zh, zi, rfl, rfl⟩, rfl⟩
 refine k_end (by kernel_rfl) ?_
 refine wx_then (wc_seq (wc_k2 (Ls := (⟨p0_4b, [.int .u64 za.first_, .slice ze zg zf, .int .u8 za.last], p0_4t, (0, 0)⟩ :: (zd ++ (v40B0 ++ (v31B0 ++ (⟨b6, [.int .u8 zb.1, .int .u8 zb.2], 54, (0, 0)⟩ :: (⟨b4, [.int .u8 0, .int .u8 0], 54, (0, 0)⟩ :: (⟨p0b, (.int .u8 p0.player :: .int .i64 p0.window :: st19 v31 v31a0 v31n0 v31c0 [.slice v40a0 v40n0 v40c0, .pointer (some ⟨p0_4b, 0, none⟩), .pointer (some ⟨p0_5b, 0, none⟩)]), p0t, (0, 0)⟩ :: (p0B0 ++ (p0B1 ++ (⟨p0_5b, ([.int .i64 p0_5.size] ++ flat cg_T_ring_place p0_5g0), p0_5t, (0, 0)⟩ :: (p0_5P0 ++ [])))))))))))) [8] [8] [0, 1, 3, 7, 0, 16, 48, 112, 255] [0, 1, 2, 3, 4, 5, 6, 7, 8] (by kernel_rfl) (by kernel_rfl) (by kernel_rfl) ?_))
 refine kM pI 3 rfl (k_val (v := .pointer (some ⟨p0_5b, 0, none⟩)) rfl rfl rfl pI (val_load tt_ok rfl (mT (mR (mR (mR (mTT mH))))) rfl) rfl (kM pI 3 rfl ?_))
 refine k_val (v := agS v31 v31a0 v31n0 v31c0) rfl rfl rfl pI (val_load tt_ok rfl (mT (mR (mR (mR (mTT mH))))) rfl) rfl ?_
 replace h := bsome h; obtain ⟨⟨zc, v61⟩, x61, h⟩ := h; try dsimp only at h
 refine k_cs rfl rfl rfl Tryz.call59 rfl rfl rfl (s_sp (k_ring_Ring_Put (p0 := p0_5) (p1 := v31) (p0t := p0_5t) p0_5G0 p0_5A0 v31N0 (vec_cap v31V0) (own_Z v31V0) x61) pP (fun w hI => ⟨(Rds.call (Rds.of_vec v31V0) pP ⟨_, (sC (sAA hA'))⟩) w hI, (Rds.call G0S pP rsub_nil) w hI, (Rds.call G1S pP rsub_nil) w hI⟩)) rfl (.inl rfl) ?_
 rintro _ _ ⟨_, ⟨zm, zl, zk, zj, rfl, rfl⟩, rfl⟩
 refine k_end (by kernel_rfl) ?_
 refine wx_then (wSR (wLd (v := .agg #[.int .u8 zb.1, .int .u8 zb.2]) rfl (mT (mR (mT (mR (mR (mR mH)))))) rfl rfl (lSt (Upd.there (Upd.right (Upd.there (Upd.right (Upd.right (Upd.right (Upd.there Upd.here))))))) ?_)))
 refine wM 1 rfl (wNT (wc_ret ?_))
 obtain ⟨rfl, rfl, rfl, rfl, rfl⟩ := pJ5 h
 exact wE Tryz.results23 (Res.cell rfl (mT (mR (mT (mR (mR (mR (mT mH))))))) rfl (rs1 rfl)) ⟨v31a0, v31n0, v31c0, v31B0, v40a0, v40n0, v40c0, v40B0, ze, zg, zf, zd, zm, zl, v31N0, v31V0, v40N0, v40V0, zh, zi, zk, zj, rfl, rfl⟩ pI

theorem k_fold_History_is {p0 : T_fold_History} {r0 : Bool} (h : m_fold_History_is F p0 = some r0) :
    Rd2 Tryz.prog 67 [.pointer (some ⟨p0b, 0, none⟩)] (⟨p0b, ([.int .u64 p0.from_, .int .u64 p0.count, .int .u64 p0.most] ++ flat (e2 .u8) p0.ring.1), p0t, (0, 0)⟩ :: []) (fun w => True) (.bool r0) := by
 unfold m_fold_History_is at h
 refine sp_of_wc Tryz.func67 rfl Tryz.ntmps67 rfl rfl (fun w0 hR => ?_)
 refine wSR (wM 1 rfl (wNT (wSR (wM 6 rfl (wl_run rfl (wLd rfl mH rfl rfl (wM 3 rfl (wNT (wc_ret ?_)))))))))
 obtain rfl := sI h
 exact wx_rd tt_ok (.inl rfl) Tryz.results67 (rs1 rfl) pI rfl

theorem k_fold_History_Add {p0 : T_fold_History} {p1 : (Int × Int)} {r0 : T_fold_History} {r1 : Int} (h : m_fold_History_Add F p0 p1 = some (r0, r1)) :
    SpD Tryz.prog 24 [.pointer (some ⟨p0b, 0, none⟩), .agg #[.int .u8 p1.1, .int .u8 p1.2]] (⟨p0b, ([.int .u64 p0.from_, .int .u64 p0.count, .int .u64 p0.most] ++ flat (e2 .u8) p0.ring.1), p0t, (0, 0)⟩ :: []) (fun w => True) (fun v D => v = .int .i64 r1 ∧ D = fun F => (⟨p0b, ([.int .u64 r0.from_, .int .u64 r0.count, .int .u64 r0.most] ++ flat (e2 .u8) r0.ring.1), p0t, (0, 0)⟩ :: F)) := by
 unfold m_fold_History_Add at h
 refine sp_of_wc Tryz.func24 rfl Tryz.ntmps24 rfl rfl (fun w0 hR => ?_)
 refine wSR (wl_box rfl rfl rfl (fun b3 => (wM 1 rfl (wNT (wc_seq (wc_block (wSR (wM 1 rfl ?_))))))))
 obtain ⟨v7, x7, h⟩ := bsome h
 refine wl_cq Tryz.call67 rfl rfl rfl (q_rd (k_fold_History_is (p0t := p0t) x7) pP (fun _ _ => trivial)) rfl ?_
 refine wM 2 rfl (wNT (wcc h rfl ?_ ?_)) <;> clear h <;> intro h
 ·refine wSR (wM 1 rfl (wNT (wc_ret (wx_block_ret (wx_then_ret ?_)))))
  obtain ⟨rfl, rfl⟩ := pJ2 h
  exact wE Tryz.results24 (rs1 rfl) ⟨rfl, rfl⟩ pI
 refine wSR (wl_val (v := .pointer (some ⟨b3, 0, none⟩)) (val_ia (j := 0) tt_ok rfl rfl rfl rfl rfl rfl rfl) rfl (wLd rfl mH rfl rfl ?_))
 obtain ⟨v12, x12, h⟩ := bsome h
 refine wl_cq Tryz.call60 rfl rfl rfl (q_pf (k_input_Legal x12) (fun _ _ => trivial)) rfl ?_
 refine wM 2 rfl ?_
 obtain ⟨v19, h, hg19⟩ := bsome h
 refine wls 14 h rfl ?_ ?_ <;> clear h <;> intro h
 ·refine wM 4 rfl ?_
  obtain rfl := sI h
  have h := hg19; clear hg19
  refine wM 2 rfl (wNT ?_)
  replace h := ct rfl h
  refine wc_cond_true rfl ?_
  refine wSR (wM 1 rfl (wNT (wc_ret (wx_block_ret (wx_then_ret ?_)))))
  obtain ⟨rfl, rfl⟩ := pJ2 h
  exact wE Tryz.results24 (rs1 rfl) ⟨rfl, rfl⟩ pI
 refine wl_run rfl (wl_val (v := .pointer (some ⟨b3, 1, none⟩)) (val_ia (j := 1) tt_ok rfl rfl rfl rfl rfl rfl rfl) rfl (wl_run rfl (wLd rfl mH rfl rfl ?_)))
 obtain ⟨v17, x17, h⟩ := bsome h
 refine wl_run rfl (wl_cq Tryz.call60 rfl rfl rfl (q_pf (k_input_Legal x17) (fun _ _ => trivial)) rfl (wM 1 rfl ?_))
 obtain rfl := sI h
 have h := hg19; clear hg19
 refine wM 2 rfl (wNT (wcc h rfl ?_ ?_)) <;> clear h <;> intro h
 ·refine wSR (wM 1 rfl (wNT (wc_ret (wx_block_ret (wx_then_ret ?_)))))
  obtain ⟨rfl, rfl⟩ := pJ2 h
  exact wE Tryz.results24 (rs1 rfl) ⟨rfl, rfl⟩ pI
 refine wc_seq (wc_quiet (by kernel_rfl) (by kernel_rfl) (qM 3 rfl (qLd rfl (mT mH) rfl rfl (qM 3 rfl (qLd rfl (mT mH) rfl rfl (qM 4 rfl (qLd rfl (mT mH) rfl rfl (qM 2 rfl ?_))))))))
 obtain ⟨v41, h, hg41⟩ := bsome h
 refine wqs 35 h rfl ?_ ?_ <;> clear h <;> intro h
 ·refine qM 5 rfl ?_
  obtain rfl := sI h
  have h := hg41; clear hg41
  refine qM 2 rfl (wq_nil (wx_then ?_))
  replace h := ct rfl h
  refine wc_cond_true rfl ?_
  refine wSR (wM 1 rfl (wNT (wc_ret (wx_block_ret (wx_then_ret ?_)))))
  obtain ⟨rfl, rfl⟩ := pJ2 h
  exact wE Tryz.results24 (rs1 rfl) ⟨rfl, rfl⟩ pI
 refine qM 3 rfl (wq_run rfl (qLd rfl (mT mH) rfl rfl (qM 1 rfl ?_)))
 obtain rfl := sI h
 have h := hg41; clear hg41
 refine qM 2 rfl (wq_nil (wx_then (wcc h rfl ?_ ?_))) <;> clear h <;> intro h
 ·refine wSR (wM 1 rfl (wNT (wc_ret (wx_block_ret (wx_then_ret ?_)))))
  obtain ⟨rfl, rfl⟩ := pJ2 h
  exact wE Tryz.results24 (rs1 rfl) ⟨rfl, rfl⟩ pI
 refine wc_skip (wx_block (wx_then (wc_seq (wc_k2 (Ls := (⟨b3, [.int .u8 p1.1, .int .u8 p1.2], 54, (0, 0)⟩ :: (⟨p0b, ([.int .u64 p0.from_, .int .u64 p0.count, .int .u64 p0.most] ++ flat (e2 .u8) p0.ring.1), p0t, (0, 0)⟩ :: []))) [10] [10] [0, 0, 2, 6, 14, 30, 0, 1, 129, 511, 1023] [0, 1, 2, 3, 4, 5, 6, 7, 8, 9, 10] (by kernel_rfl) (by kernel_rfl) (by kernel_rfl) (kM pI 4 rfl (k_val (v := .int .u64 p0.count) rfl rfl rfl pI (val_load tt_ok rfl (mT mH) rfl) rfl (kM pI 1 rfl (k_val (v := .agg #[.int .u8 p1.1, .int .u8 p1.2]) rfl rfl rfl pI (val_load tt_ok rfl mH rfl) rfl ?_))))))))
 refine kM pI 2 rfl ?_
 obtain ⟨v51, x51, h⟩ := bsome h
 refine k_val (v := .pointer (some ⟨p0b, 3 + (Int.tmod p0.count 256).toNat * 2 + 0, none⟩)) rfl rfl rfl pI (val_xa (a := p0.ring) tt_ok rfl rfl rfl rfl x51) rfl (k_chg0 rfl rfl rfl (chg_stx (enc := (e2 .u8)) (pre := [.int .u64 p0.from_, .int .u64 p0.count, .int .u64 p0.most]) (post := []) (xs := p0.ring.1) (y' := p1) (c' := ([.int .u64 p0.from_, .int .u64 p0.count, .int .u64 p0.most] ++ flat (e2 .u8) ((Arr.set p0.ring (Int.tmod p0.count 256) p1).1))) tt_ok rfl rfl rfl rfl rfl rfl (Upd.there Upd.here) c_np c_np rfl (e2_len _) x51 rfl (by intro h; cases h)) (.inl rfl) ?_)
 rintro _ _ rfl
 refine k_end (by kernel_rfl) ?_
 refine wx_then (wSR (wM 3 rfl (wLd rfl (mT mH) rfl rfl (wM 3 rfl (wl_chg0 (chg_storep (pre := [.int .u64 p0.from_, .int .u64 p0.count, .int .u64 p0.most]) (pre' := [.int .u64 p0.from_, .int .u64 (IntKind.wrap .u64 (p0.count + (1 : Int))), .int .u64 p0.most]) tt_ok rfl (Upd.there Upd.here) rfl rfl rfl rfl rfl rfl (by intro h; cases h)) ?_)))))
 rintro _ _ rfl
 refine wNT (wSR (wM 1 rfl (wNT (wc_ret ?_))))
 obtain ⟨rfl, rfl⟩ := pJ2 h
 exact wE Tryz.results24 (rs1 rfl) ⟨rfl, rfl⟩ pI

theorem k_fold_History_At {p0 : T_fold_History} {p1 : Int} {r0 : (Int × Int)} {r1 : Bool} (h : m_fold_History_At F p0 p1 = some (r0, r1)) :
    Rd2 Tryz.prog 38 [.pointer (some ⟨p0b, 0, none⟩), .int .u64 p1] (⟨p0b, ([.int .u64 p0.from_, .int .u64 p0.count, .int .u64 p0.most] ++ flat (e2 .u8) p0.ring.1), p0t, (0, 0)⟩ :: []) (fun w => True) (.tuple #[.agg #[.int .u8 r0.1, .int .u8 r0.2], .bool r1]) := by
 unfold m_fold_History_At at h
 refine sp_of_wc Tryz.func38 rfl Tryz.ntmps38 rfl rfl (fun w0 hR => ?_)
 refine wSR (wl_alloc tt_ok rfl rfl (fun b4 => (wM 1 rfl (wNT (wc_seq (wSR (wM 1 rfl ?_)))))))
 obtain ⟨v7, x7, h⟩ := bsome h
 refine wl_cq Tryz.call67 rfl rfl rfl (q_rd (k_fold_History_is (p0t := p0t) x7) pP (fun _ _ => trivial)) rfl ?_
 refine wM 1 rfl ?_
 obtain ⟨v15, h, hg15⟩ := bsome h
 refine wls 8 h rfl ?_ ?_ <;> clear h <;> intro h
 ·refine wM 4 rfl (wl_run rfl (wLd rfl (mT mH) rfl rfl (wM 1 rfl ?_)))
  obtain rfl := sI h
  have h := hg15; clear hg15
  refine wM 2 rfl ?_
  obtain ⟨v23, h, hg23⟩ := bsome h
  refine wls 16 h rfl ?_ ?_ <;> clear h <;> intro h
  ·refine wM 4 rfl (wl_run rfl (wLd rfl (mT mH) rfl rfl (wM 1 rfl ?_)))
   obtain rfl := sI h
   have h := hg23; clear hg23
   refine wM 2 rfl (wNT (wSR (wM 1 rfl (wNT (wcc h rfl ?_ ?_))))) <;> clear h <;> intro h
   ·refine wc_region (wM 5 rfl ?_)
    obtain ⟨v30, x30, h⟩ := bsome h
    refine wl_val (v := .pointer (some ⟨p0b, 3 + (Int.tmod p1 256).toNat * 2 + 0, none⟩)) (val_xa (a := p0.ring) tt_ok rfl rfl rfl rfl x30) rfl ?_
    refine wl_val (v := .agg #[.int .u8 v30.1, .int .u8 v30.2]) (val_xl (enc := (e2 .u8)) (pre := [.int .u64 p0.from_, .int .u64 p0.count, .int .u64 p0.most]) (post := []) (xs := p0.ring.1) tt_ok rfl (mT mH) c_np rfl (e2_len _) x30 rfl) rfl ?_
    refine lSt Upd.here ?_
    refine wNT (wc_ret ?_)
    obtain ⟨rfl, rfl⟩ := pJ2 h
    exact wx_rd tt_ok (.inl rfl) Tryz.results38 (Res.cell rfl mH rfl (rs1 rfl)) pI rfl
   refine wc_skip (wx_then (wc_ret ?_))
   obtain ⟨rfl, rfl⟩ := pJ2 h
   exact wx_rd tt_ok (.inl rfl) Tryz.results38 (Res.cell rfl mH rfl (rs1 rfl)) pI rfl
  refine wM 6 rfl ?_
  obtain rfl := sI h
  have h := hg23; clear hg23
  refine wM 2 rfl (wNT (wSR (wM 1 rfl (wNT ?_))))
  replace h := cf rfl h
  refine wc_cond_false rfl ?_
  refine wc_skip (wx_then (wc_ret ?_))
  obtain ⟨rfl, rfl⟩ := pJ2 h
  exact wx_rd tt_ok (.inl rfl) Tryz.results38 (Res.cell rfl mH rfl (rs1 rfl)) pI rfl
 refine wM 6 rfl ?_
 obtain rfl := sI h
 have h := hg15; clear hg15
 refine wM 2 rfl ?_
 obtain ⟨v23, h, hg23⟩ := bsome h
 replace h := cf rfl h
 refine wM 6 rfl ?_
 obtain rfl := sI h
 have h := hg23; clear hg23
 refine wM 2 rfl (wNT (wSR (wM 1 rfl (wNT ?_))))
 replace h := cf rfl h
 refine wc_cond_false rfl ?_
 refine wc_skip (wx_then (wc_ret ?_))
 obtain ⟨rfl, rfl⟩ := pJ2 h
 exact wx_rd tt_ok (.inl rfl) Tryz.results38 (Res.cell rfl mH rfl (rs1 rfl)) pI rfl

theorem k_fold_History_Slice {p0 : T_fold_History} {p1 : Int} {p2 : Int} {r0 : (List (Int × Int))} (h : m_fold_History_Slice F p0 p1 p2 = some r0) :
    SpD Tryz.prog 34 [.pointer (some ⟨p0b, 0, none⟩), .int .u64 p1, .int .i64 p2] (⟨p0b, ([.int .u64 p0.from_, .int .u64 p0.count, .int .u64 p0.most] ++ flat (e2 .u8) p0.ring.1), p0t, (0, 0)⟩ :: []) (fun w => True) (fun v D => ∃ r0a0 r0n0 r0c0 r0B0, r0n0 = r0.length ∧ Own 54 2 r0a0 r0n0 r0c0 (flat (e2 .u8) r0) r0B0 ∧ v = .slice r0a0 r0n0 r0c0 ∧ D = fun F => (⟨p0b, ([.int .u64 p0.from_, .int .u64 p0.count, .int .u64 p0.most] ++ flat (e2 .u8) p0.ring.1), p0t, (0, 0)⟩ :: (r0B0 ++ F))) := by
 unfold m_fold_History_Slice at h
 refine sp_of_wc Tryz.func34 rfl Tryz.ntmps34 rfl rfl (fun w0 hR => ?_)
 refine wSR (wM 1 rfl (wNT (wc_seq (wSR (wM 2 rfl (wNT (wc_block ?_)))))))
 obtain ⟨zk, h, hl7⟩ := bsome h
 refine wc_loop (fun m E L => ∃ zc za zg ze zb zf zd, m_fold_History_Slice_L6 F p0 p2 m zc za zg = some zk ∧ zb = za.length ∧ Own 54 2 ze zb zf (flat (e2 .u8) za) zd ∧ E = [(0, .pointer (some ⟨p0b, 0, none⟩)), (1, .int .u64 zc), (6, .slice ze zb zf), (9, .int .i64 p2), (10, .int .i64 zg)] ∧ L = (⟨p0b, ([.int .u64 p0.from_, .int .u64 p0.count, .int .u64 p0.most] ++ flat (e2 .u8) p0.ring.1), p0t, (0, 0)⟩ :: (zd ++ []))) F ⟨p1, ([] : List (Int × Int)), (0 : Int), none, 0, 0, [], h, rfl, Own.zero, rfl, rfl⟩ (ag5 rfl rfl rfl rfl rfl) pI ?_
 clear h
 rintro m7 _ _ ⟨zc, za, zg, ze, zb, zf, zd, h, zi, zj, rfl, rfl⟩
 rcases m7 with _ | m7
 ·rw [m_fold_History_Slice_L6.eq_1] at h; cases h
 rw [m_fold_History_Slice_L6.eq_2] at h
 refine wSR (wM 1 rfl (wNT (wc_seq (wcc h rfl ?_ ?_)))) <;> clear h <;> intro h
 ·refine wc_skip (wx_then (wc_seq (wc_block (wSR (wM 2 rfl ?_)))))
  replace h := bsome h; obtain ⟨⟨zh, zl⟩, x15, h⟩ := h; try dsimp only at h
  refine wl_cq Tryz.call38 rfl rfl rfl (q_rd (k_fold_History_At (p0t := p0t) x15) pP (fun _ _ => trivial)) rfl ?_
  refine wM 3 rfl (wl_alloc tt_ok rfl rfl (fun b7 => (lSt Upd.here ?_)))
  refine wM 1 rfl (wNT (wc_seq (wSR (wM 2 rfl (wNT (wcc h rfl ?_ ?_)))))) <;> clear h <;> intro h
  ·refine wc_exit (wx_then_exit ?_)
   refine wx_block_other (by rfl) ?_
   refine wx_then_exit ?_
   obtain rfl := sI h
   have h := hl7; clear hl7; try dsimp only [orE_l, orE_r] at h
   refine wx_then_exit (wx_block_exit (wx_then (wc_ret ?_)))
   obtain rfl := sI h
   exact wE Tryz.results34 (rs1 rfl) ⟨ze, zb, zf, zd, zi, zj, rfl, rfl⟩ pI
  refine wc_skip (wx_then (wSR (wM 1 rfl (wLd (v := .agg #[.int .u8 zh.1, .int .u8 zh.2]) rfl mH rfl rfl (wl_chg (chg_bsv (enc := (e2 .u8)) (xs := ([zh] : List (Int × Int))) tt_ok rfl rfl rfl rfl rfl rfl rfl rfl (e2_len _)) rfl ?_)))))
  rintro _ _ ⟨a22, n22_, c22, B22, rfl, N22, V22, rfl⟩
  obtain ⟨v23, x23, h⟩ := bsome h
  refine wl_chg (chg_app (enc := (e2 .u8)) (ys := ([zh] : List (Int × Int))) tt_ok rfl rfl rfl rfl rfl rfl zi N22 zj (sA (sCC hA')) (Rds.of_vec V22) ⟨_, hA'⟩ (e2_len _) (fun _ => rfl) rfl x23) rfl ?_
  rintro _ _ ⟨a23, n23_, c23, B23, rfl, N23, V23, rfl⟩
  refine wM 1 rfl (wNT (wc_region (wM 3 rfl (wl_nil (wx_block (wx_then (wc_region (wM 2 rfl (wl_nil ?_)))))))))
  exact wx_round m7 (Nat.lt_succ_self m7) ⟨(IntKind.wrap .u64 (zc + (1 : Int))), v23, (IntKind.wrap .i64 (zg + (1 : Int))), a23, n23_, c23, B23, h, N23, V23, rfl, rfl⟩ (ag5 rfl rfl rfl rfl rfl) pI
 refine wc_exit (wx_then_exit ?_)
 obtain rfl := sI h
 have h := hl7; clear hl7; try dsimp only [orE_l, orE_r] at h
 refine wx_then_exit (wx_block_exit (wx_then (wc_ret ?_)))
 obtain rfl := sI h
 exact wE Tryz.results34 (rs1 rfl) ⟨ze, zb, zf, zd, zi, zj, rfl, rfl⟩ pI

theorem k_backfill_Plan {p0 : T_fold_History} {p1 : Int} {r0 : Int} {r1 : Int} (h : m_backfill_Plan F p0 p1 = some (r0, r1)) :
    Rd2 Tryz.prog 7 [.pointer (some ⟨p0b, 0, none⟩), .int .u64 p1] (⟨p0b, ([.int .u64 p0.from_, .int .u64 p0.count, .int .u64 p0.most] ++ flat (e2 .u8) p0.ring.1), p0t, (0, 0)⟩ :: []) (fun w => True) (.tuple #[.int .u64 r0, .int .i64 r1]) := by
 unfold m_backfill_Plan at h
 refine sp_of_wc Tryz.func7 rfl Tryz.ntmps7 rfl rfl (fun w0 hR => ?_)
 refine wSR (wM 2 rfl (wNT (wc_seq (wSR (wM 2 rfl ?_)))))
 obtain ⟨v8, x8, h⟩ := bsome h
 refine wl_cs Tryz.call34 rfl rfl rfl (s_sp (k_fold_History_Slice (p0t := p0t) x8) pP (fun _ _ => trivial)) rfl ?_
 rintro _ _ ⟨_, ⟨v8a0, v8n0, v8c0, v8B0, v8N0, v8V0, rfl, rfl⟩, rfl⟩
 refine wl_val (v := .int .i64 (v8.length : Int)) (val_len tt_ok rfl rfl v8N0) rfl ?_
 refine wM 1 rfl (wNT (wSR (wM 2 rfl (wNT (wcc h rfl ?_ ?_))))) <;> clear h <;> intro h
 ·refine wSR (wM 2 rfl (wNT (wc_ret (wx_then_ret ?_))))
  obtain ⟨rfl, rfl⟩ := pJ2 h
  exact wx_rd tt_ok (.inl rfl) Tryz.results7 (rs2 rfl rfl) pI rfl
 refine wc_skip (wx_then (wSR (wM 4 rfl (wNT (wc_ret ?_)))))
 obtain ⟨rfl, rfl⟩ := pJ2 h
 exact wx_rd tt_ok (.inl rfl) Tryz.results7 (rs2 rfl rfl) pI rfl

theorem k_rollback_Engine_C {p0 : T_rollback_Engine} {p0_4 : T_queue_Queue} {p0_5 : T_ring_Ring} {p0_5g0 : List (T_ring_place × G)} {r0 : Int} (p0N0 : p0n0 = p0.sure.Shots.length) (p0V0 : Own 119 6 p0a0 p0n0 p0c0 (flat c_T_api_Shot p0.sure.Shots) p0B0) (p0N1 : p0n1 = p0.own.length) (p0V1 : Own 52 1 p0a1 p0n1 p0c1 (flat (e1 .u8) p0.own) p0B1) (p0_4N0 : p0_4n0 = p0_4.l.length) (p0_4V0 : Own 52 1 p0_4a0 p0_4n0 p0_4c0 (flat (e1 .u8) p0_4.l) p0_4B0) (p0_5G0 : p0_5.places.1 = unG p0_5g0) (p0_5A0 : AllP sh_T_ring_place c_T_api_Shot p0_5P0 p0_5g0) (h : m_rollback_Engine_C F p0 p0_4 p0_5 = some r0) :
    Rd2 Tryz.prog 39 [.pointer (some ⟨p0b, 0, none⟩)] (⟨p0b, (.int .u8 p0.player :: .int .i64 p0.window :: st19 p0.sure p0a0 p0n0 p0c0 [.slice p0a1 p0n1 p0c1, .pointer (some ⟨p0_4b, 0, none⟩), .pointer (some ⟨p0_5b, 0, none⟩)]), p0t, (0, 0)⟩ :: (p0B0 ++ (p0B1 ++ (⟨p0_4b, [.int .u64 p0_4.first_, .slice p0_4a0 p0_4n0 p0_4c0, .int .u8 p0_4.last], p0_4t, (0, 0)⟩ :: (p0_4B0 ++ (⟨p0_5b, ([.int .i64 p0_5.size] ++ flat cg_T_ring_place p0_5g0), p0_5t, (0, 0)⟩ :: (p0_5P0 ++ []))))))) (fun w => True) (.int .u64 r0) := by
 unfold m_rollback_Engine_C at h
 refine sp_of_wc Tryz.func39 rfl Tryz.ntmps39 rfl rfl (fun w0 hR => ?_)
 refine wSR (wM 1 rfl (wNT (wc_seq (wSR (wM 1 rfl ?_)))))
 obtain ⟨v4, x4, h⟩ := bsome h
 refine wl_cq Tryz.call53 rfl rfl rfl (q_rd (k_rollback_Engine_is (p0 := p0) (p0_4 := p0_4) (p0_5 := p0_5) (p0t := p0t) (p0_4b := p0_4b) (p0_4t := p0_4t) (p0_5b := p0_5b) (p0_5t := p0_5t) p0N0 p0V0 p0N1 p0V1 p0_4N0 p0_4V0 p0_5G0 p0_5A0 x4) pP (fun _ _ => trivial)) rfl ?_
 refine wM 1 rfl (wNT (wcc h rfl ?_ ?_)) <;> clear h <;> intro h
 ·refine wSR (wM 1 rfl (wNT (wc_ret (wx_then_ret ?_))))
  obtain rfl := sI h
  exact wx_rd tt_ok (.inl rfl) Tryz.results39 (rs1 rfl) pI rfl
 refine wc_skip (wx_then (wSR (wM 4 rfl (wLd rfl mH rfl rfl (wM 1 rfl (wNT (wc_ret ?_)))))))
 obtain rfl := sI h
 exact wx_rd tt_ok (.inl rfl) Tryz.results39 (rs1 rfl) pI rfl

theorem k_rollback_Engine_Own {p0 : T_rollback_Engine} {p0_4 : T_queue_Queue} {p0_5 : T_ring_Ring} {p0_5g0 : List (T_ring_place × G)} {r0 : (List Int)} (p0N0 : p0n0 = p0.sure.Shots.length) (p0V0 : Own 119 6 p0a0 p0n0 p0c0 (flat c_T_api_Shot p0.sure.Shots) p0B0) (p0N1 : p0n1 = p0.own.length) (p0V1 : Own 52 1 p0a1 p0n1 p0c1 (flat (e1 .u8) p0.own) p0B1) (p0_4N0 : p0_4n0 = p0_4.l.length) (p0_4V0 : Own 52 1 p0_4a0 p0_4n0 p0_4c0 (flat (e1 .u8) p0_4.l) p0_4B0) (p0_5G0 : p0_5.places.1 = unG p0_5g0) (p0_5A0 : AllP sh_T_ring_place c_T_api_Shot p0_5P0 p0_5g0) (h : m_rollback_Engine_Own F p0 p0_4 p0_5 = some r0) :
    SpD Tryz.prog 41 [.pointer (some ⟨p0b, 0, none⟩)] (⟨p0b, (.int .u8 p0.player :: .int .i64 p0.window :: st19 p0.sure p0a0 p0n0 p0c0 [.slice p0a1 p0n1 p0c1, .pointer (some ⟨p0_4b, 0, none⟩), .pointer (some ⟨p0_5b, 0, none⟩)]), p0t, (0, 0)⟩ :: (p0B0 ++ (p0B1 ++ (⟨p0_4b, [.int .u64 p0_4.first_, .slice p0_4a0 p0_4n0 p0_4c0, .int .u8 p0_4.last], p0_4t, (0, 0)⟩ :: (p0_4B0 ++ (⟨p0_5b, ([.int .i64 p0_5.size] ++ flat cg_T_ring_place p0_5g0), p0_5t, (0, 0)⟩ :: (p0_5P0 ++ []))))))) (fun w => True) (fun v D => ∃ r0a0 r0n0 r0c0 r0B0, r0n0 = r0.length ∧ Own 52 1 r0a0 r0n0 r0c0 (flat (e1 .u8) r0) r0B0 ∧ v = .slice r0a0 r0n0 r0c0 ∧ D = fun F => (⟨p0b, (.int .u8 p0.player :: .int .i64 p0.window :: st19 p0.sure p0a0 p0n0 p0c0 [.slice p0a1 p0n1 p0c1, .pointer (some ⟨p0_4b, 0, none⟩), .pointer (some ⟨p0_5b, 0, none⟩)]), p0t, (0, 0)⟩ :: (p0B0 ++ (p0B1 ++ (⟨p0_4b, [.int .u64 p0_4.first_, .slice p0_4a0 p0_4n0 p0_4c0, .int .u8 p0_4.last], p0_4t, (0, 0)⟩ :: (p0_4B0 ++ (⟨p0_5b, ([.int .i64 p0_5.size] ++ flat cg_T_ring_place p0_5g0), p0_5t, (0, 0)⟩ :: (p0_5P0 ++ (r0B0 ++ F))))))))) := by
 unfold m_rollback_Engine_Own at h
 refine sp_of_wc Tryz.func41 rfl Tryz.ntmps41 rfl rfl (fun w0 hR => ?_)
 refine wSR (wM 1 rfl (wNT (wc_seq (wSR (wM 1 rfl ?_)))))
 obtain ⟨v4, x4, h⟩ := bsome h
 refine wl_cq Tryz.call53 rfl rfl rfl (q_rd (k_rollback_Engine_is (p0 := p0) (p0_4 := p0_4) (p0_5 := p0_5) (p0t := p0t) (p0_4b := p0_4b) (p0_4t := p0_4t) (p0_5b := p0_5b) (p0_5t := p0_5t) p0N0 p0V0 p0N1 p0V1 p0_4N0 p0_4V0 p0_5G0 p0_5A0 x4) pP (fun _ _ => trivial)) rfl ?_
 refine wM 1 rfl (wNT (wcc h rfl ?_ ?_)) <;> clear h <;> intro h
 ·refine wSR (wM 1 rfl (wNT (wc_ret (wx_then_ret ?_))))
  obtain rfl := sI h
  exact wE Tryz.results41 (rs1 rfl) ⟨none, 0, 0, [], rfl, Own.zero, rfl, rfl⟩ pI
 refine wc_skip (wx_then (wSR (wM 3 rfl (wLd rfl mH rfl rfl ?_))))
 obtain ⟨v10, x10, h⟩ := bsome h
 refine wl_cs Tryz.call65 rfl rfl rfl (s_sp (k_slices_Clone___api_Input_api_Input (p0 := p0.own) p0N1 (vec_cap p0V1) x10) pNil (Rds.call (Rds.of_vec p0V1) pNil ⟨_, (sCA hA')⟩)) rfl ?_
 rintro _ _ ⟨_, ⟨v10a0, v10n0, v10c0, v10B0, v10N0, v10V0, rfl, rfl⟩, rfl⟩
 refine wM 1 rfl (wNT (wc_ret ?_))
 obtain rfl := sI h
 exact wE Tryz.results41 (rs1 rfl) ⟨v10a0, v10n0, v10c0, v10B0, v10N0, v10V0, rfl, rfl⟩ pI

theorem k_rollback_Engine_T {p0 : T_rollback_Engine} {p0_4 : T_queue_Queue} {p0_5 : T_ring_Ring} {p0_5g0 : List (T_ring_place × G)} {r0 : Int} (p0N0 : p0n0 = p0.sure.Shots.length) (p0V0 : Own 119 6 p0a0 p0n0 p0c0 (flat c_T_api_Shot p0.sure.Shots) p0B0) (p0N1 : p0n1 = p0.own.length) (p0V1 : Own 52 1 p0a1 p0n1 p0c1 (flat (e1 .u8) p0.own) p0B1) (p0_4N0 : p0_4n0 = p0_4.l.length) (p0_4V0 : Own 52 1 p0_4a0 p0_4n0 p0_4c0 (flat (e1 .u8) p0_4.l) p0_4B0) (p0_5G0 : p0_5.places.1 = unG p0_5g0) (p0_5A0 : AllP sh_T_ring_place c_T_api_Shot p0_5P0 p0_5g0) (h : m_rollback_Engine_T F p0 p0_4 p0_5 = some r0) :
    Rd2 Tryz.prog 40 [.pointer (some ⟨p0b, 0, none⟩)] (⟨p0b, (.int .u8 p0.player :: .int .i64 p0.window :: st19 p0.sure p0a0 p0n0 p0c0 [.slice p0a1 p0n1 p0c1, .pointer (some ⟨p0_4b, 0, none⟩), .pointer (some ⟨p0_5b, 0, none⟩)]), p0t, (0, 0)⟩ :: (p0B0 ++ (p0B1 ++ (⟨p0_4b, [.int .u64 p0_4.first_, .slice p0_4a0 p0_4n0 p0_4c0, .int .u8 p0_4.last], p0_4t, (0, 0)⟩ :: (p0_4B0 ++ (⟨p0_5b, ([.int .i64 p0_5.size] ++ flat cg_T_ring_place p0_5g0), p0_5t, (0, 0)⟩ :: (p0_5P0 ++ []))))))) (fun w => True) (.int .u64 r0) := by
 unfold m_rollback_Engine_T at h
 refine sp_of_wc Tryz.func40 rfl Tryz.ntmps40 rfl rfl (fun w0 hR => ?_)
 refine wSR (wM 1 rfl (wNT (wSR (wM 1 rfl ?_))))
 obtain ⟨v4, x4, h⟩ := bsome h
 refine wl_cq Tryz.call39 rfl rfl rfl (q_rd (k_rollback_Engine_C (p0 := p0) (p0_4 := p0_4) (p0_5 := p0_5) (p0t := p0t) (p0_4b := p0_4b) (p0_4t := p0_4t) (p0_5b := p0_5b) (p0_5t := p0_5t) p0N0 p0V0 p0N1 p0V1 p0_4N0 p0_4V0 p0_5G0 p0_5A0 x4) pP (fun _ _ => trivial)) rfl ?_
 refine wM 1 rfl ?_
 obtain ⟨v6, x6, h⟩ := bsome h
 refine wl_cs Tryz.call41 rfl rfl rfl (s_sp (k_rollback_Engine_Own (p0 := p0) (p0_4 := p0_4) (p0_5 := p0_5) (p0t := p0t) (p0_4b := p0_4b) (p0_4t := p0_4t) (p0_5b := p0_5b) (p0_5t := p0_5t) p0N0 p0V0 p0N1 p0V1 p0_4N0 p0_4V0 p0_5G0 p0_5A0 x6) pP (fun _ _ => trivial)) rfl ?_
 rintro _ _ ⟨_, ⟨v6a0, v6n0, v6c0, v6B0, v6N0, v6V0, rfl, rfl⟩, rfl⟩
 refine wl_val (v := .int .i64 (v6.length : Int)) (val_len tt_ok rfl rfl v6N0) rfl ?_
 refine wM 3 rfl (wNT (wc_ret ?_))
 obtain rfl := sI h
 exact wx_rd tt_ok (.inl rfl) Tryz.results40 (rs1 rfl) pI rfl

theorem k_backfill_Pairs_1 {p0 : Int} {p1 : (Int × Int)} {p2 : Unit} {p2_o : T_fold_History} {p3 : Unit} {p3_o : T_rollback_Engine} {p3_o_4 : T_queue_Queue} {p3_o_5 : T_ring_Ring} {p3_o_5g0 : List (T_ring_place × G)} {p4 : Int} {r0 : T_queue_Queue} {r1 : T_ring_Ring} {r2 : Int} (p3_oN0 : p3_on0 = p3_o.sure.Shots.length) (p3_oV0 : Own 119 6 p3_oa0 p3_on0 p3_oc0 (flat c_T_api_Shot p3_o.sure.Shots) p3_oB0) (p3_oN1 : p3_on1 = p3_o.own.length) (p3_oV1 : Own 52 1 p3_oa1 p3_on1 p3_oc1 (flat (e1 .u8) p3_o.own) p3_oB1) (p3_o_4N0 : p3_o_4n0 = p3_o_4.l.length) (p3_o_4V0 : Own 52 1 p3_o_4a0 p3_o_4n0 p3_o_4c0 (flat (e1 .u8) p3_o_4.l) p3_o_4B0) (p3_o_5G0 : p3_o_5.places.1 = unG p3_o_5g0) (p3_o_5A0 : AllP sh_T_ring_place c_T_api_Shot p3_o_5P0 p3_o_5g0) (h : m_backfill_Pairs_1 F p0 p1 p2 p2_o p3 p3_o p3_o_4 p3_o_5 p4 = some (r0, r1, r2)) :
    SpD Tryz.prog 37 [.int .u64 p0, .agg #[.int .u8 p1.1, .int .u8 p1.2], .pointer (some ⟨p2b, 0, none⟩), .pointer (some ⟨p3b, 0, none⟩), .pointer (some ⟨p4b, 0, none⟩)] (⟨p2b, [.pointer (some ⟨p2_ob, 0, none⟩)], p2t, (0, 0)⟩ :: (⟨p2_ob, ([.int .u64 p2_o.from_, .int .u64 p2_o.count, .int .u64 p2_o.most] ++ flat (e2 .u8) p2_o.ring.1), p2_ot, (0, 0)⟩ :: (⟨p3b, [.pointer (some ⟨p3_ob, 0, none⟩)], p3t, (0, 0)⟩ :: (⟨p3_ob, (.int .u8 p3_o.player :: .int .i64 p3_o.window :: st19 p3_o.sure p3_oa0 p3_on0 p3_oc0 [.slice p3_oa1 p3_on1 p3_oc1, .pointer (some ⟨p3_o_4b, 0, none⟩), .pointer (some ⟨p3_o_5b, 0, none⟩)]), p3_ot, (0, 0)⟩ :: (p3_oB0 ++ (p3_oB1 ++ (⟨p3_o_4b, [.int .u64 p3_o_4.first_, .slice p3_o_4a0 p3_o_4n0 p3_o_4c0, .int .u8 p3_o_4.last], p3_o_4t, (0, 0)⟩ :: (p3_o_4B0 ++ (⟨p3_o_5b, ([.int .i64 p3_o_5.size] ++ flat cg_T_ring_place p3_o_5g0), p3_o_5t, (0, 0)⟩ :: (p3_o_5P0 ++ (⟨p4b, [.int .u8 p4], p4t, (0, 0)⟩ :: []))))))))))) (fun w => True) (fun v D => ∃ r0a0 r0n0 r0c0 r0B0 r1g0 r1P0, r0n0 = r0.l.length ∧ Own 52 1 r0a0 r0n0 r0c0 (flat (e1 .u8) r0.l) r0B0 ∧ r1.places.1 = unG r1g0 ∧ AllP sh_T_ring_place c_T_api_Shot r1P0 r1g0 ∧ v = .int .i64 r2 ∧ D = fun F => (⟨p2b, [.pointer (some ⟨p2_ob, 0, none⟩)], p2t, (0, 0)⟩ :: (⟨p2_ob, ([.int .u64 p2_o.from_, .int .u64 p2_o.count, .int .u64 p2_o.most] ++ flat (e2 .u8) p2_o.ring.1), p2_ot, (0, 0)⟩ :: (⟨p3b, [.pointer (some ⟨p3_ob, 0, none⟩)], p3t, (0, 0)⟩ :: (⟨p3_ob, (.int .u8 p3_o.player :: .int .i64 p3_o.window :: st19 p3_o.sure p3_oa0 p3_on0 p3_oc0 [.slice p3_oa1 p3_on1 p3_oc1, .pointer (some ⟨p3_o_4b, 0, none⟩), .pointer (some ⟨p3_o_5b, 0, none⟩)]), p3_ot, (0, 0)⟩ :: (p3_oB0 ++ (p3_oB1 ++ (⟨p3_o_4b, [.int .u64 r0.first_, .slice r0a0 r0n0 r0c0, .int .u8 r0.last], p3_o_4t, (0, 0)⟩ :: (r0B0 ++ (⟨p3_o_5b, ([.int .i64 r1.size] ++ flat cg_T_ring_place r1g0), p3_o_5t, (0, 0)⟩ :: (r1P0 ++ (⟨p4b, [.int .u8 p4], p4t, (0, 0)⟩ :: F)))))))))))) := by
 unfold m_backfill_Pairs_1 at h
 refine sp_of_wc Tryz.func37 rfl Tryz.ntmps37 rfl rfl (fun w0 hR => ?_)
 refine wSR (wl_box rfl rfl rfl (fun b6 => (wM 1 rfl (wNT (wc_seq (wSR (wLd rfl (mT mH) rfl rfl (wM 1 rfl ?_))))))))
 replace h := bsome h; obtain ⟨⟨zm, zn⟩, x13, h⟩ := h; try dsimp only at h
 refine wl_cq Tryz.call38 rfl rfl rfl (q_rd (k_fold_History_At (p0t := p2_ot) x13) pP (fun _ _ => trivial)) rfl ?_
 refine wM 3 rfl (wl_alloc tt_ok rfl rfl (fun b8 => (lSt Upd.here ?_)))
 refine wM 1 rfl (wNT (wc_block (wSR (wM 1 rfl (wLd rfl (mTT (mTT mH)) rfl rfl ?_)))))
 obtain ⟨v19, x19, h⟩ := bsome h
 refine wl_cq Tryz.call39 rfl rfl rfl (q_rd (k_rollback_Engine_C (p0 := p3_o) (p0_4 := p3_o_4) (p0_5 := p3_o_5) (p0t := p3_ot) (p0_4b := p3_o_4b) (p0_4t := p3_o_4t) (p0_5b := p3_o_5b) (p0_5t := p3_o_5t) p3_oN0 p3_oV0 p3_oN1 p3_oV1 p3_o_4N0 p3_o_4V0 p3_o_5G0 p3_o_5A0 x19) pP (fun _ _ => trivial)) rfl ?_
 refine wM 2 rfl (wNT (wcc h rfl ?_ ?_)) <;> clear h <;> intro h
 ·refine wc_seq (wSR (wM 2 rfl ?_))
  obtain ⟨v26, h, hg26⟩ := bsome h
  refine wls 22 h rfl ?_ ?_ <;> clear h <;> intro h
  ·refine wl_run rfl (wLd (v := .agg #[.int .u8 zm.1, .int .u8 zm.2]) rfl mH rfl rfl (wl_run rfl (wLd (v := .agg #[.int .u8 p1.1, .int .u8 p1.2]) rfl (mT mH) rfl rfl (wl_run rfl (wl_val (v := .bool (!((zm.1 == p1.1) && (zm.2 == p1.2)))) (val_nes tt_ok tt_eq tt_one Tryz.eqGuardType54 rfl rfl rfl rfl rfl) rfl ?_)))))
   obtain rfl := sI h
   have h := hg26; clear hg26
   refine wM 1 rfl (wNT (wcc h rfl ?_ ?_)) <;> clear h <;> intro h
   ·refine wSR (wM 1 rfl (wNT (wc_ret (wx_then_ret (wx_block_ret (wx_then_ret ?_))))))
    obtain ⟨rfl, rfl, rfl⟩ := pJ3 h
    exact wE Tryz.results37 (rs1 rfl) ⟨p3_o_4a0, p3_o_4n0, p3_o_4c0, p3_o_4B0, p3_o_5g0, p3_o_5P0, p3_o_4N0, p3_o_4V0, p3_o_5G0, p3_o_5A0, rfl, rfl⟩ pI
   refine wc_skip (wx_then (wSR (wM 1 rfl (wNT (wc_ret (wx_block_ret (wx_then_ret ?_)))))))
   obtain ⟨rfl, rfl, rfl⟩ := pJ3 h
   exact wE Tryz.results37 (rs1 rfl) ⟨p3_o_4a0, p3_o_4n0, p3_o_4c0, p3_o_4B0, p3_o_5g0, p3_o_5P0, p3_o_4N0, p3_o_4V0, p3_o_5G0, p3_o_5A0, rfl, rfl⟩ pI
  refine wM 3 rfl ?_
  obtain rfl := sI h
  have h := hg26; clear hg26
  refine wM 1 rfl (wNT ?_)
  replace h := cf rfl h
  refine wc_cond_false rfl ?_
  refine wc_skip (wx_then (wSR (wM 1 rfl (wNT (wc_ret (wx_block_ret (wx_then_ret ?_)))))))
  obtain ⟨rfl, rfl, rfl⟩ := pJ3 h
  exact wE Tryz.results37 (rs1 rfl) ⟨p3_o_4a0, p3_o_4n0, p3_o_4c0, p3_o_4B0, p3_o_5g0, p3_o_5P0, p3_o_4N0, p3_o_4V0, p3_o_5G0, p3_o_5A0, rfl, rfl⟩ pI
 refine wSR (wM 1 rfl (wLd rfl (mTT (mTT mH)) rfl rfl ?_))
 obtain ⟨v30, x30, h⟩ := bsome h
 refine wl_cq Tryz.call40 rfl rfl rfl (q_rd (k_rollback_Engine_T (p0 := p3_o) (p0_4 := p3_o_4) (p0_5 := p3_o_5) (p0t := p3_ot) (p0_4b := p3_o_4b) (p0_4t := p3_o_4t) (p0_5b := p3_o_5b) (p0_5t := p3_o_5t) p3_oN0 p3_oV0 p3_oN1 p3_oV1 p3_o_4N0 p3_o_4V0 p3_o_5G0 p3_o_5A0 x30) pP (fun _ _ => trivial)) rfl ?_
 refine wM 2 rfl (wNT (wcc h rfl ?_ ?_)) <;> clear h <;> intro h
 ·refine wSR (wM 1 rfl (wNT (wc_ret (wx_block_ret (wx_then_ret ?_)))))
  obtain ⟨rfl, rfl, rfl⟩ := pJ3 h
  exact wE Tryz.results37 (rs1 rfl) ⟨p3_o_4a0, p3_o_4n0, p3_o_4c0, p3_o_4B0, p3_o_5g0, p3_o_5P0, p3_o_4N0, p3_o_4V0, p3_o_5G0, p3_o_5A0, rfl, rfl⟩ pI
 refine wc_seq (wc_k2 (Ls := (⟨b8, [.int .u8 zm.1, .int .u8 zm.2], 54, (0, 0)⟩ :: (⟨b6, [.int .u8 p1.1, .int .u8 p1.2], 54, (0, 0)⟩ :: (⟨p2b, [.pointer (some ⟨p2_ob, 0, none⟩)], p2t, (0, 0)⟩ :: (⟨p2_ob, ([.int .u64 p2_o.from_, .int .u64 p2_o.count, .int .u64 p2_o.most] ++ flat (e2 .u8) p2_o.ring.1), p2_ot, (0, 0)⟩ :: (⟨p3b, [.pointer (some ⟨p3_ob, 0, none⟩)], p3t, (0, 0)⟩ :: (⟨p3_ob, (.int .u8 p3_o.player :: .int .i64 p3_o.window :: st19 p3_o.sure p3_oa0 p3_on0 p3_oc0 [.slice p3_oa1 p3_on1 p3_oc1, .pointer (some ⟨p3_o_4b, 0, none⟩), .pointer (some ⟨p3_o_5b, 0, none⟩)]), p3_ot, (0, 0)⟩ :: (p3_oB0 ++ (p3_oB1 ++ (⟨p3_o_4b, [.int .u64 p3_o_4.first_, .slice p3_o_4a0 p3_o_4n0 p3_o_4c0, .int .u8 p3_o_4.last], p3_o_4t, (0, 0)⟩ :: (p3_o_4B0 ++ (⟨p3_o_5b, ([.int .i64 p3_o_5.size] ++ flat cg_T_ring_place p3_o_5g0), p3_o_5t, (0, 0)⟩ :: (p3_o_5P0 ++ (⟨p4b, [.int .u8 p4], p4t, (0, 0)⟩ :: [])))))))))))))) [1, 4, 5, 6, 7, 11, 12] [11, 12] [0, 1, 0, 0, 11, 31, 63, 127, 0, 256, 768, 2047, 4095] [0, 2, 3, 8, 9, 10, 1, 4, 5, 6, 7, 11, 12] (by kernel_rfl) (by kernel_rfl) (by kernel_rfl) ?_)
 refine k_val (v := .pointer (some ⟨p3_ob, 0, none⟩)) rfl rfl rfl pI (val_load tt_ok rfl (mTT (mTT mH)) rfl) rfl (kM pI 1 rfl (k_val (v := .pointer (some ⟨p3_ob, 0, none⟩)) rfl rfl rfl pI (val_load tt_ok rfl (mTT (mTT mH)) rfl) rfl ?_))
 refine k_val (v := .int .u8 p4) rfl rfl rfl pI (val_load tt_ok rfl (mTT (mTT (mTT (mR (mR (mT (mR (mT (mR mH))))))))) rfl) rfl ?_
 rcases Bool.eq_false_or_eq_true (p4 == (0 : Int)) with hx420 | hx420
 ·replace h := ct hx420 h
  refine k_val (v := .pointer (some ⟨b6, 0, none⟩)) rfl rfl rfl pI (val_ia (j := 0) tt_ok rfl rfl rfl rfl (by simpa using hx420) rfl rfl) rfl (k_val (v := .int .u8 p1.1) rfl rfl rfl pI (val_load tt_ok rfl (mT mH) rfl) rfl ?_)
  obtain ⟨v34, x34, h⟩ := bsome h
  refine k_cs rfl rfl rfl Tryz.call41 rfl rfl rfl (s_sp (k_rollback_Engine_Own (p0 := p3_o) (p0_4 := p3_o_4) (p0_5 := p3_o_5) (p0t := p3_ot) (p0_4b := p3_o_4b) (p0_4t := p3_o_4t) (p0_5b := p3_o_5b) (p0_5t := p3_o_5t) p3_oN0 p3_oV0 p3_oN1 p3_oV1 p3_o_4N0 p3_o_4V0 p3_o_5G0 p3_o_5A0 x34) pP (fun _ _ => trivial)) rfl (.inr (by rintro _ _ ⟨_, ⟨_, _, _, _, _, _, rfl, rfl⟩, rfl⟩; exact ⟨_, pP⟩)) ?_
  rintro _ _ ⟨_, ⟨v34a0, v34n0, v34c0, v34B0, v34N0, v34V0, rfl, rfl⟩, rfl⟩
  obtain ⟨v37, x37, h⟩ := bsome h
  refine k_cq rfl rfl rfl Tryz.call39 rfl rfl rfl (q_rd (k_rollback_Engine_C (p0 := p3_o) (p0_4 := p3_o_4) (p0_5 := p3_o_5) (p0t := p3_ot) (p0_4b := p3_o_4b) (p0_4t := p3_o_4t) (p0_5b := p3_o_5b) (p0_5t := p3_o_5t) p3_oN0 p3_oV0 p3_oN1 p3_oV1 p3_o_4N0 p3_o_4V0 p3_o_5G0 p3_o_5A0 x37) pP (fun _ _ => trivial)) rfl pI ?_
  refine k_chg rfl rfl rfl (Chg.of_val (v := .int .u64 (IntKind.wrap .u64 (p0 - v37))) (sV rfl)) rfl (.inr (by rintro _ _ ⟨rfl, rfl⟩; exact pI)) ?_
  rintro _ _ ⟨rfl, rfl⟩
  obtain ⟨v39, x39, h⟩ := bsome h
  refine k_chg rfl rfl rfl (Chg.of_val (v := .pointer (some ((adOf v34a0).add ((IntKind.wrap .u64 (p0 - v37)).toNat * 1 + 0)))) (val_ix (enc := (e1 .u8)) tt_ok rfl rfl rfl rfl v34N0 (Rds.of_vec v34V0) (e1_len _) rfl x39)) rfl (.inr (by rintro _ _ ⟨rfl, rfl⟩; exact pI)) ?_
  rintro _ _ ⟨rfl, rfl⟩
  refine k_chg rfl rfl rfl (Chg.of_val (v := .int .u8 v39) (val_le (enc := (e1 .u8)) (xs := v34) tt_ok rfl (Rds.of_vec v34V0) ⟨_, (sC (sAA (sCA (sCA hA'))))⟩ (e1_len _) x39 rfl)) rfl (.inr (by rintro _ _ ⟨rfl, rfl⟩; exact pI)) ?_
  rintro _ _ ⟨rfl, rfl⟩
  refine k_chg rfl rfl rfl (Chg.of_val (v := .bool (v39 != p1.1)) (sV rfl)) rfl (.inl rfl) ?_
  rintro _ _ ⟨rfl, rfl⟩
  refine k_chg rfl rfl rfl (Chg.of_val (sV rfl)) rfl (.inl rfl) ?_
  rintro _ _ ⟨rfl, rfl⟩
  refine k_end (by kernel_rfl) ?_
  refine wx_then (wcc h rfl ?_ ?_) <;> clear h <;> intro h
  ·refine wSR (wM 1 rfl (wNT (wc_ret (wx_block_ret (wx_then_ret ?_)))))
   obtain ⟨rfl, rfl, rfl⟩ := pJ3 h
   exact wE Tryz.results37 (rs1 rfl) ⟨p3_o_4a0, p3_o_4n0, p3_o_4c0, p3_o_4B0, p3_o_5g0, p3_o_5P0, p3_o_4N0, p3_o_4V0, p3_o_5G0, p3_o_5A0, rfl, rfl⟩ pI
  refine wc_skip (wx_block (wx_then (wc_seq (wc_k2 (Ls := (⟨p3_ob, (.int .u8 p3_o.player :: .int .i64 p3_o.window :: st19 p3_o.sure p3_oa0 p3_on0 p3_oc0 [.slice p3_oa1 p3_on1 p3_oc1, .pointer (some ⟨p3_o_4b, 0, none⟩), .pointer (some ⟨p3_o_5b, 0, none⟩)]), p3_ot, (0, 0)⟩ :: (p3_oB0 ++ (p3_oB1 ++ (⟨p3_o_4b, [.int .u64 p3_o_4.first_, .slice p3_o_4a0 p3_o_4n0 p3_o_4c0, .int .u8 p3_o_4.last], p3_o_4t, (0, 0)⟩ :: (p3_o_4B0 ++ (⟨p3_o_5b, ([.int .i64 p3_o_5.size] ++ flat cg_T_ring_place p3_o_5g0), p3_o_5t, (0, 0)⟩ :: (p3_o_5P0 ++ (v34B0 ++ (⟨b8, [.int .u8 zm.1, .int .u8 zm.2], 54, (0, 0)⟩ :: (⟨b6, [.int .u8 p1.1, .int .u8 p1.2], 54, (0, 0)⟩ :: (⟨p2b, [.pointer (some ⟨p2_ob, 0, none⟩)], p2t, (0, 0)⟩ :: (⟨p2_ob, ([.int .u64 p2_o.from_, .int .u64 p2_o.count, .int .u64 p2_o.most] ++ flat (e2 .u8) p2_o.ring.1), p2_ot, (0, 0)⟩ :: (⟨p3b, [.pointer (some ⟨p3_ob, 0, none⟩)], p3t, (0, 0)⟩ :: (⟨p4b, [.int .u8 p4], p4t, (0, 0)⟩ :: []))))))))))))))) [6, 7] [6, 7] [0, 0, 0, 4, 12, 28, 63, 127] [0, 1, 2, 3, 4, 5, 6, 7] (by kernel_rfl) (by kernel_rfl) (by kernel_rfl) ?_))))
  refine k_val (v := .pointer (some ⟨p3_ob, 0, none⟩)) rfl rfl rfl pI (val_load tt_ok rfl (mT (mR (mR (mT (mR (mT (mR (mR (mTT (mTT mH)))))))))) rfl) rfl (kM pI 1 rfl ?_)
  refine k_val (v := .int .u8 p4) rfl rfl rfl pI (val_load tt_ok rfl (mT (mR (mR (mT (mR (mT (mR (mR (mTT (mTT (mT mH))))))))))) rfl) rfl (kM pI 1 rfl ?_)
  rcases Bool.eq_false_or_eq_true ((IntKind.wrap .u8 ((1 : Int) - p4)) == (0 : Int)) with hx490 | hx490
  ·replace h := ct hx490 h
   refine k_val (v := .pointer (some ⟨b6, 0, none⟩)) rfl rfl rfl pI (val_ia (j := 0) tt_ok rfl rfl rfl rfl (by simpa using hx490) rfl rfl) rfl (k_val (v := .int .u8 p1.1) rfl rfl rfl pI (val_load tt_ok rfl (mT (mR (mR (mT (mR (mT (mR (mR (mT mH))))))))) rfl) rfl ?_)
   replace h := bsome h; obtain ⟨⟨za, zb, v51⟩, x51, h⟩ := h; try dsimp only at h
   refine k_cs rfl rfl rfl Tryz.call22 rfl rfl rfl (s_sp (k_rollback_Engine_Remote (p0 := p3_o) (p0_4 := p3_o_4) (p0_5 := p3_o_5) (p0t := p3_ot) (p0_4b := p3_o_4b) (p0_4t := p3_o_4t) (p0_5b := p3_o_5b) (p0_5t := p3_o_5t) p3_oN0 p3_oV0 p3_oN1 p3_oV1 p3_o_4N0 p3_o_4V0 p3_o_5G0 p3_o_5A0 x51) pP (fun _ _ => trivial)) rfl (.inl rfl) ?_
   rintro _ _ ⟨_, ⟨zf, zh, zg, zc, zl, zk, zd, ze, zj, zi, rfl, rfl⟩, rfl⟩
   refine k_chg rfl rfl rfl (Chg.of_val (sV rfl)) rfl (.inl rfl) ?_
   rintro _ _ ⟨rfl, rfl⟩
   refine k_end (by kernel_rfl) ?_
   refine wx_then (wc_ret ?_)
   obtain ⟨rfl, rfl, rfl⟩ := pJ3 h
   exact wE Tryz.results37 (rs1 rfl) ⟨zf, zh, zg, zc, zl, zk, zd, ze, zj, zi, rfl, rfl⟩ pI
  replace h := cf hx490 h
  rcases Bool.eq_false_or_eq_true ((IntKind.wrap .u8 ((1 : Int) - p4)) == (1 : Int)) with hx491 | hx491
  ·replace h := ct hx491 h
   refine k_val (v := .pointer (some ⟨b6, 1, none⟩)) rfl rfl rfl pI (val_ia (j := 1) tt_ok rfl rfl rfl rfl (by simpa using hx491) rfl rfl) rfl (k_val (v := .int .u8 p1.2) rfl rfl rfl pI (val_load tt_ok rfl (mT (mR (mR (mT (mR (mT (mR (mR (mT mH))))))))) rfl) rfl ?_)
   replace h := bsome h; obtain ⟨⟨za, zb, v51⟩, x51, h⟩ := h; try dsimp only at h
   refine k_cs rfl rfl rfl Tryz.call22 rfl rfl rfl (s_sp (k_rollback_Engine_Remote (p0 := p3_o) (p0_4 := p3_o_4) (p0_5 := p3_o_5) (p0t := p3_ot) (p0_4b := p3_o_4b) (p0_4t := p3_o_4t) (p0_5b := p3_o_5b) (p0_5t := p3_o_5t) p3_oN0 p3_oV0 p3_oN1 p3_oV1 p3_o_4N0 p3_o_4V0 p3_o_5G0 p3_o_5A0 x51) pP (fun _ _ => trivial)) rfl (.inl rfl) ?_
   rintro _ _ ⟨_, ⟨zf, zh, zg, zc, zl, zk, zd, ze, zj, zi, rfl, rfl⟩, rfl⟩
   refine k_chg rfl rfl rfl (Chg.of_val (sV rfl)) rfl (.inl rfl) ?_
   rintro _ _ ⟨rfl, rfl⟩
   refine k_end (by kernel_rfl) ?_
   refine wx_then (wc_ret ?_)
   obtain ⟨rfl, rfl, rfl⟩ := pJ3 h
   exact wE Tryz.results37 (rs1 rfl) ⟨zf, zh, zg, zc, zl, zk, zd, ze, zj, zi, rfl, rfl⟩ pI
  replace h := cf hx491 h
  cases h
 replace h := cf hx420 h
 rcases Bool.eq_false_or_eq_true (p4 == (1 : Int)) with hx421 | hx421
 ·replace h := ct hx421 h
  refine k_val (v := .pointer (some ⟨b6, 1, none⟩)) rfl rfl rfl pI (val_ia (j := 1) tt_ok rfl rfl rfl rfl (by simpa using hx421) rfl rfl) rfl (k_val (v := .int .u8 p1.2) rfl rfl rfl pI (val_load tt_ok rfl (mT mH) rfl) rfl ?_)
  obtain ⟨v34, x34, h⟩ := bsome h
  refine k_cs rfl rfl rfl Tryz.call41 rfl rfl rfl (s_sp (k_rollback_Engine_Own (p0 := p3_o) (p0_4 := p3_o_4) (p0_5 := p3_o_5) (p0t := p3_ot) (p0_4b := p3_o_4b) (p0_4t := p3_o_4t) (p0_5b := p3_o_5b) (p0_5t := p3_o_5t) p3_oN0 p3_oV0 p3_oN1 p3_oV1 p3_o_4N0 p3_o_4V0 p3_o_5G0 p3_o_5A0 x34) pP (fun _ _ => trivial)) rfl (.inr (by rintro _ _ ⟨_, ⟨_, _, _, _, _, _, rfl, rfl⟩, rfl⟩; exact ⟨_, pP⟩)) ?_
  rintro _ _ ⟨_, ⟨v34a0, v34n0, v34c0, v34B0, v34N0, v34V0, rfl, rfl⟩, rfl⟩
  obtain ⟨v37, x37, h⟩ := bsome h
  refine k_cq rfl rfl rfl Tryz.call39 rfl rfl rfl (q_rd (k_rollback_Engine_C (p0 := p3_o) (p0_4 := p3_o_4) (p0_5 := p3_o_5) (p0t := p3_ot) (p0_4b := p3_o_4b) (p0_4t := p3_o_4t) (p0_5b := p3_o_5b) (p0_5t := p3_o_5t) p3_oN0 p3_oV0 p3_oN1 p3_oV1 p3_o_4N0 p3_o_4V0 p3_o_5G0 p3_o_5A0 x37) pP (fun _ _ => trivial)) rfl pI ?_
  refine k_chg rfl rfl rfl (Chg.of_val (v := .int .u64 (IntKind.wrap .u64 (p0 - v37))) (sV rfl)) rfl (.inr (by rintro _ _ ⟨rfl, rfl⟩; exact pI)) ?_
  rintro _ _ ⟨rfl, rfl⟩
  obtain ⟨v39, x39, h⟩ := bsome h
  refine k_chg rfl rfl rfl (Chg.of_val (v := .pointer (some ((adOf v34a0).add ((IntKind.wrap .u64 (p0 - v37)).toNat * 1 + 0)))) (val_ix (enc := (e1 .u8)) tt_ok rfl rfl rfl rfl v34N0 (Rds.of_vec v34V0) (e1_len _) rfl x39)) rfl (.inr (by rintro _ _ ⟨rfl, rfl⟩; exact pI)) ?_
  rintro _ _ ⟨rfl, rfl⟩
  refine k_chg rfl rfl rfl (Chg.of_val (v := .int .u8 v39) (val_le (enc := (e1 .u8)) (xs := v34) tt_ok rfl (Rds.of_vec v34V0) ⟨_, (sC (sAA (sCA (sCA hA'))))⟩ (e1_len _) x39 rfl)) rfl (.inr (by rintro _ _ ⟨rfl, rfl⟩; exact pI)) ?_
  rintro _ _ ⟨rfl, rfl⟩
  refine k_chg rfl rfl rfl (Chg.of_val (v := .bool (v39 != p1.2)) (sV rfl)) rfl (.inl rfl) ?_
  rintro _ _ ⟨rfl, rfl⟩
  refine k_chg rfl rfl rfl (Chg.of_val (sV rfl)) rfl (.inl rfl) ?_
  rintro _ _ ⟨rfl, rfl⟩
  refine k_end (by kernel_rfl) ?_
  refine wx_then (wcc h rfl ?_ ?_) <;> clear h <;> intro h
  ·refine wSR (wM 1 rfl (wNT (wc_ret (wx_block_ret (wx_then_ret ?_)))))
   obtain ⟨rfl, rfl, rfl⟩ := pJ3 h
   exact wE Tryz.results37 (rs1 rfl) ⟨p3_o_4a0, p3_o_4n0, p3_o_4c0, p3_o_4B0, p3_o_5g0, p3_o_5P0, p3_o_4N0, p3_o_4V0, p3_o_5G0, p3_o_5A0, rfl, rfl⟩ pI
  refine wc_skip (wx_block (wx_then (wc_seq (wc_k2 (Ls := (⟨p3_ob, (.int .u8 p3_o.player :: .int .i64 p3_o.window :: st19 p3_o.sure p3_oa0 p3_on0 p3_oc0 [.slice p3_oa1 p3_on1 p3_oc1, .pointer (some ⟨p3_o_4b, 0, none⟩), .pointer (some ⟨p3_o_5b, 0, none⟩)]), p3_ot, (0, 0)⟩ :: (p3_oB0 ++ (p3_oB1 ++ (⟨p3_o_4b, [.int .u64 p3_o_4.first_, .slice p3_o_4a0 p3_o_4n0 p3_o_4c0, .int .u8 p3_o_4.last], p3_o_4t, (0, 0)⟩ :: (p3_o_4B0 ++ (⟨p3_o_5b, ([.int .i64 p3_o_5.size] ++ flat cg_T_ring_place p3_o_5g0), p3_o_5t, (0, 0)⟩ :: (p3_o_5P0 ++ (v34B0 ++ (⟨b8, [.int .u8 zm.1, .int .u8 zm.2], 54, (0, 0)⟩ :: (⟨b6, [.int .u8 p1.1, .int .u8 p1.2], 54, (0, 0)⟩ :: (⟨p2b, [.pointer (some ⟨p2_ob, 0, none⟩)], p2t, (0, 0)⟩ :: (⟨p2_ob, ([.int .u64 p2_o.from_, .int .u64 p2_o.count, .int .u64 p2_o.most] ++ flat (e2 .u8) p2_o.ring.1), p2_ot, (0, 0)⟩ :: (⟨p3b, [.pointer (some ⟨p3_ob, 0, none⟩)], p3t, (0, 0)⟩ :: (⟨p4b, [.int .u8 p4], p4t, (0, 0)⟩ :: []))))))))))))))) [6, 7] [6, 7] [0, 0, 0, 4, 12, 28, 63, 127] [0, 1, 2, 3, 4, 5, 6, 7] (by kernel_rfl) (by kernel_rfl) (by kernel_rfl) ?_))))
  refine k_val (v := .pointer (some ⟨p3_ob, 0, none⟩)) rfl rfl rfl pI (val_load tt_ok rfl (mT (mR (mR (mT (mR (mT (mR (mR (mTT (mTT mH)))))))))) rfl) rfl (kM pI 1 rfl ?_)
  refine k_val (v := .int .u8 p4) rfl rfl rfl pI (val_load tt_ok rfl (mT (mR (mR (mT (mR (mT (mR (mR (mTT (mTT (mT mH))))))))))) rfl) rfl (kM pI 1 rfl ?_)
  rcases Bool.eq_false_or_eq_true ((IntKind.wrap .u8 ((1 : Int) - p4)) == (0 : Int)) with hx490 | hx490
  ·replace h := ct hx490 h
   refine k_val (v := .pointer (some ⟨b6, 0, none⟩)) rfl rfl rfl pI (val_ia (j := 0) tt_ok rfl rfl rfl rfl (by simpa using hx490) rfl rfl) rfl (k_val (v := .int .u8 p1.1) rfl rfl rfl pI (val_load tt_ok rfl (mT (mR (mR (mT (mR (mT (mR (mR (mT mH))))))))) rfl) rfl ?_)
   replace h := bsome h; obtain ⟨⟨za, zb, v51⟩, x51, h⟩ := h; try dsimp only at h
   refine k_cs rfl rfl rfl Tryz.call22 rfl rfl rfl (s_sp (k_rollback_Engine_Remote (p0 := p3_o) (p0_4 := p3_o_4) (p0_5 := p3_o_5) (p0t := p3_ot) (p0_4b := p3_o_4b) (p0_4t := p3_o_4t) (p0_5b := p3_o_5b) (p0_5t := p3_o_5t) p3_oN0 p3_oV0 p3_oN1 p3_oV1 p3_o_4N0 p3_o_4V0 p3_o_5G0 p3_o_5A0 x51) pP (fun _ _ => trivial)) rfl (.inl rfl) ?_
   rintro _ _ ⟨_, ⟨zf, zh, zg, zc, zl, zk, zd, ze, zj, zi, rfl, rfl⟩, rfl⟩
   refine k_chg rfl rfl rfl (Chg.of_val (sV rfl)) rfl (.inl rfl) ?_
   rintro _ _ ⟨rfl, rfl⟩
   refine k_end (by kernel_rfl) ?_
   refine wx_then (wc_ret ?_)
   obtain ⟨rfl, rfl, rfl⟩ := pJ3 h
   exact wE Tryz.results37 (rs1 rfl) ⟨zf, zh, zg, zc, zl, zk, zd, ze, zj, zi, rfl, rfl⟩ pI
  replace h := cf hx490 h
  rcases Bool.eq_false_or_eq_true ((IntKind.wrap .u8 ((1 : Int) - p4)) == (1 : Int)) with hx491 | hx491
  ·replace h := ct hx491 h
   refine k_val (v := .pointer (some ⟨b6, 1, none⟩)) rfl rfl rfl pI (val_ia (j := 1) tt_ok rfl rfl rfl rfl (by simpa using hx491) rfl rfl) rfl (k_val (v := .int .u8 p1.2) rfl rfl rfl pI (val_load tt_ok rfl (mT (mR (mR (mT (mR (mT (mR (mR (mT mH))))))))) rfl) rfl ?_)
   replace h := bsome h; obtain ⟨⟨za, zb, v51⟩, x51, h⟩ := h; try dsimp only at h
   refine k_cs rfl rfl rfl Tryz.call22 rfl rfl rfl (s_sp (k_rollback_Engine_Remote (p0 := p3_o) (p0_4 := p3_o_4) (p0_5 := p3_o_5) (p0t := p3_ot) (p0_4b := p3_o_4b) (p0_4t := p3_o_4t) (p0_5b := p3_o_5b) (p0_5t := p3_o_5t) p3_oN0 p3_oV0 p3_oN1 p3_oV1 p3_o_4N0 p3_o_4V0 p3_o_5G0 p3_o_5A0 x51) pP (fun _ _ => trivial)) rfl (.inl rfl) ?_
   rintro _ _ ⟨_, ⟨zf, zh, zg, zc, zl, zk, zd, ze, zj, zi, rfl, rfl⟩, rfl⟩
   refine k_chg rfl rfl rfl (Chg.of_val (sV rfl)) rfl (.inl rfl) ?_
   rintro _ _ ⟨rfl, rfl⟩
   refine k_end (by kernel_rfl) ?_
   refine wx_then (wc_ret ?_)
   obtain ⟨rfl, rfl, rfl⟩ := pJ3 h
   exact wE Tryz.results37 (rs1 rfl) ⟨zf, zh, zg, zc, zl, zk, zd, ze, zj, zi, rfl, rfl⟩ pI
  replace h := cf hx491 h
  cases h
 replace h := cf hx421 h
 cases h

theorem k_backfill_Pairs {p0 : T_rollback_Engine} {p0_4 : T_queue_Queue} {p0_5 : T_ring_Ring} {p0_5g0 : List (T_ring_place × G)} {p1 : T_fold_History} {p2 : Int} {p3 : Int} {p4 : (List (Int × Int))} {r0 : T_queue_Queue} {r1 : T_ring_Ring} {r2 : Int} {r3 : Int} (p0N0 : p0n0 = p0.sure.Shots.length) (p0V0 : Own 119 6 p0a0 p0n0 p0c0 (flat c_T_api_Shot p0.sure.Shots) p0B0) (p0N1 : p0n1 = p0.own.length) (p0V1 : Own 52 1 p0a1 p0n1 p0c1 (flat (e1 .u8) p0.own) p0B1) (p0_4N0 : p0_4n0 = p0_4.l.length) (p0_4V0 : Own 52 1 p0_4a0 p0_4n0 p0_4c0 (flat (e1 .u8) p0_4.l) p0_4B0) (p0_5G0 : p0_5.places.1 = unG p0_5g0) (p0_5A0 : AllP sh_T_ring_place c_T_api_Shot p0_5P0 p0_5g0) (p4N0 : p4n0 = p4.length) (p4H0 : p4n0 ≤ p4c0) (h : m_backfill_Pairs F p0 p0_4 p0_5 p1 p2 p3 p4 = some (r0, r1, r2, r3)) :
    SpD Tryz.prog 9 [.pointer (some ⟨p0b, 0, none⟩), .pointer (some ⟨p1b, 0, none⟩), .int .u8 p2, .int .u64 p3, .slice p4a0 p4n0 p4c0] (⟨p0b, (.int .u8 p0.player :: .int .i64 p0.window :: st19 p0.sure p0a0 p0n0 p0c0 [.slice p0a1 p0n1 p0c1, .pointer (some ⟨p0_4b, 0, none⟩), .pointer (some ⟨p0_5b, 0, none⟩)]), p0t, (0, 0)⟩ :: (p0B0 ++ (p0B1 ++ (⟨p0_4b, [.int .u64 p0_4.first_, .slice p0_4a0 p0_4n0 p0_4c0, .int .u8 p0_4.last], p0_4t, (0, 0)⟩ :: (p0_4B0 ++ (⟨p0_5b, ([.int .i64 p0_5.size] ++ flat cg_T_ring_place p0_5g0), p0_5t, (0, 0)⟩ :: (p0_5P0 ++ (⟨p1b, ([.int .u64 p1.from_, .int .u64 p1.count, .int .u64 p1.most] ++ flat (e2 .u8) p1.ring.1), p1t, (0, 0)⟩ :: [])))))))) (fun w => Rds w (ids (⟨p0b, (.int .u8 p0.player :: .int .i64 p0.window :: st19 p0.sure p0a0 p0n0 p0c0 [.slice p0a1 p0n1 p0c1, .pointer (some ⟨p0_4b, 0, none⟩), .pointer (some ⟨p0_5b, 0, none⟩)]), p0t, (0, 0)⟩ :: (p0B0 ++ (p0B1 ++ (⟨p0_4b, [.int .u64 p0_4.first_, .slice p0_4a0 p0_4n0 p0_4c0, .int .u8 p0_4.last], p0_4t, (0, 0)⟩ :: (p0_4B0 ++ (⟨p0_5b, ([.int .i64 p0_5.size] ++ flat cg_T_ring_place p0_5g0), p0_5t, (0, 0)⟩ :: (p0_5P0 ++ (⟨p1b, ([.int .u64 p1.from_, .int .u64 p1.count, .int .u64 p1.most] ++ flat (e2 .u8) p1.ring.1), p1t, (0, 0)⟩ :: []))))))))) [] p4a0 (flat (e2 .u8) p4)) (fun v D => ∃ r0a0 r0n0 r0c0 r0B0 r1g0 r1P0, r0n0 = r0.l.length ∧ Own 52 1 r0a0 r0n0 r0c0 (flat (e1 .u8) r0.l) r0B0 ∧ r1.places.1 = unG r1g0 ∧ AllP sh_T_ring_place c_T_api_Shot r1P0 r1g0 ∧ v = .tuple #[.int .i64 r2, .int .i64 r3] ∧ D = fun F => (⟨p0b, (.int .u8 p0.player :: .int .i64 p0.window :: st19 p0.sure p0a0 p0n0 p0c0 [.slice p0a1 p0n1 p0c1, .pointer (some ⟨p0_4b, 0, none⟩), .pointer (some ⟨p0_5b, 0, none⟩)]), p0t, (0, 0)⟩ :: (p0B0 ++ (p0B1 ++ (⟨p0_4b, [.int .u64 r0.first_, .slice r0a0 r0n0 r0c0, .int .u8 r0.last], p0_4t, (0, 0)⟩ :: (r0B0 ++ (⟨p0_5b, ([.int .i64 r1.size] ++ flat cg_T_ring_place r1g0), p0_5t, (0, 0)⟩ :: (r1P0 ++ (⟨p1b, ([.int .u64 p1.from_, .int .u64 p1.count, .int .u64 p1.most] ++ flat (e2 .u8) p1.ring.1), p1t, (0, 0)⟩ :: F))))))))) := by
 unfold m_backfill_Pairs at h
 refine sp_of_wc Tryz.func9 rfl Tryz.ntmps9 rfl rfl (fun w0 hR => ?_)
 have p4S0 := hR
 refine wSR (wl_box rfl rfl rfl (fun b5 => (wl_box rfl rfl rfl (fun b6 => (wl_box rfl rfl rfl (fun b7 => (wM 2 rfl (wNT (wSR (wLd rfl (mTT mH) rfl rfl (wLd rfl (mT mH) rfl rfl (wLd rfl mH rfl rfl (wM 3 rfl (wl_inl Tryz.call36 rfl rfl rfl Tryz.func36 rfl Tryz.ntmps36 rfl rfl rfl (wSR (wM 2 rfl (wNT (wc_seq (wc_block (wSR (wM 7 rfl (wNT (wc_cond_false rfl (wSR (wM 3 rfl ?_)))))))))))))))))))))))))
 obtain ⟨v100034, h, hg100034⟩ := bsome h
 refine wls 27 h rfl ?_ ?_ <;> clear h <;> intro h
 ·refine wM 6 rfl ?_
  obtain rfl := sI h
  have h := hg100034; clear hg100034
  refine wM 2 rfl (wNT ?_)
  replace h := ct rfl h
  refine wc_cond_true rfl ?_
  refine wSR (wM 2 rfl (wNT (wc_ret (wx_block_ret (wx_then_ret (wx_inl (v := .tuple #[.int .i64 0, .int .i64 2]) tt_ok (.inl rfl) Tryz.results36 (rs2 rfl rfl) rfl (wM 4 rfl (wNT (wc_ret ?_)))))))))
  obtain ⟨rfl, rfl, rfl, rfl⟩ := pJ4 h
  exact wE Tryz.results9 (rs2 rfl rfl) ⟨p0_4a0, p0_4n0, p0_4c0, p0_4B0, p0_5g0, p0_5P0, p0_4N0, p0_4V0, p0_5G0, p0_5A0, rfl, rfl⟩ pI
 refine wM 1 rfl (wl_run rfl (wl_val (v := .int .i64 (p4.length : Int)) (val_len tt_ok rfl rfl p4N0) rfl (wM 4 rfl ?_)))
 obtain rfl := sI h
 have h := hg100034; clear hg100034
 refine wM 2 rfl (wNT (wcc h rfl ?_ ?_)) <;> clear h <;> intro h
 ·refine wSR (wM 2 rfl (wNT (wc_ret (wx_block_ret (wx_then_ret (wx_inl (v := .tuple #[.int .i64 0, .int .i64 2]) tt_ok (.inl rfl) Tryz.results36 (rs2 rfl rfl) rfl (wM 4 rfl (wNT (wc_ret ?_)))))))))
  obtain ⟨rfl, rfl, rfl, rfl⟩ := pJ4 h
  exact wE Tryz.results9 (rs2 rfl rfl) ⟨p0_4a0, p0_4n0, p0_4c0, p0_4B0, p0_5g0, p0_5P0, p0_4N0, p0_4V0, p0_5G0, p0_5A0, rfl, rfl⟩ pI
 refine wc_skip (wx_block (wx_then (wc_seq (wSR (wM 1 rfl (wl_val (v := .int .i64 (p4.length : Int)) (val_len tt_ok rfl rfl p4N0) rfl (wM 1 rfl (wNT (wc_block ?_)))))))))
 obtain ⟨o100022, h, hl100022⟩ := bsome h
 refine wc_loop (fun m E L => ∃ zg zl zm za zn zo zb zi ze zj zh zf zk, m_backfill_Pairs_L100021 F p0 p1 p2 p3 p4 m zg zl zm za zn zo zb = some o100022 ∧ ze = za.length ∧ Own 52 1 zi ze zj (flat (e1 .u8) za) zh ∧ zb.1 = unG zf ∧ AllP sh_T_ring_place c_T_api_Shot zk zf ∧ E = [(3, .int .u64 p3), (5, .func (.func 37) #[] #[.pointer (some ⟨b6, 0, none⟩), .pointer (some ⟨b5, 0, none⟩), .pointer (some ⟨b7, 0, none⟩)]), (12, .int .i64 zg), (35, .slice p4a0 p4n0 p4c0), (36, .int .i64 (p4.length : Int)), (37, .int .i64 zl)] ∧ L = (⟨b5, [.pointer (some ⟨p0b, 0, none⟩)], 30, (0, 0)⟩ :: (⟨p0b, (.int .u8 p0.player :: .int .i64 p0.window :: st19 p0.sure p0a0 p0n0 p0c0 [.slice p0a1 p0n1 p0c1, .pointer (some ⟨p0_4b, 0, none⟩), .pointer (some ⟨p0_5b, 0, none⟩)]), p0t, (0, 0)⟩ :: (⟨p0_4b, [.int .u64 zm, .slice zi ze zj, .int .u8 zn], p0_4t, (0, 0)⟩ :: (⟨p0_5b, ([.int .i64 zo] ++ flat cg_T_ring_place zf), p0_5t, (0, 0)⟩ :: (⟨b6, [.pointer (some ⟨p1b, 0, none⟩)], 31, (0, 0)⟩ :: (⟨p1b, ([.int .u64 p1.from_, .int .u64 p1.count, .int .u64 p1.most] ++ flat (e2 .u8) p1.ring.1), p1t, (0, 0)⟩ :: (⟨b7, [.int .u8 p2], 5, (0, 0)⟩ :: (p0B0 ++ (p0B1 ++ (zh ++ (zk ++ [])))))))))))) F ⟨(0 : Int), (0 : Int), p0_4.first_, p0_4.l, p0_4.last, p0_5.size, p0_5.places, p0_4a0, p0_4n0, p0_4c0, p0_4B0, p0_5g0, p0_5P0, h, p0_4N0, p0_4V0, p0_5G0, p0_5A0, rfl, rfl⟩ (ag6 rfl rfl rfl rfl rfl rfl) pI ?_
 clear h
 rintro m100022 _ _ ⟨zg, zl, zm, za, zn, zo, zb, zi, ze, zj, zh, zf, zk, h, zp, zq, zs, zr, rfl, rfl⟩
 rcases m100022 with _ | m100022
 ·rw [m_backfill_Pairs_L100021.eq_1] at h; cases h
 rw [m_backfill_Pairs_L100021.eq_2] at h
 refine wSR (wM 1 rfl (wNT (wc_seq (wcc h rfl ?_ ?_)))) <;> clear h <;> intro h
 ·refine wc_skip (wx_then (wc_seq (wc_block (wSR ?_))))
  obtain ⟨v100039, x100039, h⟩ := bsome h
  refine wl_val (v := .pointer (some ((adOf p4a0).add (zl.toNat * 2 + 0)))) (val_ix (enc := (e2 .u8)) tt_ok rfl rfl rfl rfl p4N0 p4S0 (e2_len _) rfl x100039) rfl ?_
  refine wl_val (v := .agg #[.int .u8 v100039.1, .int .u8 v100039.2]) (val_le (enc := (e2 .u8)) (xs := p4) tt_ok rfl p4S0 rsub_nil (e2_len _) x100039 rfl) rfl ?_
  refine wl_alloc tt_ok rfl rfl (fun b100015 => ?_)
  refine lSt Upd.here ?_
  refine wNT (wc_seq (wSR (wM 5 rfl (wLd (v := .agg #[.int .u8 v100039.1, .int .u8 v100039.2]) rfl mH rfl rfl ?_))))
  replace h := bsome h; obtain ⟨⟨zc, zd, v100047⟩, x100047, h⟩ := h; try dsimp only at h
  refine wl_cs Tryz.call37 rfl rfl rfl (s_sp (k_backfill_Pairs_1 (p2 := ()) (p3 := ()) (p3_o := p0) (p3_o_4 := (T_queue_Queue.mk zm za zn)) (p3_o_5 := (T_ring_Ring.mk zo zb)) (p2t := 31) (p2_ob := p1b) (p2_ot := p1t) (p3t := 30) (p3_ob := p0b) (p3_ot := p0t) (p3_o_4b := p0_4b) (p3_o_4t := p0_4t) (p3_o_5b := p0_5b) (p3_o_5t := p0_5t) (p4t := 5) p0N0 p0V0 p0N1 p0V1 zp zq zs zr x100047) pP (fun _ _ => trivial)) rfl ?_
  rintro _ _ ⟨_, ⟨zw, zy, zx, zt, zac, zab, zu, zv, zaa, zz, rfl, rfl⟩, rfl⟩
  refine wM 1 rfl (wNT (wSR (wM 2 rfl (wNT (wcc h rfl ?_ ?_))))) <;> clear h <;> intro h
  ·refine wSR (wM 4 rfl (wNT (wc_ret (wx_then_ret (wx_block_ret (wx_then_ret ?_))))))
   obtain rfl := Option.some.inj h
   have h := hl100022; clear hl100022; try dsimp only [orE_l, orE_r] at h
   refine wx_then_ret (wx_block_ret (wx_then_ret (wx_inl (v := .tuple #[.int .i64 zg, .int .i64 v100047]) tt_ok (.inl rfl) Tryz.results36 (rs2 rfl rfl) rfl (wM 4 rfl (wNT (wc_ret ?_))))))
   obtain ⟨rfl, rfl, rfl, rfl⟩ := pJ4 h
   exact wE Tryz.results9 (rs2 rfl rfl) ⟨zw, zy, zx, zt, zac, zab, zu, zv, zaa, zz, rfl, rfl⟩ pI
  refine wc_skip (wx_then (wc_region (wM 3 rfl (wl_nil (wx_block (wx_then (wc_region (wM 2 rfl (wl_nil ?_)))))))))
  exact wx_round m100022 (Nat.lt_succ_self m100022) ⟨(IntKind.wrap .i64 (zg + (1 : Int))), (IntKind.wrap .i64 (zl + (1 : Int))), zc.first_, zc.l, zc.last, zd.size, zd.places, zw, zy, zx, zt, zac, zab, h, zu, zv, zaa, zz, rfl, rfl⟩ (ag6 rfl rfl rfl rfl rfl rfl) pI
 refine wc_exit (wx_then_exit ?_)
 obtain rfl := Option.some.inj h
 have h := hl100022; clear hl100022; try dsimp only [orE_l, orE_r] at h
 refine wx_then_exit (wx_block_exit (wx_then (wSR ?_)))
 refine wM 3 rfl (wNT (wc_ret (wx_inl (v := .tuple #[.int .i64 zg, .int .i64 0]) tt_ok (.inl rfl) Tryz.results36 (rs2 rfl rfl) rfl (wM 4 rfl (wNT (wc_ret ?_))))))
 obtain ⟨rfl, rfl, rfl, rfl⟩ := pJ4 h
 exact wE Tryz.results9 (rs2 rfl rfl) ⟨zi, ze, zj, zh, zf, zk, zp, zq, zs, zr, rfl, rfl⟩ pI

theorem k_hindcastlaw28_pairs {p0 : T_rollback_Engine} {p0_4 : T_queue_Queue} {p0_5 : T_ring_Ring} {p0_5g0 : List (T_ring_place × G)} {p1 : T_fold_History} {p2 : Int} {p3 : (List (Int × Int))} {r0 : T_queue_Queue} {r1 : T_ring_Ring} {r2 : Int} (p0N0 : p0n0 = p0.sure.Shots.length) (p0V0 : Own 119 6 p0a0 p0n0 p0c0 (flat c_T_api_Shot p0.sure.Shots) p0B0) (p0N1 : p0n1 = p0.own.length) (p0V1 : Own 52 1 p0a1 p0n1 p0c1 (flat (e1 .u8) p0.own) p0B1) (p0_4N0 : p0_4n0 = p0_4.l.length) (p0_4V0 : Own 52 1 p0_4a0 p0_4n0 p0_4c0 (flat (e1 .u8) p0_4.l) p0_4B0) (p0_5G0 : p0_5.places.1 = unG p0_5g0) (p0_5A0 : AllP sh_T_ring_place c_T_api_Shot p0_5P0 p0_5g0) (p3N0 : p3n0 = p3.length) (p3H0 : p3n0 ≤ p3c0) (h : m_hindcastlaw28_pairs F p0 p0_4 p0_5 p1 p2 p3 = some (r0, r1, r2)) :
    SpD Tryz.prog 15 [.pointer (some ⟨p0b, 0, none⟩), .pointer (some ⟨p1b, 0, none⟩), .int .u64 p2, .slice p3a0 p3n0 p3c0] (⟨p0b, (.int .u8 p0.player :: .int .i64 p0.window :: st19 p0.sure p0a0 p0n0 p0c0 [.slice p0a1 p0n1 p0c1, .pointer (some ⟨p0_4b, 0, none⟩), .pointer (some ⟨p0_5b, 0, none⟩)]), p0t, (0, 0)⟩ :: (p0B0 ++ (p0B1 ++ (⟨p0_4b, [.int .u64 p0_4.first_, .slice p0_4a0 p0_4n0 p0_4c0, .int .u8 p0_4.last], p0_4t, (0, 0)⟩ :: (p0_4B0 ++ (⟨p0_5b, ([.int .i64 p0_5.size] ++ flat cg_T_ring_place p0_5g0), p0_5t, (0, 0)⟩ :: (p0_5P0 ++ (⟨p1b, ([.int .u64 p1.from_, .int .u64 p1.count, .int .u64 p1.most] ++ flat (e2 .u8) p1.ring.1), p1t, (0, 0)⟩ :: [])))))))) (fun w => Rds w (ids (⟨p0b, (.int .u8 p0.player :: .int .i64 p0.window :: st19 p0.sure p0a0 p0n0 p0c0 [.slice p0a1 p0n1 p0c1, .pointer (some ⟨p0_4b, 0, none⟩), .pointer (some ⟨p0_5b, 0, none⟩)]), p0t, (0, 0)⟩ :: (p0B0 ++ (p0B1 ++ (⟨p0_4b, [.int .u64 p0_4.first_, .slice p0_4a0 p0_4n0 p0_4c0, .int .u8 p0_4.last], p0_4t, (0, 0)⟩ :: (p0_4B0 ++ (⟨p0_5b, ([.int .i64 p0_5.size] ++ flat cg_T_ring_place p0_5g0), p0_5t, (0, 0)⟩ :: (p0_5P0 ++ (⟨p1b, ([.int .u64 p1.from_, .int .u64 p1.count, .int .u64 p1.most] ++ flat (e2 .u8) p1.ring.1), p1t, (0, 0)⟩ :: []))))))))) [] p3a0 (flat (e2 .u8) p3)) (fun v D => ∃ r0a0 r0n0 r0c0 r0B0 r1g0 r1P0, r0n0 = r0.l.length ∧ Own 52 1 r0a0 r0n0 r0c0 (flat (e1 .u8) r0.l) r0B0 ∧ r1.places.1 = unG r1g0 ∧ AllP sh_T_ring_place c_T_api_Shot r1P0 r1g0 ∧ v = .int .i64 r2 ∧ D = fun F => (⟨p0b, (.int .u8 p0.player :: .int .i64 p0.window :: st19 p0.sure p0a0 p0n0 p0c0 [.slice p0a1 p0n1 p0c1, .pointer (some ⟨p0_4b, 0, none⟩), .pointer (some ⟨p0_5b, 0, none⟩)]), p0t, (0, 0)⟩ :: (p0B0 ++ (p0B1 ++ (⟨p0_4b, [.int .u64 r0.first_, .slice r0a0 r0n0 r0c0, .int .u8 r0.last], p0_4t, (0, 0)⟩ :: (r0B0 ++ (⟨p0_5b, ([.int .i64 r1.size] ++ flat cg_T_ring_place r1g0), p0_5t, (0, 0)⟩ :: (r1P0 ++ (⟨p1b, ([.int .u64 p1.from_, .int .u64 p1.count, .int .u64 p1.most] ++ flat (e2 .u8) p1.ring.1), p1t, (0, 0)⟩ :: F))))))))) := by
 unfold m_hindcastlaw28_pairs at h
 refine sp_of_wc Tryz.func15 rfl Tryz.ntmps15 rfl rfl (fun w0 hR => ?_)
 have p3S0 := hR
 refine wSR (wM 1 rfl (wNT (wSR (wM 4 rfl ?_))))
 replace h := bsome h; obtain ⟨⟨za, zb, zm, zn⟩, x16, h⟩ := h; try dsimp only at h
 refine wl_cs Tryz.call9 rfl rfl rfl (s_sp (k_backfill_Pairs (p0 := p0) (p0_4 := p0_4) (p0_5 := p0_5) (p4 := p3) (p0t := p0t) (p0_4b := p0_4b) (p0_4t := p0_4t) (p0_5b := p0_5b) (p0_5t := p0_5t) (p1t := p1t) p0N0 p0V0 p0N1 p0V1 p0_4N0 p0_4V0 p0_5G0 p0_5A0 p3N0 p3H0 x16) pP (Rds.call p3S0 pP rsub_nil)) rfl ?_
 rintro _ _ ⟨_, ⟨zf, zh, zg, zc, zl, zk, zd, ze, zj, zi, rfl, rfl⟩, rfl⟩
 refine wM 5 rfl (wNT (wSR (wM 5 rfl (wNT (wc_ret ?_)))))
 obtain ⟨rfl, rfl, rfl⟩ := pJ3 h
 exact wE Tryz.results15 (rs1 rfl) ⟨zf, zh, zg, zc, zl, zk, zd, ze, zj, zi, rfl, rfl⟩ pI

theorem k_rollback_Engine_Known {p0 : T_rollback_Engine} {p0_4 : T_queue_Queue} {p0_5 : T_ring_Ring} {p0_5g0 : List (T_ring_place × G)} {r0 : Int} (p0N0 : p0n0 = p0.sure.Shots.length) (p0V0 : Own 119 6 p0a0 p0n0 p0c0 (flat c_T_api_Shot p0.sure.Shots) p0B0) (p0N1 : p0n1 = p0.own.length) (p0V1 : Own 52 1 p0a1 p0n1 p0c1 (flat (e1 .u8) p0.own) p0B1) (p0_4N0 : p0_4n0 = p0_4.l.length) (p0_4V0 : Own 52 1 p0_4a0 p0_4n0 p0_4c0 (flat (e1 .u8) p0_4.l) p0_4B0) (p0_5G0 : p0_5.places.1 = unG p0_5g0) (p0_5A0 : AllP sh_T_ring_place c_T_api_Shot p0_5P0 p0_5g0) (h : m_rollback_Engine_Known F p0 p0_4 p0_5 = some r0) :
    Rd2 Tryz.prog 16 [.pointer (some ⟨p0b, 0, none⟩)] (⟨p0b, (.int .u8 p0.player :: .int .i64 p0.window :: st19 p0.sure p0a0 p0n0 p0c0 [.slice p0a1 p0n1 p0c1, .pointer (some ⟨p0_4b, 0, none⟩), .pointer (some ⟨p0_5b, 0, none⟩)]), p0t, (0, 0)⟩ :: (p0B0 ++ (p0B1 ++ (⟨p0_4b, [.int .u64 p0_4.first_, .slice p0_4a0 p0_4n0 p0_4c0, .int .u8 p0_4.last], p0_4t, (0, 0)⟩ :: (p0_4B0 ++ (⟨p0_5b, ([.int .i64 p0_5.size] ++ flat cg_T_ring_place p0_5g0), p0_5t, (0, 0)⟩ :: (p0_5P0 ++ []))))))) (fun w => True) (.int .u64 r0) := by
 unfold m_rollback_Engine_Known at h
 refine sp_of_wc Tryz.func16 rfl Tryz.ntmps16 rfl rfl (fun w0 hR => ?_)
 refine wSR (wM 1 rfl (wNT (wc_seq (wSR (wM 1 rfl ?_)))))
 obtain ⟨v4, x4, h⟩ := bsome h
 refine wl_cq Tryz.call53 rfl rfl rfl (q_rd (k_rollback_Engine_is (p0 := p0) (p0_4 := p0_4) (p0_5 := p0_5) (p0t := p0t) (p0_4b := p0_4b) (p0_4t := p0_4t) (p0_5b := p0_5b) (p0_5t := p0_5t) p0N0 p0V0 p0N1 p0V1 p0_4N0 p0_4V0 p0_5G0 p0_5A0 x4) pP (fun _ _ => trivial)) rfl ?_
 refine wM 1 rfl (wNT (wcc h rfl ?_ ?_)) <;> clear h <;> intro h
 ·refine wSR (wM 1 rfl (wNT (wc_ret (wx_then_ret ?_))))
  obtain rfl := sI h
  exact wx_rd tt_ok (.inl rfl) Tryz.results16 (rs1 rfl) pI rfl
 refine wc_skip (wx_then (wSR (wM 3 rfl (wLd rfl mH rfl rfl ?_))))
 obtain ⟨v10, x10, h⟩ := bsome h
 refine wl_cq Tryz.call54 rfl rfl rfl (q_rd (k_queue_Queue_Known (p0 := p0_4) (p0t := p0_4t) p0_4N0 p0_4V0 x10) pP (fun _ _ => trivial)) rfl ?_
 refine wM 1 rfl (wNT (wc_ret ?_))
 obtain rfl := sI h
 exact wx_rd tt_ok (.inl rfl) Tryz.results16 (rs1 rfl) pI rfl

theorem k_hindcastlaw28_works {r0 : Bool} (h : m_hindcastlaw28_works F = some r0) :
    Pf Tryz.prog 4 [] (fun w => Rds w [] [] (some ⟨0, 0, none⟩) (flat (fun _ : Unit => gl_state_playerBounds) [()]) ∧ Rds w [] [] (some ⟨1, 0, none⟩) (flat (fun _ : Unit => gl_state_shotBounds) [()])) (.bool r0) := by
 unfold m_hindcastlaw28_works at h
 refine pf_of_wc Tryz.func4 rfl Tryz.ntmps4 rfl rfl (fun w0 hR => ?_)
 obtain ⟨G0S, G1S⟩ := hR
 refine wSR (wM 1 rfl (wNT (wSR (wl_inl Tryz.call14 rfl rfl rfl Tryz.func14 rfl Tryz.ntmps14 rfl rfl rfl (wSR (wM 2 rfl (wNT (wSR ?_))))))))
 obtain ⟨v100005, x100005, h⟩ := bsome h
 refine wl_cs Tryz.call18 rfl rfl rfl (s_sp (k_state_Start x100005) pNil (fun _ _ => trivial)) rfl ?_
 rintro _ _ ⟨_, ⟨v100005a0, v100005n0, v100005c0, v100005B0, v100005N0, v100005V0, rfl, rfl⟩, rfl⟩
 obtain ⟨v100006, x100006, h⟩ := bsome h
 rcases v100006 with _ | v100006s
 ·cases h
 replace h := poS h
 refine wl_cs Tryz.call17 rfl rfl rfl (s_sp (k_rollback_New (p0 := v100005) v100005N0 (vec_cap v100005V0) (own_Z v100005V0) x100006) pNil (fun w hI => ⟨(Rds.call (Rds.of_vec v100005V0) pNil ⟨_, hA'⟩) w hI, (Rds.call G0S pNil rsub_nil) w hI, (Rds.call G1S pNil rsub_nil) w hI⟩)) rfl ?_
 rintro _ _ ⟨_, ⟨ze, zn, zo, v100006sa0, v100006sn0, v100006sc0, v100006sB0, v100006sa1, v100006sn1, v100006sc1, v100006sB1, v100006s_4a0, v100006s_4n0, v100006s_4c0, v100006s_4B0, v100006s_5g0, v100006s_5P0, v100006sN0, v100006sV0, v100006sN1, v100006sV1, v100006s_4N0, v100006s_4V0, v100006s_5G0, v100006s_5A0, rfl, rfl⟩, rfl⟩
 refine wM 1 rfl (wNT (wSR ?_))
 obtain ⟨v100007, x100007, h⟩ := bsome h
 rcases v100007 with _ | v100007s
 ·cases h
 replace h := poS h
 refine wl_cs Tryz.call19 rfl rfl rfl (s_sp (k_fold_New x100007) pNil (fun _ _ => trivial)) rfl ?_
 rintro _ _ ⟨_, ⟨zax, rfl, rfl⟩, rfl⟩
 refine wM 1 rfl (wNT (wc_seq (wSR (wM 1 rfl (wNT (wc_block ?_))))))
 replace h := bsome h; obtain ⟨⟨zau, zav, zal, zam, zan, zao, zap, zaw⟩, h, hl100011⟩ := h; try dsimp only at hl100011
 refine wc_loop (fun m E L => ∃ zai zj zk zg zh zi za zf zb zs zl zt zp zz zm zaa zw, m_hindcastlaw28_works_L100010 F v100006s m zai zj zk zg zh zi za zf zb = some (zau, zav, zal, zam, zan, zao, zap, zaw) ∧ zl = za.length ∧ Own 119 6 zs zl zt (flat c_T_api_Shot za) zp ∧ zm = zb.length ∧ Own 52 1 zz zm zaa (flat (e1 .u8) zb) zw ∧ E = [(2, .pointer (some ⟨ze, 0, none⟩)), (3, .pointer (some ⟨zax, 0, none⟩)), (4, .int .i64 zai)] ∧ L = (⟨ze, (.int .u8 zj :: .int .i64 zk :: .int .u64 zg :: .int .u64 zh :: pl14 zi [.slice zs zl zt, .int .u16 zf.1, .int .u16 zf.2, .slice zz zm zaa, .pointer (some ⟨zn, 0, none⟩), .pointer (some ⟨zo, 0, none⟩)]), 97, (0, 0)⟩ :: (⟨zn, [.int .u64 v100006s.2.1.first_, .slice v100006s_4a0 v100006s_4n0 v100006s_4c0, .int .u8 v100006s.2.1.last], 124, (0, 0)⟩ :: (⟨zo, ([.int .i64 v100006s.2.2.size] ++ flat cg_T_ring_place v100006s_5g0), 140, (0, 0)⟩ :: (⟨zax, ([.int .u64 v100007s.from_, .int .u64 v100007s.count, .int .u64 v100007s.most] ++ flat (e2 .u8) v100007s.ring.1), 105, (0, 0)⟩ :: (zp ++ (zw ++ (v100006s_4B0 ++ (v100006s_5P0 ++ []))))))))) F ⟨(0 : Int), v100006s.1.player, v100006s.1.window, v100006s.1.sure.Frame, v100006s.1.sure.Seed, v100006s.1.sure.Players, v100006s.1.sure.Shots, v100006s.1.sure.Score, v100006s.1.own, v100006sa0, v100006sn0, v100006sc0, v100006sB0, v100006sa1, v100006sn1, v100006sc1, v100006sB1, h, v100006sN0, v100006sV0, v100006sN1, v100006sV1, rfl, rfl⟩ (ag3 rfl rfl rfl) pI ?_
 clear h
 rintro m100011 _ _ ⟨zai, zj, zk, zg, zh, zi, za, zf, zb, zs, zl, zt, zp, zz, zm, zaa, zw, h, zq, zr, zx, zy, rfl, rfl⟩
 rcases m100011 with _ | m100011
 ·rw [m_hindcastlaw28_works_L100010.eq_1] at h; cases h
 rw [m_hindcastlaw28_works_L100010.eq_2] at h
 refine wc_seq (wSR (wM 2 rfl (wNT (wcc h rfl ?_ ?_)))) <;> clear h <;> intro h
 ·refine wc_skip (wx_then (wc_seq (wc_block (wc_region (wM 1 rfl ?_)))))
  replace h := bsome h; obtain ⟨⟨zc, v100013⟩, x100013, h⟩ := h; try dsimp only at h
  refine wl_cs Tryz.call20 rfl rfl rfl (s_sp (k_rollback_Engine_Local (p0 := (T_rollback_Engine.mk zj zk (T_api_State.mk zg zh zi za zf) zb)) (p0_4 := v100006s.2.1) (p0_5 := v100006s.2.2) (p0t := 97) (p0_4b := zn) (p0_4t := 124) (p0_5b := zo) (p0_5t := 140) zq zr zx zy v100006s_4N0 v100006s_4V0 v100006s_5G0 v100006s_5A0 x100013) pP (fun _ _ => trivial)) rfl ?_
  rintro _ _ ⟨_, ⟨zbl, zbp, zbn, zbf, zbm, zbq, zbo, zbg, zbh, zbj, zbi, zbk, rfl, rfl⟩, rfl⟩
  refine wl_nil (wx_block (wx_then (wc_region (wM 3 rfl (wl_nil ?_)))))
  exact wx_round m100011 (Nat.lt_succ_self m100011) ⟨(IntKind.wrap .i64 (zai + (1 : Int))), zc.player, zc.window, zc.sure.Frame, zc.sure.Seed, zc.sure.Players, zc.sure.Shots, zc.sure.Score, zc.own, zbl, zbp, zbn, zbf, zbm, zbq, zbo, zbg, h, zbh, zbj, zbi, zbk, rfl, rfl⟩ (ag3 rfl rfl rfl) pI
 refine wc_exit (wx_then_exit ?_)
 simp only [Option.some.injEq, Prod.mk.injEq] at h
 obtain ⟨rfl, rfl, rfl, rfl, rfl, rfl, rfl, rfl⟩ := h
 have h := hl100011; clear hl100011; try dsimp only [orE_l, orE_r] at h
 refine wx_then_exit (wx_block_exit (wx_then (wSR ?_)))
 refine wM 1 rfl ?_
 replace h := bsome h; obtain ⟨⟨zu, zag, v100015⟩, x100015, h⟩ := h; try dsimp only at h
 refine wl_cs Tryz.call22 rfl rfl rfl (s_sp (k_rollback_Engine_Remote (p0 := (T_rollback_Engine.mk zj zk (T_api_State.mk zg zh zi za zf) zb)) (p0_4 := v100006s.2.1) (p0_5 := v100006s.2.2) (p0t := 97) (p0_4b := zn) (p0_4t := 124) (p0_5b := zo) (p0_5t := 140) zq zr zx zy v100006s_4N0 v100006s_4V0 v100006s_5G0 v100006s_5A0 x100015) pP (fun _ _ => trivial)) rfl ?_
 rintro _ _ ⟨_, ⟨zce, zcg, zcf, zcd, zci, zch, zbr, zbs, zbu, zbt, rfl, rfl⟩, rfl⟩
 refine wNT (wSR (wM 1 rfl ?_))
 replace h := bsome h; obtain ⟨⟨zd, zv, zah, zcy, zcz⟩, x100017, h⟩ := h; try dsimp only at h
 refine wl_cs Tryz.call23 rfl rfl rfl (s_sp (k_rollback_Engine_Confirm (p0 := (T_rollback_Engine.mk zj zk (T_api_State.mk zg zh zi za zf) zb)) (p0_4 := zu) (p0_5 := zag) (p0t := 97) (p0_4b := zn) (p0_4t := 124) (p0_5b := zo) (p0_5t := 140) zq zr zx zy zbr zbs zbu zbt x100017) pP (fun w hI => ⟨(Rds.call G0S pP rsub_nil) w hI, (Rds.call G1S pP rsub_nil) w hI⟩)) rfl ?_
 rintro _ _ ⟨_, ⟨zcl, zcp, zcn, zcj, zcm, zcq, zco, zck, zcs, zcu, zct, zcr, zcw, zcv, zaq, zas, zar, zat, zbv, zbw, zby, zbx, rfl, rfl⟩, rfl⟩
 refine wNT (wSR (wM 2 rfl ?_))
 replace h := bsome h; obtain ⟨⟨zcx, v100020⟩, x100020, h⟩ := h; try dsimp only at h
 refine wl_cs Tryz.call24 rfl rfl rfl (s_sp (k_fold_History_Add (p0t := 105) x100020) pP (fun _ _ => trivial)) rfl ?_
 rintro _ _ ⟨_, ⟨rfl, rfl⟩, rfl⟩
 refine wNT (wSR (wM 4 rfl (wNT (wc_ret (wx_inl (v := .tuple #[.pointer (some ⟨ze, 0, none⟩), .pointer (some ⟨zax, 0, none⟩)]) tt_ok (.inl rfl) Tryz.results14 (rs2 rfl rfl) rfl (wM 5 rfl (wNT (wc_seq (wSR (wM 6 rfl (wNT (wc_cond_false rfl (wc_skip (wx_then (wSR (wM 1 rfl ?_))))))))))))))))
 replace h := bsome h; obtain ⟨⟨zdq, zdr⟩, x17, h⟩ := h; try dsimp only at h
 refine wl_cq Tryz.call7 rfl rfl rfl (q_rd (k_backfill_Plan (p0t := 105) x17) pP (fun _ _ => trivial)) rfl ?_
 refine wM 5 rfl (wNT (wSR (wM 3 rfl ?_)))
 obtain ⟨v25, h, hg25⟩ := bsome h
 refine wls 22 h rfl ?_ ?_ <;> clear h <;> intro h
 ·refine wM 2 rfl ?_
  obtain rfl := sI h
  have h := hg25; clear hg25
  refine wM 2 rfl ?_
  replace h := bsome h; obtain ⟨⟨v34, zay, zaz, zba, zbb, zbc⟩, h, hg34⟩ := h
  refine wls 26 h rfl ?_ ?_ <;> clear h <;> intro h
  ·refine wM 4 rfl (wl_run rfl (wl_chg (chg_bsv (enc := (e2 .u8)) (xs := ([((2 : Int), (1 : Int)), ((2 : Int), (5 : Int))] : List (Int × Int))) tt_ok rfl rfl rfl rfl rfl rfl rfl rfl (e2_len _)) rfl ?_))
   rintro _ _ ⟨a31, n31_, c31, B31, rfl, N31, V31, rfl⟩
   replace h := bsome h; obtain ⟨⟨zaj, zak, v32⟩, x32, h⟩ := h; try dsimp only at h
   refine wl_run rfl (wl_cs Tryz.call15 rfl rfl rfl (s_sp (k_hindcastlaw28_pairs (p0 := zd) (p0_4 := zv) (p0_5 := zah) (p3 := ([((2 : Int), (1 : Int)), ((2 : Int), (5 : Int))] : List (Int × Int))) (p0t := 97) (p0_4b := zn) (p0_4t := 124) (p0_5b := zo) (p0_5t := 140) (p1t := 105) zaq zas zar zat zbv zbw zby zbx N31 (vec_cap V31) x32) pP (Rds.call (Rds.of_vec V31) pP ⟨_, hA'⟩)) rfl ?_)
   rintro _ _ ⟨_, ⟨zdb, zdd, zdc, zda, zdf, zde, zbz, zca, zcc, zcb, rfl, rfl⟩, rfl⟩
   refine wM 1 rfl ?_
   obtain ⟨rfl, rfl, rfl, rfl, rfl, rfl⟩ := pJ6 h
   have h := hg34; clear hg34; try dsimp only at h
   refine wM 2 rfl ?_
   obtain ⟨v39, h, hg39⟩ := bsome h
   refine wls 35 h rfl ?_ ?_ <;> clear h <;> intro h
   ·refine wM 1 rfl ?_
    obtain ⟨v37, x37, h⟩ := bsome h
    refine wl_run rfl (wl_cq Tryz.call16 rfl rfl rfl (q_rd (k_rollback_Engine_Known (p0 := zd) (p0_4 := zaj) (p0_5 := zak) (p0t := 97) (p0_4b := zn) (p0_4t := 124) (p0_5b := zo) (p0_5t := 140) zaq zas zar zat zbz zca zcc zcb x37) pP (fun _ _ => trivial)) rfl (wM 1 rfl ?_))
    obtain rfl := sI h
    have h := hg39; clear hg39
    refine wM 2 rfl ?_
    replace h := bsome h; obtain ⟨⟨v47, zab, zac, zad, zae, zaf⟩, h, hg47⟩ := h
    refine wls 40 h rfl ?_ ?_ <;> clear h <;> intro h
    ·refine wM 3 rfl (wl_run rfl (wl_chg (chg_bsv (enc := (e2 .u8)) (xs := ([((2 : Int), (3 : Int))] : List (Int × Int))) tt_ok rfl rfl rfl rfl rfl rfl rfl rfl (e2_len _)) rfl ?_))
     rintro _ _ ⟨a44, n44_, c44, B44, rfl, N44, V44, rfl⟩
     replace h := bsome h; obtain ⟨⟨zbd, zbe, v45⟩, x45, h⟩ := h; try dsimp only at h
     refine wl_run rfl (wl_cs Tryz.call15 rfl rfl rfl (s_sp (k_hindcastlaw28_pairs (p0 := zd) (p0_4 := zaj) (p0_5 := zak) (p3 := ([((2 : Int), (3 : Int))] : List (Int × Int))) (p0t := 97) (p0_4b := zn) (p0_4t := 124) (p0_5b := zo) (p0_5t := 140) (p1t := 105) zaq zas zar zat zbz zca zcc zcb N44 (vec_cap V44) x45) pP (Rds.call (Rds.of_vec V44) pP ⟨_, hA'⟩)) rfl ?_)
     rintro _ _ ⟨_, ⟨zdj, zdl, zdk, zdg, zdp, zdo, zdh, zdi, zdn, zdm, rfl, rfl⟩, rfl⟩
     refine wM 1 rfl ?_
     obtain ⟨rfl, rfl, rfl, rfl, rfl, rfl⟩ := pJ6 h
     have h := hg47; clear hg47; try dsimp only at h
     refine wM 2 rfl (wNT (wc_ret ?_))
     obtain rfl := sI h
     exact pE Tryz.results4 rfl
    refine wM 6 rfl ?_
    obtain ⟨rfl, rfl, rfl, rfl, rfl, rfl⟩ := pJ6 h
    have h := hg47; clear hg47; try dsimp only at h
    refine wM 2 rfl (wNT (wc_ret ?_))
    obtain rfl := sI h
    exact pE Tryz.results4 rfl
   refine wM 3 rfl ?_
   obtain rfl := sI h
   have h := hg39; clear hg39
   refine wM 2 rfl ?_
   replace h := bsome h; obtain ⟨⟨v47, zab, zac, zad, zae, zaf⟩, h, hg47⟩ := h
   replace h := cf rfl h
   refine wM 6 rfl ?_
   obtain ⟨rfl, rfl, rfl, rfl, rfl, rfl⟩ := pJ6 h
   have h := hg47; clear hg47; try dsimp only at h
   refine wM 2 rfl (wNT (wc_ret ?_))
   obtain rfl := sI h
   exact pE Tryz.results4 rfl
  refine wM 7 rfl ?_
  obtain ⟨rfl, rfl, rfl, rfl, rfl, rfl⟩ := pJ6 h
  have h := hg34; clear hg34; try dsimp only at h
  refine wM 2 rfl ?_
  obtain ⟨v39, h, hg39⟩ := bsome h
  replace h := cf rfl h
  refine wM 3 rfl ?_
  obtain rfl := sI h
  have h := hg39; clear hg39
  refine wM 2 rfl ?_
  replace h := bsome h; obtain ⟨⟨v47, zab, zac, zad, zae, zaf⟩, h, hg47⟩ := h
  replace h := cf rfl h
  refine wM 6 rfl ?_
  obtain ⟨rfl, rfl, rfl, rfl, rfl, rfl⟩ := pJ6 h
  have h := hg47; clear hg47; try dsimp only at h
  refine wM 2 rfl (wNT (wc_ret ?_))
  obtain rfl := sI h
  exact pE Tryz.results4 rfl
 refine wM 2 rfl ?_
 obtain rfl := sI h
 have h := hg25; clear hg25
 refine wM 2 rfl ?_
 replace h := bsome h; obtain ⟨⟨v34, zay, zaz, zba, zbb, zbc⟩, h, hg34⟩ := h
 replace h := cf rfl h
 refine wM 7 rfl ?_
 obtain ⟨rfl, rfl, rfl, rfl, rfl, rfl⟩ := pJ6 h
 have h := hg34; clear hg34; try dsimp only at h
 refine wM 2 rfl ?_
 obtain ⟨v39, h, hg39⟩ := bsome h
 replace h := cf rfl h
 refine wM 3 rfl ?_
 obtain rfl := sI h
 have h := hg39; clear hg39
 refine wM 2 rfl ?_
 replace h := bsome h; obtain ⟨⟨v47, zab, zac, zad, zae, zaf⟩, h, hg47⟩ := h
 replace h := cf rfl h
 refine wM 6 rfl ?_
 obtain ⟨rfl, rfl, rfl, rfl, rfl, rfl⟩ := pJ6 h
 have h := hg47; clear hg47; try dsimp only at h
 refine wM 2 rfl (wNT (wc_ret ?_))
 obtain rfl := sI h
 exact pE Tryz.results4 rfl

theorem k_hindcastlaw28_at {p0 : (List Int)} {p1 : Int} {r0 : Int} (p0N0 : p0n0 = p0.length) (p0H0 : p0n0 ≤ p0c0) (h : m_hindcastlaw28_at F p0 p1 = some r0) :
    Pf Tryz.prog 21 [.slice p0a0 p0n0 p0c0, .int .i64 p1] (fun w => Rds w [] [] p0a0 (flat (e1 .u8) p0)) (.int .u8 r0) := by
 unfold m_hindcastlaw28_at at h
 refine pf_of_wc Tryz.func21 rfl Tryz.ntmps21 rfl rfl (fun w0 hR => ?_)
 have p0S0 := hR
 refine wSR (wM 1 rfl (wNT (wc_seq (wSR (wM 2 rfl (wl_val (v := .int .i64 (p0.length : Int)) (val_len tt_ok rfl rfl p0N0) rfl (wM 1 rfl (wNT (wcc h rfl ?_ ?_))))))))) <;> clear h <;> intro h
 ·refine wSR (wM 2 rfl ?_)
  obtain ⟨v11, x11, h⟩ := bsome h
  refine wl_val (v := .pointer (some ((adOf p0a0).add (p1.toNat * 1 + 0)))) (val_ix (enc := (e1 .u8)) tt_ok rfl rfl rfl rfl p0N0 p0S0 (e1_len _) rfl x11) rfl ?_
  refine wl_val (v := .int .u8 v11) (val_le (enc := (e1 .u8)) (xs := p0) tt_ok rfl p0S0 rsub_nil (e1_len _) x11 rfl) rfl ?_
  refine wM 2 rfl (wNT (wc_ret (wx_then_ret ?_)))
  obtain rfl := sI h
  exact pE Tryz.results21 rfl
 refine wc_skip (wx_then (wSR (wM 1 rfl (wNT (wc_ret ?_)))))
 obtain rfl := sI h
 exact pE Tryz.results21 rfl

theorem k_hindcastlaw28_Setup_pair {p0 : T_hindcastlaw28_Setup} {p1 : Int} {r0 : (Int × Int)} (p0N0 : p0n0 = p0.Mine.length) (p0H0 : p0n0 ≤ p0c0) (p0N1 : p0n1 = p0.Theirs.length) (p0H1 : p0n1 ≤ p0c1) (h : m_hindcastlaw28_Setup_pair F p0 p1 = some r0) :
    Pf Tryz.prog 25 [.agg #[.int .u64 p0.Seed, .int .u8 p0.Player, .int .u8 p0.Window, .int .u8 p0.Sure, .int .u8 p0.Ahead, .int .u8 p0.Told, .int .u8 p0.From, .slice p0a0 p0n0 p0c0, .slice p0a1 p0n1 p0c1], .int .i64 p1] (fun w => Rds w [] [] p0a0 (flat (e1 .u8) p0.Mine) ∧ Rds w [] [] p0a1 (flat (e1 .u8) p0.Theirs)) (.agg #[.int .u8 r0.1, .int .u8 r0.2]) := by
 unfold m_hindcastlaw28_Setup_pair at h
 refine pf_of_wc Tryz.func25 rfl Tryz.ntmps25 rfl rfl (fun w0 hR => ?_)
 obtain ⟨p0S0, p0S1⟩ := hR
 refine wSR (wl_box rfl rfl rfl (fun b2 => (wl_alloc tt_ok rfl rfl (fun b4 => (wNT (wSR (wM 1 rfl (wl_alloc tt_ok rfl rfl (fun b5 => (lSt Upd.here ?_))))))))))
 refine wNT (wc_seq (wc_k2 (Ls := (⟨b5, [.int .u8 0, .int .u8 0], 54, (0, 0)⟩ :: (⟨b4, [.int .u8 0, .int .u8 0], 54, (0, 0)⟩ :: (⟨b2, [.int .u64 p0.Seed, .int .u8 p0.Player, .int .u8 p0.Window, .int .u8 p0.Sure, .int .u8 p0.Ahead, .int .u8 p0.Told, .int .u8 p0.From, .slice p0a0 p0n0 p0c0, .slice p0a1 p0n1 p0c1], 25, (0, 0)⟩ :: [])))) [6, 7, 8] [7, 8] [0, 1, 3, 0, 8, 0, 56, 127, 255] [0, 1, 2, 3, 4, 5, 6, 7, 8] (by kernel_rfl) (by kernel_rfl) (by kernel_rfl) (kM pI 1 rfl (k_val (v := .int .u8 p0.Player) rfl rfl rfl pI (val_load tt_ok rfl (mTT mH) rfl) rfl ?_))))
 refine kM pI 2 rfl (k_val (v := .slice p0a0 p0n0 p0c0) rfl rfl rfl pI (val_load tt_ok rfl (mTT mH) rfl) rfl (kM pI 1 rfl ?_))
 obtain ⟨v13, x13, h⟩ := bsome h
 refine k_cq rfl rfl rfl Tryz.call21 rfl rfl rfl (q_pf (k_hindcastlaw28_at (p0 := p0.Mine) p0N0 p0H0 x13) (Rds.call p0S0 pNil rsub_nil)) rfl pI ?_
 rcases Bool.eq_false_or_eq_true ((Int.tmod p0.Player 2) == (0 : Int)) with hx140 | hx140
 ·replace h := ct hx140 h
  refine k_chg rfl rfl rfl (Chg.of_val (v := .pointer (some ⟨b5, 0, none⟩)) (val_ia (j := 0) tt_ok rfl rfl rfl rfl (by simpa using hx140) rfl rfl)) rfl (.inl rfl) ?_
  rintro _ _ ⟨rfl, rfl⟩
  refine k_chg0 rfl rfl rfl (chg_store tt_ok rfl Upd.here rfl rfl rfl rfl rfl rfl) (.inl rfl) ?_
  rintro _ _ rfl
  refine k_end (by kernel_rfl) ?_
  refine wx_then (wc_seq (wc_k2 (Ls := (⟨b5, [.int .u8 v13, .int .u8 0], 54, (0, 0)⟩ :: (⟨b4, [.int .u8 0, .int .u8 0], 54, (0, 0)⟩ :: (⟨b2, [.int .u64 p0.Seed, .int .u8 p0.Player, .int .u8 p0.Window, .int .u8 p0.Sure, .int .u8 p0.Ahead, .int .u8 p0.Told, .int .u8 p0.From, .slice p0a0 p0n0 p0c0, .slice p0a1 p0n1 p0c1], 25, (0, 0)⟩ :: [])))) [7, 8, 9] [8, 9] [0, 1, 3, 7, 0, 16, 0, 112, 255, 511] [0, 1, 2, 3, 4, 5, 6, 7, 8, 9] (by kernel_rfl) (by kernel_rfl) (by kernel_rfl) (kM pI 1 rfl (k_val (v := .int .u8 p0.Player) rfl rfl rfl pI (val_load tt_ok rfl (mTT mH) rfl) rfl ?_))))
  refine kM pI 3 rfl (k_val (v := .slice p0a1 p0n1 p0c1) rfl rfl rfl pI (val_load tt_ok rfl (mTT mH) rfl) rfl (kM pI 1 rfl ?_))
  obtain ⟨v22, x22, h⟩ := bsome h
  refine k_cq rfl rfl rfl Tryz.call21 rfl rfl rfl (q_pf (k_hindcastlaw28_at (p0 := p0.Theirs) p0N1 p0H1 x22) (Rds.call p0S1 pNil rsub_nil)) rfl pI ?_
  rcases Bool.eq_false_or_eq_true ((IntKind.wrap .u8 ((1 : Int) - (Int.tmod p0.Player 2))) == (0 : Int)) with hx230 | hx230
  ·replace h := ct hx230 h
   refine k_chg rfl rfl rfl (Chg.of_val (v := .pointer (some ⟨b5, 0, none⟩)) (val_ia (j := 0) tt_ok rfl rfl rfl rfl (by simpa using hx230) rfl rfl)) rfl (.inl rfl) ?_
   rintro _ _ ⟨rfl, rfl⟩
   refine k_chg0 rfl rfl rfl (chg_store tt_ok rfl Upd.here rfl rfl rfl rfl rfl rfl) (.inl rfl) ?_
   rintro _ _ rfl
   refine k_end (by kernel_rfl) ?_
   refine wx_then (wSR (wLd (v := .agg #[.int .u8 v22, .int .u8 0]) rfl mH rfl rfl (lSt (Upd.there Upd.here) ?_)))
   refine wNT (wc_ret ?_)
   obtain rfl := sI h
   exact wx_pf tt_ok (.inl rfl) Tryz.results25 (Res.cell rfl (mT mH) rfl Res.nil) rfl
  replace h := cf hx230 h
  rcases Bool.eq_false_or_eq_true ((IntKind.wrap .u8 ((1 : Int) - (Int.tmod p0.Player 2))) == (1 : Int)) with hx231 | hx231
  ·replace h := ct hx231 h
   refine k_chg rfl rfl rfl (Chg.of_val (v := .pointer (some ⟨b5, 1, none⟩)) (val_ia (j := 1) tt_ok rfl rfl rfl rfl (by simpa using hx231) rfl rfl)) rfl (.inl rfl) ?_
   rintro _ _ ⟨rfl, rfl⟩
   refine k_chg0 rfl rfl rfl (chg_store tt_ok rfl Upd.here rfl rfl rfl rfl rfl rfl) (.inl rfl) ?_
   rintro _ _ rfl
   refine k_end (by kernel_rfl) ?_
   refine wx_then (wSR (wLd (v := .agg #[.int .u8 v13, .int .u8 v22]) rfl mH rfl rfl (lSt (Upd.there Upd.here) ?_)))
   refine wNT (wc_ret ?_)
   obtain rfl := sI h
   exact wx_pf tt_ok (.inl rfl) Tryz.results25 (Res.cell rfl (mT mH) rfl Res.nil) rfl
  replace h := cf hx231 h
  cases h
 replace h := cf hx140 h
 rcases Bool.eq_false_or_eq_true ((Int.tmod p0.Player 2) == (1 : Int)) with hx141 | hx141
 ·replace h := ct hx141 h
  refine k_chg rfl rfl rfl (Chg.of_val (v := .pointer (some ⟨b5, 1, none⟩)) (val_ia (j := 1) tt_ok rfl rfl rfl rfl (by simpa using hx141) rfl rfl)) rfl (.inl rfl) ?_
  rintro _ _ ⟨rfl, rfl⟩
  refine k_chg0 rfl rfl rfl (chg_store tt_ok rfl Upd.here rfl rfl rfl rfl rfl rfl) (.inl rfl) ?_
  rintro _ _ rfl
  refine k_end (by kernel_rfl) ?_
  refine wx_then (wc_seq (wc_k2 (Ls := (⟨b5, [.int .u8 0, .int .u8 v13], 54, (0, 0)⟩ :: (⟨b4, [.int .u8 0, .int .u8 0], 54, (0, 0)⟩ :: (⟨b2, [.int .u64 p0.Seed, .int .u8 p0.Player, .int .u8 p0.Window, .int .u8 p0.Sure, .int .u8 p0.Ahead, .int .u8 p0.Told, .int .u8 p0.From, .slice p0a0 p0n0 p0c0, .slice p0a1 p0n1 p0c1], 25, (0, 0)⟩ :: [])))) [7, 8, 9] [8, 9] [0, 1, 3, 7, 0, 16, 0, 112, 255, 511] [0, 1, 2, 3, 4, 5, 6, 7, 8, 9] (by kernel_rfl) (by kernel_rfl) (by kernel_rfl) (kM pI 1 rfl (k_val (v := .int .u8 p0.Player) rfl rfl rfl pI (val_load tt_ok rfl (mTT mH) rfl) rfl ?_))))
  refine kM pI 3 rfl (k_val (v := .slice p0a1 p0n1 p0c1) rfl rfl rfl pI (val_load tt_ok rfl (mTT mH) rfl) rfl (kM pI 1 rfl ?_))
  obtain ⟨v22, x22, h⟩ := bsome h
  refine k_cq rfl rfl rfl Tryz.call21 rfl rfl rfl (q_pf (k_hindcastlaw28_at (p0 := p0.Theirs) p0N1 p0H1 x22) (Rds.call p0S1 pNil rsub_nil)) rfl pI ?_
  rcases Bool.eq_false_or_eq_true ((IntKind.wrap .u8 ((1 : Int) - (Int.tmod p0.Player 2))) == (0 : Int)) with hx230 | hx230
  ·replace h := ct hx230 h
   refine k_chg rfl rfl rfl (Chg.of_val (v := .pointer (some ⟨b5, 0, none⟩)) (val_ia (j := 0) tt_ok rfl rfl rfl rfl (by simpa using hx230) rfl rfl)) rfl (.inl rfl) ?_
   rintro _ _ ⟨rfl, rfl⟩
   refine k_chg0 rfl rfl rfl (chg_store tt_ok rfl Upd.here rfl rfl rfl rfl rfl rfl) (.inl rfl) ?_
   rintro _ _ rfl
   refine k_end (by kernel_rfl) ?_
   refine wx_then (wSR (wLd (v := .agg #[.int .u8 v22, .int .u8 v13]) rfl mH rfl rfl (lSt (Upd.there Upd.here) ?_)))
   refine wNT (wc_ret ?_)
   obtain rfl := sI h
   exact wx_pf tt_ok (.inl rfl) Tryz.results25 (Res.cell rfl (mT mH) rfl Res.nil) rfl
  replace h := cf hx230 h
  rcases Bool.eq_false_or_eq_true ((IntKind.wrap .u8 ((1 : Int) - (Int.tmod p0.Player 2))) == (1 : Int)) with hx231 | hx231
  ·replace h := ct hx231 h
   refine k_chg rfl rfl rfl (Chg.of_val (v := .pointer (some ⟨b5, 1, none⟩)) (val_ia (j := 1) tt_ok rfl rfl rfl rfl (by simpa using hx231) rfl rfl)) rfl (.inl rfl) ?_
   rintro _ _ ⟨rfl, rfl⟩
   refine k_chg0 rfl rfl rfl (chg_store tt_ok rfl Upd.here rfl rfl rfl rfl rfl rfl) (.inl rfl) ?_
   rintro _ _ rfl
   refine k_end (by kernel_rfl) ?_
   refine wx_then (wSR (wLd (v := .agg #[.int .u8 0, .int .u8 v22]) rfl mH rfl rfl (lSt (Upd.there Upd.here) ?_)))
   refine wNT (wc_ret ?_)
   obtain rfl := sI h
   exact wx_pf tt_ok (.inl rfl) Tryz.results25 (Res.cell rfl (mT mH) rfl Res.nil) rfl
  replace h := cf hx231 h
  cases h
 replace h := cf hx141 h
 cases h

theorem k_fold_History_Drop {p0 : T_fold_History} {p1 : Int} {r0 : T_fold_History} (h : m_fold_History_Drop F p0 p1 = some r0) :
    SpD Tryz.prog 26 [.pointer (some ⟨p0b, 0, none⟩), .int .u64 p1] (⟨p0b, ([.int .u64 p0.from_, .int .u64 p0.count, .int .u64 p0.most] ++ flat (e2 .u8) p0.ring.1), p0t, (0, 0)⟩ :: []) (fun w => True) (fun v D => v = .tuple #[] ∧ D = fun F => (⟨p0b, ([.int .u64 r0.from_, .int .u64 r0.count, .int .u64 r0.most] ++ flat (e2 .u8) r0.ring.1), p0t, (0, 0)⟩ :: F)) := by
 unfold m_fold_History_Drop at h
 refine sp_of_wc Tryz.func26 rfl Tryz.ntmps26 rfl rfl (fun w0 hR => ?_)
 refine wSR (wM 1 rfl ?_)
 obtain ⟨v5, x5, h⟩ := bsome h
 refine wl_cq Tryz.call67 rfl rfl rfl (q_rd (k_fold_History_is (p0t := p0t) x5) pP (fun _ _ => trivial)) rfl ?_
 refine wNT (wcc h rfl ?_ ?_) <;> clear h <;> intro h
 ·refine wc_k2 (Ls := (⟨p0b, ([.int .u64 p0.from_, .int .u64 p0.count, .int .u64 p0.most] ++ flat (e2 .u8) p0.ring.1), p0t, (0, 0)⟩ :: [])) [14] [14] [0, 0, 2, 6, 14, 0, 0, 64, 192, 448, 992, 2046, 4095, 8191, 16383] [0, 1, 2, 3, 4, 5, 6, 7, 8, 9, 10, 11, 12, 13, 14] (by kernel_rfl) (by kernel_rfl) (by kernel_rfl) ?_
  refine kM pI 4 rfl (k_val (v := .int .u64 p0.from_) rfl rfl rfl pI (val_load tt_ok rfl mH rfl) rfl (kM pI 4 rfl (k_val (v := .int .u64 p0.count) rfl rfl rfl pI (val_load tt_ok rfl mH rfl) rfl (kM pI 4 rfl (k_chg0 rfl rfl rfl (chg_storep (pre := [.int .u64 p0.from_, .int .u64 p0.count, .int .u64 p0.most]) (pre' := [.int .u64 (max p0.from_ (min p1 p0.count)), .int .u64 p0.count, .int .u64 p0.most]) tt_ok rfl Upd.here rfl rfl rfl rfl rfl rfl (by intro h; cases h)) (.inl rfl) ?_)))))
  rintro _ _ rfl
  refine k_end (by kernel_rfl) ?_
  obtain rfl := sI h
  exact wx_spD tt_ok (.inr rfl) Tryz.results26 Res.nil ⟨rfl, rfl⟩ (fun F => by simp) pI
 refine wc_skip ?_
 obtain rfl := sI h
 exact wx_spD tt_ok (.inr rfl) Tryz.results26 Res.nil ⟨rfl, rfl⟩ (fun F => by simp) pI

theorem k_hindcastref08_Start {p0 : Int} {r0 : T_api_State} (h : m_hindcastref08_Start F p0 = some r0) :
    SpD Tryz.prog 28 [.int .u64 p0] [] (fun w => True) (fun v D => ∃ r0a0 r0n0 r0c0 r0B0, r0n0 = r0.Shots.length ∧ Own 119 6 r0a0 r0n0 r0c0 (flat c_T_api_Shot r0.Shots) r0B0 ∧ v = agS r0 r0a0 r0n0 r0c0 ∧ D = fun F => (r0B0 ++ F)) := by
 unfold m_hindcastref08_Start at h
 refine sp_of_wc Tryz.func28 rfl Tryz.ntmps28 rfl rfl (fun w0 hR => ?_)
 refine wSR (wl_alloc tt_ok rfl rfl (fun b2 => (wNT (wSR (wM 2 rfl (wl_alloc tt_ok rfl rfl (fun b3 => (lSt Upd.here ?_))))))))
 refine wNT (wSR (wM 2 rfl (wl_val (v := .pointer (some ⟨b3, 2, none⟩)) (val_ia (j := 0) tt_ok rfl rfl rfl rfl rfl rfl rfl) rfl (lSt Upd.here ?_))))
 refine wNT (wSR (wM 2 rfl (wl_val (v := .pointer (some ⟨b3, 9, none⟩)) (val_ia (j := 1) tt_ok rfl rfl rfl rfl rfl rfl rfl) rfl (lSt Upd.here ?_))))
 refine wNT (wSR (wLd (v := .agg #[.int .u64 0, .int .u64 p0, .int .i32 8192, .int .i32 14336, .int .i32 0, .int .i32 0, .int .u8 100, .int .u8 0, .int .u8 0, .int .i32 53248, .int .i32 14336, .int .i32 0, .int .i32 0, .int .u8 100, .int .u8 0, .int .u8 1, .slice none 0 0, .int .u16 0, .int .u16 0]) rfl mH rfl rfl (lSt (Upd.there Upd.here) ?_)))
 refine wNT (wc_ret ?_)
 obtain rfl := sI h
 exact wE Tryz.results28 (Res.cell rfl (mT mH) rfl Res.nil) ⟨none, 0, 0, [], rfl, Own.zero, rfl, rfl⟩ pI

theorem k_hindcastref08_in {p0 : Int} {p1 : Int} {p2 : Int} {r0 : Bool} (h : m_hindcastref08_in F p0 p1 p2 = some r0) :
    Pf Tryz.prog 120 [.int .i32 p0, .int .i32 p1, .int .i32 p2] (fun w => True) (.bool r0) := by
 unfold m_hindcastref08_in at h
 refine pf_of_wc Tryz.func120 rfl Tryz.ntmps120 rfl rfl (fun w0 hR => ?_)
 refine wSR (wM 1 rfl (wNT (wSR (wM 4 rfl ?_))))
 obtain ⟨v14, h, hg14⟩ := bsome h
 refine wls 10 h rfl ?_ ?_ <;> clear h <;> intro h
 ·refine wM 3 rfl ?_
  obtain rfl := sI h
  have h := hg14; clear hg14
  refine wM 2 rfl (wNT (wc_ret ?_))
  obtain rfl := sI h
  exact pE Tryz.results120 rfl
 refine wM 3 rfl ?_
 obtain rfl := sI h
 have h := hg14; clear hg14
 refine wM 2 rfl (wNT (wc_ret ?_))
 obtain rfl := sI h
 exact pE Tryz.results120 rfl

theorem k_hindcastref08_Player {p0 : T_api_Player} {r0 : Bool} (h : m_hindcastref08_Player F p0 = some r0) :
    Pf Tryz.prog 99 [agP p0] (fun w => True) (.bool r0) := by
 unfold m_hindcastref08_Player at h
 refine pf_of_wc Tryz.func99 rfl Tryz.ntmps99 rfl rfl (fun w0 hR => ?_)
 refine wSR (wl_box rfl rfl rfl (fun b1 => (wM 1 rfl (wNT (wSR (wM 1 rfl (wLd rfl mH rfl rfl ?_)))))))
 obtain ⟨v5, x5, h⟩ := bsome h
 refine wl_cq Tryz.call120 rfl rfl rfl (q_pf (k_hindcastref08_in x5) (fun _ _ => trivial)) rfl ?_
 refine wM 1 rfl ?_
 obtain ⟨v10, h, hg10⟩ := bsome h
 refine wls 6 h rfl ?_ ?_ <;> clear h <;> intro h
 ·refine wM 1 rfl (wl_run rfl (wLd rfl mH rfl rfl ?_))
  obtain ⟨v9, x9, h⟩ := bsome h
  refine wl_run rfl (wl_cq Tryz.call120 rfl rfl rfl (q_pf (k_hindcastref08_in x9) (fun _ _ => trivial)) rfl ?_)
  obtain rfl := sI h
  have h := hg10; clear hg10
  refine wM 2 rfl ?_
  obtain ⟨v15, h, hg15⟩ := bsome h
  refine wls 11 h rfl ?_ ?_ <;> clear h <;> intro h
  ·refine wM 1 rfl (wl_run rfl (wLd rfl mH rfl rfl ?_))
   obtain ⟨v14, x14, h⟩ := bsome h
   refine wl_run rfl (wl_cq Tryz.call120 rfl rfl rfl (q_pf (k_hindcastref08_in x14) (fun _ _ => trivial)) rfl ?_)
   obtain rfl := sI h
   have h := hg15; clear hg15
   refine wM 2 rfl ?_
   obtain ⟨v20, h, hg20⟩ := bsome h
   refine wls 16 h rfl ?_ ?_ <;> clear h <;> intro h
   ·refine wM 1 rfl (wl_run rfl (wLd rfl mH rfl rfl ?_))
    obtain ⟨v19, x19, h⟩ := bsome h
    refine wl_run rfl (wl_cq Tryz.call120 rfl rfl rfl (q_pf (k_hindcastref08_in x19) (fun _ _ => trivial)) rfl ?_)
    obtain rfl := sI h
    have h := hg20; clear hg20
    refine wM 2 rfl ?_
    obtain ⟨v25, h, hg25⟩ := bsome h
    refine wls 21 h rfl ?_ ?_ <;> clear h <;> intro h
    ·refine wM 1 rfl (wl_run rfl (wLd rfl mH rfl rfl (wM 1 rfl ?_)))
     obtain rfl := sI h
     have h := hg25; clear hg25
     refine wM 2 rfl ?_
     obtain ⟨v30, h, hg30⟩ := bsome h
     refine wls 26 h rfl ?_ ?_ <;> clear h <;> intro h
     ·refine wM 1 rfl (wl_run rfl (wLd rfl mH rfl rfl (wM 1 rfl ?_)))
      obtain rfl := sI h
      have h := hg30; clear hg30
      refine wM 2 rfl ?_
      obtain ⟨v35, h, hg35⟩ := bsome h
      refine wls 31 h rfl ?_ ?_ <;> clear h <;> intro h
      ·refine wM 1 rfl (wl_run rfl (wLd rfl mH rfl rfl (wM 1 rfl ?_)))
       obtain rfl := sI h
       have h := hg35; clear hg35
       refine wM 2 rfl ?_
       obtain ⟨v40, h, hg40⟩ := bsome h
       refine wls 36 h rfl ?_ ?_ <;> clear h <;> intro h
       ·refine wM 1 rfl (wl_run rfl (wLd rfl mH rfl rfl (wM 1 rfl ?_)))
        obtain rfl := sI h
        have h := hg40; clear hg40
        refine wM 2 rfl (wNT (wc_ret ?_))
        obtain rfl := sI h
        exact pE Tryz.results99 rfl
       refine wM 3 rfl ?_
       obtain rfl := sI h
       have h := hg40; clear hg40
       refine wM 2 rfl (wNT (wc_ret ?_))
       obtain rfl := sI h
       exact pE Tryz.results99 rfl
      refine wM 3 rfl ?_
      obtain rfl := sI h
      have h := hg35; clear hg35
      refine wM 2 rfl ?_
      obtain ⟨v40, h, hg40⟩ := bsome h
      replace h := cf rfl h
      refine wM 3 rfl ?_
      obtain rfl := sI h
      have h := hg40; clear hg40
      refine wM 2 rfl (wNT (wc_ret ?_))
      obtain rfl := sI h
      exact pE Tryz.results99 rfl
     refine wM 3 rfl ?_
     obtain rfl := sI h
     have h := hg30; clear hg30
     refine wM 2 rfl ?_
     obtain ⟨v35, h, hg35⟩ := bsome h
     replace h := cf rfl h
     refine wM 3 rfl ?_
     obtain rfl := sI h
     have h := hg35; clear hg35
     refine wM 2 rfl ?_
     obtain ⟨v40, h, hg40⟩ := bsome h
     replace h := cf rfl h
     refine wM 3 rfl ?_
     obtain rfl := sI h
     have h := hg40; clear hg40
     refine wM 2 rfl (wNT (wc_ret ?_))
     obtain rfl := sI h
     exact pE Tryz.results99 rfl
    refine wM 3 rfl ?_
    obtain rfl := sI h
    have h := hg25; clear hg25
    refine wM 2 rfl ?_
    obtain ⟨v30, h, hg30⟩ := bsome h
    replace h := cf rfl h
    refine wM 3 rfl ?_
    obtain rfl := sI h
    have h := hg30; clear hg30
    refine wM 2 rfl ?_
    obtain ⟨v35, h, hg35⟩ := bsome h
    replace h := cf rfl h
    refine wM 3 rfl ?_
    obtain rfl := sI h
    have h := hg35; clear hg35
    refine wM 2 rfl ?_
    obtain ⟨v40, h, hg40⟩ := bsome h
    replace h := cf rfl h
    refine wM 3 rfl ?_
    obtain rfl := sI h
    have h := hg40; clear hg40
    refine wM 2 rfl (wNT (wc_ret ?_))
    obtain rfl := sI h
    exact pE Tryz.results99 rfl
   refine wM 3 rfl ?_
   obtain rfl := sI h
   have h := hg20; clear hg20
   refine wM 2 rfl ?_
   obtain ⟨v25, h, hg25⟩ := bsome h
   replace h := cf rfl h
   refine wM 3 rfl ?_
   obtain rfl := sI h
   have h := hg25; clear hg25
   refine wM 2 rfl ?_
   obtain ⟨v30, h, hg30⟩ := bsome h
   replace h := cf rfl h
   refine wM 3 rfl ?_
   obtain rfl := sI h
   have h := hg30; clear hg30
   refine wM 2 rfl ?_
   obtain ⟨v35, h, hg35⟩ := bsome h
   replace h := cf rfl h
   refine wM 3 rfl ?_
   obtain rfl := sI h
   have h := hg35; clear hg35
   refine wM 2 rfl ?_
   obtain ⟨v40, h, hg40⟩ := bsome h
   replace h := cf rfl h
   refine wM 3 rfl ?_
   obtain rfl := sI h
   have h := hg40; clear hg40
   refine wM 2 rfl (wNT (wc_ret ?_))
   obtain rfl := sI h
   exact pE Tryz.results99 rfl
  refine wM 3 rfl ?_
  obtain rfl := sI h
  have h := hg15; clear hg15
  refine wM 2 rfl ?_
  obtain ⟨v20, h, hg20⟩ := bsome h
  replace h := cf rfl h
  refine wM 3 rfl ?_
  obtain rfl := sI h
  have h := hg20; clear hg20
  refine wM 2 rfl ?_
  obtain ⟨v25, h, hg25⟩ := bsome h
  replace h := cf rfl h
  refine wM 3 rfl ?_
  obtain rfl := sI h
  have h := hg25; clear hg25
  refine wM 2 rfl ?_
  obtain ⟨v30, h, hg30⟩ := bsome h
  replace h := cf rfl h
  refine wM 3 rfl ?_
  obtain rfl := sI h
  have h := hg30; clear hg30
  refine wM 2 rfl ?_
  obtain ⟨v35, h, hg35⟩ := bsome h
  replace h := cf rfl h
  refine wM 3 rfl ?_
  obtain rfl := sI h
  have h := hg35; clear hg35
  refine wM 2 rfl ?_
  obtain ⟨v40, h, hg40⟩ := bsome h
  replace h := cf rfl h
  refine wM 3 rfl ?_
  obtain rfl := sI h
  have h := hg40; clear hg40
  refine wM 2 rfl (wNT (wc_ret ?_))
  obtain rfl := sI h
  exact pE Tryz.results99 rfl
 refine wM 3 rfl ?_
 obtain rfl := sI h
 have h := hg10; clear hg10
 refine wM 2 rfl ?_
 obtain ⟨v15, h, hg15⟩ := bsome h
 replace h := cf rfl h
 refine wM 3 rfl ?_
 obtain rfl := sI h
 have h := hg15; clear hg15
 refine wM 2 rfl ?_
 obtain ⟨v20, h, hg20⟩ := bsome h
 replace h := cf rfl h
 refine wM 3 rfl ?_
 obtain rfl := sI h
 have h := hg20; clear hg20
 refine wM 2 rfl ?_
 obtain ⟨v25, h, hg25⟩ := bsome h
 replace h := cf rfl h
 refine wM 3 rfl ?_
 obtain rfl := sI h
 have h := hg25; clear hg25
 refine wM 2 rfl ?_
 obtain ⟨v30, h, hg30⟩ := bsome h
 replace h := cf rfl h
 refine wM 3 rfl ?_
 obtain rfl := sI h
 have h := hg30; clear hg30
 refine wM 2 rfl ?_
 obtain ⟨v35, h, hg35⟩ := bsome h
 replace h := cf rfl h
 refine wM 3 rfl ?_
 obtain rfl := sI h
 have h := hg35; clear hg35
 refine wM 2 rfl ?_
 obtain ⟨v40, h, hg40⟩ := bsome h
 replace h := cf rfl h
 refine wM 3 rfl ?_
 obtain rfl := sI h
 have h := hg40; clear hg40
 refine wM 2 rfl (wNT (wc_ret ?_))
 obtain rfl := sI h
 exact pE Tryz.results99 rfl

theorem k_hindcastref08_Shot {p0 : T_api_Shot} {r0 : Bool} (h : m_hindcastref08_Shot F p0 = some r0) :
    Pf Tryz.prog 100 [.agg #[.int .i32 p0.X, .int .i32 p0.Y, .int .i32 p0.VX, .int .i32 p0.VY, .int .u8 p0.Owner, .int .u8 p0.Life]] (fun w => True) (.bool r0) := by
 unfold m_hindcastref08_Shot at h
 refine pf_of_wc Tryz.func100 rfl Tryz.ntmps100 rfl rfl (fun w0 hR => ?_)
 refine wSR (wl_box rfl rfl rfl (fun b1 => (wM 1 rfl (wNT (wSR (wM 1 rfl (wLd rfl mH rfl rfl ?_)))))))
 obtain ⟨v5, x5, h⟩ := bsome h
 refine wl_cq Tryz.call120 rfl rfl rfl (q_pf (k_hindcastref08_in x5) (fun _ _ => trivial)) rfl ?_
 refine wM 1 rfl ?_
 obtain ⟨v10, h, hg10⟩ := bsome h
 refine wls 6 h rfl ?_ ?_ <;> clear h <;> intro h
 ·refine wM 1 rfl (wl_run rfl (wLd rfl mH rfl rfl ?_))
  obtain ⟨v9, x9, h⟩ := bsome h
  refine wl_run rfl (wl_cq Tryz.call120 rfl rfl rfl (q_pf (k_hindcastref08_in x9) (fun _ _ => trivial)) rfl ?_)
  obtain rfl := sI h
  have h := hg10; clear hg10
  refine wM 2 rfl ?_
  obtain ⟨v15, h, hg15⟩ := bsome h
  refine wls 11 h rfl ?_ ?_ <;> clear h <;> intro h
  ·refine wM 1 rfl (wl_run rfl (wLd rfl mH rfl rfl ?_))
   obtain ⟨v14, x14, h⟩ := bsome h
   refine wl_run rfl (wl_cq Tryz.call120 rfl rfl rfl (q_pf (k_hindcastref08_in x14) (fun _ _ => trivial)) rfl ?_)
   obtain rfl := sI h
   have h := hg15; clear hg15
   refine wM 2 rfl ?_
   obtain ⟨v20, h, hg20⟩ := bsome h
   refine wls 16 h rfl ?_ ?_ <;> clear h <;> intro h
   ·refine wM 1 rfl (wl_run rfl (wLd rfl mH rfl rfl ?_))
    obtain ⟨v19, x19, h⟩ := bsome h
    refine wl_run rfl (wl_cq Tryz.call120 rfl rfl rfl (q_pf (k_hindcastref08_in x19) (fun _ _ => trivial)) rfl ?_)
    obtain rfl := sI h
    have h := hg20; clear hg20
    refine wM 2 rfl ?_
    obtain ⟨v25, h, hg25⟩ := bsome h
    refine wls 21 h rfl ?_ ?_ <;> clear h <;> intro h
    ·refine wM 1 rfl (wl_run rfl (wLd rfl mH rfl rfl (wM 1 rfl ?_)))
     obtain rfl := sI h
     have h := hg25; clear hg25
     refine wM 2 rfl ?_
     obtain ⟨v30, h, hg30⟩ := bsome h
     refine wls 26 h rfl ?_ ?_ <;> clear h <;> intro h
     ·refine wM 1 rfl (wl_run rfl (wLd rfl mH rfl rfl (wM 1 rfl ?_)))
      obtain rfl := sI h
      have h := hg30; clear hg30
      refine wM 2 rfl ?_
      obtain ⟨v35, h, hg35⟩ := bsome h
      refine wls 31 h rfl ?_ ?_ <;> clear h <;> intro h
      ·refine wM 1 rfl (wl_run rfl (wLd rfl mH rfl rfl (wM 1 rfl ?_)))
       obtain rfl := sI h
       have h := hg35; clear hg35
       refine wM 2 rfl (wNT (wc_ret ?_))
       obtain rfl := sI h
       exact pE Tryz.results100 rfl
      refine wM 3 rfl ?_
      obtain rfl := sI h
      have h := hg35; clear hg35
      refine wM 2 rfl (wNT (wc_ret ?_))
      obtain rfl := sI h
      exact pE Tryz.results100 rfl
     refine wM 3 rfl ?_
     obtain rfl := sI h
     have h := hg30; clear hg30
     refine wM 2 rfl ?_
     obtain ⟨v35, h, hg35⟩ := bsome h
     replace h := cf rfl h
     refine wM 3 rfl ?_
     obtain rfl := sI h
     have h := hg35; clear hg35
     refine wM 2 rfl (wNT (wc_ret ?_))
     obtain rfl := sI h
     exact pE Tryz.results100 rfl
    refine wM 3 rfl ?_
    obtain rfl := sI h
    have h := hg25; clear hg25
    refine wM 2 rfl ?_
    obtain ⟨v30, h, hg30⟩ := bsome h
    replace h := cf rfl h
    refine wM 3 rfl ?_
    obtain rfl := sI h
    have h := hg30; clear hg30
    refine wM 2 rfl ?_
    obtain ⟨v35, h, hg35⟩ := bsome h
    replace h := cf rfl h
    refine wM 3 rfl ?_
    obtain rfl := sI h
    have h := hg35; clear hg35
    refine wM 2 rfl (wNT (wc_ret ?_))
    obtain rfl := sI h
    exact pE Tryz.results100 rfl
   refine wM 3 rfl ?_
   obtain rfl := sI h
   have h := hg20; clear hg20
   refine wM 2 rfl ?_
   obtain ⟨v25, h, hg25⟩ := bsome h
   replace h := cf rfl h
   refine wM 3 rfl ?_
   obtain rfl := sI h
   have h := hg25; clear hg25
   refine wM 2 rfl ?_
   obtain ⟨v30, h, hg30⟩ := bsome h
   replace h := cf rfl h
   refine wM 3 rfl ?_
   obtain rfl := sI h
   have h := hg30; clear hg30
   refine wM 2 rfl ?_
   obtain ⟨v35, h, hg35⟩ := bsome h
   replace h := cf rfl h
   refine wM 3 rfl ?_
   obtain rfl := sI h
   have h := hg35; clear hg35
   refine wM 2 rfl (wNT (wc_ret ?_))
   obtain rfl := sI h
   exact pE Tryz.results100 rfl
  refine wM 3 rfl ?_
  obtain rfl := sI h
  have h := hg15; clear hg15
  refine wM 2 rfl ?_
  obtain ⟨v20, h, hg20⟩ := bsome h
  replace h := cf rfl h
  refine wM 3 rfl ?_
  obtain rfl := sI h
  have h := hg20; clear hg20
  refine wM 2 rfl ?_
  obtain ⟨v25, h, hg25⟩ := bsome h
  replace h := cf rfl h
  refine wM 3 rfl ?_
  obtain rfl := sI h
  have h := hg25; clear hg25
  refine wM 2 rfl ?_
  obtain ⟨v30, h, hg30⟩ := bsome h
  replace h := cf rfl h
  refine wM 3 rfl ?_
  obtain rfl := sI h
  have h := hg30; clear hg30
  refine wM 2 rfl ?_
  obtain ⟨v35, h, hg35⟩ := bsome h
  replace h := cf rfl h
  refine wM 3 rfl ?_
  obtain rfl := sI h
  have h := hg35; clear hg35
  refine wM 2 rfl (wNT (wc_ret ?_))
  obtain rfl := sI h
  exact pE Tryz.results100 rfl
 refine wM 3 rfl ?_
 obtain rfl := sI h
 have h := hg10; clear hg10
 refine wM 2 rfl ?_
 obtain ⟨v15, h, hg15⟩ := bsome h
 replace h := cf rfl h
 refine wM 3 rfl ?_
 obtain rfl := sI h
 have h := hg15; clear hg15
 refine wM 2 rfl ?_
 obtain ⟨v20, h, hg20⟩ := bsome h
 replace h := cf rfl h
 refine wM 3 rfl ?_
 obtain rfl := sI h
 have h := hg20; clear hg20
 refine wM 2 rfl ?_
 obtain ⟨v25, h, hg25⟩ := bsome h
 replace h := cf rfl h
 refine wM 3 rfl ?_
 obtain rfl := sI h
 have h := hg25; clear hg25
 refine wM 2 rfl ?_
 obtain ⟨v30, h, hg30⟩ := bsome h
 replace h := cf rfl h
 refine wM 3 rfl ?_
 obtain rfl := sI h
 have h := hg30; clear hg30
 refine wM 2 rfl ?_
 obtain ⟨v35, h, hg35⟩ := bsome h
 replace h := cf rfl h
 refine wM 3 rfl ?_
 obtain rfl := sI h
 have h := hg35; clear hg35
 refine wM 2 rfl (wNT (wc_ret ?_))
 obtain rfl := sI h
 exact pE Tryz.results100 rfl

theorem k_hindcastref08_Check {p0 : T_api_State} {r0 : Int} (p0N0 : p0n0 = p0.Shots.length) (p0H0 : p0n0 ≤ p0c0) (h : m_hindcastref08_Check F p0 = some r0) :
    Pf Tryz.prog 68 [agS p0 p0a0 p0n0 p0c0] (fun w => Rds w [] [] p0a0 (flat c_T_api_Shot p0.Shots)) (.int .i64 r0) := by
 unfold m_hindcastref08_Check at h
 refine pf_of_wc Tryz.func68 rfl Tryz.ntmps68 rfl rfl (fun w0 hR => ?_)
 have p0S0 := hR
 refine wSR (wl_box rfl rfl rfl (fun b1 => (wM 1 rfl (wNT (wc_seq (wSR (wM 1 rfl (wLd rfl mH rfl rfl (wl_val (v := .int .i64 (p0.Shots.length : Int)) (val_len tt_ok rfl rfl p0N0) rfl (wM 2 rfl ?_))))))))))
 obtain ⟨v14, h, hg14⟩ := bsome h
 refine wls 8 h rfl ?_ ?_ <;> clear h <;> intro h
 ·refine wM 5 rfl ?_
  obtain rfl := sI h
  have h := hg14; clear hg14
  refine wM 2 rfl ?_
  obtain ⟨v21, h, hg21⟩ := bsome h
  replace h := ct rfl h
  refine wM 5 rfl ?_
  obtain rfl := sI h
  have h := hg21; clear hg21
  refine wM 1 rfl (wNT ?_)
  replace h := ct rfl h
  refine wc_cond_true rfl ?_
  refine wSR (wM 1 rfl (wNT (wc_ret (wx_then_ret ?_))))
  obtain rfl := sI h
  exact pE Tryz.results68 rfl
 refine wM 1 rfl (wl_run rfl (wl_val (v := .pointer (some ⟨b1, 2, none⟩)) (val_ia (j := 0) tt_ok rfl rfl rfl rfl rfl rfl rfl) rfl (wl_run rfl (wLd (v := agP p0.Players.1) rfl mH rfl rfl ?_))))
 obtain ⟨v12, x12, h⟩ := bsome h
 refine wl_run rfl (wl_cq Tryz.call99 rfl rfl rfl (q_pf (k_hindcastref08_Player x12) (fun _ _ => trivial)) rfl (wM 1 rfl ?_))
 obtain rfl := sI h
 have h := hg14; clear hg14
 refine wM 2 rfl ?_
 obtain ⟨v21, h, hg21⟩ := bsome h
 refine wls 15 h rfl ?_ ?_ <;> clear h <;> intro h
 ·refine wM 5 rfl ?_
  obtain rfl := sI h
  have h := hg21; clear hg21
  refine wM 1 rfl (wNT ?_)
  replace h := ct rfl h
  refine wc_cond_true rfl ?_
  refine wSR (wM 1 rfl (wNT (wc_ret (wx_then_ret ?_))))
  obtain rfl := sI h
  exact pE Tryz.results68 rfl
 refine wM 1 rfl (wl_run rfl (wl_val (v := .pointer (some ⟨b1, 9, none⟩)) (val_ia (j := 1) tt_ok rfl rfl rfl rfl rfl rfl rfl) rfl (wl_run rfl (wLd (v := agP p0.Players.2) rfl mH rfl rfl ?_))))
 obtain ⟨v19, x19, h⟩ := bsome h
 refine wl_run rfl (wl_cq Tryz.call99 rfl rfl rfl (q_pf (k_hindcastref08_Player x19) (fun _ _ => trivial)) rfl (wM 1 rfl ?_))
 obtain rfl := sI h
 have h := hg21; clear hg21
 refine wM 1 rfl (wNT (wcc h rfl ?_ ?_)) <;> clear h <;> intro h
 ·refine wSR (wM 1 rfl (wNT (wc_ret (wx_then_ret ?_))))
  obtain rfl := sI h
  exact pE Tryz.results68 rfl
 refine wc_skip (wx_then (wc_seq (wSR (wM 1 rfl (wNT (wc_block ?_))))))
 obtain ⟨o15, h, hl15⟩ := bsome h
 refine wc_loop (fun m E L => ∃ za, m_hindcastref08_Check_L14 F p0 m za = some o15 ∧ E = [(1, .pointer (some ⟨b1, 0, none⟩)), (2, .int .i64 0), (3, .int .i64 za)] ∧ L = (⟨b1, (st19 p0 p0a0 p0n0 p0c0 []), 64, (0, 0)⟩ :: [])) F ⟨(0 : Int), h, rfl, rfl⟩ (ag3 rfl rfl rfl) pI ?_
 clear h
 rintro m15 _ _ ⟨za, h, rfl, rfl⟩
 rcases m15 with _ | m15
 ·rw [m_hindcastref08_Check_L14.eq_1] at h; cases h
 rw [m_hindcastref08_Check_L14.eq_2] at h
 refine wc_seq (wSR (wM 2 rfl (wLd rfl mH rfl rfl (wl_val (v := .int .i64 (p0.Shots.length : Int)) (val_len tt_ok rfl rfl p0N0) rfl (wM 1 rfl (wNT (wcc h rfl ?_ ?_))))))) <;> clear h <;> intro h
 ·refine wc_skip (wx_then (wc_seq (wc_block (wSR (wM 1 rfl (wLd rfl mH rfl rfl (wM 1 rfl ?_)))))))
  obtain ⟨v32, x32, h⟩ := bsome h
  refine wl_val (v := .pointer (some ((adOf p0a0).add (za.toNat * 6 + 0)))) (val_ix (enc := c_T_api_Shot) tt_ok rfl rfl rfl rfl p0N0 p0S0 c_T_api_Shot_len rfl x32) rfl ?_
  refine wl_val (v := .agg #[.int .i32 v32.X, .int .i32 v32.Y, .int .i32 v32.VX, .int .i32 v32.VY, .int .u8 v32.Owner, .int .u8 v32.Life]) (val_le (enc := c_T_api_Shot) (xs := p0.Shots) tt_ok rfl p0S0 rsub_nil c_T_api_Shot_len x32 rfl) rfl ?_
  obtain ⟨v34, x34, h⟩ := bsome h
  refine wl_cq Tryz.call100 rfl rfl rfl (q_pf (k_hindcastref08_Shot x34) (fun _ _ => trivial)) rfl ?_
  refine wM 1 rfl (wNT (wcc h rfl ?_ ?_)) <;> clear h <;> intro h
  ·refine wSR (wM 1 rfl (wNT (wc_ret (wx_block_ret (wx_then_ret ?_)))))
   obtain rfl := Option.some.inj h
   have h := hl15; clear hl15; try dsimp only [orE_l, orE_r] at h
   refine wx_then_ret (wx_block_ret (wx_then_ret ?_))
   obtain rfl := sI h
   exact pE Tryz.results68 rfl
  refine wc_skip (wx_block (wx_then (wc_region (wM 3 rfl (wl_nil ?_)))))
  exact wx_round m15 (Nat.lt_succ_self m15) ⟨(IntKind.wrap .i64 (za + (1 : Int))), h, rfl, rfl⟩ (ag3 rfl rfl rfl) pI
 refine wc_exit (wx_then_exit ?_)
 obtain rfl := Option.some.inj h
 have h := hl15; clear hl15; try dsimp only [orE_l, orE_r] at h
 refine wx_then_exit (wx_block_exit (wx_then (wSR ?_)))
 refine wM 1 rfl (wNT (wc_ret ?_))
 obtain rfl := sI h
 exact pE Tryz.results68 rfl

theorem k_hindcastref08_Copy {p0 : T_api_State} {r0 : T_api_State} (p0N0 : p0n0 = p0.Shots.length) (p0H0 : p0n0 ≤ p0c0) (h : m_hindcastref08_Copy F p0 = some r0) :
    SpD Tryz.prog 69 [agS p0 p0a0 p0n0 p0c0] [] (fun w => Rds w (ids []) [] p0a0 (flat c_T_api_Shot p0.Shots)) (fun v D => ∃ r0a0 r0n0 r0c0 r0B0, r0n0 = r0.Shots.length ∧ Own 119 6 r0a0 r0n0 r0c0 (flat c_T_api_Shot r0.Shots) r0B0 ∧ v = agS r0 r0a0 r0n0 r0c0 ∧ D = fun F => (r0B0 ++ F)) := by
 unfold m_hindcastref08_Copy at h
 refine sp_of_wc Tryz.func69 rfl Tryz.ntmps69 rfl rfl (fun w0 hR => ?_)
 have p0S0 := hR
 refine wSR (wl_box rfl rfl rfl (fun b1 => (wl_alloc tt_ok rfl rfl (fun b2 => (wNT (wSR (wLd (v := agS p0 p0a0 p0n0 p0c0) rfl (mT mH) rfl rfl (wl_alloc tt_ok rfl rfl (fun b3 => ?_)))))))))
 refine lSt Upd.here ?_
 refine wNT (wSR (wM 1 rfl (lSt Upd.here ?_)))
 refine wNT (wSR (wM 1 rfl (wLd rfl mH rfl rfl (wM 1 rfl (wLd rfl (mTT mH) rfl rfl ?_)))))
 obtain ⟨v10, x10, h⟩ := bsome h
 refine wl_chg (chg_app (enc := c_T_api_Shot) (ys := p0.Shots) tt_ok rfl rfl rfl rfl rfl rfl rfl p0N0 Own.zero pNil p0S0 rsub_nil c_T_api_Shot_len (fun _ => rfl) rfl x10) rfl ?_
 rintro _ _ ⟨a10, n10_, c10, B10, rfl, N10, V10, rfl⟩
 refine wM 1 rfl (lSt (Upd.right Upd.here) ?_)
 refine wNT (wSR (wLd (v := agS p0 a10 n10_ c10) rfl (mR mH) rfl rfl (lSt (Upd.right (Upd.there Upd.here)) ?_)))
 refine wNT (wc_ret ?_)
 obtain rfl := sI h
 exact wE Tryz.results69 (Res.cell rfl (mR (mT mH)) rfl Res.nil) ⟨a10, n10_, c10, B10, N10, V10, rfl, rfl⟩ pI

theorem k_hindcastref24_New {p0 : Int} {r0 : T_hindcastref24_Queue} (h : m_hindcastref24_New F p0 = some r0) :
    SpD Tryz.prog 70 [.int .u64 p0] [] (fun w => True) (fun v D => ∃ r0b r0a0 r0n0 r0c0 r0B0, r0n0 = r0.L.length ∧ Own 52 1 r0a0 r0n0 r0c0 (flat (e1 .u8) r0.L) r0B0 ∧ v = .pointer (some ⟨r0b, 0, none⟩) ∧ D = fun F => (⟨r0b, [.int .u64 r0.Begin, .int .u64 r0.First, .slice r0a0 r0n0 r0c0], 117, (0, 0)⟩ :: (r0B0 ++ F))) := by
 unfold m_hindcastref24_New at h
 refine sp_of_wc Tryz.func70 rfl Tryz.ntmps70 rfl rfl (fun w0 hR => ?_)
 refine wSR (wM 1 rfl (wNT (wSR (wM 3 rfl (wl_box rfl rfl rfl (fun b6 => (wM 1 rfl (wNT (wc_ret ?_)))))))))
 obtain rfl := sI h
 exact wE Tryz.results70 (rs1 rfl) ⟨b6, none, 0, 0, [], rfl, Own.zero, rfl, rfl⟩ pI

theorem k_hindcastref26_New {p0 : T_api_State} {p1 : Int} {p2 : Int} {r0 : (T_hindcastref26_Engine × T_hindcastref24_Queue)} (p0N0 : p0n0 = p0.Shots.length) (p0H0 : p0n0 ≤ p0c0) (h : m_hindcastref26_New F p0 p1 p2 = some (some r0)) :
    SpD Tryz.prog 27 [agS p0 p0a0 p0n0 p0c0, .int .u8 p1, .int .i64 p2] [] (fun w => Rds w (ids []) [] p0a0 (flat c_T_api_Shot p0.Shots)) (fun v D => ∃ r0b r0b_4 r0a0 r0n0 r0c0 r0B0 r0a1 r0n1 r0c1 r0B1 r0_4a0 r0_4n0 r0_4c0 r0_4B0, r0n0 = r0.1.Sure.Shots.length ∧ Own 119 6 r0a0 r0n0 r0c0 (flat c_T_api_Shot r0.1.Sure.Shots) r0B0 ∧ r0n1 = r0.1.Own.length ∧ Own 52 1 r0a1 r0n1 r0c1 (flat (e1 .u8) r0.1.Own) r0B1 ∧ r0_4n0 = r0.2.L.length ∧ Own 52 1 r0_4a0 r0_4n0 r0_4c0 (flat (e1 .u8) r0.2.L) r0_4B0 ∧ v = .pointer (some ⟨r0b, 0, none⟩) ∧ D = fun F => (⟨r0b, (.int .u8 r0.1.Player :: .int .i64 r0.1.Window :: st19 r0.1.Sure r0a0 r0n0 r0c0 [.slice r0a1 r0n1 r0c1, .pointer (some ⟨r0b_4, 0, none⟩)]), 88, (0, 0)⟩ :: (r0B0 ++ (r0B1 ++ (⟨r0b_4, [.int .u64 r0.2.Begin, .int .u64 r0.2.First, .slice r0_4a0 r0_4n0 r0_4c0], 117, (0, 0)⟩ :: (r0_4B0 ++ F)))))) := by
 unfold m_hindcastref26_New at h
 refine sp_of_wc Tryz.func27 rfl Tryz.ntmps27 rfl rfl (fun w0 hR => ?_)
 have p0S0 := hR
 refine wSR (wl_box rfl rfl rfl (fun b3 => (wM 1 rfl (wNT (wc_seq (wSR (wLd (v := agS p0 p0a0 p0n0 p0c0) rfl mH rfl rfl ?_)))))))
 obtain ⟨v8, x8, h⟩ := bsome h
 refine wl_cq Tryz.call68 rfl rfl rfl (q_pf (k_hindcastref08_Check (p0 := p0) p0N0 p0H0 x8) (Rds.call p0S0 pNil rsub_nil)) rfl ?_
 refine wM 2 rfl ?_
 obtain ⟨v14, h, hg14⟩ := bsome h
 refine wls 10 h rfl ?_ ?_ <;> clear h <;> intro h
 ·refine wM 3 rfl ?_
  simp only [Option.some.injEq, Prod.mk.injEq] at h
  obtain rfl := h
  have h := hg14; clear hg14
  refine wM 2 rfl ?_
  obtain ⟨v18, h, hg18⟩ := bsome h
  replace h := ct rfl h
  refine wM 2 rfl ?_
  simp only [Option.some.injEq, Prod.mk.injEq] at h
  obtain rfl := h
  have h := hg18; clear hg18
  refine wM 2 rfl ?_
  obtain ⟨v22, h, hg22⟩ := bsome h
  replace h := ct rfl h
  refine wM 2 rfl ?_
  simp only [Option.some.injEq, Prod.mk.injEq] at h
  obtain rfl := h
  have h := hg22; clear hg22
  refine wM 2 rfl ?_
  obtain ⟨v26, h, hg26⟩ := bsome h
  replace h := ct rfl h
  refine wM 2 rfl ?_
  simp only [Option.some.injEq, Prod.mk.injEq] at h
  obtain rfl := h
  have h := hg26; clear hg26
  refine wM 1 rfl (wNT ?_)
  replace h := ct rfl h
  refine wc_cond_true rfl ?_
  refine wSR (wM 1 rfl (wNT (wc_ret (wx_then_ret ?_))))
  first | (cases h; done) | simp at h
 refine wM 1 rfl (wl_run rfl (wLd rfl mH rfl rfl (wM 1 rfl ?_)))
 simp only [Option.some.injEq, Prod.mk.injEq] at h
 obtain rfl := h
 have h := hg14; clear hg14
 refine wM 2 rfl ?_
 obtain ⟨v18, h, hg18⟩ := bsome h
 refine wls 15 h rfl ?_ ?_ <;> clear h <;> intro h
 ·refine wM 2 rfl ?_
  simp only [Option.some.injEq, Prod.mk.injEq] at h
  obtain rfl := h
  have h := hg18; clear hg18
  refine wM 2 rfl ?_
  obtain ⟨v22, h, hg22⟩ := bsome h
  replace h := ct rfl h
  refine wM 2 rfl ?_
  simp only [Option.some.injEq, Prod.mk.injEq] at h
  obtain rfl := h
  have h := hg22; clear hg22
  refine wM 2 rfl ?_
  obtain ⟨v26, h, hg26⟩ := bsome h
  replace h := ct rfl h
  refine wM 2 rfl ?_
  simp only [Option.some.injEq, Prod.mk.injEq] at h
  obtain rfl := h
  have h := hg26; clear hg26
  refine wM 1 rfl (wNT ?_)
  replace h := ct rfl h
  refine wc_cond_true rfl ?_
  refine wSR (wM 1 rfl (wNT (wc_ret (wx_then_ret ?_))))
  first | (cases h; done) | simp at h
 refine wM 2 rfl ?_
 simp only [Option.some.injEq, Prod.mk.injEq] at h
 obtain rfl := h
 have h := hg18; clear hg18
 refine wM 2 rfl ?_
 obtain ⟨v22, h, hg22⟩ := bsome h
 refine wls 19 h rfl ?_ ?_ <;> clear h <;> intro h
 ·refine wM 2 rfl ?_
  simp only [Option.some.injEq, Prod.mk.injEq] at h
  obtain rfl := h
  have h := hg22; clear hg22
  refine wM 2 rfl ?_
  obtain ⟨v26, h, hg26⟩ := bsome h
  replace h := ct rfl h
  refine wM 2 rfl ?_
  simp only [Option.some.injEq, Prod.mk.injEq] at h
  obtain rfl := h
  have h := hg26; clear hg26
  refine wM 1 rfl (wNT ?_)
  replace h := ct rfl h
  refine wc_cond_true rfl ?_
  refine wSR (wM 1 rfl (wNT (wc_ret (wx_then_ret ?_))))
  first | (cases h; done) | simp at h
 refine wM 2 rfl ?_
 simp only [Option.some.injEq, Prod.mk.injEq] at h
 obtain rfl := h
 have h := hg22; clear hg22
 refine wM 2 rfl ?_
 obtain ⟨v26, h, hg26⟩ := bsome h
 refine wls 23 h rfl ?_ ?_ <;> clear h <;> intro h
 ·refine wM 2 rfl ?_
  simp only [Option.some.injEq, Prod.mk.injEq] at h
  obtain rfl := h
  have h := hg26; clear hg26
  refine wM 1 rfl (wNT ?_)
  replace h := ct rfl h
  refine wc_cond_true rfl ?_
  refine wSR (wM 1 rfl (wNT (wc_ret (wx_then_ret ?_))))
  first | (cases h; done) | simp at h
 refine wM 2 rfl ?_
 simp only [Option.some.injEq, Prod.mk.injEq] at h
 obtain rfl := h
 have h := hg26; clear hg26
 refine wM 1 rfl (wNT (wcc h rfl ?_ ?_)) <;> clear h <;> intro h
 ·refine wSR (wM 1 rfl (wNT (wc_ret (wx_then_ret ?_))))
  first | (cases h; done) | simp at h
 refine wc_skip (wx_then (wc_seq (wc_k2 (Ls := (⟨b3, (st19 p0 p0a0 p0n0 p0c0 []), 64, (0, 0)⟩ :: [])) [3, 6, 7, 8, 9] [7, 8, 9] [0, 0, 0, 4, 0, 16, 60, 127, 255, 511] [0, 1, 2, 4, 5, 3, 6, 7, 8, 9] (by kernel_rfl) (by kernel_rfl) (by kernel_rfl) ?_)))
 refine kM pI 2 rfl (k_val (v := agS p0 p0a0 p0n0 p0c0) rfl rfl rfl pI (val_load tt_ok rfl mH rfl) rfl (kM pI 1 rfl (k_val (v := .int .u64 p0.Frame) rfl rfl rfl pI (val_load tt_ok rfl mH rfl) rfl ?_)))
 obtain ⟨v30, x30, h⟩ := bsome h
 refine k_cs rfl rfl rfl Tryz.call69 rfl rfl rfl (s_sp (k_hindcastref08_Copy (p0 := p0) p0N0 p0H0 x30) pNil (Rds.call p0S0 pNil rsub_nil)) rfl (.inr (by rintro _ _ ⟨_, ⟨_, _, _, _, _, _, rfl, rfl⟩, rfl⟩; exact ⟨_, pP⟩)) ?_
 rintro _ _ ⟨_, ⟨v30a0, v30n0, v30c0, v30B0, v30N0, v30V0, rfl, rfl⟩, rfl⟩
 obtain ⟨v33, x33, h⟩ := bsome h
 refine k_cs rfl rfl rfl Tryz.call70 rfl rfl rfl (s_sp (k_hindcastref24_New x33) pNil (fun _ _ => trivial)) rfl (.inr (by rintro _ _ ⟨_, ⟨_, _, _, _, _, _, _, rfl, rfl⟩, rfl⟩; exact ⟨_, pP⟩)) ?_
 rintro _ _ ⟨_, ⟨za, v33a0, v33n0, v33c0, v33B0, v33N0, v33V0, rfl, rfl⟩, rfl⟩
 refine k_chg rfl rfl rfl (Chg.of_val (v := .agg #[.int .u8 p1, .int .i64 p2, .int .u64 v30.Frame, .int .u64 v30.Seed, .int .i32 v30.Players.1.X, .int .i32 v30.Players.1.Y, .int .i32 v30.Players.1.VX, .int .i32 v30.Players.1.VY, .int .u8 v30.Players.1.Health, .int .u8 v30.Players.1.Cool, .int .u8 v30.Players.1.Face, .int .i32 v30.Players.2.X, .int .i32 v30.Players.2.Y, .int .i32 v30.Players.2.VX, .int .i32 v30.Players.2.VY, .int .u8 v30.Players.2.Health, .int .u8 v30.Players.2.Cool, .int .u8 v30.Players.2.Face, .slice v30a0 v30n0 v30c0, .int .u16 v30.Score.1, .int .u16 v30.Score.2, .slice none 0 0, .pointer (some ⟨za, 0, none⟩)]) (sV rfl)) rfl (.inl rfl) ?_
 rintro _ _ ⟨rfl, rfl⟩
 refine k_chg rfl rfl rfl (chg_box rfl rfl) rfl (.inl rfl) ?_
 rintro _ _ ⟨b35, rfl, rfl⟩
 refine k_chg rfl rfl rfl (Chg.of_val (sV rfl)) rfl (.inl rfl) ?_
 rintro _ _ ⟨rfl, rfl⟩
 refine k_end (by kernel_rfl) ?_
 refine wx_then (wc_ret ?_)
 simp only [Option.some.injEq] at h
 obtain rfl := h
 exact wE Tryz.results27 (rs1 rfl) ⟨b35, za, v30a0, v30n0, v30c0, v30B0, none, 0, 0, [], v33a0, v33n0, v33c0, v33B0, v30N0, v30V0, rfl, Own.zero, v33N0, v33V0, rfl, rfl⟩ pI

theorem k_hindcastref26_Engine_Local {p0 : T_hindcastref26_Engine} {p0_4 : T_hindcastref24_Queue} {p1 : Int} {r0 : T_hindcastref26_Engine} {r1 : Int} (p0N0 : p0n0 = p0.Sure.Shots.length) (p0V0 : Own 119 6 p0a0 p0n0 p0c0 (flat c_T_api_Shot p0.Sure.Shots) p0B0) (p0N1 : p0n1 = p0.Own.length) (p0V1 : Own 52 1 p0a1 p0n1 p0c1 (flat (e1 .u8) p0.Own) p0B1) (p0_4N0 : p0_4n0 = p0_4.L.length) (p0_4V0 : Own 52 1 p0_4a0 p0_4n0 p0_4c0 (flat (e1 .u8) p0_4.L) p0_4B0) (h : m_hindcastref26_Engine_Local F p0 p0_4 p1 = some (r0, r1)) :
    SpD Tryz.prog 29 [.pointer (some ⟨p0b, 0, none⟩), .int .u8 p1] (⟨p0b, (.int .u8 p0.Player :: .int .i64 p0.Window :: st19 p0.Sure p0a0 p0n0 p0c0 [.slice p0a1 p0n1 p0c1, .pointer (some ⟨p0_4b, 0, none⟩)]), p0t, (0, 0)⟩ :: (p0B0 ++ (p0B1 ++ (⟨p0_4b, [.int .u64 p0_4.Begin, .int .u64 p0_4.First, .slice p0_4a0 p0_4n0 p0_4c0], p0_4t, (0, 0)⟩ :: (p0_4B0 ++ []))))) (fun w => True) (fun v D => ∃ r0a0 r0n0 r0c0 r0B0 r0a1 r0n1 r0c1 r0B1, r0n0 = r0.Sure.Shots.length ∧ Own 119 6 r0a0 r0n0 r0c0 (flat c_T_api_Shot r0.Sure.Shots) r0B0 ∧ r0n1 = r0.Own.length ∧ Own 52 1 r0a1 r0n1 r0c1 (flat (e1 .u8) r0.Own) r0B1 ∧ v = .int .i64 r1 ∧ D = fun F => (⟨p0b, (.int .u8 r0.Player :: .int .i64 r0.Window :: st19 r0.Sure r0a0 r0n0 r0c0 [.slice r0a1 r0n1 r0c1, .pointer (some ⟨p0_4b, 0, none⟩)]), p0t, (0, 0)⟩ :: (r0B0 ++ (r0B1 ++ (⟨p0_4b, [.int .u64 p0_4.Begin, .int .u64 p0_4.First, .slice p0_4a0 p0_4n0 p0_4c0], p0_4t, (0, 0)⟩ :: (p0_4B0 ++ F)))))) := by
 unfold m_hindcastref26_Engine_Local at h
 refine sp_of_wc Tryz.func29 rfl Tryz.ntmps29 rfl rfl (fun w0 hR => ?_)
 refine wSR (wM 1 rfl (wNT (wc_seq (wSR (wM 2 rfl (wNT (wcc h rfl ?_ ?_))))))) <;> clear h <;> intro h
 ·refine wSR (wM 1 rfl (wNT (wc_ret (wx_then_ret ?_))))
  obtain ⟨rfl, rfl⟩ := pJ2 h
  exact wE Tryz.results29 (rs1 rfl) ⟨p0a0, p0n0, p0c0, p0B0, p0a1, p0n1, p0c1, p0B1, p0N0, p0V0, p0N1, p0V1, rfl, rfl⟩ pI
 refine wc_skip (wx_then (wc_seq (wc_seq (wc_quiet (by kernel_rfl) (by kernel_rfl) (qM 3 rfl (qLd rfl mH rfl rfl (wq_val (v := .int .i64 (p0.Own.length : Int)) (val_len tt_ok rfl rfl p0N1) rfl (qM 3 rfl (qLd rfl mH rfl rfl (qM 1 rfl (wq_nil (wx_then (wcc h rfl ?_ ?_))))))))))))) <;> clear h <;> intro h
 ·refine wSR (wM 1 rfl (wNT (wc_ret (wx_then_ret ?_))))
  obtain ⟨rfl, rfl⟩ := pJ2 h
  exact wE Tryz.results29 (rs1 rfl) ⟨p0a0, p0n0, p0c0, p0B0, p0a1, p0n1, p0c1, p0B1, p0N0, p0V0, p0N1, p0V1, rfl, rfl⟩ pI
 refine wc_skip (wx_then (wSR (wM 4 rfl (wLd rfl mH rfl rfl (wM 1 rfl (wl_chg (chg_bsv (enc := (e1 .u8)) (xs := ([p1] : List Int)) tt_ok rfl rfl rfl rfl rfl rfl rfl rfl (e1_len _)) rfl ?_))))))
 rintro _ _ ⟨a23, n23_, c23, B23, rfl, N23, V23, rfl⟩
 obtain ⟨v24, x24, h⟩ := bsome h
 refine wl_chg (chg_app (enc := (e1 .u8)) (ys := ([p1] : List Int)) tt_ok rfl rfl rfl rfl rfl rfl p0N1 N23 p0V1 (sA (sCA hA')) (Rds.of_vec V23) ⟨_, hA'⟩ (e1_len _) (fun _ => rfl) rfl x24) rfl ?_
 rintro _ _ ⟨a24, n24_, c24, B24, rfl, N24, V24, rfl⟩
 refine wM 2 rfl (lSt (Upd.right (Upd.right Upd.here)) ?_)
 refine wNT (wSR (wM 1 rfl (wNT (wc_ret ?_))))
 obtain ⟨rfl, rfl⟩ := pJ2 h
 exact wE Tryz.results29 (rs1 rfl) ⟨p0a0, p0n0, p0c0, p0B0, a24, n24_, c24, B24, p0N0, p0V0, N24, V24, rfl, rfl⟩ pI

theorem k_hindcastref24_Queue_Known {p0 : T_hindcastref24_Queue} {r0 : Int} (p0N0 : p0n0 = p0.L.length) (p0V0 : Own 52 1 p0a0 p0n0 p0c0 (flat (e1 .u8) p0.L) p0B0) (h : m_hindcastref24_Queue_Known F p0 = some r0) :
    Rd2 Tryz.prog 46 [.pointer (some ⟨p0b, 0, none⟩)] (⟨p0b, [.int .u64 p0.Begin, .int .u64 p0.First, .slice p0a0 p0n0 p0c0], p0t, (0, 0)⟩ :: (p0B0 ++ [])) (fun w => True) (.int .u64 r0) := by
 unfold m_hindcastref24_Queue_Known at h
 refine sp_of_wc Tryz.func46 rfl Tryz.ntmps46 rfl rfl (fun w0 hR => ?_)
 refine wSR (wM 1 rfl (wNT (wc_seq (wc_quiet (by kernel_rfl) (by kernel_rfl) (qM 3 rfl (qLd rfl mH rfl rfl (qM 3 rfl (qLd rfl mH rfl rfl (wq_val (v := .int .i64 (p0.L.length : Int)) (val_len tt_ok rfl rfl p0N0) rfl (qM 3 rfl (wq_nil (wx_then (wc_ret ?_)))))))))))))
 obtain rfl := sI h
 exact wx_rd tt_ok (.inl rfl) Tryz.results46 (rs1 rfl) pI rfl

theorem k_hindcastref24_Queue_At {p0 : T_hindcastref24_Queue} {p1 : Int} {r0 : Int} {r1 : Bool} (p0N0 : p0n0 = p0.L.length) (p0V0 : Own 52 1 p0a0 p0n0 p0c0 (flat (e1 .u8) p0.L) p0B0) (h : m_hindcastref24_Queue_At F p0 p1 = some (r0, r1)) :
    Rd2 Tryz.prog 76 [.pointer (some ⟨p0b, 0, none⟩), .int .u64 p1] (⟨p0b, [.int .u64 p0.Begin, .int .u64 p0.First, .slice p0a0 p0n0 p0c0], p0t, (0, 0)⟩ :: (p0B0 ++ [])) (fun w => True) (.tuple #[.int .u8 r0, .bool r1]) := by
 unfold m_hindcastref24_Queue_At at h
 refine sp_of_wc Tryz.func76 rfl Tryz.ntmps76 rfl rfl (fun w0 hR => ?_)
 refine wSR (wM 2 rfl (wNT (wc_seq (wSR (wM 4 rfl (wLd rfl mH rfl rfl (wM 2 rfl ?_)))))))
 obtain ⟨v17, h, hg17⟩ := bsome h
 refine wls 12 h rfl ?_ ?_ <;> clear h <;> intro h
 ·refine wM 4 rfl ?_
  obtain rfl := sI h
  have h := hg17; clear hg17
  refine wM 1 rfl (wNT ?_)
  replace h := ct rfl h
  refine wc_cond_true rfl ?_
  refine wSR (wM 2 rfl (wNT (wc_ret (wx_then_ret ?_))))
  obtain ⟨rfl, rfl⟩ := pJ2 h
  exact wx_rd tt_ok (.inl rfl) Tryz.results76 (rs2 rfl rfl) pI rfl
 refine wM 2 rfl ?_
 obtain ⟨v15, x15, h⟩ := bsome h
 refine wl_run rfl (wl_cq Tryz.call46 rfl rfl rfl (q_rd (k_hindcastref24_Queue_Known (p0 := p0) (p0t := p0t) p0N0 p0V0 x15) pP (fun _ _ => trivial)) rfl (wM 1 rfl ?_))
 obtain rfl := sI h
 have h := hg17; clear hg17
 refine wM 1 rfl (wNT (wcc h rfl ?_ ?_)) <;> clear h <;> intro h
 ·refine wSR (wM 2 rfl (wNT (wc_ret (wx_then_ret ?_))))
  obtain ⟨rfl, rfl⟩ := pJ2 h
  exact wx_rd tt_ok (.inl rfl) Tryz.results76 (rs2 rfl rfl) pI rfl
 refine wc_skip (wx_then (wc_seq (wc_quiet (by kernel_rfl) (by kernel_rfl) (qM 3 rfl (qLd rfl mH rfl rfl (qM 4 rfl (qLd rfl mH rfl rfl (qM 1 rfl ?_))))))))
 obtain ⟨v28, x28, h⟩ := bsome h
 refine wq_val (v := .pointer (some ((adOf p0a0).add ((IntKind.wrap .u64 (p1 - p0.Begin)).toNat * 1 + 0)))) (val_ix (enc := (e1 .u8)) tt_ok rfl rfl rfl rfl p0N0 (Rds.of_vec p0V0) (e1_len _) rfl x28) rfl ?_
 refine wq_val (v := .int .u8 v28) (val_le (enc := (e1 .u8)) (xs := p0.L) tt_ok rfl (Rds.of_vec p0V0) ⟨_, (sC hA')⟩ (e1_len _) x28 rfl) rfl ?_
 refine qM 2 rfl (wq_nil (wx_then (wc_ret ?_)))
 obtain ⟨rfl, rfl⟩ := pJ2 h
 exact wx_rd tt_ok (.inl rfl) Tryz.results76 (rs2 rfl rfl) pI rfl

theorem k_hindcastref24_Queue_Add {p0 : T_hindcastref24_Queue} {p1 : Int} {p2 : Int} {r0 : T_hindcastref24_Queue} {r1 : Int} (p0N0 : p0n0 = p0.L.length) (p0V0 : Own 52 1 p0a0 p0n0 p0c0 (flat (e1 .u8) p0.L) p0B0) (h : m_hindcastref24_Queue_Add F p0 p1 p2 = some (r0, r1)) :
    SpD Tryz.prog 71 [.pointer (some ⟨p0b, 0, none⟩), .int .u64 p1, .int .u8 p2] (⟨p0b, [.int .u64 p0.Begin, .int .u64 p0.First, .slice p0a0 p0n0 p0c0], p0t, (0, 0)⟩ :: (p0B0 ++ [])) (fun w => True) (fun v D => ∃ r0a0 r0n0 r0c0 r0B0, r0n0 = r0.L.length ∧ Own 52 1 r0a0 r0n0 r0c0 (flat (e1 .u8) r0.L) r0B0 ∧ v = .int .i64 r1 ∧ D = fun F => (⟨p0b, [.int .u64 r0.Begin, .int .u64 r0.First, .slice r0a0 r0n0 r0c0], p0t, (0, 0)⟩ :: (r0B0 ++ F))) := by
 unfold m_hindcastref24_Queue_Add at h
 refine sp_of_wc Tryz.func71 rfl Tryz.ntmps71 rfl rfl (fun w0 hR => ?_)
 refine wSR (wM 1 rfl (wNT (wc_seq (wSR (wM 2 rfl (wNT (wcc h rfl ?_ ?_))))))) <;> clear h <;> intro h
 ·refine wSR (wM 1 rfl (wNT (wc_ret (wx_then_ret ?_))))
  obtain ⟨rfl, rfl⟩ := pJ2 h
  exact wE Tryz.results71 (rs1 rfl) ⟨p0a0, p0n0, p0c0, p0B0, p0N0, p0V0, rfl, rfl⟩ pI
 refine wc_skip (wx_then (wc_seq (wSR (wM 4 rfl (wLd rfl mH rfl rfl (wM 1 rfl (wNT (wcc h rfl ?_ ?_)))))))) <;> clear h <;> intro h
 ·refine wSR (wM 1 rfl (wNT (wc_ret (wx_then_ret ?_))))
  obtain ⟨rfl, rfl⟩ := pJ2 h
  exact wE Tryz.results71 (rs1 rfl) ⟨p0a0, p0n0, p0c0, p0B0, p0N0, p0V0, rfl, rfl⟩ pI
 refine wc_skip (wx_then (wSR (wM 2 rfl ?_)))
 replace h := bsome h; obtain ⟨⟨za, zb⟩, x20, h⟩ := h; try dsimp only at h
 refine wl_cq Tryz.call76 rfl rfl rfl (q_rd (k_hindcastref24_Queue_At (p0 := p0) (p0t := p0t) p0N0 p0V0 x20) pP (fun _ _ => trivial)) rfl ?_
 refine wM 5 rfl (wNT (wc_seq (wSR (wM 2 rfl ?_))))
 obtain ⟨v28, h, hg28⟩ := bsome h
 refine wls 24 h rfl ?_ ?_ <;> clear h <;> intro h
 ·refine wM 3 rfl ?_
  obtain rfl := sI h
  have h := hg28; clear hg28
  refine wM 1 rfl (wNT (wcc h rfl ?_ ?_)) <;> clear h <;> intro h
  ·refine wSR (wM 1 rfl (wNT (wc_ret (wx_then_ret ?_))))
   obtain ⟨rfl, rfl⟩ := pJ2 h
   exact wE Tryz.results71 (rs1 rfl) ⟨p0a0, p0n0, p0c0, p0B0, p0N0, p0V0, rfl, rfl⟩ pI
  refine wc_skip (wx_then (wc_seq (wSR (wM 1 rfl (wNT (wcc h rfl ?_ ?_)))))) <;> clear h <;> intro h
  ·refine wSR (wM 1 rfl (wNT (wc_ret (wx_then_ret ?_))))
   obtain ⟨rfl, rfl⟩ := pJ2 h
   exact wE Tryz.results71 (rs1 rfl) ⟨p0a0, p0n0, p0c0, p0B0, p0N0, p0V0, rfl, rfl⟩ pI
  refine wc_skip (wx_then (wc_seq (wSR (wM 2 rfl ?_))))
  obtain ⟨v32, x32, h⟩ := bsome h
  refine wl_cq Tryz.call46 rfl rfl rfl (q_rd (k_hindcastref24_Queue_Known (p0 := p0) (p0t := p0t) p0N0 p0V0 x32) pP (fun _ _ => trivial)) rfl ?_
  refine wM 2 rfl ?_
  obtain ⟨v37, h, hg37⟩ := bsome h
  refine wls 34 h rfl ?_ ?_ <;> clear h <;> intro h
  ·refine wM 2 rfl ?_
   obtain rfl := sI h
   have h := hg37; clear hg37
   refine wM 1 rfl (wNT ?_)
   replace h := ct rfl h
   refine wc_cond_true rfl ?_
   refine wSR (wM 1 rfl (wNT (wc_ret (wx_then_ret ?_))))
   obtain ⟨rfl, rfl⟩ := pJ2 h
   exact wE Tryz.results71 (rs1 rfl) ⟨p0a0, p0n0, p0c0, p0B0, p0N0, p0V0, rfl, rfl⟩ pI
  refine wM 2 rfl ?_
  obtain rfl := sI h
  have h := hg37; clear hg37
  refine wM 1 rfl (wNT (wcc h rfl ?_ ?_)) <;> clear h <;> intro h
  ·refine wSR (wM 1 rfl (wNT (wc_ret (wx_then_ret ?_))))
   obtain ⟨rfl, rfl⟩ := pJ2 h
   exact wE Tryz.results71 (rs1 rfl) ⟨p0a0, p0n0, p0c0, p0B0, p0N0, p0V0, rfl, rfl⟩ pI
  refine wc_skip (wx_then (wc_seq (wc_seq (wc_quiet (by kernel_rfl) (by kernel_rfl) (qM 1 rfl ?_)))))
  obtain ⟨v39, x39, h⟩ := bsome h
  refine wq_cq Tryz.call46 rfl rfl rfl (q_rd (k_hindcastref24_Queue_Known (p0 := p0) (p0t := p0t) p0N0 p0V0 x39) pP (fun _ _ => trivial)) rfl ?_
  refine qM 3 rfl (qLd rfl mH rfl rfl (qM 2 rfl (wq_nil (wx_then (wcc h rfl ?_ ?_))))) <;> clear h <;> intro h
  ·refine wSR (wM 1 rfl (wNT (wc_ret (wx_then_ret ?_))))
   obtain ⟨rfl, rfl⟩ := pJ2 h
   exact wE Tryz.results71 (rs1 rfl) ⟨p0a0, p0n0, p0c0, p0B0, p0N0, p0V0, rfl, rfl⟩ pI
  refine wc_skip (wx_then (wSR (wM 4 rfl (wLd rfl mH rfl rfl (wM 1 rfl (wl_chg (chg_bsv (enc := (e1 .u8)) (xs := ([p2] : List Int)) tt_ok rfl rfl rfl rfl rfl rfl rfl rfl (e1_len _)) rfl ?_))))))
  rintro _ _ ⟨a52, n52_, c52, B52, rfl, N52, V52, rfl⟩
  obtain ⟨v53, x53, h⟩ := bsome h
  refine wl_chg (chg_app (enc := (e1 .u8)) (ys := ([p2] : List Int)) tt_ok rfl rfl rfl rfl rfl rfl p0N0 N52 p0V0 (sAC hA') (Rds.of_vec V52) ⟨_, hA'⟩ (e1_len _) (fun _ => rfl) rfl x53) rfl ?_
  rintro _ _ ⟨a53, n53_, c53, B53, rfl, N53, V53, rfl⟩
  refine wM 2 rfl (lSt (Upd.right (Upd.right Upd.here)) ?_)
  refine wNT (wSR (wM 1 rfl (wNT (wc_ret ?_))))
  obtain ⟨rfl, rfl⟩ := pJ2 h
  exact wE Tryz.results71 (rs1 rfl) ⟨a53, n53_, c53, B53, N53, V53, rfl, rfl⟩ pI
 refine wM 3 rfl ?_
 obtain rfl := sI h
 have h := hg28; clear hg28
 refine wM 1 rfl (wNT ?_)
 replace h := cf rfl h
 refine wc_cond_false rfl ?_
 refine wc_skip (wx_then (wc_seq (wSR (wM 1 rfl (wNT (wcc h rfl ?_ ?_)))))) <;> clear h <;> intro h
 ·refine wSR (wM 1 rfl (wNT (wc_ret (wx_then_ret ?_))))
  obtain ⟨rfl, rfl⟩ := pJ2 h
  exact wE Tryz.results71 (rs1 rfl) ⟨p0a0, p0n0, p0c0, p0B0, p0N0, p0V0, rfl, rfl⟩ pI
 refine wc_skip (wx_then (wc_seq (wSR (wM 2 rfl ?_))))
 obtain ⟨v32, x32, h⟩ := bsome h
 refine wl_cq Tryz.call46 rfl rfl rfl (q_rd (k_hindcastref24_Queue_Known (p0 := p0) (p0t := p0t) p0N0 p0V0 x32) pP (fun _ _ => trivial)) rfl ?_
 refine wM 2 rfl ?_
 obtain ⟨v37, h, hg37⟩ := bsome h
 refine wls 34 h rfl ?_ ?_ <;> clear h <;> intro h
 ·refine wM 2 rfl ?_
  obtain rfl := sI h
  have h := hg37; clear hg37
  refine wM 1 rfl (wNT ?_)
  replace h := ct rfl h
  refine wc_cond_true rfl ?_
  refine wSR (wM 1 rfl (wNT (wc_ret (wx_then_ret ?_))))
  obtain ⟨rfl, rfl⟩ := pJ2 h
  exact wE Tryz.results71 (rs1 rfl) ⟨p0a0, p0n0, p0c0, p0B0, p0N0, p0V0, rfl, rfl⟩ pI
 refine wM 2 rfl ?_
 obtain rfl := sI h
 have h := hg37; clear hg37
 refine wM 1 rfl (wNT (wcc h rfl ?_ ?_)) <;> clear h <;> intro h
 ·refine wSR (wM 1 rfl (wNT (wc_ret (wx_then_ret ?_))))
  obtain ⟨rfl, rfl⟩ := pJ2 h
  exact wE Tryz.results71 (rs1 rfl) ⟨p0a0, p0n0, p0c0, p0B0, p0N0, p0V0, rfl, rfl⟩ pI
 refine wc_skip (wx_then (wc_seq (wc_seq (wc_quiet (by kernel_rfl) (by kernel_rfl) (qM 1 rfl ?_)))))
 obtain ⟨v39, x39, h⟩ := bsome h
 refine wq_cq Tryz.call46 rfl rfl rfl (q_rd (k_hindcastref24_Queue_Known (p0 := p0) (p0t := p0t) p0N0 p0V0 x39) pP (fun _ _ => trivial)) rfl ?_
 refine qM 3 rfl (qLd rfl mH rfl rfl (qM 2 rfl (wq_nil (wx_then (wcc h rfl ?_ ?_))))) <;> clear h <;> intro h
 ·refine wSR (wM 1 rfl (wNT (wc_ret (wx_then_ret ?_))))
  obtain ⟨rfl, rfl⟩ := pJ2 h
  exact wE Tryz.results71 (rs1 rfl) ⟨p0a0, p0n0, p0c0, p0B0, p0N0, p0V0, rfl, rfl⟩ pI
 refine wc_skip (wx_then (wSR (wM 4 rfl (wLd rfl mH rfl rfl (wM 1 rfl (wl_chg (chg_bsv (enc := (e1 .u8)) (xs := ([p2] : List Int)) tt_ok rfl rfl rfl rfl rfl rfl rfl rfl (e1_len _)) rfl ?_))))))
 rintro _ _ ⟨a52, n52_, c52, B52, rfl, N52, V52, rfl⟩
 obtain ⟨v53, x53, h⟩ := bsome h
 refine wl_chg (chg_app (enc := (e1 .u8)) (ys := ([p2] : List Int)) tt_ok rfl rfl rfl rfl rfl rfl p0N0 N52 p0V0 (sAC hA') (Rds.of_vec V52) ⟨_, hA'⟩ (e1_len _) (fun _ => rfl) rfl x53) rfl ?_
 rintro _ _ ⟨a53, n53_, c53, B53, rfl, N53, V53, rfl⟩
 refine wM 2 rfl (lSt (Upd.right (Upd.right Upd.here)) ?_)
 refine wNT (wSR (wM 1 rfl (wNT (wc_ret ?_))))
 obtain ⟨rfl, rfl⟩ := pJ2 h
 exact wE Tryz.results71 (rs1 rfl) ⟨a53, n53_, c53, B53, N53, V53, rfl, rfl⟩ pI

theorem k_hindcastref26_Engine_Remote {p0 : T_hindcastref26_Engine} {p0_4 : T_hindcastref24_Queue} {p1 : Int} {p2 : Int} {r0 : T_hindcastref24_Queue} {r1 : Int} (p0N0 : p0n0 = p0.Sure.Shots.length) (p0V0 : Own 119 6 p0a0 p0n0 p0c0 (flat c_T_api_Shot p0.Sure.Shots) p0B0) (p0N1 : p0n1 = p0.Own.length) (p0V1 : Own 52 1 p0a1 p0n1 p0c1 (flat (e1 .u8) p0.Own) p0B1) (p0_4N0 : p0_4n0 = p0_4.L.length) (p0_4V0 : Own 52 1 p0_4a0 p0_4n0 p0_4c0 (flat (e1 .u8) p0_4.L) p0_4B0) (h : m_hindcastref26_Engine_Remote F p0 p0_4 p1 p2 = some (r0, r1)) :
    SpD Tryz.prog 30 [.pointer (some ⟨p0b, 0, none⟩), .int .u64 p1, .int .u8 p2] (⟨p0b, (.int .u8 p0.Player :: .int .i64 p0.Window :: st19 p0.Sure p0a0 p0n0 p0c0 [.slice p0a1 p0n1 p0c1, .pointer (some ⟨p0_4b, 0, none⟩)]), p0t, (0, 0)⟩ :: (p0B0 ++ (p0B1 ++ (⟨p0_4b, [.int .u64 p0_4.Begin, .int .u64 p0_4.First, .slice p0_4a0 p0_4n0 p0_4c0], p0_4t, (0, 0)⟩ :: (p0_4B0 ++ []))))) (fun w => True) (fun v D => ∃ r0a0 r0n0 r0c0 r0B0, r0n0 = r0.L.length ∧ Own 52 1 r0a0 r0n0 r0c0 (flat (e1 .u8) r0.L) r0B0 ∧ v = .int .i64 r1 ∧ D = fun F => (⟨p0b, (.int .u8 p0.Player :: .int .i64 p0.Window :: st19 p0.Sure p0a0 p0n0 p0c0 [.slice p0a1 p0n1 p0c1, .pointer (some ⟨p0_4b, 0, none⟩)]), p0t, (0, 0)⟩ :: (p0B0 ++ (p0B1 ++ (⟨p0_4b, [.int .u64 r0.Begin, .int .u64 r0.First, .slice r0a0 r0n0 r0c0], p0_4t, (0, 0)⟩ :: (r0B0 ++ F)))))) := by
 unfold m_hindcastref26_Engine_Remote at h
 refine sp_of_wc Tryz.func30 rfl Tryz.ntmps30 rfl rfl (fun w0 hR => ?_)
 refine wSR (wM 1 rfl (wNT (wSR (wM 3 rfl (wLd rfl mH rfl rfl (wM 2 rfl ?_))))))
 replace h := bsome h; obtain ⟨⟨za, v13⟩, x13, h⟩ := h; try dsimp only at h
 refine wl_cs Tryz.call71 rfl rfl rfl (s_sp (k_hindcastref24_Queue_Add (p0 := p0_4) (p0t := p0_4t) p0_4N0 p0_4V0 x13) pP (fun _ _ => trivial)) rfl ?_
 rintro _ _ ⟨_, ⟨ze, zg, zf, zb, zc, zd, rfl, rfl⟩, rfl⟩
 refine wM 1 rfl (wNT (wc_ret ?_))
 obtain ⟨rfl, rfl⟩ := pJ2 h
 exact wE Tryz.results30 (rs1 rfl) ⟨ze, zg, zf, zb, zc, zd, rfl, rfl⟩ pI

theorem k_hindcastref24_Queue_Guess {p0 : T_hindcastref24_Queue} {p1 : Int} {r0 : Int} (p0N0 : p0n0 = p0.L.length) (p0V0 : Own 52 1 p0a0 p0n0 p0c0 (flat (e1 .u8) p0.L) p0B0) (h : m_hindcastref24_Queue_Guess F p0 p1 = some r0) :
    Rd2 Tryz.prog 107 [.pointer (some ⟨p0b, 0, none⟩), .int .u64 p1] (⟨p0b, [.int .u64 p0.Begin, .int .u64 p0.First, .slice p0a0 p0n0 p0c0], p0t, (0, 0)⟩ :: (p0B0 ++ [])) (fun w => True) (.int .u8 r0) := by
 unfold m_hindcastref24_Queue_Guess at h
 refine sp_of_wc Tryz.func107 rfl Tryz.ntmps107 rfl rfl (fun w0 hR => ?_)
 refine wSR (wM 1 rfl (wNT (wSR (wM 2 rfl ?_))))
 replace h := bsome h; obtain ⟨⟨za, zb⟩, x10, h⟩ := h; try dsimp only at h
 refine wl_cq Tryz.call76 rfl rfl rfl (q_rd (k_hindcastref24_Queue_At (p0 := p0) (p0t := p0t) p0N0 p0V0 x10) pP (fun _ _ => trivial)) rfl ?_
 refine wM 5 rfl (wNT (wc_seq (wSR (wM 1 rfl (wNT (wcc h rfl ?_ ?_)))))) <;> clear h <;> intro h
 ·refine wSR (wM 2 rfl (wNT (wc_ret (wx_then_ret ?_))))
  obtain rfl := sI h
  exact wx_rd tt_ok (.inl rfl) Tryz.results107 (rs1 rfl) pI rfl
 refine wc_skip (wx_then (wc_seq (wSR (wM 3 rfl (wLd rfl mH rfl rfl (wl_val (v := .int .i64 (p0.L.length : Int)) (val_len tt_ok rfl rfl p0N0) rfl (wM 1 rfl (wNT (wcc h rfl ?_ ?_))))))))) <;> clear h <;> intro h
 ·refine wSR (wM 1 rfl (wNT (wc_ret (wx_then_ret ?_))))
  obtain rfl := sI h
  exact wx_rd tt_ok (.inl rfl) Tryz.results107 (rs1 rfl) pI rfl
 refine wc_skip (wx_then (wc_seq (wc_quiet (by kernel_rfl) (by kernel_rfl) (qM 3 rfl (qLd rfl mH rfl rfl (qM 3 rfl (qLd rfl mH rfl rfl (wq_val (v := .int .i64 (p0.L.length : Int)) (val_len tt_ok rfl rfl p0N0) rfl (qM 1 rfl ?_)))))))))
 obtain ⟨v31, x31, h⟩ := bsome h
 refine wq_val (v := .pointer (some ((adOf p0a0).add ((IntKind.wrap .i64 ((p0.L.length : Int) - (1 : Int))).toNat * 1 + 0)))) (val_ix (enc := (e1 .u8)) tt_ok rfl rfl rfl rfl p0N0 (Rds.of_vec p0V0) (e1_len _) rfl x31) rfl ?_
 refine wq_val (v := .int .u8 v31) (val_le (enc := (e1 .u8)) (xs := p0.L) tt_ok rfl (Rds.of_vec p0V0) ⟨_, (sC hA')⟩ (e1_len _) x31 rfl) rfl ?_
 refine qM 1 rfl (wq_nil (wx_then (wc_ret ?_)))
 obtain rfl := sI h
 exact wx_rd tt_ok (.inl rfl) Tryz.results107 (rs1 rfl) pI rfl

theorem k_hindcastref26_Engine_pair {p0 : T_hindcastref26_Engine} {p0_4 : T_hindcastref24_Queue} {p1 : Int} {r0 : (Int × Int)} (p0N0 : p0n0 = p0.Sure.Shots.length) (p0V0 : Own 119 6 p0a0 p0n0 p0c0 (flat c_T_api_Shot p0.Sure.Shots) p0B0) (p0N1 : p0n1 = p0.Own.length) (p0V1 : Own 52 1 p0a1 p0n1 p0c1 (flat (e1 .u8) p0.Own) p0B1) (p0_4N0 : p0_4n0 = p0_4.L.length) (p0_4V0 : Own 52 1 p0_4a0 p0_4n0 p0_4c0 (flat (e1 .u8) p0_4.L) p0_4B0) (h : m_hindcastref26_Engine_pair F p0 p0_4 p1 = some r0) :
    Rd2 Tryz.prog 77 [.pointer (some ⟨p0b, 0, none⟩), .int .u64 p1] (⟨p0b, (.int .u8 p0.Player :: .int .i64 p0.Window :: st19 p0.Sure p0a0 p0n0 p0c0 [.slice p0a1 p0n1 p0c1, .pointer (some ⟨p0_4b, 0, none⟩)]), p0t, (0, 0)⟩ :: (p0B0 ++ (p0B1 ++ (⟨p0_4b, [.int .u64 p0_4.Begin, .int .u64 p0_4.First, .slice p0_4a0 p0_4n0 p0_4c0], p0_4t, (0, 0)⟩ :: (p0_4B0 ++ []))))) (fun w => True) (.agg #[.int .u8 r0.1, .int .u8 r0.2]) := by
 unfold m_hindcastref26_Engine_pair at h
 refine sp_of_wc Tryz.func77 rfl Tryz.ntmps77 rfl rfl (fun w0 hR => ?_)
 refine wSR (wl_alloc tt_ok rfl rfl (fun b4 => (wNT (wSR (wM 1 rfl (wl_alloc tt_ok rfl rfl (fun b5 => (lSt Upd.here ?_))))))))
 refine wNT (wc_seq (wc_k2 (Ls := (⟨b5, [.int .u8 0, .int .u8 0], 54, (0, 0)⟩ :: (⟨b4, [.int .u8 0, .int .u8 0], 54, (0, 0)⟩ :: (⟨p0b, (.int .u8 p0.Player :: .int .i64 p0.Window :: st19 p0.Sure p0a0 p0n0 p0c0 [.slice p0a1 p0n1 p0c1, .pointer (some ⟨p0_4b, 0, none⟩)]), p0t, (0, 0)⟩ :: (p0B0 ++ (p0B1 ++ (⟨p0_4b, [.int .u64 p0_4.Begin, .int .u64 p0_4.First, .slice p0_4a0 p0_4n0 p0_4c0], p0_4t, (0, 0)⟩ :: (p0_4B0 ++ [])))))))) [18] [18] [0, 1, 3, 7, 0, 16, 48, 112, 0, 0, 512, 1536, 3584, 7680, 16128, 32752, 65520, 131071, 262143] [0, 1, 2, 3, 4, 5, 6, 7, 8, 9, 10, 11, 12, 13, 14, 15, 16, 17, 18] (by kernel_rfl) (by kernel_rfl) (by kernel_rfl) ?_))
 refine kM pI 3 rfl (k_val (v := .int .u8 p0.Player) rfl rfl rfl pI (val_load tt_ok rfl (mTT mH) rfl) rfl (kM pI 3 rfl (k_val (v := .slice p0a1 p0n1 p0c1) rfl rfl rfl pI (val_load tt_ok rfl (mTT mH) rfl) rfl ?_)))
 refine kM pI 5 rfl (k_val (v := .int .u64 p0.Sure.Frame) rfl rfl rfl pI (val_load tt_ok rfl (mTT mH) rfl) rfl (kM pI 1 rfl ?_))
 obtain ⟨v22, x22, h⟩ := bsome h
 refine k_val (v := .pointer (some ((adOf p0a1).add ((IntKind.wrap .u64 (p1 - p0.Sure.Frame)).toNat * 1 + 0)))) rfl rfl rfl pI (val_ix (enc := (e1 .u8)) tt_ok rfl rfl rfl rfl p0N1 (Rds.of_vec p0V1) (e1_len _) rfl x22) rfl (k_val (v := .int .u8 v22) rfl rfl rfl pI (val_le (enc := (e1 .u8)) (xs := p0.Own) tt_ok rfl (Rds.of_vec p0V1) ⟨_, (sCC (sCA hA'))⟩ (e1_len _) x22 rfl) rfl ?_)
 rcases Bool.eq_false_or_eq_true (p0.Player == (0 : Int)) with hx240 | hx240
 ·replace h := ct hx240 h
  refine k_val (v := .pointer (some ⟨b5, 0, none⟩)) rfl rfl rfl pI (val_ia (j := 0) tt_ok rfl rfl rfl rfl (by simpa using hx240) rfl rfl) rfl (k_chg0 rfl rfl rfl (chg_store tt_ok rfl Upd.here rfl rfl rfl rfl rfl rfl) (.inl rfl) ?_)
  rintro _ _ rfl
  refine k_end (by kernel_rfl) ?_
  refine wx_then (wc_seq (wc_k2 (Ls := (⟨b5, [.int .u8 v22, .int .u8 0], 54, (0, 0)⟩ :: (⟨b4, [.int .u8 0, .int .u8 0], 54, (0, 0)⟩ :: (⟨p0b, (.int .u8 p0.Player :: .int .i64 p0.Window :: st19 p0.Sure p0a0 p0n0 p0c0 [.slice p0a1 p0n1 p0c1, .pointer (some ⟨p0_4b, 0, none⟩)]), p0t, (0, 0)⟩ :: (p0B0 ++ (p0B1 ++ (⟨p0_4b, [.int .u64 p0_4.Begin, .int .u64 p0_4.First, .slice p0_4a0 p0_4n0 p0_4c0], p0_4t, (0, 0)⟩ :: (p0_4B0 ++ [])))))))) [10, 11, 12] [11, 12] [0, 1, 3, 7, 15, 0, 32, 96, 224, 0, 992, 2047, 4095] [0, 1, 2, 3, 4, 5, 6, 7, 8, 9, 10, 11, 12] (by kernel_rfl) (by kernel_rfl) (by kernel_rfl) ?_))
  refine kM pI 3 rfl (k_val (v := .int .u8 p0.Player) rfl rfl rfl pI (val_load tt_ok rfl (mTT mH) rfl) rfl (kM pI 4 rfl (k_val (v := .pointer (some ⟨p0_4b, 0, none⟩)) rfl rfl rfl pI (val_load tt_ok rfl (mTT mH) rfl) rfl ?_)))
  refine kM pI 1 rfl ?_
  obtain ⟨v35, x35, h⟩ := bsome h
  refine k_cq rfl rfl rfl Tryz.call107 rfl rfl rfl (q_rd (k_hindcastref24_Queue_Guess (p0 := p0_4) (p0t := p0_4t) p0_4N0 p0_4V0 x35) pP (fun _ _ => trivial)) rfl pI ?_
  rcases Bool.eq_false_or_eq_true ((IntKind.wrap .u8 ((1 : Int) - p0.Player)) == (0 : Int)) with hx360 | hx360
  ·replace h := ct hx360 h
   refine k_chg rfl rfl rfl (Chg.of_val (v := .pointer (some ⟨b5, 0, none⟩)) (val_ia (j := 0) tt_ok rfl rfl rfl rfl (by simpa using hx360) rfl rfl)) rfl (.inl rfl) ?_
   rintro _ _ ⟨rfl, rfl⟩
   refine k_chg0 rfl rfl rfl (chg_store tt_ok rfl Upd.here rfl rfl rfl rfl rfl rfl) (.inl rfl) ?_
   rintro _ _ rfl
   refine k_end (by kernel_rfl) ?_
   refine wx_then (wSR (wLd (v := .agg #[.int .u8 v35, .int .u8 0]) rfl mH rfl rfl (lSt (Upd.there Upd.here) ?_)))
   refine wNT (wc_ret ?_)
   obtain rfl := sI h
   exact wx_rd tt_ok (.inl rfl) Tryz.results77 (Res.cell rfl (mT mH) rfl Res.nil) pI rfl
  replace h := cf hx360 h
  rcases Bool.eq_false_or_eq_true ((IntKind.wrap .u8 ((1 : Int) - p0.Player)) == (1 : Int)) with hx361 | hx361
  ·replace h := ct hx361 h
   refine k_chg rfl rfl rfl (Chg.of_val (v := .pointer (some ⟨b5, 1, none⟩)) (val_ia (j := 1) tt_ok rfl rfl rfl rfl (by simpa using hx361) rfl rfl)) rfl (.inl rfl) ?_
   rintro _ _ ⟨rfl, rfl⟩
   refine k_chg0 rfl rfl rfl (chg_store tt_ok rfl Upd.here rfl rfl rfl rfl rfl rfl) (.inl rfl) ?_
   rintro _ _ rfl
   refine k_end (by kernel_rfl) ?_
   refine wx_then (wSR (wLd (v := .agg #[.int .u8 v22, .int .u8 v35]) rfl mH rfl rfl (lSt (Upd.there Upd.here) ?_)))
   refine wNT (wc_ret ?_)
   obtain rfl := sI h
   exact wx_rd tt_ok (.inl rfl) Tryz.results77 (Res.cell rfl (mT mH) rfl Res.nil) pI rfl
  replace h := cf hx361 h
  cases h
 replace h := cf hx240 h
 rcases Bool.eq_false_or_eq_true (p0.Player == (1 : Int)) with hx241 | hx241
 ·replace h := ct hx241 h
  refine k_val (v := .pointer (some ⟨b5, 1, none⟩)) rfl rfl rfl pI (val_ia (j := 1) tt_ok rfl rfl rfl rfl (by simpa using hx241) rfl rfl) rfl (k_chg0 rfl rfl rfl (chg_store tt_ok rfl Upd.here rfl rfl rfl rfl rfl rfl) (.inl rfl) ?_)
  rintro _ _ rfl
  refine k_end (by kernel_rfl) ?_
  refine wx_then (wc_seq (wc_k2 (Ls := (⟨b5, [.int .u8 0, .int .u8 v22], 54, (0, 0)⟩ :: (⟨b4, [.int .u8 0, .int .u8 0], 54, (0, 0)⟩ :: (⟨p0b, (.int .u8 p0.Player :: .int .i64 p0.Window :: st19 p0.Sure p0a0 p0n0 p0c0 [.slice p0a1 p0n1 p0c1, .pointer (some ⟨p0_4b, 0, none⟩)]), p0t, (0, 0)⟩ :: (p0B0 ++ (p0B1 ++ (⟨p0_4b, [.int .u64 p0_4.Begin, .int .u64 p0_4.First, .slice p0_4a0 p0_4n0 p0_4c0], p0_4t, (0, 0)⟩ :: (p0_4B0 ++ [])))))))) [10, 11, 12] [11, 12] [0, 1, 3, 7, 15, 0, 32, 96, 224, 0, 992, 2047, 4095] [0, 1, 2, 3, 4, 5, 6, 7, 8, 9, 10, 11, 12] (by kernel_rfl) (by kernel_rfl) (by kernel_rfl) ?_))
  refine kM pI 3 rfl (k_val (v := .int .u8 p0.Player) rfl rfl rfl pI (val_load tt_ok rfl (mTT mH) rfl) rfl (kM pI 4 rfl (k_val (v := .pointer (some ⟨p0_4b, 0, none⟩)) rfl rfl rfl pI (val_load tt_ok rfl (mTT mH) rfl) rfl ?_)))
  refine kM pI 1 rfl ?_
  obtain ⟨v35, x35, h⟩ := bsome h
  refine k_cq rfl rfl rfl Tryz.call107 rfl rfl rfl (q_rd (k_hindcastref24_Queue_Guess (p0 := p0_4) (p0t := p0_4t) p0_4N0 p0_4V0 x35) pP (fun _ _ => trivial)) rfl pI ?_
  rcases Bool.eq_false_or_eq_true ((IntKind.wrap .u8 ((1 : Int) - p0.Player)) == (0 : Int)) with hx360 | hx360
  ·replace h := ct hx360 h
   refine k_chg rfl rfl rfl (Chg.of_val (v := .pointer (some ⟨b5, 0, none⟩)) (val_ia (j := 0) tt_ok rfl rfl rfl rfl (by simpa using hx360) rfl rfl)) rfl (.inl rfl) ?_
   rintro _ _ ⟨rfl, rfl⟩
   refine k_chg0 rfl rfl rfl (chg_store tt_ok rfl Upd.here rfl rfl rfl rfl rfl rfl) (.inl rfl) ?_
   rintro _ _ rfl
   refine k_end (by kernel_rfl) ?_
   refine wx_then (wSR (wLd (v := .agg #[.int .u8 v35, .int .u8 v22]) rfl mH rfl rfl (lSt (Upd.there Upd.here) ?_)))
   refine wNT (wc_ret ?_)
   obtain rfl := sI h
   exact wx_rd tt_ok (.inl rfl) Tryz.results77 (Res.cell rfl (mT mH) rfl Res.nil) pI rfl
  replace h := cf hx360 h
  rcases Bool.eq_false_or_eq_true ((IntKind.wrap .u8 ((1 : Int) - p0.Player)) == (1 : Int)) with hx361 | hx361
  ·replace h := ct hx361 h
   refine k_chg rfl rfl rfl (Chg.of_val (v := .pointer (some ⟨b5, 1, none⟩)) (val_ia (j := 1) tt_ok rfl rfl rfl rfl (by simpa using hx361) rfl rfl)) rfl (.inl rfl) ?_
   rintro _ _ ⟨rfl, rfl⟩
   refine k_chg0 rfl rfl rfl (chg_store tt_ok rfl Upd.here rfl rfl rfl rfl rfl rfl) (.inl rfl) ?_
   rintro _ _ rfl
   refine k_end (by kernel_rfl) ?_
   refine wx_then (wSR (wLd (v := .agg #[.int .u8 0, .int .u8 v35]) rfl mH rfl rfl (lSt (Upd.there Upd.here) ?_)))
   refine wNT (wc_ret ?_)
   obtain rfl := sI h
   exact wx_rd tt_ok (.inl rfl) Tryz.results77 (Res.cell rfl (mT mH) rfl Res.nil) pI rfl
  replace h := cf hx361 h
  cases h
 replace h := cf hx241 h
 cases h

theorem k_hindcastref26_Engine_Next {p0 : T_hindcastref26_Engine} {p0_4 : T_hindcastref24_Queue} {r0 : (Int × Int)} {r1 : Bool} (p0N0 : p0n0 = p0.Sure.Shots.length) (p0V0 : Own 119 6 p0a0 p0n0 p0c0 (flat c_T_api_Shot p0.Sure.Shots) p0B0) (p0N1 : p0n1 = p0.Own.length) (p0V1 : Own 52 1 p0a1 p0n1 p0c1 (flat (e1 .u8) p0.Own) p0B1) (p0_4N0 : p0_4n0 = p0_4.L.length) (p0_4V0 : Own 52 1 p0_4a0 p0_4n0 p0_4c0 (flat (e1 .u8) p0_4.L) p0_4B0) (h : m_hindcastref26_Engine_Next F p0 p0_4 = some (r0, r1)) :
    Rd2 Tryz.prog 45 [.pointer (some ⟨p0b, 0, none⟩)] (⟨p0b, (.int .u8 p0.Player :: .int .i64 p0.Window :: st19 p0.Sure p0a0 p0n0 p0c0 [.slice p0a1 p0n1 p0c1, .pointer (some ⟨p0_4b, 0, none⟩)]), p0t, (0, 0)⟩ :: (p0B0 ++ (p0B1 ++ (⟨p0_4b, [.int .u64 p0_4.Begin, .int .u64 p0_4.First, .slice p0_4a0 p0_4n0 p0_4c0], p0_4t, (0, 0)⟩ :: (p0_4B0 ++ []))))) (fun w => True) (.tuple #[.agg #[.int .u8 r0.1, .int .u8 r0.2], .bool r1]) := by
 unfold m_hindcastref26_Engine_Next at h
 refine sp_of_wc Tryz.func45 rfl Tryz.ntmps45 rfl rfl (fun w0 hR => ?_)
 refine wSR (wl_alloc tt_ok rfl rfl (fun b2 => (wM 1 rfl (wNT (wc_seq (wc_quiet (by kernel_rfl) (by kernel_rfl) (qM 3 rfl (qLd rfl (mT mH) rfl rfl (qM 4 rfl (qLd rfl (mT mH) rfl rfl ?_))))))))))
 replace h := bsome h; obtain ⟨⟨za, zb⟩, x16, h⟩ := h; try dsimp only at h
 refine wq_cq Tryz.call76 rfl rfl rfl (q_rd (k_hindcastref24_Queue_At (p0 := p0_4) (p0t := p0_4t) p0_4N0 p0_4V0 x16) pP (fun _ _ => trivial)) rfl ?_
 refine qM 5 rfl (wq_nil (wx_then (wc_seq (wSR (wM 3 rfl (wLd rfl (mT mH) rfl rfl (wl_val (v := .int .i64 (p0.Own.length : Int)) (val_len tt_ok rfl rfl p0N1) rfl (wM 2 rfl ?_))))))))
 obtain ⟨v28, h, hg28⟩ := bsome h
 refine wls 25 h rfl ?_ ?_ <;> clear h <;> intro h
 ·refine wM 2 rfl ?_
  obtain rfl := sI h
  have h := hg28; clear hg28
  refine wM 1 rfl (wNT ?_)
  replace h := ct rfl h
  refine wc_cond_true rfl ?_
  refine wSR (wM 1 rfl (lSt Upd.here ?_))
  refine wM 1 rfl (wNT (wc_ret (wx_then_ret ?_)))
  obtain ⟨rfl, rfl⟩ := pJ2 h
  exact wx_rd tt_ok (.inl rfl) Tryz.results45 (Res.cell rfl mH rfl (rs1 rfl)) pI rfl
 refine wM 2 rfl ?_
 obtain rfl := sI h
 have h := hg28; clear hg28
 refine wM 1 rfl (wNT (wcc h rfl ?_ ?_)) <;> clear h <;> intro h
 ·refine wSR (wM 1 rfl (lSt Upd.here ?_))
  refine wM 1 rfl (wNT (wc_ret (wx_then_ret ?_)))
  obtain ⟨rfl, rfl⟩ := pJ2 h
  exact wx_rd tt_ok (.inl rfl) Tryz.results45 (Res.cell rfl mH rfl (rs1 rfl)) pI rfl
 refine wc_skip (wx_then (wSR (wM 5 rfl (wLd rfl (mT mH) rfl rfl ?_))))
 obtain ⟨v36, x36, h⟩ := bsome h
 refine wl_cq Tryz.call77 rfl rfl rfl (q_rd (k_hindcastref26_Engine_pair (p0 := p0) (p0_4 := p0_4) (p0t := p0t) (p0_4b := p0_4b) (p0_4t := p0_4t) p0N0 p0V0 p0N1 p0V1 p0_4N0 p0_4V0 x36) pP (fun _ _ => trivial)) rfl ?_
 refine lSt Upd.here ?_
 refine wM 1 rfl (wNT (wc_ret ?_))
 obtain ⟨rfl, rfl⟩ := pJ2 h
 exact wx_rd tt_ok (.inl rfl) Tryz.results45 (Res.cell rfl mH rfl (rs1 rfl)) pI rfl

theorem k_hindcastref06_Legal {p0 : Int} {r0 : Bool} (h : m_hindcastref06_Legal F p0 = some r0) :
    Pf Tryz.prog 101 [.int .u8 p0] (fun w => True) (.bool r0) := by
 unfold m_hindcastref06_Legal at h
 refine pf_of_wc Tryz.func101 rfl Tryz.ntmps101 rfl rfl (fun w0 hR => ?_)
 refine wSR (wM 1 rfl (wNT (wSR (wM 3 rfl (wNT (wc_ret ?_))))))
 obtain rfl := sI h
 exact pE Tryz.results101 rfl

theorem k_hindcastref06_bit {p0 : Int} {p1 : Int} {r0 : Bool} (h : m_hindcastref06_bit F p0 p1 = some r0) :
    Pf Tryz.prog 135 [.int .u8 p0, .int .i64 p1] (fun w => True) (.bool r0) := by
 unfold m_hindcastref06_bit at h
 refine pf_of_wc Tryz.func135 rfl Tryz.ntmps135 rfl rfl (fun w0 hR => ?_)
 refine wSR (wM 1 rfl (wNT (wSR (wM 3 rfl ?_))))
 obtain ⟨v8, x8, h⟩ := bsome h
 refine wl_val (v := .int .i64 v8) (val_shr rfl rfl x8) rfl ?_
 refine wM 3 rfl (wNT (wc_ret ?_))
 obtain rfl := sI h
 exact pE Tryz.results135 rfl

theorem k_hindcastref06_against {p0 : Bool} {p1 : Bool} {r0 : Int} (h : m_hindcastref06_against F p0 p1 = some r0) :
    Pf Tryz.prog 134 [.bool p0, .bool p1] (fun w => True) (.int .i32 r0) := by
 unfold m_hindcastref06_against at h
 refine pf_of_wc Tryz.func134 rfl Tryz.ntmps134 rfl rfl (fun w0 hR => ?_)
 refine wSR (wM 1 rfl (wNT (wc_seq (wSR (wM 2 rfl ?_)))))
 obtain ⟨v9, h, hg9⟩ := bsome h
 refine wls 6 h rfl ?_ ?_ <;> clear h <;> intro h
 ·refine wM 2 rfl ?_
  obtain rfl := sI h
  have h := hg9; clear hg9
  refine wM 1 rfl (wNT (wcc h rfl ?_ ?_)) <;> clear h <;> intro h
  ·refine wSR (wM 1 rfl (wNT (wc_ret (wx_then_ret ?_))))
   obtain rfl := sI h
   exact pE Tryz.results134 rfl
  refine wc_skip (wx_then (wc_seq (wSR (wM 2 rfl ?_))))
  obtain ⟨v14, h, hg14⟩ := bsome h
  refine wls 11 h rfl ?_ ?_ <;> clear h <;> intro h
  ·refine wM 2 rfl ?_
   obtain rfl := sI h
   have h := hg14; clear hg14
   refine wM 1 rfl (wNT (wcc h rfl ?_ ?_)) <;> clear h <;> intro h
   ·refine wSR (wM 1 rfl (wNT (wc_ret (wx_then_ret ?_))))
    obtain rfl := sI h
    exact pE Tryz.results134 rfl
   refine wc_skip (wx_then (wSR (wM 1 rfl (wNT (wc_ret ?_)))))
   obtain rfl := sI h
   exact pE Tryz.results134 rfl
  refine wM 2 rfl ?_
  obtain rfl := sI h
  have h := hg14; clear hg14
  refine wM 1 rfl (wNT ?_)
  replace h := cf rfl h
  refine wc_cond_false rfl ?_
  refine wc_skip (wx_then (wSR (wM 1 rfl (wNT (wc_ret ?_)))))
  obtain rfl := sI h
  exact pE Tryz.results134 rfl
 refine wM 2 rfl ?_
 obtain rfl := sI h
 have h := hg9; clear hg9
 refine wM 1 rfl (wNT ?_)
 replace h := cf rfl h
 refine wc_cond_false rfl ?_
 refine wc_skip (wx_then (wc_seq (wSR (wM 2 rfl ?_))))
 obtain ⟨v14, h, hg14⟩ := bsome h
 refine wls 11 h rfl ?_ ?_ <;> clear h <;> intro h
 ·refine wM 2 rfl ?_
  obtain rfl := sI h
  have h := hg14; clear hg14
  refine wM 1 rfl (wNT (wcc h rfl ?_ ?_)) <;> clear h <;> intro h
  ·refine wSR (wM 1 rfl (wNT (wc_ret (wx_then_ret ?_))))
   obtain rfl := sI h
   exact pE Tryz.results134 rfl
  refine wc_skip (wx_then (wSR (wM 1 rfl (wNT (wc_ret ?_)))))
  obtain rfl := sI h
  exact pE Tryz.results134 rfl
 refine wM 2 rfl ?_
 obtain rfl := sI h
 have h := hg14; clear hg14
 refine wM 1 rfl (wNT ?_)
 replace h := cf rfl h
 refine wc_cond_false rfl ?_
 refine wc_skip (wx_then (wSR (wM 1 rfl (wNT (wc_ret ?_)))))
 obtain rfl := sI h
 exact pE Tryz.results134 rfl

theorem k_hindcastref06_Dir {p0 : Int} {r0 : Int} {r1 : Int} (h : m_hindcastref06_Dir F p0 = some (r0, r1)) :
    Pf Tryz.prog 121 [.int .u8 p0] (fun w => True) (.tuple #[.int .i32 r0, .int .i32 r1]) := by
 unfold m_hindcastref06_Dir at h
 refine pf_of_wc Tryz.func121 rfl Tryz.ntmps121 rfl rfl (fun w0 hR => ?_)
 refine wSR (wM 2 rfl (wNT (wSR (wM 1 rfl ?_))))
 obtain ⟨v5, x5, h⟩ := bsome h
 refine wl_cq Tryz.call135 rfl rfl rfl (q_pf (k_hindcastref06_bit x5) (fun _ _ => trivial)) rfl ?_
 refine wM 1 rfl ?_
 obtain ⟨v7, x7, h⟩ := bsome h
 refine wl_cq Tryz.call135 rfl rfl rfl (q_pf (k_hindcastref06_bit x7) (fun _ _ => trivial)) rfl ?_
 obtain ⟨v8, x8, h⟩ := bsome h
 refine wl_cq Tryz.call134 rfl rfl rfl (q_pf (k_hindcastref06_against x8) (fun _ _ => trivial)) rfl ?_
 refine wM 1 rfl ?_
 obtain ⟨v10, x10, h⟩ := bsome h
 refine wl_cq Tryz.call135 rfl rfl rfl (q_pf (k_hindcastref06_bit x10) (fun _ _ => trivial)) rfl ?_
 refine wM 1 rfl ?_
 obtain ⟨v12, x12, h⟩ := bsome h
 refine wl_cq Tryz.call135 rfl rfl rfl (q_pf (k_hindcastref06_bit x12) (fun _ _ => trivial)) rfl ?_
 obtain ⟨v13, x13, h⟩ := bsome h
 refine wl_cq Tryz.call134 rfl rfl rfl (q_pf (k_hindcastref06_against x13) (fun _ _ => trivial)) rfl ?_
 refine wM 2 rfl (wNT (wc_ret ?_))
 obtain ⟨rfl, rfl⟩ := pJ2 h
 exact wx_pf tt_ok (.inl rfl) Tryz.results121 (rs2 rfl rfl) rfl

theorem k_hindcastref06_Dash {p0 : Int} {r0 : Bool} (h : m_hindcastref06_Dash F p0 = some r0) :
    Pf Tryz.prog 122 [.int .u8 p0] (fun w => True) (.bool r0) := by
 unfold m_hindcastref06_Dash at h
 refine pf_of_wc Tryz.func122 rfl Tryz.ntmps122 rfl rfl (fun w0 hR => ?_)
 refine wSR (wM 1 rfl (wNT (wSR (wM 1 rfl ?_))))
 obtain ⟨v4, x4, h⟩ := bsome h
 refine wl_cq Tryz.call135 rfl rfl rfl (q_pf (k_hindcastref06_bit x4) (fun _ _ => trivial)) rfl ?_
 refine wM 1 rfl (wNT (wc_ret ?_))
 obtain rfl := sI h
 exact pE Tryz.results122 rfl

theorem k_hindcastref09_speed {p0 : Int} {p1 : Int} {p2 : Bool} {r0 : Int} (h : m_hindcastref09_speed F p0 p1 p2 = some r0) :
    Pf Tryz.prog 123 [.int .i32 p0, .int .i32 p1, .bool p2] (fun w => True) (.int .i32 r0) := by
 unfold m_hindcastref09_speed at h
 refine pf_of_wc Tryz.func123 rfl Tryz.ntmps123 rfl rfl (fun w0 hR => ?_)
 refine wSR (wM 1 rfl (wNT (wc_seq (wSR (wM 2 rfl (wNT ?_))))))
 obtain ⟨zc, h, hj6⟩ := bsome h
 refine wc_join2 (fun E L => E = [(0, .int .i32 zc), (1, .int .i32 p1), (2, .bool p2), (6, .int .i32 0)] ∧ L = []) ?_ ?_
 ·refine wcc h rfl ?_ ?_ <;> clear h <;> intro h
  ·refine wc_region (wM 5 rfl (wl_nil ?_))
   obtain rfl := sI h
   exact wx_join ⟨rfl, rfl⟩ (ag4 rfl rfl rfl rfl) pI
  refine wc_skip ?_
  obtain rfl := sI h
  exact wx_join ⟨rfl, rfl⟩ (ag4 rfl rfl rfl rfl) pI
 rintro _ _ ⟨rfl, rfl⟩
 have h := hj6; clear hj6
 refine wc_seq (wSR (wM 2 rfl (wNT ?_)))
 obtain ⟨za, h, hj12⟩ := bsome h
 refine wc_join2 (fun E L => E = [(0, .int .i32 za), (2, .bool p2), (6, .int .i32 0)] ∧ L = []) ?_ ?_
 ·refine wcc h rfl ?_ ?_ <;> clear h <;> intro h
  ·refine wSR (wM 5 rfl (wNT (wSR (wM 3 rfl ?_))))
   obtain ⟨v24, h, hg24⟩ := bsome h
   refine wls 21 h rfl ?_ ?_ <;> clear h <;> intro h
   ·refine wM 2 rfl ?_
    obtain rfl := sI h
    have h := hg24; clear hg24
    refine wM 1 rfl (wNT (wcc h rfl ?_ ?_)) <;> clear h <;> intro h
    ·refine wc_region (wM 1 rfl (wl_nil ?_))
     obtain rfl := sI h
     exact wx_join ⟨rfl, rfl⟩ (ag3 rfl rfl rfl) pI
    refine wc_skip ?_
    obtain rfl := sI h
    exact wx_join ⟨rfl, rfl⟩ (ag3 rfl rfl rfl) pI
   refine wM 2 rfl ?_
   obtain rfl := sI h
   have h := hg24; clear hg24
   refine wM 1 rfl (wNT ?_)
   replace h := cf rfl h
   refine wc_cond_false rfl ?_
   refine wc_skip ?_
   obtain rfl := sI h
   exact wx_join ⟨rfl, rfl⟩ (ag3 rfl rfl rfl) pI
  refine wc_skip ?_
  obtain rfl := sI h
  exact wx_join ⟨rfl, rfl⟩ (ag3 rfl rfl rfl) pI
 rintro _ _ ⟨rfl, rfl⟩
 have h := hj12; clear hj12
 refine wc_seq (wSR (wM 1 rfl (wNT ?_)))
 obtain ⟨zb, h, hj24⟩ := bsome h
 refine wc_join2 (fun E L => E = [(0, .int .i32 zb), (6, .int .i32 0)] ∧ L = []) ?_ ?_
 ·refine wcc h rfl ?_ ?_ <;> clear h <;> intro h
  ·refine wc_region (wM 3 rfl (wl_nil ?_))
   obtain rfl := sI h
   exact wx_join ⟨rfl, rfl⟩ (ag2 rfl rfl) pI
  refine wc_skip ?_
  obtain rfl := sI h
  exact wx_join ⟨rfl, rfl⟩ (ag2 rfl rfl) pI
 rintro _ _ ⟨rfl, rfl⟩
 have h := hj24; clear hj24
 refine wc_seq (wSR (wM 2 rfl (wNT (wcc h rfl ?_ ?_)))) <;> clear h <;> intro h
 ·refine wSR (wM 1 rfl (wNT (wc_ret (wx_then_ret ?_))))
  obtain rfl := sI h
  exact pE Tryz.results123 rfl
 refine wc_skip (wx_then (wc_seq (wSR (wM 2 rfl (wNT (wcc h rfl ?_ ?_)))))) <;> clear h <;> intro h
 ·refine wSR (wM 1 rfl (wNT (wc_ret (wx_then_ret ?_))))
  obtain rfl := sI h
  exact pE Tryz.results123 rfl
 refine wc_skip (wx_then (wSR (wM 2 rfl (wNT (wc_ret ?_)))))
 obtain rfl := sI h
 exact pE Tryz.results123 rfl

theorem k_hindcastref09_one {p0 : T_api_Player} {p1 : Int} {r0 : T_api_Player} (h : m_hindcastref09_one F p0 p1 = some r0) :
    Pf Tryz.prog 102 [agP p0, .int .u8 p1] (fun w => True) (agP r0) := by
 unfold m_hindcastref09_one at h
 refine pf_of_wc Tryz.func102 rfl Tryz.ntmps102 rfl rfl (fun w0 hR => ?_)
 refine wSR (wl_box rfl rfl rfl (fun b2 => (wl_alloc tt_ok rfl rfl (fun b4 => (wNT (wSR (wM 1 rfl ?_)))))))
 replace h := bsome h; obtain ⟨⟨zb, zc⟩, x10, h⟩ := h; try dsimp only at h
 refine wl_cq Tryz.call121 rfl rfl rfl (q_pf (k_hindcastref06_Dir x10) (fun _ _ => trivial)) rfl ?_
 refine wM 5 rfl (wNT (wc_seq (wSR (wM 1 rfl (wLd rfl (mT mH) rfl rfl (wM 1 rfl (wNT ?_)))))))
 obtain ⟨ze, h, hj8⟩ := bsome h
 refine wc_join2 (fun E L => E = [(1, .int .u8 p1), (2, .pointer (some ⟨b2, 0, none⟩)), (4, .pointer (some ⟨b4, 0, none⟩)), (5, .int .i32 zb), (6, .int .i32 zc)] ∧ L = (⟨b2, (pl7 ze []), 58, (0, 0)⟩ :: (⟨b4, [.int .i32 0, .int .i32 0, .int .i32 0, .int .i32 0, .int .u8 0, .int .u8 0, .int .u8 0], 58, (0, 0)⟩ :: []))) ?_ ?_
 ·refine wcc h rfl ?_ ?_ <;> clear h <;> intro h
  ·refine wc_region (wM 1 rfl (wLd rfl (mT mH) rfl rfl (wM 2 rfl (lSt (Upd.there Upd.here) ?_))))
   refine wl_nil ?_
   obtain rfl := sI h
   exact wx_join ⟨rfl, rfl⟩ (ag5 rfl rfl rfl rfl rfl) pI
  refine wc_skip ?_
  obtain rfl := sI h
  exact wx_join ⟨rfl, rfl⟩ (ag5 rfl rfl rfl rfl rfl) pI
 rintro _ _ ⟨rfl, rfl⟩
 have h := hj8; clear hj8
 refine wc_seq (wSR (wM 2 rfl (wNT ?_)))
 obtain ⟨zd, h, hj14⟩ := bsome h
 refine wc_join2 (fun E L => E = [(1, .int .u8 p1), (2, .pointer (some ⟨b2, 0, none⟩)), (4, .pointer (some ⟨b4, 0, none⟩)), (5, .int .i32 zb), (6, .int .i32 zc)] ∧ L = (⟨b2, (pl7 zd []), 58, (0, 0)⟩ :: (⟨b4, [.int .i32 0, .int .i32 0, .int .i32 0, .int .i32 0, .int .u8 0, .int .u8 0, .int .u8 0], 58, (0, 0)⟩ :: []))) ?_ ?_
 ·refine wcc h rfl ?_ ?_ <;> clear h <;> intro h
  ·refine wc_region (wM 1 rfl (lSt Upd.here ?_))
   refine wl_nil ?_
   obtain rfl := sI h
   exact wx_join ⟨rfl, rfl⟩ (ag5 rfl rfl rfl rfl rfl) pI
  refine wSR (wM 2 rfl (wNT (wcc h rfl ?_ ?_))) <;> clear h <;> intro h
  ·refine wc_region (wM 1 rfl (lSt Upd.here ?_))
   refine wl_nil ?_
   obtain rfl := sI h
   exact wx_join ⟨rfl, rfl⟩ (ag5 rfl rfl rfl rfl rfl) pI
  refine wSR (wM 2 rfl (wNT (wcc h rfl ?_ ?_))) <;> clear h <;> intro h
  ·refine wc_region (wM 1 rfl (lSt Upd.here ?_))
   refine wl_nil ?_
   obtain rfl := sI h
   exact wx_join ⟨rfl, rfl⟩ (ag5 rfl rfl rfl rfl rfl) pI
  refine wSR (wM 2 rfl (wNT (wcc h rfl ?_ ?_))) <;> clear h <;> intro h
  ·refine wc_region (wM 1 rfl (lSt Upd.here ?_))
   refine wl_nil ?_
   obtain rfl := sI h
   exact wx_join ⟨rfl, rfl⟩ (ag5 rfl rfl rfl rfl rfl) pI
  refine wc_skip ?_
  obtain rfl := sI h
  exact wx_join ⟨rfl, rfl⟩ (ag5 rfl rfl rfl rfl rfl) pI
 rintro _ _ ⟨rfl, rfl⟩
 have h := hj14; clear hj14
 refine wSR (wM 1 rfl ?_)
 obtain ⟨v33, x33, h⟩ := bsome h
 refine wl_cq Tryz.call122 rfl rfl rfl (q_pf (k_hindcastref06_Dash x33) (fun _ _ => trivial)) rfl ?_
 refine wM 1 rfl ?_
 obtain ⟨v38, h, hg38⟩ := bsome h
 refine wls 34 h rfl ?_ ?_ <;> clear h <;> intro h
 ·refine wM 1 rfl (wl_run rfl (wLd rfl mH rfl rfl (wM 1 rfl ?_)))
  obtain rfl := sI h
  have h := hg38; clear hg38
  refine wM 2 rfl (wNT (wSR (wM 1 rfl (wLd rfl mH rfl rfl (wM 2 rfl ?_)))))
  obtain ⟨v43, x43, h⟩ := bsome h
  refine wl_cq Tryz.call123 rfl rfl rfl (q_pf (k_hindcastref09_speed x43) (fun _ _ => trivial)) rfl ?_
  refine wM 1 rfl (lSt Upd.here ?_)
  refine wNT (wSR (wM 1 rfl (wLd rfl mH rfl rfl (wM 2 rfl ?_))))
  obtain ⟨v49, x49, h⟩ := bsome h
  refine wl_cq Tryz.call123 rfl rfl rfl (q_pf (k_hindcastref09_speed x49) (fun _ _ => trivial)) rfl ?_
  refine wM 1 rfl (lSt Upd.here ?_)
  refine wNT (wc_seq (wSR (wM 1 rfl (wNT ?_))))
  obtain ⟨za, h, hj38⟩ := bsome h
  refine wc_join2 (fun E L => E = [(2, .pointer (some ⟨b2, 0, none⟩)), (4, .pointer (some ⟨b4, 0, none⟩))] ∧ L = (⟨b2, (pl7 za []), 58, (0, 0)⟩ :: (⟨b4, [.int .i32 0, .int .i32 0, .int .i32 0, .int .i32 0, .int .u8 0, .int .u8 0, .int .u8 0], 58, (0, 0)⟩ :: []))) ?_ ?_
  ·refine wcc h rfl ?_ ?_ <;> clear h <;> intro h
   ·refine wc_region (wM 1 rfl (lSt Upd.here ?_))
    refine wl_nil ?_
    obtain rfl := sI h
    exact wx_join ⟨rfl, rfl⟩ (ag2 rfl rfl) pI
   refine wc_skip ?_
   obtain rfl := sI h
   exact wx_join ⟨rfl, rfl⟩ (ag2 rfl rfl) pI
  rintro _ _ ⟨rfl, rfl⟩
  have h := hj38; clear hj38
  refine wSR (wLd (v := agP za) rfl mH rfl rfl (lSt (Upd.there Upd.here) ?_))
  refine wNT (wc_ret ?_)
  obtain rfl := sI h
  exact wx_pf tt_ok (.inl rfl) Tryz.results102 (Res.cell rfl (mT mH) rfl Res.nil) rfl
 refine wM 3 rfl ?_
 obtain rfl := sI h
 have h := hg38; clear hg38
 refine wM 2 rfl (wNT (wSR (wM 1 rfl (wLd rfl mH rfl rfl (wM 2 rfl ?_)))))
 obtain ⟨v43, x43, h⟩ := bsome h
 refine wl_cq Tryz.call123 rfl rfl rfl (q_pf (k_hindcastref09_speed x43) (fun _ _ => trivial)) rfl ?_
 refine wM 1 rfl (lSt Upd.here ?_)
 refine wNT (wSR (wM 1 rfl (wLd rfl mH rfl rfl (wM 2 rfl ?_))))
 obtain ⟨v49, x49, h⟩ := bsome h
 refine wl_cq Tryz.call123 rfl rfl rfl (q_pf (k_hindcastref09_speed x49) (fun _ _ => trivial)) rfl ?_
 refine wM 1 rfl (lSt Upd.here ?_)
 refine wNT (wc_seq (wSR (wM 1 rfl (wNT ?_))))
 obtain ⟨za, h, hj38⟩ := bsome h
 refine wc_join2 (fun E L => E = [(2, .pointer (some ⟨b2, 0, none⟩)), (4, .pointer (some ⟨b4, 0, none⟩))] ∧ L = (⟨b2, (pl7 za []), 58, (0, 0)⟩ :: (⟨b4, [.int .i32 0, .int .i32 0, .int .i32 0, .int .i32 0, .int .u8 0, .int .u8 0, .int .u8 0], 58, (0, 0)⟩ :: []))) ?_ ?_
 ·replace h := cf rfl h
  refine wc_cond_false rfl ?_
  refine wc_skip ?_
  obtain rfl := sI h
  exact wx_join ⟨rfl, rfl⟩ (ag2 rfl rfl) pI
 rintro _ _ ⟨rfl, rfl⟩
 have h := hj38; clear hj38
 refine wSR (wLd (v := agP za) rfl mH rfl rfl (lSt (Upd.there Upd.here) ?_))
 refine wNT (wc_ret ?_)
 obtain rfl := sI h
 exact wx_pf tt_ok (.inl rfl) Tryz.results102 (Res.cell rfl (mT mH) rfl Res.nil) rfl

theorem k_hindcastref06_Fire {p0 : Int} {r0 : Bool} (h : m_hindcastref06_Fire F p0 = some r0) :
    Pf Tryz.prog 124 [.int .u8 p0] (fun w => True) (.bool r0) := by
 unfold m_hindcastref06_Fire at h
 refine pf_of_wc Tryz.func124 rfl Tryz.ntmps124 rfl rfl (fun w0 hR => ?_)
 refine wSR (wM 1 rfl (wNT (wSR (wM 1 rfl ?_))))
 obtain ⟨v4, x4, h⟩ := bsome h
 refine wl_cq Tryz.call135 rfl rfl rfl (q_pf (k_hindcastref06_bit x4) (fun _ _ => trivial)) rfl ?_
 refine wM 1 rfl (wNT (wc_ret ?_))
 obtain rfl := sI h
 exact pE Tryz.results124 rfl

theorem k_hindcastref09_two_o0 {p0 : T_api_State} {p1 : (Int × Int)} {r0 : T_api_State} (p0N0 : p0n0 = p0.Shots.length) (p0V0 : Own 119 6 p0a0 p0n0 p0c0 (flat c_T_api_Shot p0.Shots) p0B0) (h : m_hindcastref09_two_o0 F p0 p1 = some r0) :
    SpD Tryz.prog 103 [agS p0 p0a0 p0n0 p0c0, .agg #[.int .u8 p1.1, .int .u8 p1.2]] (p0B0 ++ []) (fun w => True) (fun v D => ∃ r0a0 r0n0 r0c0 r0B0, r0n0 = r0.Shots.length ∧ Own 119 6 r0a0 r0n0 r0c0 (flat c_T_api_Shot r0.Shots) r0B0 ∧ v = agS r0 r0a0 r0n0 r0c0 ∧ D = fun F => (r0B0 ++ F)) := by
 unfold m_hindcastref09_two_o0 at h
 refine sp_of_wc Tryz.func103 rfl Tryz.ntmps103 rfl rfl (fun w0 hR => ?_)
 refine wSR (wl_box rfl rfl rfl (fun b2 => (wl_box rfl rfl rfl (fun b3 => (wl_alloc tt_ok rfl rfl (fun b4 => (wNT (wc_seq (wSR (wM 1 rfl (wNT (wc_block ?_))))))))))))
 replace h := bsome h; obtain ⟨⟨zj, zk⟩, h, hl7⟩ := h; try dsimp only at hl7
 refine wc_loop (fun m E L => ∃ zi zb za ze zc zf zg, m_hindcastref09_two_o0_L6 F p1 m zi zb za = some (zj, zk) ∧ zc = za.length ∧ Own 119 6 ze zc zf (flat c_T_api_Shot za) zg ∧ E = [(2, .pointer (some ⟨b2, 0, none⟩)), (3, .pointer (some ⟨b3, 0, none⟩)), (4, .pointer (some ⟨b4, 0, none⟩)), (5, .int .i64 zi)] ∧ L = (⟨b2, (.int .u64 p0.Frame :: .int .u64 p0.Seed :: pl14 zb [.slice ze zc zf, .int .u16 p0.Score.1, .int .u16 p0.Score.2]), 64, (0, 0)⟩ :: (⟨b3, [.int .u8 p1.1, .int .u8 p1.2], 54, (0, 0)⟩ :: (⟨b4, [.int .u64 0, .int .u64 0, .int .i32 0, .int .i32 0, .int .i32 0, .int .i32 0, .int .u8 0, .int .u8 0, .int .u8 0, .int .i32 0, .int .i32 0, .int .i32 0, .int .i32 0, .int .u8 0, .int .u8 0, .int .u8 0, .slice none 0 0, .int .u16 0, .int .u16 0], 64, (0, 0)⟩ :: (zg ++ []))))) F ⟨(0 : Int), p0.Players, p0.Shots, p0a0, p0n0, p0c0, p0B0, h, p0N0, p0V0, rfl, rfl⟩ (ag4 rfl rfl rfl rfl) pI ?_
 clear h
 rintro m7 _ _ ⟨zi, zb, za, ze, zc, zf, zg, h, zd, zh, rfl, rfl⟩
 rcases m7 with _ | m7
 ·rw [m_hindcastref09_two_o0_L6.eq_1] at h; cases h
 rw [m_hindcastref09_two_o0_L6.eq_2] at h
 refine wc_seq (wSR (wM 2 rfl (wNT (wcc h rfl ?_ ?_)))) <;> clear h <;> intro h
 ·refine wc_skip (wx_then (wc_seq (wc_block (wSR (wM 2 rfl ?_)))))
  rcases Bool.eq_false_or_eq_true (zi == (0 : Int)) with hx140 | hx140
  ·replace h := ct hx140 h
   refine wl_val (v := .pointer (some ⟨b2, 2, none⟩)) (val_ia (j := 0) tt_ok rfl rfl rfl rfl (by simpa using hx140) rfl rfl) rfl ?_
   refine wLd (v := agP zb.1) rfl mH rfl rfl (wl_alloc tt_ok rfl rfl (fun b6 => (lSt Upd.here ?_)))
   refine wNT (wc_seq (wSR (wM 1 rfl (wl_val (v := .pointer (some ⟨b3, 0, none⟩)) (val_ia (j := 0) tt_ok rfl rfl rfl rfl (by simpa using hx140) rfl rfl) rfl (wLd rfl (mTT mH) rfl rfl ?_)))))
   obtain ⟨v19, x19, h⟩ := bsome h
   refine wl_cq Tryz.call124 rfl rfl rfl (q_pf (k_hindcastref06_Fire x19) (fun _ _ => trivial)) rfl ?_
   refine wM 2 rfl ?_
   obtain ⟨v25, h, hg25⟩ := bsome h
   refine wls 21 h rfl ?_ ?_ <;> clear h <;> intro h
   ·refine wM 3 rfl ?_
    obtain rfl := sI h
    have h := hg25; clear hg25
    refine wM 2 rfl ?_
    obtain ⟨v31, h, hg31⟩ := bsome h
    replace h := ct rfl h
    refine wM 4 rfl ?_
    obtain rfl := sI h
    have h := hg31; clear hg31
    refine wM 1 rfl (wNT ?_)
    replace h := ct rfl h
    refine wc_cond_true rfl ?_
    refine wc_exit (wx_then_exit (wx_block_exit (wx_then (wc_region ?_))))
    refine wM 3 rfl (wl_nil ?_)
    exact wx_round m7 (Nat.lt_succ_self m7) ⟨(IntKind.wrap .i64 (zi + (1 : Int))), zb, za, ze, zc, zf, zg, h, zd, zh, rfl, rfl⟩ (ag4 rfl rfl rfl rfl) pI
   refine wM 1 rfl (wl_run rfl (wLd rfl mH rfl rfl (wM 1 rfl ?_)))
   obtain rfl := sI h
   have h := hg25; clear hg25
   refine wM 2 rfl ?_
   obtain ⟨v31, h, hg31⟩ := bsome h
   refine wls 26 h rfl ?_ ?_ <;> clear h <;> intro h
   ·refine wM 4 rfl ?_
    obtain rfl := sI h
    have h := hg31; clear hg31
    refine wM 1 rfl (wNT ?_)
    replace h := ct rfl h
    refine wc_cond_true rfl ?_
    refine wc_exit (wx_then_exit (wx_block_exit (wx_then (wc_region ?_))))
    refine wM 3 rfl (wl_nil ?_)
    exact wx_round m7 (Nat.lt_succ_self m7) ⟨(IntKind.wrap .i64 (zi + (1 : Int))), zb, za, ze, zc, zf, zg, h, zd, zh, rfl, rfl⟩ (ag4 rfl rfl rfl rfl) pI
   refine wM 1 rfl (wl_run rfl (wLd rfl (mT mH) rfl rfl (wl_run rfl (wl_val (v := .int .i64 (za.length : Int)) (val_len tt_ok rfl rfl zd) rfl (wM 1 rfl ?_)))))
   obtain rfl := sI h
   have h := hg31; clear hg31
   refine wM 1 rfl (wNT (wcc h rfl ?_ ?_)) <;> clear h <;> intro h
   ·refine wc_exit (wx_then_exit (wx_block_exit (wx_then (wc_region ?_))))
    refine wM 3 rfl (wl_nil ?_)
    exact wx_round m7 (Nat.lt_succ_self m7) ⟨(IntKind.wrap .i64 (zi + (1 : Int))), zb, za, ze, zc, zf, zg, h, zd, zh, rfl, rfl⟩ (ag4 rfl rfl rfl rfl) pI
   refine wc_skip (wx_then (wSR (wM 1 rfl (wLd rfl mH rfl rfl (wM 2 rfl (wLd rfl mH rfl rfl (wM 4 rfl (wl_alloc tt_ok rfl rfl (fun b7 => (lSt Upd.here ?_))))))))))
   refine wNT (wSR (wl_chg (chg_bsv (enc := (e1 .i32)) (xs := ([(2048 : Int), (-2048 : Int), (0 : Int), (0 : Int)] : List Int)) tt_ok rfl rfl rfl rfl rfl rfl rfl rfl (e1_len _)) rfl ?_))
   rintro _ _ ⟨a41, n41_, c41, B41, rfl, N41, V41, rfl⟩
   refine wM 1 rfl (wLd rfl (mR (mT mH)) rfl rfl ?_)
   obtain ⟨v44, x44, h⟩ := bsome h
   refine wl_val (v := .pointer (some ((adOf a41).add (zb.1.Face.toNat * 1 + 0)))) (val_ix (enc := (e1 .i32)) tt_ok rfl rfl rfl rfl N41 (Rds.of_vec V41) (e1_len _) rfl x44) rfl ?_
   refine wl_val (v := .int .i32 v44) (val_le (enc := (e1 .i32)) (xs := ([(2048 : Int), (-2048 : Int), (0 : Int), (0 : Int)] : List Int)) tt_ok rfl (Rds.of_vec V41) ⟨_, hA'⟩ (e1_len _) x44 rfl) rfl ?_
   refine wM 1 rfl (lSt (Upd.right Upd.here) ?_)
   refine wNT (wSR (wl_chg (chg_bsv (enc := (e1 .i32)) (xs := ([(0 : Int), (0 : Int), (-2048 : Int), (2048 : Int)] : List Int)) tt_ok rfl rfl rfl rfl rfl rfl rfl rfl (e1_len _)) rfl ?_))
   rintro _ _ ⟨a47, n47_, c47, B47, rfl, N47, V47, rfl⟩
   refine wM 1 rfl (wLd rfl (mR (mR (mT mH))) rfl rfl ?_)
   obtain ⟨v50, x50, h⟩ := bsome h
   refine wl_val (v := .pointer (some ((adOf a47).add (zb.1.Face.toNat * 1 + 0)))) (val_ix (enc := (e1 .i32)) tt_ok rfl rfl rfl rfl N47 (Rds.of_vec V47) (e1_len _) rfl x50) rfl ?_
   refine wl_val (v := .int .i32 v50) (val_le (enc := (e1 .i32)) (xs := ([(0 : Int), (0 : Int), (-2048 : Int), (2048 : Int)] : List Int)) tt_ok rfl (Rds.of_vec V47) ⟨_, hA'⟩ (e1_len _) x50 rfl) rfl ?_
   refine wM 1 rfl (lSt (Upd.right (Upd.right Upd.here)) ?_)
   refine wNT (wSR (wM 1 rfl (wLd rfl (mR (mR (mTT mH))) rfl rfl (wLd (v := .agg #[.int .i32 (IntKind.wrap .i32 (zb.1.X + (1792 : Int))), .int .i32 (IntKind.wrap .i32 (zb.1.Y + (1792 : Int))), .int .i32 v44, .int .i32 v50, .int .u8 (IntKind.wrap .u8 zi), .int .u8 40]) rfl (mR (mR mH)) rfl rfl (wl_chg (chg_bsv (enc := c_T_api_Shot) (xs := ([(T_api_Shot.mk (IntKind.wrap .i32 (zb.1.X + (1792 : Int))) (IntKind.wrap .i32 (zb.1.Y + (1792 : Int))) v44 v50 (IntKind.wrap .u8 zi) (40 : Int))] : List T_api_Shot)) tt_ok rfl rfl rfl rfl rfl rfl rfl rfl c_T_api_Shot_len) rfl ?_)))))
   rintro _ _ ⟨a56, n56_, c56, B56, rfl, N56, V56, rfl⟩
   obtain ⟨v57, x57, h⟩ := bsome h
   refine wl_chg (chg_app (enc := c_T_api_Shot) (ys := ([(T_api_Shot.mk (IntKind.wrap .i32 (zb.1.X + (1792 : Int))) (IntKind.wrap .i32 (zb.1.Y + (1792 : Int))) v44 v50 (IntKind.wrap .u8 zi) (40 : Int))] : List T_api_Shot)) tt_ok rfl rfl rfl rfl rfl rfl zd N56 zh (sAA (sA (sCC (sCC (sC hA'))))) (Rds.of_vec V56) ⟨_, hA'⟩ c_T_api_Shot_len (fun _ => rfl) rfl x57) rfl ?_
   rintro _ _ ⟨a57, n57_, c57, B57, rfl, N57, V57, rfl⟩
   refine wM 1 rfl (lSt (Upd.right (Upd.right (Upd.right (Upd.right (Upd.there (Upd.there Upd.here)))))) ?_)
   refine wNT (wc_region (wM 2 rfl (wl_val (v := .pointer (some ⟨b2, 2, none⟩)) (val_ia (j := 0) tt_ok rfl rfl rfl rfl (by simpa using hx140) rfl rfl) rfl (wM 1 rfl (lSt (Upd.right (Upd.right (Upd.right (Upd.right (Upd.there (Upd.there Upd.here)))))) ?_)))))
   refine wl_nil (wx_block (wx_then (wc_region (wM 3 rfl (wl_nil ?_)))))
   exact wx_round m7 (Nat.lt_succ_self m7) ⟨(IntKind.wrap .i64 (zi + (1 : Int))), ((T_api_Player.mk zb.1.X zb.1.Y zb.1.VX zb.1.VY zb.1.Health (10 : Int) zb.1.Face), zb.2), v57, a57, n57_, c57, B57, h, N57, V57, rfl, rfl⟩ (ag4 rfl rfl rfl rfl) pI
  replace h := cf hx140 h
  rcases Bool.eq_false_or_eq_true (zi == (1 : Int)) with hx141 | hx141
  ·replace h := ct hx141 h
   refine wl_val (v := .pointer (some ⟨b2, 9, none⟩)) (val_ia (j := 1) tt_ok rfl rfl rfl rfl (by simpa using hx141) rfl rfl) rfl ?_
   refine wLd (v := agP zb.2) rfl mH rfl rfl (wl_alloc tt_ok rfl rfl (fun b6 => (lSt Upd.here ?_)))
   refine wNT (wc_seq (wSR (wM 1 rfl (wl_val (v := .pointer (some ⟨b3, 1, none⟩)) (val_ia (j := 1) tt_ok rfl rfl rfl rfl (by simpa using hx141) rfl rfl) rfl (wLd rfl (mTT mH) rfl rfl ?_)))))
   obtain ⟨v19, x19, h⟩ := bsome h
   refine wl_cq Tryz.call124 rfl rfl rfl (q_pf (k_hindcastref06_Fire x19) (fun _ _ => trivial)) rfl ?_
   refine wM 2 rfl ?_
   obtain ⟨v25, h, hg25⟩ := bsome h
   refine wls 21 h rfl ?_ ?_ <;> clear h <;> intro h
   ·refine wM 3 rfl ?_
    obtain rfl := sI h
    have h := hg25; clear hg25
    refine wM 2 rfl ?_
    obtain ⟨v31, h, hg31⟩ := bsome h
    replace h := ct rfl h
    refine wM 4 rfl ?_
    obtain rfl := sI h
    have h := hg31; clear hg31
    refine wM 1 rfl (wNT ?_)
    replace h := ct rfl h
    refine wc_cond_true rfl ?_
    refine wc_exit (wx_then_exit (wx_block_exit (wx_then (wc_region ?_))))
    refine wM 3 rfl (wl_nil ?_)
    exact wx_round m7 (Nat.lt_succ_self m7) ⟨(IntKind.wrap .i64 (zi + (1 : Int))), zb, za, ze, zc, zf, zg, h, zd, zh, rfl, rfl⟩ (ag4 rfl rfl rfl rfl) pI
   refine wM 1 rfl (wl_run rfl (wLd rfl mH rfl rfl (wM 1 rfl ?_)))
   obtain rfl := sI h
   have h := hg25; clear hg25
   refine wM 2 rfl ?_
   obtain ⟨v31, h, hg31⟩ := bsome h
   refine wls 26 h rfl ?_ ?_ <;> clear h <;> intro h
   ·refine wM 4 rfl ?_
    obtain rfl := sI h
    have h := hg31; clear hg31
    refine wM 1 rfl (wNT ?_)
    replace h := ct rfl h
    refine wc_cond_true rfl ?_
    refine wc_exit (wx_then_exit (wx_block_exit (wx_then (wc_region ?_))))
    refine wM 3 rfl (wl_nil ?_)
    exact wx_round m7 (Nat.lt_succ_self m7) ⟨(IntKind.wrap .i64 (zi + (1 : Int))), zb, za, ze, zc, zf, zg, h, zd, zh, rfl, rfl⟩ (ag4 rfl rfl rfl rfl) pI
   refine wM 1 rfl (wl_run rfl (wLd rfl (mT mH) rfl rfl (wl_run rfl (wl_val (v := .int .i64 (za.length : Int)) (val_len tt_ok rfl rfl zd) rfl (wM 1 rfl ?_)))))
   obtain rfl := sI h
   have h := hg31; clear hg31
   refine wM 1 rfl (wNT (wcc h rfl ?_ ?_)) <;> clear h <;> intro h
   ·refine wc_exit (wx_then_exit (wx_block_exit (wx_then (wc_region ?_))))
    refine wM 3 rfl (wl_nil ?_)
    exact wx_round m7 (Nat.lt_succ_self m7) ⟨(IntKind.wrap .i64 (zi + (1 : Int))), zb, za, ze, zc, zf, zg, h, zd, zh, rfl, rfl⟩ (ag4 rfl rfl rfl rfl) pI
   refine wc_skip (wx_then (wSR (wM 1 rfl (wLd rfl mH rfl rfl (wM 2 rfl (wLd rfl mH rfl rfl (wM 4 rfl (wl_alloc tt_ok rfl rfl (fun b7 => (lSt Upd.here ?_))))))))))
   refine wNT (wSR (wl_chg (chg_bsv (enc := (e1 .i32)) (xs := ([(2048 : Int), (-2048 : Int), (0 : Int), (0 : Int)] : List Int)) tt_ok rfl rfl rfl rfl rfl rfl rfl rfl (e1_len _)) rfl ?_))
   rintro _ _ ⟨a41, n41_, c41, B41, rfl, N41, V41, rfl⟩
   refine wM 1 rfl (wLd rfl (mR (mT mH)) rfl rfl ?_)
   obtain ⟨v44, x44, h⟩ := bsome h
   refine wl_val (v := .pointer (some ((adOf a41).add (zb.2.Face.toNat * 1 + 0)))) (val_ix (enc := (e1 .i32)) tt_ok rfl rfl rfl rfl N41 (Rds.of_vec V41) (e1_len _) rfl x44) rfl ?_
   refine wl_val (v := .int .i32 v44) (val_le (enc := (e1 .i32)) (xs := ([(2048 : Int), (-2048 : Int), (0 : Int), (0 : Int)] : List Int)) tt_ok rfl (Rds.of_vec V41) ⟨_, hA'⟩ (e1_len _) x44 rfl) rfl ?_
   refine wM 1 rfl (lSt (Upd.right Upd.here) ?_)
   refine wNT (wSR (wl_chg (chg_bsv (enc := (e1 .i32)) (xs := ([(0 : Int), (0 : Int), (-2048 : Int), (2048 : Int)] : List Int)) tt_ok rfl rfl rfl rfl rfl rfl rfl rfl (e1_len _)) rfl ?_))
   rintro _ _ ⟨a47, n47_, c47, B47, rfl, N47, V47, rfl⟩
   refine wM 1 rfl (wLd rfl (mR (mR (mT mH))) rfl rfl ?_)
   obtain ⟨v50, x50, h⟩ := bsome h
   refine wl_val (v := .pointer (some ((adOf a47).add (zb.2.Face.toNat * 1 + 0)))) (val_ix (enc := (e1 .i32)) tt_ok rfl rfl rfl rfl N47 (Rds.of_vec V47) (e1_len _) rfl x50) rfl ?_
   refine wl_val (v := .int .i32 v50) (val_le (enc := (e1 .i32)) (xs := ([(0 : Int), (0 : Int), (-2048 : Int), (2048 : Int)] : List Int)) tt_ok rfl (Rds.of_vec V47) ⟨_, hA'⟩ (e1_len _) x50 rfl) rfl ?_
   refine wM 1 rfl (lSt (Upd.right (Upd.right Upd.here)) ?_)
   refine wNT (wSR (wM 1 rfl (wLd rfl (mR (mR (mTT mH))) rfl rfl (wLd (v := .agg #[.int .i32 (IntKind.wrap .i32 (zb.2.X + (1792 : Int))), .int .i32 (IntKind.wrap .i32 (zb.2.Y + (1792 : Int))), .int .i32 v44, .int .i32 v50, .int .u8 (IntKind.wrap .u8 zi), .int .u8 40]) rfl (mR (mR mH)) rfl rfl (wl_chg (chg_bsv (enc := c_T_api_Shot) (xs := ([(T_api_Shot.mk (IntKind.wrap .i32 (zb.2.X + (1792 : Int))) (IntKind.wrap .i32 (zb.2.Y + (1792 : Int))) v44 v50 (IntKind.wrap .u8 zi) (40 : Int))] : List T_api_Shot)) tt_ok rfl rfl rfl rfl rfl rfl rfl rfl c_T_api_Shot_len) rfl ?_)))))
   rintro _ _ ⟨a56, n56_, c56, B56, rfl, N56, V56, rfl⟩
   obtain ⟨v57, x57, h⟩ := bsome h
   refine wl_chg (chg_app (enc := c_T_api_Shot) (ys := ([(T_api_Shot.mk (IntKind.wrap .i32 (zb.2.X + (1792 : Int))) (IntKind.wrap .i32 (zb.2.Y + (1792 : Int))) v44 v50 (IntKind.wrap .u8 zi) (40 : Int))] : List T_api_Shot)) tt_ok rfl rfl rfl rfl rfl rfl zd N56 zh (sAA (sA (sCC (sCC (sC hA'))))) (Rds.of_vec V56) ⟨_, hA'⟩ c_T_api_Shot_len (fun _ => rfl) rfl x57) rfl ?_
   rintro _ _ ⟨a57, n57_, c57, B57, rfl, N57, V57, rfl⟩
   refine wM 1 rfl (lSt (Upd.right (Upd.right (Upd.right (Upd.right (Upd.there (Upd.there Upd.here)))))) ?_)
   refine wNT (wc_region (wM 2 rfl (wl_val (v := .pointer (some ⟨b2, 9, none⟩)) (val_ia (j := 1) tt_ok rfl rfl rfl rfl (by simpa using hx141) rfl rfl) rfl (wM 1 rfl (lSt (Upd.right (Upd.right (Upd.right (Upd.right (Upd.there (Upd.there Upd.here)))))) ?_)))))
   refine wl_nil (wx_block (wx_then (wc_region (wM 3 rfl (wl_nil ?_)))))
   exact wx_round m7 (Nat.lt_succ_self m7) ⟨(IntKind.wrap .i64 (zi + (1 : Int))), (zb.1, (T_api_Player.mk zb.2.X zb.2.Y zb.2.VX zb.2.VY zb.2.Health (10 : Int) zb.2.Face)), v57, a57, n57_, c57, B57, h, N57, V57, rfl, rfl⟩ (ag4 rfl rfl rfl rfl) pI
  replace h := cf hx141 h
  cases h
 refine wc_exit (wx_then_exit ?_)
 obtain ⟨rfl, rfl⟩ := pJ2 h
 have h := hl7; clear hl7; try dsimp only [orE_l, orE_r] at h
 refine wx_then_exit (wx_block_exit (wx_then (wSR ?_)))
 refine wLd (v := .agg #[.int .u64 p0.Frame, .int .u64 p0.Seed, .int .i32 zb.1.X, .int .i32 zb.1.Y, .int .i32 zb.1.VX, .int .i32 zb.1.VY, .int .u8 zb.1.Health, .int .u8 zb.1.Cool, .int .u8 zb.1.Face, .int .i32 zb.2.X, .int .i32 zb.2.Y, .int .i32 zb.2.VX, .int .i32 zb.2.VY, .int .u8 zb.2.Health, .int .u8 zb.2.Cool, .int .u8 zb.2.Face, .slice ze zc zf, .int .u16 p0.Score.1, .int .u16 p0.Score.2]) rfl mH rfl rfl (lSt (Upd.there (Upd.there Upd.here)) ?_)
 refine wNT (wc_ret ?_)
 obtain rfl := sI h
 exact wE Tryz.results103 (Res.cell rfl (mTT mH) rfl Res.nil) ⟨ze, zc, zf, zg, zd, zh, rfl, rfl⟩ pI

theorem k_hindcastref07_Move {p0 : Int} {p1 : Int} {p2 : Int} {p3 : Int} {r0 : Int} {r1 : Int} (h : m_hindcastref07_Move F p0 p1 p2 p3 = some (r0, r1)) :
    Pf Tryz.prog 125 [.int .i32 p0, .int .i32 p1, .int .i32 p2, .int .i32 p3] (fun w => True) (.tuple #[.int .i32 r0, .int .i32 r1]) := by
 unfold m_hindcastref07_Move at h
 refine pf_of_wc Tryz.func125 rfl Tryz.ntmps125 rfl rfl (fun w0 hR => ?_)
 refine wSR (wM 2 rfl (wNT (wSR (wM 6 rfl (wNT (wc_seq (wSR (wM 3 rfl (wNT (wcc h rfl ?_ ?_)))))))))) <;> clear h <;> intro h
 ·refine wSR (wM 3 rfl (wNT (wc_ret (wx_then_ret ?_))))
  obtain ⟨rfl, rfl⟩ := pJ2 h
  exact wx_pf tt_ok (.inl rfl) Tryz.results125 (rs2 rfl rfl) rfl
 refine wc_skip (wx_then (wc_seq (wSR (wM 4 rfl (wNT (wcc h rfl ?_ ?_)))))) <;> clear h <;> intro h
 ·refine wSR (wM 3 rfl (wNT (wc_ret (wx_then_ret ?_))))
  obtain ⟨rfl, rfl⟩ := pJ2 h
  exact wx_pf tt_ok (.inl rfl) Tryz.results125 (rs2 rfl rfl) rfl
 refine wc_skip (wx_then (wc_seq (wSR (wM 4 rfl (wNT (wcc h rfl ?_ ?_)))))) <;> clear h <;> intro h
 ·refine wSR (wM 3 rfl (wNT (wc_ret (wx_then_ret ?_))))
  obtain ⟨rfl, rfl⟩ := pJ2 h
  exact wx_pf tt_ok (.inl rfl) Tryz.results125 (rs2 rfl rfl) rfl
 refine wc_skip (wx_then (wSR (wM 5 rfl (wNT (wc_ret ?_)))))
 obtain ⟨rfl, rfl⟩ := pJ2 h
 exact wx_pf tt_ok (.inl rfl) Tryz.results125 (rs2 rfl rfl) rfl

theorem k_hindcastref09_Box {p0 : T_api_Player} {r0 : T_api_Box} (h : m_hindcastref09_Box F p0 = some r0) :
    Pf Tryz.prog 127 [agP p0] (fun w => True) (.agg #[.int .i32 r0.X, .int .i32 r0.Y, .int .i32 r0.W, .int .i32 r0.H]) := by
 unfold m_hindcastref09_Box at h
 refine pf_of_wc Tryz.func127 rfl Tryz.ntmps127 rfl rfl (fun w0 hR => ?_)
 refine wSR (wl_box rfl rfl rfl (fun b1 => (wl_alloc tt_ok rfl rfl (fun b2 => (wNT (wSR (wM 1 rfl (wLd rfl (mT mH) rfl rfl (wM 1 rfl (wLd rfl (mT mH) rfl rfl (wM 1 rfl (lSt Upd.here ?_))))))))))))
 refine wNT (wc_ret ?_)
 obtain rfl := sI h
 exact wx_pf tt_ok (.inl rfl) Tryz.results127 (Res.cell rfl mH rfl Res.nil) rfl

theorem k_hindcastref07_greater {p0 : Int} {p1 : Int} {r0 : Int} (h : m_hindcastref07_greater F p0 p1 = some r0) :
    Pf Tryz.prog 136 [.int .i64 p0, .int .i64 p1] (fun w => True) (.int .i64 r0) := by
 unfold m_hindcastref07_greater at h
 refine pf_of_wc Tryz.func136 rfl Tryz.ntmps136 rfl rfl (fun w0 hR => ?_)
 refine wSR (wM 1 rfl (wNT (wc_seq (wSR (wM 3 rfl (wNT (wcc h rfl ?_ ?_))))))) <;> clear h <;> intro h
 ·refine wSR (wM 2 rfl (wNT (wc_ret (wx_then_ret ?_))))
  obtain rfl := sI h
  exact pE Tryz.results136 rfl
 refine wc_skip (wx_then (wSR (wM 2 rfl (wNT (wc_ret ?_)))))
 obtain rfl := sI h
 exact pE Tryz.results136 rfl

theorem k_hindcastref07_Has {p0 : T_api_Box} {p1 : Int} {p2 : Int} {r0 : Bool} (h : m_hindcastref07_Has F p0 p1 p2 = some r0) :
    Pf Tryz.prog 137 [.agg #[.int .i32 p0.X, .int .i32 p0.Y, .int .i32 p0.W, .int .i32 p0.H], .int .i64 p1, .int .i64 p2] (fun w => True) (.bool r0) := by
 unfold m_hindcastref07_Has at h
 refine pf_of_wc Tryz.func137 rfl Tryz.ntmps137 rfl rfl (fun w0 hR => ?_)
 refine wSR (wl_box rfl rfl rfl (fun b3 => (wM 1 rfl (wNT (wSR (wM 2 rfl (wLd rfl mH rfl rfl (wM 3 rfl ?_))))))))
 obtain ⟨v22, h, hg22⟩ := bsome h
 refine wls 12 h rfl ?_ ?_ <;> clear h <;> intro h
 ·refine wM 2 rfl (wl_run rfl (wLd rfl mH rfl rfl (wM 3 rfl (wl_run rfl (wLd rfl mH rfl rfl (wM 2 rfl ?_))))))
  obtain rfl := sI h
  have h := hg22; clear hg22
  refine wM 2 rfl ?_
  obtain ⟨v29, h, hg29⟩ := bsome h
  refine wls 23 h rfl ?_ ?_ <;> clear h <;> intro h
  ·refine wM 2 rfl (wl_run rfl (wLd rfl mH rfl rfl (wM 2 rfl ?_)))
   obtain rfl := sI h
   have h := hg29; clear hg29
   refine wM 2 rfl ?_
   obtain ⟨v40, h, hg40⟩ := bsome h
   refine wls 30 h rfl ?_ ?_ <;> clear h <;> intro h
   ·refine wM 2 rfl (wl_run rfl (wLd rfl mH rfl rfl (wM 3 rfl (wl_run rfl (wLd rfl mH rfl rfl (wM 2 rfl ?_))))))
    obtain rfl := sI h
    have h := hg40; clear hg40
    refine wM 2 rfl (wNT (wc_ret ?_))
    obtain rfl := sI h
    exact pE Tryz.results137 rfl
   refine wM 9 rfl ?_
   obtain rfl := sI h
   have h := hg40; clear hg40
   refine wM 2 rfl (wNT (wc_ret ?_))
   obtain rfl := sI h
   exact pE Tryz.results137 rfl
  refine wM 5 rfl ?_
  obtain rfl := sI h
  have h := hg29; clear hg29
  refine wM 2 rfl ?_
  obtain ⟨v40, h, hg40⟩ := bsome h
  replace h := cf rfl h
  refine wM 9 rfl ?_
  obtain rfl := sI h
  have h := hg40; clear hg40
  refine wM 2 rfl (wNT (wc_ret ?_))
  obtain rfl := sI h
  exact pE Tryz.results137 rfl
 refine wM 9 rfl ?_
 obtain rfl := sI h
 have h := hg22; clear hg22
 refine wM 2 rfl ?_
 obtain ⟨v29, h, hg29⟩ := bsome h
 replace h := cf rfl h
 refine wM 5 rfl ?_
 obtain rfl := sI h
 have h := hg29; clear hg29
 refine wM 2 rfl ?_
 obtain ⟨v40, h, hg40⟩ := bsome h
 replace h := cf rfl h
 refine wM 9 rfl ?_
 obtain rfl := sI h
 have h := hg40; clear hg40
 refine wM 2 rfl (wNT (wc_ret ?_))
 obtain rfl := sI h
 exact pE Tryz.results137 rfl

theorem k_hindcastref07_Over {p0 : T_api_Box} {p1 : T_api_Box} {r0 : Bool} (h : m_hindcastref07_Over F p0 p1 = some r0) :
    Pf Tryz.prog 126 [.agg #[.int .i32 p0.X, .int .i32 p0.Y, .int .i32 p0.W, .int .i32 p0.H], .agg #[.int .i32 p1.X, .int .i32 p1.Y, .int .i32 p1.W, .int .i32 p1.H]] (fun w => True) (.bool r0) := by
 unfold m_hindcastref07_Over at h
 refine pf_of_wc Tryz.func126 rfl Tryz.ntmps126 rfl rfl (fun w0 hR => ?_)
 refine wSR (wl_box rfl rfl rfl (fun b2 => (wl_box rfl rfl rfl (fun b3 => (wM 1 rfl (wNT (wSR (wM 1 rfl (wLd rfl (mT mH) rfl rfl (wM 2 rfl (wLd rfl mH rfl rfl (wM 1 rfl ?_))))))))))))
 obtain ⟨v13, x13, h⟩ := bsome h
 refine wl_cq Tryz.call136 rfl rfl rfl (q_pf (k_hindcastref07_greater x13) (fun _ _ => trivial)) rfl ?_
 refine wM 1 rfl (wNT (wSR (wM 1 rfl (wLd rfl (mT mH) rfl rfl (wM 2 rfl (wLd rfl mH rfl rfl (wM 1 rfl ?_)))))))
 obtain ⟨v20, x20, h⟩ := bsome h
 refine wl_cq Tryz.call136 rfl rfl rfl (q_pf (k_hindcastref07_greater x20) (fun _ _ => trivial)) rfl ?_
 refine wM 1 rfl (wNT (wSR (wLd (v := .agg #[.int .i32 p0.X, .int .i32 p0.Y, .int .i32 p0.W, .int .i32 p0.H]) rfl (mT mH) rfl rfl (wM 2 rfl ?_))))
 obtain ⟨v24, x24, h⟩ := bsome h
 refine wl_cq Tryz.call137 rfl rfl rfl (q_pf (k_hindcastref07_Has x24) (fun _ _ => trivial)) rfl ?_
 refine wM 1 rfl ?_
 obtain ⟨v30, h, hg30⟩ := bsome h
 refine wls 25 h rfl ?_ ?_ <;> clear h <;> intro h
 ·refine wl_run rfl (wLd (v := .agg #[.int .i32 p1.X, .int .i32 p1.Y, .int .i32 p1.W, .int .i32 p1.H]) rfl mH rfl rfl (wM 2 rfl ?_))
  obtain ⟨v29, x29, h⟩ := bsome h
  refine wl_run rfl (wl_cq Tryz.call137 rfl rfl rfl (q_pf (k_hindcastref07_Has x29) (fun _ _ => trivial)) rfl ?_)
  obtain rfl := sI h
  have h := hg30; clear hg30
  refine wM 2 rfl (wNT (wc_ret ?_))
  obtain rfl := sI h
  exact pE Tryz.results126 rfl
 refine wM 4 rfl ?_
 obtain rfl := sI h
 have h := hg30; clear hg30
 refine wM 2 rfl (wNT (wc_ret ?_))
 obtain rfl := sI h
 exact pE Tryz.results126 rfl

theorem k_hindcastref09_three_o0 {p0 : T_api_State} {r0 : T_api_State} (p0N0 : p0n0 = p0.Shots.length) (p0V0 : Own 119 6 p0a0 p0n0 p0c0 (flat c_T_api_Shot p0.Shots) p0B0) (h : m_hindcastref09_three_o0 F p0 = some r0) :
    SpD Tryz.prog 104 [agS p0 p0a0 p0n0 p0c0] (p0B0 ++ []) (fun w => True) (fun v D => ∃ r0a0 r0n0 r0c0 r0B0, r0n0 = r0.Shots.length ∧ Own 119 6 r0a0 r0n0 r0c0 (flat c_T_api_Shot r0.Shots) r0B0 ∧ v = agS r0 r0a0 r0n0 r0c0 ∧ D = fun F => (r0B0 ++ F)) := by
 unfold m_hindcastref09_three_o0 at h
 refine sp_of_wc Tryz.func104 rfl Tryz.ntmps104 rfl rfl (fun w0 hR => ?_)
 refine wSR (wl_box rfl rfl rfl (fun b1 => (wl_alloc tt_ok rfl rfl (fun b2 => (wNT (wSR (wM 1 rfl (wLd (v := .agg #[.int .i32 p0.Players.1.X, .int .i32 p0.Players.1.Y, .int .i32 p0.Players.1.VX, .int .i32 p0.Players.1.VY, .int .u8 p0.Players.1.Health, .int .u8 p0.Players.1.Cool, .int .u8 p0.Players.1.Face, .int .i32 p0.Players.2.X, .int .i32 p0.Players.2.Y, .int .i32 p0.Players.2.VX, .int .i32 p0.Players.2.VY, .int .u8 p0.Players.2.Health, .int .u8 p0.Players.2.Cool, .int .u8 p0.Players.2.Face]) rfl (mT mH) rfl rfl (wl_alloc tt_ok rfl rfl (fun b3 => (lSt Upd.here ?_)))))))))))
 refine wNT (wc_seq (wSR (wM 1 rfl (wNT (wc_block ?_)))))
 obtain ⟨zk, h, hl9⟩ := bsome h
 refine wc_loop (fun m E L => ∃ ze za, m_hindcastref09_three_o0_L8 F p0 m ze za = some zk ∧ E = [(1, .pointer (some ⟨b1, 0, none⟩)), (2, .pointer (some ⟨b2, 0, none⟩)), (3, .pointer (some ⟨b3, 0, none⟩)), (4, .int .i64 ze)] ∧ L = (⟨b1, (.int .u64 p0.Frame :: .int .u64 p0.Seed :: pl14 za [.slice p0a0 p0n0 p0c0, .int .u16 p0.Score.1, .int .u16 p0.Score.2]), 64, (0, 0)⟩ :: (⟨b2, [.int .u64 0, .int .u64 0, .int .i32 0, .int .i32 0, .int .i32 0, .int .i32 0, .int .u8 0, .int .u8 0, .int .u8 0, .int .i32 0, .int .i32 0, .int .i32 0, .int .i32 0, .int .u8 0, .int .u8 0, .int .u8 0, .slice none 0 0, .int .u16 0, .int .u16 0], 64, (0, 0)⟩ :: (⟨b3, (pl14 p0.Players []), 59, (0, 0)⟩ :: (p0B0 ++ []))))) F ⟨(0 : Int), p0.Players, h, rfl, rfl⟩ (ag4 rfl rfl rfl rfl) pI ?_
 clear h
 rintro m9 _ _ ⟨ze, za, h, rfl, rfl⟩
 rcases m9 with _ | m9
 ·rw [m_hindcastref09_three_o0_L8.eq_1] at h; cases h
 rw [m_hindcastref09_three_o0_L8.eq_2] at h
 refine wc_seq (wSR (wM 2 rfl (wNT (wcc h rfl ?_ ?_)))) <;> clear h <;> intro h
 ·refine wc_skip (wx_then (wc_seq (wc_block (wSR (wM 2 rfl ?_)))))
  rcases Bool.eq_false_or_eq_true (ze == (0 : Int)) with hx150 | hx150
  ·replace h := ct hx150 h
   refine wl_val (v := .pointer (some ⟨b1, 2, none⟩)) (val_ia (j := 0) tt_ok rfl rfl rfl rfl (by simpa using hx150) rfl rfl) rfl ?_
   refine wLd (v := agP za.1) rfl mH rfl rfl (wl_alloc tt_ok rfl rfl (fun b5 => (lSt Upd.here ?_)))
   refine wNT (wc_seq (wc_k2 (Ls := (⟨b1, (.int .u64 p0.Frame :: .int .u64 p0.Seed :: pl14 za [.slice p0a0 p0n0 p0c0, .int .u16 p0.Score.1, .int .u16 p0.Score.2]), 64, (0, 0)⟩ :: (⟨b2, [.int .u64 0, .int .u64 0, .int .i32 0, .int .i32 0, .int .i32 0, .int .i32 0, .int .u8 0, .int .u8 0, .int .u8 0, .int .i32 0, .int .i32 0, .int .i32 0, .int .i32 0, .int .u8 0, .int .u8 0, .int .u8 0, .slice none 0 0, .int .u16 0, .int .u16 0], 64, (0, 0)⟩ :: (⟨b3, (pl14 p0.Players []), 59, (0, 0)⟩ :: (p0B0 ++ []))))) [8, 13, 14, 15] [14, 15] [0, 1, 3, 7, 0, 16, 48, 112, 255, 511, 1023, 1023, 2047, 6143, 16383, 32767] [0, 1, 2, 3, 4, 5, 6, 7, 8, 9, 10, 11, 12, 13, 14, 15] (by kernel_rfl) (by kernel_rfl) (by kernel_rfl) ?_))
   refine kM pI 1 rfl (k_val (v := .pointer (some ⟨b3, 0, none⟩)) rfl rfl rfl pI (val_ia (j := 0) tt_ok rfl rfl rfl rfl (by simpa using hx150) rfl rfl) rfl (kM pI 1 rfl (k_val (v := .int .i32 p0.Players.1.X) rfl rfl rfl pI (val_load tt_ok rfl (mTT mH) rfl) rfl ?_)))
   refine kM pI 1 rfl (k_val (v := .pointer (some ⟨b3, 0, none⟩)) rfl rfl rfl pI (val_ia (j := 0) tt_ok rfl rfl rfl rfl (by simpa using hx150) rfl rfl) rfl (kM pI 1 rfl (k_val (v := .int .i32 p0.Players.1.VX) rfl rfl rfl pI (val_load tt_ok rfl (mTT mH) rfl) rfl ?_)))
   replace h := bsome h; obtain ⟨⟨zf, zg⟩, x26, h⟩ := h; try dsimp only at h
   refine k_cq rfl rfl rfl Tryz.call125 rfl rfl rfl (q_pf (k_hindcastref07_Move x26) (fun _ _ => trivial)) rfl pI ?_
   refine kM pI 4 rfl (k_chg0 rfl rfl rfl (chg_store tt_ok rfl Upd.here rfl rfl rfl rfl rfl rfl) (.inr (by rintro _ _ rfl; exact ⟨_, pP⟩)) ?_)
   rintro _ _ rfl
   refine k_chg rfl rfl rfl (Chg.of_val (v := .pointer (some ⟨b5, 2, none⟩)) (sV rfl)) rfl (.inl rfl) ?_
   rintro _ _ ⟨rfl, rfl⟩
   refine k_chg0 rfl rfl rfl (chg_store tt_ok rfl Upd.here rfl rfl rfl rfl rfl rfl) (.inl rfl) ?_
   rintro _ _ rfl
   refine k_end (by kernel_rfl) ?_
   refine wx_then (wc_seq (wc_k2 (Ls := (⟨b1, (.int .u64 p0.Frame :: .int .u64 p0.Seed :: pl14 za [.slice p0a0 p0n0 p0c0, .int .u16 p0.Score.1, .int .u16 p0.Score.2]), 64, (0, 0)⟩ :: (⟨b2, [.int .u64 0, .int .u64 0, .int .i32 0, .int .i32 0, .int .i32 0, .int .i32 0, .int .u8 0, .int .u8 0, .int .u8 0, .int .i32 0, .int .i32 0, .int .i32 0, .int .i32 0, .int .u8 0, .int .u8 0, .int .u8 0, .slice none 0 0, .int .u16 0, .int .u16 0], 64, (0, 0)⟩ :: (⟨b3, (pl14 p0.Players []), 59, (0, 0)⟩ :: (p0B0 ++ []))))) [8, 13, 14, 15] [14, 15] [0, 1, 3, 7, 0, 16, 48, 112, 255, 511, 1023, 1023, 2047, 6143, 16383, 32767] [0, 1, 2, 3, 4, 5, 6, 7, 8, 9, 10, 11, 12, 13, 14, 15] (by kernel_rfl) (by kernel_rfl) (by kernel_rfl) ?_))
   refine kM pI 1 rfl (k_val (v := .pointer (some ⟨b3, 0, none⟩)) rfl rfl rfl pI (val_ia (j := 0) tt_ok rfl rfl rfl rfl (by simpa using hx150) rfl rfl) rfl (kM pI 1 rfl (k_val (v := .int .i32 p0.Players.1.Y) rfl rfl rfl pI (val_load tt_ok rfl (mTT mH) rfl) rfl ?_)))
   refine kM pI 1 rfl (k_val (v := .pointer (some ⟨b3, 0, none⟩)) rfl rfl rfl pI (val_ia (j := 0) tt_ok rfl rfl rfl rfl (by simpa using hx150) rfl rfl) rfl (kM pI 1 rfl (k_val (v := .int .i32 p0.Players.1.VY) rfl rfl rfl pI (val_load tt_ok rfl (mTT mH) rfl) rfl ?_)))
   replace h := bsome h; obtain ⟨⟨zh, zi⟩, x40, h⟩ := h; try dsimp only at h
   refine k_cq rfl rfl rfl Tryz.call125 rfl rfl rfl (q_pf (k_hindcastref07_Move x40) (fun _ _ => trivial)) rfl pI ?_
   refine kM pI 4 rfl (k_chg0 rfl rfl rfl (chg_store tt_ok rfl Upd.here rfl rfl rfl rfl rfl rfl) (.inr (by rintro _ _ rfl; exact ⟨_, pP⟩)) ?_)
   rintro _ _ rfl
   refine k_chg rfl rfl rfl (Chg.of_val (v := .pointer (some ⟨b5, 3, none⟩)) (sV rfl)) rfl (.inl rfl) ?_
   rintro _ _ ⟨rfl, rfl⟩
   refine k_chg0 rfl rfl rfl (chg_store tt_ok rfl Upd.here rfl rfl rfl rfl rfl rfl) (.inl rfl) ?_
   rintro _ _ rfl
   refine k_end (by kernel_rfl) ?_
   refine wx_then (wc_region (wM 1 rfl (wLd (v := .agg #[.int .i32 zf, .int .i32 zh, .int .i32 zg, .int .i32 zi, .int .u8 za.1.Health, .int .u8 za.1.Cool, .int .u8 za.1.Face]) rfl mH rfl rfl (wM 1 rfl (wl_val (v := .pointer (some ⟨b1, 2, none⟩)) (val_ia (j := 0) tt_ok rfl rfl rfl rfl (by simpa using hx150) rfl rfl) rfl (lSt (Upd.there Upd.here) ?_))))))
   refine wl_nil (wx_block (wx_then (wc_region (wM 3 rfl (wl_nil ?_)))))
   exact wx_round m9 (Nat.lt_succ_self m9) ⟨(IntKind.wrap .i64 (ze + (1 : Int))), ((T_api_Player.mk zf zh zg zi za.1.Health za.1.Cool za.1.Face), za.2), h, rfl, rfl⟩ (ag4 rfl rfl rfl rfl) pI
  replace h := cf hx150 h
  rcases Bool.eq_false_or_eq_true (ze == (1 : Int)) with hx151 | hx151
  ·replace h := ct hx151 h
   refine wl_val (v := .pointer (some ⟨b1, 9, none⟩)) (val_ia (j := 1) tt_ok rfl rfl rfl rfl (by simpa using hx151) rfl rfl) rfl ?_
   refine wLd (v := agP za.2) rfl mH rfl rfl (wl_alloc tt_ok rfl rfl (fun b5 => (lSt Upd.here ?_)))
   refine wNT (wc_seq (wc_k2 (Ls := (⟨b1, (.int .u64 p0.Frame :: .int .u64 p0.Seed :: pl14 za [.slice p0a0 p0n0 p0c0, .int .u16 p0.Score.1, .int .u16 p0.Score.2]), 64, (0, 0)⟩ :: (⟨b2, [.int .u64 0, .int .u64 0, .int .i32 0, .int .i32 0, .int .i32 0, .int .i32 0, .int .u8 0, .int .u8 0, .int .u8 0, .int .i32 0, .int .i32 0, .int .i32 0, .int .i32 0, .int .u8 0, .int .u8 0, .int .u8 0, .slice none 0 0, .int .u16 0, .int .u16 0], 64, (0, 0)⟩ :: (⟨b3, (pl14 p0.Players []), 59, (0, 0)⟩ :: (p0B0 ++ []))))) [8, 13, 14, 15] [14, 15] [0, 1, 3, 7, 0, 16, 48, 112, 255, 511, 1023, 1023, 2047, 6143, 16383, 32767] [0, 1, 2, 3, 4, 5, 6, 7, 8, 9, 10, 11, 12, 13, 14, 15] (by kernel_rfl) (by kernel_rfl) (by kernel_rfl) ?_))
   refine kM pI 1 rfl (k_val (v := .pointer (some ⟨b3, 7, none⟩)) rfl rfl rfl pI (val_ia (j := 1) tt_ok rfl rfl rfl rfl (by simpa using hx151) rfl rfl) rfl (kM pI 1 rfl (k_val (v := .int .i32 p0.Players.2.X) rfl rfl rfl pI (val_load tt_ok rfl (mTT mH) rfl) rfl ?_)))
   refine kM pI 1 rfl (k_val (v := .pointer (some ⟨b3, 7, none⟩)) rfl rfl rfl pI (val_ia (j := 1) tt_ok rfl rfl rfl rfl (by simpa using hx151) rfl rfl) rfl (kM pI 1 rfl (k_val (v := .int .i32 p0.Players.2.VX) rfl rfl rfl pI (val_load tt_ok rfl (mTT mH) rfl) rfl ?_)))
   replace h := bsome h; obtain ⟨⟨zf, zg⟩, x26, h⟩ := h; try dsimp only at h
   refine k_cq rfl rfl rfl Tryz.call125 rfl rfl rfl (q_pf (k_hindcastref07_Move x26) (fun _ _ => trivial)) rfl pI ?_
   refine kM pI 4 rfl (k_chg0 rfl rfl rfl (chg_store tt_ok rfl Upd.here rfl rfl rfl rfl rfl rfl) (.inr (by rintro _ _ rfl; exact ⟨_, pP⟩)) ?_)
   rintro _ _ rfl
   refine k_chg rfl rfl rfl (Chg.of_val (v := .pointer (some ⟨b5, 2, none⟩)) (sV rfl)) rfl (.inl rfl) ?_
   rintro _ _ ⟨rfl, rfl⟩
   refine k_chg0 rfl rfl rfl (chg_store tt_ok rfl Upd.here rfl rfl rfl rfl rfl rfl) (.inl rfl) ?_
   rintro _ _ rfl
   refine k_end (by kernel_rfl) ?_
   refine wx_then (wc_seq (wc_k2 (Ls := (⟨b1, (.int .u64 p0.Frame :: .int .u64 p0.Seed :: pl14 za [.slice p0a0 p0n0 p0c0, .int .u16 p0.Score.1, .int .u16 p0.Score.2]), 64, (0, 0)⟩ :: (⟨b2, [.int .u64 0, .int .u64 0, .int .i32 0, .int .i32 0, .int .i32 0, .int .i32 0, .int .u8 0, .int .u8 0, .int .u8 0, .int .i32 0, .int .i32 0, .int .i32 0, .int .i32 0, .int .u8 0, .int .u8 0, .int .u8 0, .slice none 0 0, .int .u16 0, .int .u16 0], 64, (0, 0)⟩ :: (⟨b3, (pl14 p0.Players []), 59, (0, 0)⟩ :: (p0B0 ++ []))))) [8, 13, 14, 15] [14, 15] [0, 1, 3, 7, 0, 16, 48, 112, 255, 511, 1023, 1023, 2047, 6143, 16383, 32767] [0, 1, 2, 3, 4, 5, 6, 7, 8, 9, 10, 11, 12, 13, 14, 15] (by kernel_rfl) (by kernel_rfl) (by kernel_rfl) ?_))
   refine kM pI 1 rfl (k_val (v := .pointer (some ⟨b3, 7, none⟩)) rfl rfl rfl pI (val_ia (j := 1) tt_ok rfl rfl rfl rfl (by simpa using hx151) rfl rfl) rfl (kM pI 1 rfl (k_val (v := .int .i32 p0.Players.2.Y) rfl rfl rfl pI (val_load tt_ok rfl (mTT mH) rfl) rfl ?_)))
   refine kM pI 1 rfl (k_val (v := .pointer (some ⟨b3, 7, none⟩)) rfl rfl rfl pI (val_ia (j := 1) tt_ok rfl rfl rfl rfl (by simpa using hx151) rfl rfl) rfl (kM pI 1 rfl (k_val (v := .int .i32 p0.Players.2.VY) rfl rfl rfl pI (val_load tt_ok rfl (mTT mH) rfl) rfl ?_)))
   replace h := bsome h; obtain ⟨⟨zh, zi⟩, x40, h⟩ := h; try dsimp only at h
   refine k_cq rfl rfl rfl Tryz.call125 rfl rfl rfl (q_pf (k_hindcastref07_Move x40) (fun _ _ => trivial)) rfl pI ?_
   refine kM pI 4 rfl (k_chg0 rfl rfl rfl (chg_store tt_ok rfl Upd.here rfl rfl rfl rfl rfl rfl) (.inr (by rintro _ _ rfl; exact ⟨_, pP⟩)) ?_)
   rintro _ _ rfl
   refine k_chg rfl rfl rfl (Chg.of_val (v := .pointer (some ⟨b5, 3, none⟩)) (sV rfl)) rfl (.inl rfl) ?_
   rintro _ _ ⟨rfl, rfl⟩
   refine k_chg0 rfl rfl rfl (chg_store tt_ok rfl Upd.here rfl rfl rfl rfl rfl rfl) (.inl rfl) ?_
   rintro _ _ rfl
   refine k_end (by kernel_rfl) ?_
   refine wx_then (wc_region (wM 1 rfl (wLd (v := .agg #[.int .i32 zf, .int .i32 zh, .int .i32 zg, .int .i32 zi, .int .u8 za.2.Health, .int .u8 za.2.Cool, .int .u8 za.2.Face]) rfl mH rfl rfl (wM 1 rfl (wl_val (v := .pointer (some ⟨b1, 9, none⟩)) (val_ia (j := 1) tt_ok rfl rfl rfl rfl (by simpa using hx151) rfl rfl) rfl (lSt (Upd.there Upd.here) ?_))))))
   refine wl_nil (wx_block (wx_then (wc_region (wM 3 rfl (wl_nil ?_)))))
   exact wx_round m9 (Nat.lt_succ_self m9) ⟨(IntKind.wrap .i64 (ze + (1 : Int))), (za.1, (T_api_Player.mk zf zh zg zi za.2.Health za.2.Cool za.2.Face)), h, rfl, rfl⟩ (ag4 rfl rfl rfl rfl) pI
  replace h := cf hx151 h
  cases h
 refine wc_exit (wx_then_exit ?_)
 obtain rfl := sI h
 have h := hl9; clear hl9; try dsimp only [orE_l, orE_r] at h
 refine wx_then_exit (wx_block_exit (wx_then (wc_seq (wc_seq ?_))))
 refine wc_quiet (by kernel_rfl) (by kernel_rfl) ?_
 refine qM 1 rfl (wq_val (v := .pointer (some ⟨b1, 2, none⟩)) (val_ia (j := 0) tt_ok rfl rfl rfl rfl rfl rfl rfl) rfl (qLd (v := agP za.1) rfl mH rfl rfl ?_))
 obtain ⟨v52, x52, h⟩ := bsome h
 refine wq_cq Tryz.call127 rfl rfl rfl (q_pf (k_hindcastref09_Box x52) (fun _ _ => trivial)) rfl ?_
 refine qM 1 rfl (wq_val (v := .pointer (some ⟨b1, 9, none⟩)) (val_ia (j := 1) tt_ok rfl rfl rfl rfl rfl rfl rfl) rfl (qLd (v := agP za.2) rfl mH rfl rfl ?_))
 obtain ⟨v56, x56, h⟩ := bsome h
 refine wq_cq Tryz.call127 rfl rfl rfl (q_pf (k_hindcastref09_Box x56) (fun _ _ => trivial)) rfl ?_
 obtain ⟨v57, x57, h⟩ := bsome h
 refine wq_cq Tryz.call126 rfl rfl rfl (q_pf (k_hindcastref07_Over x57) (fun _ _ => trivial)) rfl ?_
 refine wq_nil (wx_then ?_)
 obtain ⟨zb, h, hj29⟩ := bsome h
 refine wc_join2 (fun E L => E = [(1, .pointer (some ⟨b1, 0, none⟩)), (2, .pointer (some ⟨b2, 0, none⟩))] ∧ L = (⟨b1, (.int .u64 p0.Frame :: .int .u64 p0.Seed :: pl14 zb [.slice p0a0 p0n0 p0c0, .int .u16 p0.Score.1, .int .u16 p0.Score.2]), 64, (0, 0)⟩ :: (⟨b2, [.int .u64 0, .int .u64 0, .int .i32 0, .int .i32 0, .int .i32 0, .int .i32 0, .int .u8 0, .int .u8 0, .int .u8 0, .int .i32 0, .int .i32 0, .int .i32 0, .int .i32 0, .int .u8 0, .int .u8 0, .int .u8 0, .slice none 0 0, .int .u16 0, .int .u16 0], 64, (0, 0)⟩ :: (p0B0 ++ [])))) ?_ ?_
 ·refine wcc h rfl ?_ ?_ <;> clear h <;> intro h
  ·refine wSR (wLd (v := .agg #[.int .i32 p0.Players.1.X, .int .i32 p0.Players.1.Y, .int .i32 p0.Players.1.VX, .int .i32 p0.Players.1.VY, .int .u8 p0.Players.1.Health, .int .u8 p0.Players.1.Cool, .int .u8 p0.Players.1.Face, .int .i32 p0.Players.2.X, .int .i32 p0.Players.2.Y, .int .i32 p0.Players.2.VX, .int .i32 p0.Players.2.VY, .int .u8 p0.Players.2.Health, .int .u8 p0.Players.2.Cool, .int .u8 p0.Players.2.Face]) rfl (mTT mH) rfl rfl (wM 1 rfl (lSt Upd.here ?_)))
   refine wNT (wSR (wM 1 rfl (wNT (wc_block ?_))))
   obtain ⟨zj, h, hl35⟩ := bsome h
   refine wc_loop (fun m E L => ∃ zd zc, m_hindcastref09_three_o0_L34 F m zd zc = some zj ∧ E = [(1, .pointer (some ⟨b1, 0, none⟩)), (2, .pointer (some ⟨b2, 0, none⟩)), (6, .int .i64 zd)] ∧ L = (⟨b1, (.int .u64 p0.Frame :: .int .u64 p0.Seed :: pl14 zc [.slice p0a0 p0n0 p0c0, .int .u16 p0.Score.1, .int .u16 p0.Score.2]), 64, (0, 0)⟩ :: (⟨b2, [.int .u64 0, .int .u64 0, .int .i32 0, .int .i32 0, .int .i32 0, .int .i32 0, .int .u8 0, .int .u8 0, .int .u8 0, .int .i32 0, .int .i32 0, .int .i32 0, .int .i32 0, .int .u8 0, .int .u8 0, .int .u8 0, .slice none 0 0, .int .u16 0, .int .u16 0], 64, (0, 0)⟩ :: (p0B0 ++ [])))) F ⟨(0 : Int), p0.Players, h, rfl, rfl⟩ (ag3 rfl rfl rfl) pI ?_
   clear h
   rintro m35 _ _ ⟨zd, zc, h, rfl, rfl⟩
   rcases m35 with _ | m35
   ·rw [m_hindcastref09_three_o0_L34.eq_1] at h; cases h
   rw [m_hindcastref09_three_o0_L34.eq_2] at h
   refine wc_seq (wSR (wM 2 rfl (wNT (wcc h rfl ?_ ?_)))) <;> clear h <;> intro h
   ·refine wc_skip (wx_then (wc_seq (wc_block (wSR (wM 2 rfl ?_)))))
    rcases Bool.eq_false_or_eq_true (zd == (0 : Int)) with hx660 | hx660
    ·replace h := ct hx660 h
     refine wl_val (v := .pointer (some ⟨b1, 2, none⟩)) (val_ia (j := 0) tt_ok rfl rfl rfl rfl (by simpa using hx660) rfl rfl) rfl ?_
     refine wM 1 rfl (lSt Upd.here ?_)
     refine wNT (wc_region (wM 2 rfl (wl_val (v := .pointer (some ⟨b1, 2, none⟩)) (val_ia (j := 0) tt_ok rfl rfl rfl rfl (by simpa using hx660) rfl rfl) rfl (wM 1 rfl (lSt Upd.here ?_)))))
     refine wl_nil (wx_block (wx_then (wc_region (wM 3 rfl (wl_nil ?_)))))
     exact wx_round m35 (Nat.lt_succ_self m35) ⟨(IntKind.wrap .i64 (zd + (1 : Int))), ((T_api_Player.mk zc.1.X zc.1.Y (0 : Int) (0 : Int) zc.1.Health zc.1.Cool zc.1.Face), zc.2), h, rfl, rfl⟩ (ag3 rfl rfl rfl) pI
    replace h := cf hx660 h
    rcases Bool.eq_false_or_eq_true (zd == (1 : Int)) with hx661 | hx661
    ·replace h := ct hx661 h
     refine wl_val (v := .pointer (some ⟨b1, 9, none⟩)) (val_ia (j := 1) tt_ok rfl rfl rfl rfl (by simpa using hx661) rfl rfl) rfl ?_
     refine wM 1 rfl (lSt Upd.here ?_)
     refine wNT (wc_region (wM 2 rfl (wl_val (v := .pointer (some ⟨b1, 9, none⟩)) (val_ia (j := 1) tt_ok rfl rfl rfl rfl (by simpa using hx661) rfl rfl) rfl (wM 1 rfl (lSt Upd.here ?_)))))
     refine wl_nil (wx_block (wx_then (wc_region (wM 3 rfl (wl_nil ?_)))))
     exact wx_round m35 (Nat.lt_succ_self m35) ⟨(IntKind.wrap .i64 (zd + (1 : Int))), (zc.1, (T_api_Player.mk zc.2.X zc.2.Y (0 : Int) (0 : Int) zc.2.Health zc.2.Cool zc.2.Face)), h, rfl, rfl⟩ (ag3 rfl rfl rfl) pI
    replace h := cf hx661 h
    cases h
   refine wc_exit (wx_then_exit ?_)
   obtain rfl := sI h
   have h := hl35; clear hl35; try dsimp only [orE_l, orE_r] at h
   refine wx_then_exit (wx_block_exit ?_)
   obtain rfl := sI h
   exact wx_join ⟨rfl, rfl⟩ (ag2 rfl rfl) pI
  refine wc_skip ?_
  obtain rfl := sI h
  exact wx_join ⟨rfl, rfl⟩ (ag2 rfl rfl) pI
 rintro _ _ ⟨rfl, rfl⟩
 have h := hj29; clear hj29
 refine wSR (wLd (v := .agg #[.int .u64 p0.Frame, .int .u64 p0.Seed, .int .i32 zb.1.X, .int .i32 zb.1.Y, .int .i32 zb.1.VX, .int .i32 zb.1.VY, .int .u8 zb.1.Health, .int .u8 zb.1.Cool, .int .u8 zb.1.Face, .int .i32 zb.2.X, .int .i32 zb.2.Y, .int .i32 zb.2.VX, .int .i32 zb.2.VY, .int .u8 zb.2.Health, .int .u8 zb.2.Cool, .int .u8 zb.2.Face, .slice p0a0 p0n0 p0c0, .int .u16 p0.Score.1, .int .u16 p0.Score.2]) rfl mH rfl rfl (lSt (Upd.there Upd.here) ?_))
 refine wNT (wc_ret ?_)
 obtain rfl := sI h
 exact wE Tryz.results104 (Res.cell rfl (mT mH) rfl Res.nil) ⟨p0a0, p0n0, p0c0, p0B0, p0N0, p0V0, rfl, rfl⟩ pI

theorem k_hindcastref07_Inside {p0 : T_api_Box} {p1 : T_api_Box} {r0 : Bool} (h : m_hindcastref07_Inside F p0 p1 = some r0) :
    Pf Tryz.prog 128 [.agg #[.int .i32 p0.X, .int .i32 p0.Y, .int .i32 p0.W, .int .i32 p0.H], .agg #[.int .i32 p1.X, .int .i32 p1.Y, .int .i32 p1.W, .int .i32 p1.H]] (fun w => True) (.bool r0) := by
 unfold m_hindcastref07_Inside at h
 refine pf_of_wc Tryz.func128 rfl Tryz.ntmps128 rfl rfl (fun w0 hR => ?_)
 refine wSR (wl_box rfl rfl rfl (fun b2 => (wl_box rfl rfl rfl (fun b3 => (wM 1 rfl (wNT (wc_seq (wc_quiet (by kernel_rfl) (by kernel_rfl) (qM 1 rfl (qLd rfl (mT mH) rfl rfl (qM 2 rfl (qLd rfl (mT mH) rfl rfl (qM 3 rfl (wq_nil (wx_then (wSR (wM 1 rfl (wLd rfl (mT mH) rfl rfl (wM 2 rfl ?_)))))))))))))))))))
 obtain ⟨v20, h, hg20⟩ := bsome h
 refine wls 16 h rfl ?_ ?_ <;> clear h <;> intro h
 ·refine wM 1 rfl (wl_run rfl (wLd rfl (mT mH) rfl rfl (wM 1 rfl ?_)))
  obtain rfl := sI h
  have h := hg20; clear hg20
  refine wM 2 rfl ?_
  obtain ⟨v26, h, hg26⟩ := bsome h
  refine wls 21 h rfl ?_ ?_ <;> clear h <;> intro h
  ·refine wl_run rfl (wLd (v := .agg #[.int .i32 p1.X, .int .i32 p1.Y, .int .i32 p1.W, .int .i32 p1.H]) rfl mH rfl rfl (wM 2 rfl ?_))
   obtain ⟨v25, x25, h⟩ := bsome h
   refine wl_run rfl (wl_cq Tryz.call137 rfl rfl rfl (q_pf (k_hindcastref07_Has x25) (fun _ _ => trivial)) rfl ?_)
   obtain rfl := sI h
   have h := hg26; clear hg26
   refine wM 2 rfl ?_
   obtain ⟨v42, h, hg42⟩ := bsome h
   refine wls 27 h rfl ?_ ?_ <;> clear h <;> intro h
   ·refine wl_run rfl (wLd (v := .agg #[.int .i32 p1.X, .int .i32 p1.Y, .int .i32 p1.W, .int .i32 p1.H]) rfl mH rfl rfl (wM 2 rfl (wl_run rfl (wLd rfl (mT mH) rfl rfl (wM 5 rfl (wl_run rfl (wLd rfl (mT mH) rfl rfl (wM 3 rfl ?_))))))))
    obtain ⟨v41, x41, h⟩ := bsome h
    refine wl_run rfl (wl_cq Tryz.call137 rfl rfl rfl (q_pf (k_hindcastref07_Has x41) (fun _ _ => trivial)) rfl ?_)
    obtain rfl := sI h
    have h := hg42; clear hg42
    refine wM 2 rfl (wNT (wc_ret ?_))
    obtain rfl := sI h
    exact pE Tryz.results128 rfl
   refine wM 12 rfl (wM 2 rfl ?_)
   obtain rfl := sI h
   have h := hg42; clear hg42
   refine wM 2 rfl (wNT (wc_ret ?_))
   obtain rfl := sI h
   exact pE Tryz.results128 rfl
  refine wM 4 rfl ?_
  obtain rfl := sI h
  have h := hg26; clear hg26
  refine wM 2 rfl ?_
  obtain ⟨v42, h, hg42⟩ := bsome h
  replace h := cf rfl h
  refine wM 12 rfl (wM 2 rfl ?_)
  obtain rfl := sI h
  have h := hg42; clear hg42
  refine wM 2 rfl (wNT (wc_ret ?_))
  obtain rfl := sI h
  exact pE Tryz.results128 rfl
 refine wM 3 rfl ?_
 obtain rfl := sI h
 have h := hg20; clear hg20
 refine wM 2 rfl ?_
 obtain ⟨v26, h, hg26⟩ := bsome h
 replace h := cf rfl h
 refine wM 4 rfl ?_
 obtain rfl := sI h
 have h := hg26; clear hg26
 refine wM 2 rfl ?_
 obtain ⟨v42, h, hg42⟩ := bsome h
 replace h := cf rfl h
 refine wM 12 rfl (wM 2 rfl ?_)
 obtain rfl := sI h
 have h := hg42; clear hg42
 refine wM 2 rfl (wNT (wc_ret ?_))
 obtain rfl := sI h
 exact pE Tryz.results128 rfl

end Go.Proofs.YtkdbpenjkcjimaaGreatDoor
