/-
  Each function computes what its model says. Printed by a program of this claim's own.
-/
import Derived.Test.YthlnellnlhkphaaDoorTab
import Derived.Test.YthlnellnlhkphaaDoorMod
import Derived.Test.YthlnellnlhkphaaDoorWalk1
import Derived.Test.YthlnellnlhkphaaDoorIns
namespace Go.Proofs.YthlnellnlhkphaaDoor
open Go.Proofs.YthlnellnlhkphaaDoor.Eng
set_option linter.unusedVariables false
set_option linter.unusedSimpArgs false
set_option maxHeartbeats 4000000
set_option maxRecDepth 20000
set_option synthInstance.maxHeartbeats 400000
set_option synthInstance.maxSize 4000
variable {F p0b p0c0 p0n0 p0t p1c0 p1n0 p2c0 p2n0 : Nat}
variable {p0B0 : List Blk}
variable {p0a0 p1a0 p2a0 : Option Addr}

theorem k_step_Step {p0 : T_api_State} {p1 : (Int × Int)} {r0 : T_api_State} (p0N0 : p0n0 = p0.Shots.length) (p0H0 : p0n0 ≤ p0c0) (h : m_step_Step F p0 p1 = some r0) :
    SpD Tryd.prog 21 [agS p0 p0a0 p0n0 p0c0, .agg #[.int .u8 p1.1, .int .u8 p1.2]] [] (fun w => Rds w (ids []) [] p0a0 (flat c_T_api_Shot p0.Shots) ∧ Rds w (ids []) [] (some ⟨0, 0, none⟩) (flat (fun _ : Unit => gl_state_playerBounds) [()]) ∧ Rds w (ids []) [] (some ⟨1, 0, none⟩) (flat (fun _ : Unit => gl_state_shotBounds) [()])) (fun v D => ∃ r0a0 r0n0 r0c0 r0B0, r0n0 = r0.Shots.length ∧ Own 87 6 r0a0 r0n0 r0c0 (flat c_T_api_Shot r0.Shots) r0B0 ∧ v = agS r0 r0a0 r0n0 r0c0 ∧ D = fun F => (r0B0 ++ F)) := by
 unfold m_step_Step at h
 refine sp_of_wc Tryd.func21 rfl Tryd.ntmps21 rfl rfl (fun w0 hR => ?_)
 obtain ⟨p0S0, G0S, G1S⟩ := hR
 refine wSR (wl_box rfl rfl rfl (fun b2 => (wl_box rfl rfl rfl (fun b3 => (wl_alloc tt_ok rfl rfl (fun b4 => (wNT (wSR (wLd (v := agS p0 p0a0 p0n0 p0c0) rfl (mTT mH) rfl rfl ?_)))))))))
 obtain ⟨v12, x12, h⟩ := bsome h
 refine wl_cs Tryd.call30 rfl rfl rfl (s_sp (k_state_Copy (p0 := p0) p0N0 p0H0 x12) pNil (Rds.call p0S0 pNil rsub_nil)) rfl ?_
 rintro _ _ ⟨_, ⟨v12a0, v12n0, v12c0, v12B0, v12N0, v12V0, rfl, rfl⟩, rfl⟩
 refine lSt (Upd.right (Upd.there (Upd.there Upd.here))) ?_
 refine wNT (wc_seq (wSR (wLd (v := agS v12 v12a0 v12n0 v12c0) rfl (mR (mTT mH)) rfl rfl ?_)))
 obtain ⟨v14, x14, h⟩ := bsome h
 refine wl_cq Tryd.call31 rfl rfl rfl (q_pf (k_state_Check (p0 := v12) v12N0 (vec_cap v12V0) x14) (fun w hI => ⟨(Rds.call (Rds.of_vec v12V0) pNil ⟨_, hA'⟩) w hI, (Rds.call G0S pNil rsub_nil) w hI, (Rds.call G1S pNil rsub_nil) w hI⟩)) rfl ?_
 refine wM 2 rfl ?_
 obtain ⟨v21, h, hg21⟩ := bsome h
 refine wls 16 h rfl ?_ ?_ <;> clear h <;> intro h
 ·refine wM 4 rfl ?_
  obtain rfl := sI h
  have h := hg21; clear hg21
  refine wM 2 rfl ?_
  obtain ⟨v27, h, hg27⟩ := bsome h
  replace h := ct rfl h
  refine wM 4 rfl ?_
  obtain rfl := sI h
  have h := hg27; clear hg27
  refine wM 1 rfl (wNT ?_)
  replace h := ct rfl h
  refine wc_cond_true rfl ?_
  refine wSR (wLd (v := agS v12 v12a0 v12n0 v12c0) rfl (mR (mTT mH)) rfl rfl (lSt (Upd.right Upd.here) ?_))
  refine wNT (wc_ret (wx_then_ret ?_))
  obtain rfl := sI h
  exact wE Tryd.results21 (Res.cell rfl (mR mH) rfl Res.nil) ⟨v12a0, v12n0, v12c0, v12B0, v12N0, v12V0, rfl, rfl⟩ pI
 refine wl_run rfl (wl_val (v := .pointer (some ⟨b3, 0, none⟩)) (val_ia (j := 0) tt_ok rfl rfl rfl rfl rfl rfl rfl) rfl (wl_run rfl (wLd rfl (mR (mT mH)) rfl rfl ?_)))
 obtain ⟨v19, x19, h⟩ := bsome h
 refine wl_run rfl (wl_cq Tryd.call32 rfl rfl rfl (q_pf (k_input_Legal x19) (fun _ _ => trivial)) rfl (wM 1 rfl ?_))
 obtain rfl := sI h
 have h := hg21; clear hg21
 refine wM 2 rfl ?_
 obtain ⟨v27, h, hg27⟩ := bsome h
 refine wls 22 h rfl ?_ ?_ <;> clear h <;> intro h
 ·refine wM 4 rfl ?_
  obtain rfl := sI h
  have h := hg27; clear hg27
  refine wM 1 rfl (wNT ?_)
  replace h := ct rfl h
  refine wc_cond_true rfl ?_
  refine wSR (wLd (v := agS v12 v12a0 v12n0 v12c0) rfl (mR (mTT mH)) rfl rfl (lSt (Upd.right Upd.here) ?_))
  refine wNT (wc_ret (wx_then_ret ?_))
  obtain rfl := sI h
  exact wE Tryd.results21 (Res.cell rfl (mR mH) rfl Res.nil) ⟨v12a0, v12n0, v12c0, v12B0, v12N0, v12V0, rfl, rfl⟩ pI
 refine wl_run rfl (wl_val (v := .pointer (some ⟨b3, 1, none⟩)) (val_ia (j := 1) tt_ok rfl rfl rfl rfl rfl rfl rfl) rfl (wl_run rfl (wLd rfl (mR (mT mH)) rfl rfl ?_)))
 obtain ⟨v25, x25, h⟩ := bsome h
 refine wl_run rfl (wl_cq Tryd.call32 rfl rfl rfl (q_pf (k_input_Legal x25) (fun _ _ => trivial)) rfl (wM 1 rfl ?_))
 obtain rfl := sI h
 have h := hg27; clear hg27
 refine wM 1 rfl (wNT (wcc h rfl ?_ ?_)) <;> clear h <;> intro h
 ·refine wSR (wLd (v := agS v12 v12a0 v12n0 v12c0) rfl (mR (mTT mH)) rfl rfl (lSt (Upd.right Upd.here) ?_))
  refine wNT (wc_ret (wx_then_ret ?_))
  obtain rfl := sI h
  exact wE Tryd.results21 (Res.cell rfl (mR mH) rfl Res.nil) ⟨v12a0, v12n0, v12c0, v12B0, v12N0, v12V0, rfl, rfl⟩ pI
 refine wc_skip (wx_then (wc_seq (wSR (wM 1 rfl (wNT (wc_block ?_))))))
 obtain ⟨zah, h, hl17⟩ := bsome h
 refine wc_loop (fun m E L => ∃ zy zo, m_step_Step_L16 F p1 m zy zo = some zah ∧ E = [(2, .pointer (some ⟨b2, 0, none⟩)), (3, .pointer (some ⟨b3, 0, none⟩)), (4, .pointer (some ⟨b4, 0, none⟩)), (29, .int .i64 zy)] ∧ L = (⟨b2, (.int .u64 v12.Frame :: .int .u64 v12.Seed :: pl14 zo [.slice v12a0 v12n0 v12c0, .int .u16 v12.Score.1, .int .u16 v12.Score.2]), 41, (0, 0)⟩ :: (⟨b3, [.int .u8 p1.1, .int .u8 p1.2], 64, (0, 0)⟩ :: (⟨b4, [.int .u64 0, .int .u64 0, .int .i32 0, .int .i32 0, .int .i32 0, .int .i32 0, .int .u8 0, .int .u8 0, .int .u8 0, .int .i32 0, .int .i32 0, .int .i32 0, .int .i32 0, .int .u8 0, .int .u8 0, .int .u8 0, .slice none 0 0, .int .u16 0, .int .u16 0], 41, (0, 0)⟩ :: (v12B0 ++ []))))) F ⟨(0 : Int), v12.Players, h, rfl, rfl⟩ (ag4 rfl rfl rfl rfl) pI ?_
 clear h
 rintro m17 _ _ ⟨zy, zo, h, rfl, rfl⟩
 rcases m17 with _ | m17
 ·rw [m_step_Step_L16.eq_1] at h; cases h
 rw [m_step_Step_L16.eq_2] at h
 refine wSR (wM 1 rfl (wNT (wc_seq (wcc h rfl ?_ ?_)))) <;> clear h <;> intro h
 ·refine wc_skip (wx_then (wc_seq (wc_block (wSR (wM 2 rfl (wNT (wc_k2 (Ls := (⟨b2, (.int .u64 v12.Frame :: .int .u64 v12.Seed :: pl14 zo [.slice v12a0 v12n0 v12c0, .int .u16 v12.Score.1, .int .u16 v12.Score.2]), 41, (0, 0)⟩ :: (⟨b3, [.int .u8 p1.1, .int .u8 p1.2], 64, (0, 0)⟩ :: (⟨b4, [.int .u64 0, .int .u64 0, .int .i32 0, .int .i32 0, .int .i32 0, .int .i32 0, .int .u8 0, .int .u8 0, .int .u8 0, .int .i32 0, .int .i32 0, .int .i32 0, .int .i32 0, .int .u8 0, .int .u8 0, .int .u8 0, .slice none 0 0, .int .u16 0, .int .u16 0], 41, (0, 0)⟩ :: (v12B0 ++ []))))) [8, 10, 11] [10, 11] [0, 0, 0, 6, 14, 0, 32, 96, 254, 0, 1023, 2047] [0, 1, 2, 3, 4, 5, 6, 7, 9, 8, 10, 11] (by kernel_rfl) (by kernel_rfl) (by kernel_rfl) ?_)))))))
  refine kM pI 3 rfl ?_
  rcases Bool.eq_false_or_eq_true (zy == (0 : Int)) with hx350 | hx350
  ·replace h := ct hx350 h
   refine k_val (v := .pointer (some ⟨b2, 2, none⟩)) rfl rfl rfl pI (val_ia (j := 0) tt_ok rfl rfl rfl rfl (by simpa using hx350) rfl rfl) rfl (k_val (v := agP zo.1) rfl rfl rfl pI (val_load tt_ok rfl mH rfl) rfl (kM pI 1 rfl (k_val (v := .pointer (some ⟨b3, 0, none⟩)) rfl rfl rfl pI (val_ia (j := 0) tt_ok rfl rfl rfl rfl (by simpa using hx350) rfl rfl) rfl ?_)))
   refine k_val (v := .int .u8 p1.1) rfl rfl rfl pI (val_load tt_ok rfl (mT mH) rfl) rfl (kM pI 1 rfl ?_)
   obtain ⟨v40, x40, h⟩ := bsome h
   refine k_cq rfl rfl rfl Tryd.call33 rfl rfl rfl (q_pf (k_step_steer x40) (fun _ _ => trivial)) rfl pI ?_
   refine k_chg rfl rfl rfl (Chg.of_val (v := .pointer (some ⟨b2, 2, none⟩)) (val_ia (j := 0) tt_ok rfl rfl rfl rfl (by simpa using hx350) rfl rfl)) rfl (.inl rfl) ?_
   rintro _ _ ⟨rfl, rfl⟩
   refine k_chg0 rfl rfl rfl (chg_store tt_ok rfl Upd.here rfl rfl rfl rfl rfl rfl) (.inl rfl) ?_
   rintro _ _ rfl
   refine k_end (by kernel_rfl) ?_
   refine wx_block (wx_then (wc_region (wM 2 rfl (wl_nil ?_))))
   exact wx_round m17 (Nat.lt_succ_self m17) ⟨(IntKind.wrap .i64 (zy + (1 : Int))), (v40, zo.2), h, rfl, rfl⟩ (ag4 rfl rfl rfl rfl) pI
  replace h := cf hx350 h
  rcases Bool.eq_false_or_eq_true (zy == (1 : Int)) with hx351 | hx351
  ·replace h := ct hx351 h
   refine k_val (v := .pointer (some ⟨b2, 9, none⟩)) rfl rfl rfl pI (val_ia (j := 1) tt_ok rfl rfl rfl rfl (by simpa using hx351) rfl rfl) rfl (k_val (v := agP zo.2) rfl rfl rfl pI (val_load tt_ok rfl mH rfl) rfl (kM pI 1 rfl (k_val (v := .pointer (some ⟨b3, 1, none⟩)) rfl rfl rfl pI (val_ia (j := 1) tt_ok rfl rfl rfl rfl (by simpa using hx351) rfl rfl) rfl ?_)))
   refine k_val (v := .int .u8 p1.2) rfl rfl rfl pI (val_load tt_ok rfl (mT mH) rfl) rfl (kM pI 1 rfl ?_)
   obtain ⟨v40, x40, h⟩ := bsome h
   refine k_cq rfl rfl rfl Tryd.call33 rfl rfl rfl (q_pf (k_step_steer x40) (fun _ _ => trivial)) rfl pI ?_
   refine k_chg rfl rfl rfl (Chg.of_val (v := .pointer (some ⟨b2, 9, none⟩)) (val_ia (j := 1) tt_ok rfl rfl rfl rfl (by simpa using hx351) rfl rfl)) rfl (.inl rfl) ?_
   rintro _ _ ⟨rfl, rfl⟩
   refine k_chg0 rfl rfl rfl (chg_store tt_ok rfl Upd.here rfl rfl rfl rfl rfl rfl) (.inl rfl) ?_
   rintro _ _ rfl
   refine k_end (by kernel_rfl) ?_
   refine wx_block (wx_then (wc_region (wM 2 rfl (wl_nil ?_))))
   exact wx_round m17 (Nat.lt_succ_self m17) ⟨(IntKind.wrap .i64 (zy + (1 : Int))), (zo.1, v40), h, rfl, rfl⟩ (ag4 rfl rfl rfl rfl) pI
  replace h := cf hx351 h
  cases h
 refine wc_exit (wx_then_exit ?_)
 obtain rfl := sI h
 have h := hl17; clear hl17; try dsimp only [orE_l, orE_r] at h
 refine wx_then_exit (wx_block_exit (wx_then (wc_seq (wSR ?_))))
 refine wM 1 rfl (wNT (wc_block ?_))
 replace h := bsome h; obtain ⟨⟨zai, zaj⟩, h, hl34⟩ := h; try dsimp only at hl34
 refine wc_loop (fun m E L => ∃ zr zc za zf ze zg zi, m_step_Step_L33 F p1 m zr zc za = some (zai, zaj) ∧ ze = za.length ∧ Own 87 6 zf ze zg (flat c_T_api_Shot za) zi ∧ E = [(2, .pointer (some ⟨b2, 0, none⟩)), (3, .pointer (some ⟨b3, 0, none⟩)), (4, .pointer (some ⟨b4, 0, none⟩)), (44, .int .i64 zr)] ∧ L = (⟨b2, (.int .u64 v12.Frame :: .int .u64 v12.Seed :: pl14 zc [.slice zf ze zg, .int .u16 v12.Score.1, .int .u16 v12.Score.2]), 41, (0, 0)⟩ :: (⟨b3, [.int .u8 p1.1, .int .u8 p1.2], 64, (0, 0)⟩ :: (⟨b4, [.int .u64 0, .int .u64 0, .int .i32 0, .int .i32 0, .int .i32 0, .int .i32 0, .int .u8 0, .int .u8 0, .int .u8 0, .int .i32 0, .int .i32 0, .int .i32 0, .int .i32 0, .int .u8 0, .int .u8 0, .int .u8 0, .slice none 0 0, .int .u16 0, .int .u16 0], 41, (0, 0)⟩ :: (zi ++ []))))) F ⟨(0 : Int), zo, v12.Shots, v12a0, v12n0, v12c0, v12B0, h, v12N0, v12V0, rfl, rfl⟩ (ag4 rfl rfl rfl rfl) pI ?_
 clear h
 rintro m34 _ _ ⟨zr, zc, za, zf, ze, zg, zi, h, zj, zk, rfl, rfl⟩
 rcases m34 with _ | m34
 ·rw [m_step_Step_L33.eq_1] at h; cases h
 rw [m_step_Step_L33.eq_2] at h
 refine wSR (wM 1 rfl (wNT (wc_seq (wcc h rfl ?_ ?_)))) <;> clear h <;> intro h
 ·refine wc_skip (wx_then (wc_seq (wc_block (wSR (wM 2 rfl (wNT (wSR (wM 2 rfl ?_))))))))
  rcases Bool.eq_false_or_eq_true (zr == (0 : Int)) with hx490 | hx490
  ·replace h := ct hx490 h
   refine wl_val (v := .pointer (some ⟨b2, 2, none⟩)) (val_ia (j := 0) tt_ok rfl rfl rfl rfl (by simpa using hx490) rfl rfl) rfl ?_
   refine wM 1 rfl (wNT (wSR (wM 1 rfl (wl_val (v := .pointer (some ⟨b3, 0, none⟩)) (val_ia (j := 0) tt_ok rfl rfl rfl rfl (by simpa using hx490) rfl rfl) rfl (wLd rfl (mT mH) rfl rfl ?_)))))
   obtain ⟨v53, x53, h⟩ := bsome h
   refine wl_cq Tryd.call34 rfl rfl rfl (q_pf (k_input_Fire x53) (fun _ _ => trivial)) rfl ?_
   refine wM 1 rfl ?_
   obtain ⟨v60, h, hg60⟩ := bsome h
   refine wls 54 h rfl ?_ ?_ <;> clear h <;> intro h
   ·refine wM 3 rfl (wl_run rfl (wLd rfl mH rfl rfl (wM 1 rfl ?_)))
    obtain rfl := sI h
    have h := hg60; clear hg60
    refine wM 2 rfl ?_
    obtain ⟨v66, h, hg66⟩ := bsome h
    refine wls 61 h rfl ?_ ?_ <;> clear h <;> intro h
    ·refine wM 1 rfl (wl_run rfl (wLd rfl mH rfl rfl (wl_run rfl (wl_val (v := .int .i64 (za.length : Int)) (val_len tt_ok rfl rfl zj) rfl (wM 1 rfl ?_)))))
     obtain rfl := sI h
     have h := hg66; clear hg66
     refine wM 1 rfl (wNT (wcc h rfl ?_ ?_)) <;> clear h <;> intro h
     ·refine wc_seq (wc_k2 (Ls := (⟨b2, (.int .u64 v12.Frame :: .int .u64 v12.Seed :: pl14 zc [.slice zf ze zg, .int .u16 v12.Score.1, .int .u16 v12.Score.2]), 41, (0, 0)⟩ :: (⟨b3, [.int .u8 p1.1, .int .u8 p1.2], 64, (0, 0)⟩ :: (⟨b4, [.int .u64 0, .int .u64 0, .int .i32 0, .int .i32 0, .int .i32 0, .int .i32 0, .int .u8 0, .int .u8 0, .int .u8 0, .int .i32 0, .int .i32 0, .int .i32 0, .int .i32 0, .int .u8 0, .int .u8 0, .int .u8 0, .slice none 0 0, .int .u16 0, .int .u16 0], 41, (0, 0)⟩ :: (zi ++ []))))) [7, 8, 9, 10, 11] [9, 10, 11] [0, 1, 0, 4, 12, 0, 32, 124, 252, 511, 1023, 2047] [0, 1, 2, 3, 4, 5, 6, 7, 8, 9, 10, 11] (by kernel_rfl) (by kernel_rfl) (by kernel_rfl) ?_)
      refine kM pI 1 rfl (k_val (v := .slice zf ze zg) rfl rfl rfl pI (val_load tt_ok rfl mH rfl) rfl (kM pI 2 rfl (k_val (v := agP zc.1) rfl rfl rfl pI (val_load tt_ok rfl mH rfl) rfl (kM pI 2 rfl ?_))))
      obtain ⟨v74, x74, h⟩ := bsome h
      refine k_cq rfl rfl rfl Tryd.call35 rfl rfl rfl (q_pf (k_step_shoot x74) (fun _ _ => trivial)) rfl pI ?_
      refine k_chg rfl rfl rfl (chg_bsv (enc := c_T_api_Shot) (xs := ([v74] : List T_api_Shot)) tt_ok rfl rfl rfl rfl rfl rfl rfl rfl c_T_api_Shot_len) rfl (.inr (by rintro _ _ ⟨_, _, _, _, rfl, _, _, rfl⟩; exact ⟨_, pP⟩)) ?_
      rintro _ _ ⟨a75, n75_, c75, B75, rfl, N75, V75, rfl⟩
      obtain ⟨v76, x76, h⟩ := bsome h
      refine k_chg rfl rfl rfl (chg_app (enc := c_T_api_Shot) (ys := ([v74] : List T_api_Shot)) tt_ok rfl rfl rfl rfl rfl rfl zj N75 zk (sA (sCC (sC hA'))) (Rds.of_vec V75) ⟨_, hA'⟩ c_T_api_Shot_len (fun _ => rfl) rfl x76) rfl (.inl rfl) ?_
      rintro _ _ ⟨a76, n76_, c76, B76, rfl, N76, V76, rfl⟩
      refine k_chg rfl rfl rfl (Chg.of_val (v := .pointer (some ⟨b2, 16, none⟩)) (sV rfl)) rfl (.inl rfl) ?_
      rintro _ _ ⟨rfl, rfl⟩
      refine k_chg0 rfl rfl rfl (chg_store tt_ok rfl (Upd.right (Upd.right Upd.here)) rfl rfl rfl rfl rfl rfl) (.inl rfl) ?_
      rintro _ _ rfl
      refine k_end (by kernel_rfl) ?_
      refine wx_then (wc_region (wM 3 rfl (lSt (Upd.right (Upd.right Upd.here)) ?_)))
      refine wl_nil (wx_block (wx_then (wc_region (wM 2 rfl (wl_nil ?_)))))
      exact wx_round m34 (Nat.lt_succ_self m34) ⟨(IntKind.wrap .i64 (zr + (1 : Int))), ((T_api_Player.mk zc.1.X zc.1.Y zc.1.VX zc.1.VY zc.1.Health (10 : Int) zc.1.Face), zc.2), v76, a76, n76_, c76, B76, h, N76, V76, rfl, rfl⟩ (ag4 rfl rfl rfl rfl) pI
     refine wc_skip (wx_block (wx_then (wc_region (wM 2 rfl (wl_nil ?_)))))
     exact wx_round m34 (Nat.lt_succ_self m34) ⟨(IntKind.wrap .i64 (zr + (1 : Int))), zc, za, zf, ze, zg, zi, h, zj, zk, rfl, rfl⟩ (ag4 rfl rfl rfl rfl) pI
    refine wM 4 rfl ?_
    obtain rfl := sI h
    have h := hg66; clear hg66
    refine wM 1 rfl (wNT ?_)
    replace h := cf rfl h
    refine wc_cond_false rfl ?_
    refine wc_skip (wx_block (wx_then (wc_region (wM 2 rfl (wl_nil ?_)))))
    exact wx_round m34 (Nat.lt_succ_self m34) ⟨(IntKind.wrap .i64 (zr + (1 : Int))), zc, za, zf, ze, zg, zi, h, zj, zk, rfl, rfl⟩ (ag4 rfl rfl rfl rfl) pI
   refine wM 5 rfl ?_
   obtain rfl := sI h
   have h := hg60; clear hg60
   refine wM 2 rfl ?_
   obtain ⟨v66, h, hg66⟩ := bsome h
   replace h := cf rfl h
   refine wM 4 rfl ?_
   obtain rfl := sI h
   have h := hg66; clear hg66
   refine wM 1 rfl (wNT ?_)
   replace h := cf rfl h
   refine wc_cond_false rfl ?_
   refine wc_skip (wx_block (wx_then (wc_region (wM 2 rfl (wl_nil ?_)))))
   exact wx_round m34 (Nat.lt_succ_self m34) ⟨(IntKind.wrap .i64 (zr + (1 : Int))), zc, za, zf, ze, zg, zi, h, zj, zk, rfl, rfl⟩ (ag4 rfl rfl rfl rfl) pI
  replace h := cf hx490 h
  rcases Bool.eq_false_or_eq_true (zr == (1 : Int)) with hx491 | hx491
  ·replace h := ct hx491 h
   refine wl_val (v := .pointer (some ⟨b2, 9, none⟩)) (val_ia (j := 1) tt_ok rfl rfl rfl rfl (by simpa using hx491) rfl rfl) rfl ?_
   refine wM 1 rfl (wNT (wSR (wM 1 rfl (wl_val (v := .pointer (some ⟨b3, 1, none⟩)) (val_ia (j := 1) tt_ok rfl rfl rfl rfl (by simpa using hx491) rfl rfl) rfl (wLd rfl (mT mH) rfl rfl ?_)))))
   obtain ⟨v53, x53, h⟩ := bsome h
   refine wl_cq Tryd.call34 rfl rfl rfl (q_pf (k_input_Fire x53) (fun _ _ => trivial)) rfl ?_
   refine wM 1 rfl ?_
   obtain ⟨v60, h, hg60⟩ := bsome h
   refine wls 54 h rfl ?_ ?_ <;> clear h <;> intro h
   ·refine wM 3 rfl (wl_run rfl (wLd rfl mH rfl rfl (wM 1 rfl ?_)))
    obtain rfl := sI h
    have h := hg60; clear hg60
    refine wM 2 rfl ?_
    obtain ⟨v66, h, hg66⟩ := bsome h
    refine wls 61 h rfl ?_ ?_ <;> clear h <;> intro h
    ·refine wM 1 rfl (wl_run rfl (wLd rfl mH rfl rfl (wl_run rfl (wl_val (v := .int .i64 (za.length : Int)) (val_len tt_ok rfl rfl zj) rfl (wM 1 rfl ?_)))))
     obtain rfl := sI h
     have h := hg66; clear hg66
     refine wM 1 rfl (wNT (wcc h rfl ?_ ?_)) <;> clear h <;> intro h
     ·refine wc_seq (wc_k2 (Ls := (⟨b2, (.int .u64 v12.Frame :: .int .u64 v12.Seed :: pl14 zc [.slice zf ze zg, .int .u16 v12.Score.1, .int .u16 v12.Score.2]), 41, (0, 0)⟩ :: (⟨b3, [.int .u8 p1.1, .int .u8 p1.2], 64, (0, 0)⟩ :: (⟨b4, [.int .u64 0, .int .u64 0, .int .i32 0, .int .i32 0, .int .i32 0, .int .i32 0, .int .u8 0, .int .u8 0, .int .u8 0, .int .i32 0, .int .i32 0, .int .i32 0, .int .i32 0, .int .u8 0, .int .u8 0, .int .u8 0, .slice none 0 0, .int .u16 0, .int .u16 0], 41, (0, 0)⟩ :: (zi ++ []))))) [7, 8, 9, 10, 11] [9, 10, 11] [0, 1, 0, 4, 12, 0, 32, 124, 252, 511, 1023, 2047] [0, 1, 2, 3, 4, 5, 6, 7, 8, 9, 10, 11] (by kernel_rfl) (by kernel_rfl) (by kernel_rfl) ?_)
      refine kM pI 1 rfl (k_val (v := .slice zf ze zg) rfl rfl rfl pI (val_load tt_ok rfl mH rfl) rfl (kM pI 2 rfl (k_val (v := agP zc.2) rfl rfl rfl pI (val_load tt_ok rfl mH rfl) rfl (kM pI 2 rfl ?_))))
      obtain ⟨v74, x74, h⟩ := bsome h
      refine k_cq rfl rfl rfl Tryd.call35 rfl rfl rfl (q_pf (k_step_shoot x74) (fun _ _ => trivial)) rfl pI ?_
      refine k_chg rfl rfl rfl (chg_bsv (enc := c_T_api_Shot) (xs := ([v74] : List T_api_Shot)) tt_ok rfl rfl rfl rfl rfl rfl rfl rfl c_T_api_Shot_len) rfl (.inr (by rintro _ _ ⟨_, _, _, _, rfl, _, _, rfl⟩; exact ⟨_, pP⟩)) ?_
      rintro _ _ ⟨a75, n75_, c75, B75, rfl, N75, V75, rfl⟩
      obtain ⟨v76, x76, h⟩ := bsome h
      refine k_chg rfl rfl rfl (chg_app (enc := c_T_api_Shot) (ys := ([v74] : List T_api_Shot)) tt_ok rfl rfl rfl rfl rfl rfl zj N75 zk (sA (sCC (sC hA'))) (Rds.of_vec V75) ⟨_, hA'⟩ c_T_api_Shot_len (fun _ => rfl) rfl x76) rfl (.inl rfl) ?_
      rintro _ _ ⟨a76, n76_, c76, B76, rfl, N76, V76, rfl⟩
      refine k_chg rfl rfl rfl (Chg.of_val (v := .pointer (some ⟨b2, 16, none⟩)) (sV rfl)) rfl (.inl rfl) ?_
      rintro _ _ ⟨rfl, rfl⟩
      refine k_chg0 rfl rfl rfl (chg_store tt_ok rfl (Upd.right (Upd.right Upd.here)) rfl rfl rfl rfl rfl rfl) (.inl rfl) ?_
      rintro _ _ rfl
      refine k_end (by kernel_rfl) ?_
      refine wx_then (wc_region (wM 3 rfl (lSt (Upd.right (Upd.right Upd.here)) ?_)))
      refine wl_nil (wx_block (wx_then (wc_region (wM 2 rfl (wl_nil ?_)))))
      exact wx_round m34 (Nat.lt_succ_self m34) ⟨(IntKind.wrap .i64 (zr + (1 : Int))), (zc.1, (T_api_Player.mk zc.2.X zc.2.Y zc.2.VX zc.2.VY zc.2.Health (10 : Int) zc.2.Face)), v76, a76, n76_, c76, B76, h, N76, V76, rfl, rfl⟩ (ag4 rfl rfl rfl rfl) pI
     refine wc_skip (wx_block (wx_then (wc_region (wM 2 rfl (wl_nil ?_)))))
     exact wx_round m34 (Nat.lt_succ_self m34) ⟨(IntKind.wrap .i64 (zr + (1 : Int))), zc, za, zf, ze, zg, zi, h, zj, zk, rfl, rfl⟩ (ag4 rfl rfl rfl rfl) pI
    refine wM 4 rfl ?_
    obtain rfl := sI h
    have h := hg66; clear hg66
    refine wM 1 rfl (wNT ?_)
    replace h := cf rfl h
    refine wc_cond_false rfl ?_
    refine wc_skip (wx_block (wx_then (wc_region (wM 2 rfl (wl_nil ?_)))))
    exact wx_round m34 (Nat.lt_succ_self m34) ⟨(IntKind.wrap .i64 (zr + (1 : Int))), zc, za, zf, ze, zg, zi, h, zj, zk, rfl, rfl⟩ (ag4 rfl rfl rfl rfl) pI
   refine wM 5 rfl ?_
   obtain rfl := sI h
   have h := hg60; clear hg60
   refine wM 2 rfl ?_
   obtain ⟨v66, h, hg66⟩ := bsome h
   replace h := cf rfl h
   refine wM 4 rfl ?_
   obtain rfl := sI h
   have h := hg66; clear hg66
   refine wM 1 rfl (wNT ?_)
   replace h := cf rfl h
   refine wc_cond_false rfl ?_
   refine wc_skip (wx_block (wx_then (wc_region (wM 2 rfl (wl_nil ?_)))))
   exact wx_round m34 (Nat.lt_succ_self m34) ⟨(IntKind.wrap .i64 (zr + (1 : Int))), zc, za, zf, ze, zg, zi, h, zj, zk, rfl, rfl⟩ (ag4 rfl rfl rfl rfl) pI
  replace h := cf hx491 h
  cases h
 refine wc_exit (wx_then_exit ?_)
 obtain ⟨rfl, rfl⟩ := pJ2 h
 have h := hl34; clear hl34; try dsimp only [orE_l, orE_r] at h
 refine wx_then_exit (wx_block_exit (wx_then (wc_seq ?_)))
 obtain ⟨v85, x85, h⟩ := bsome h
 obtain ⟨v89, x89, h⟩ := bsome h
 refine wc_join2 (fun E L => ∃ b8 b9, E = [(2, .pointer (some ⟨b2, 0, none⟩)), (4, .pointer (some ⟨b4, 0, none⟩)), (8, .pointer (some ⟨b8, 0, none⟩)), (9, .pointer (some ⟨b9, 0, none⟩))] ∧ L = (⟨b2, (.int .u64 v12.Frame :: .int .u64 v12.Seed :: pl14 zc [.slice zf ze zg, .int .u16 v12.Score.1, .int .u16 v12.Score.2]), 41, (0, 0)⟩ :: (⟨b4, [.int .u64 0, .int .u64 0, .int .i32 0, .int .i32 0, .int .i32 0, .int .i32 0, .int .u8 0, .int .u8 0, .int .u8 0, .int .i32 0, .int .i32 0, .int .i32 0, .int .i32 0, .int .u8 0, .int .u8 0, .int .u8 0, .slice none 0 0, .int .u16 0, .int .u16 0], 41, (0, 0)⟩ :: (⟨b8, (pl7 v85 []), 35, (0, 0)⟩ :: (⟨b9, (pl7 v89 []), 35, (0, 0)⟩ :: (zi ++ [])))))) ?_ ?_
 ·refine wc_k2 (Ls := (⟨b2, (.int .u64 v12.Frame :: .int .u64 v12.Seed :: pl14 zc [.slice zf ze zg, .int .u16 v12.Score.1, .int .u16 v12.Score.2]), 41, (0, 0)⟩ :: (⟨b3, [.int .u8 p1.1, .int .u8 p1.2], 64, (0, 0)⟩ :: (⟨b4, [.int .u64 0, .int .u64 0, .int .i32 0, .int .i32 0, .int .i32 0, .int .i32 0, .int .u8 0, .int .u8 0, .int .u8 0, .int .i32 0, .int .i32 0, .int .i32 0, .int .i32 0, .int .u8 0, .int .u8 0, .int .u8 0, .slice none 0 0, .int .u16 0, .int .u16 0], 41, (0, 0)⟩ :: (zi ++ []))))) [3, 7, 8, 9, 10, 11] [7, 10, 11] [0, 1, 3, 7, 0, 16, 48, 127, 0, 0, 1023, 2047] [0, 1, 2, 4, 5, 6] (by kernel_rfl) (by kernel_rfl) (by kernel_rfl) ?_
  refine kM pI 1 rfl (k_val (v := .pointer (some ⟨b2, 2, none⟩)) rfl rfl rfl pI (val_ia (j := 0) tt_ok rfl rfl rfl rfl rfl rfl rfl) rfl (k_val (v := agP zc.1) rfl rfl rfl pI (val_load tt_ok rfl mH rfl) rfl (kM pI 1 rfl (k_val (v := .pointer (some ⟨b2, 9, none⟩)) rfl rfl rfl pI (val_ia (j := 1) tt_ok rfl rfl rfl rfl rfl rfl rfl) rfl ?_))))
  refine k_val (v := agP zc.2) rfl rfl rfl pI (val_load tt_ok rfl mH rfl) rfl (k_three (i := 3) (j := 8) (k := 9) (t1 := []) (t2 := []) (t3 := []) (by kernel_rfl) (by kernel_rfl) (by kernel_rfl) (by kernel_rfl) (by kernel_rfl) ?_ ?_ ?_)
  ·refine k_cqf rfl rfl Tryd.call36 rfl rfl rfl (q_pf (k_step_moved x85) (fun _ _ => trivial)) rfl pI ?_
   refine k_three (i := 7) (j := 8) (k := 9) (t1 := []) (t2 := []) (t3 := []) (by kernel_rfl) (by kernel_rfl) (by kernel_rfl) (by kernel_rfl) (by kernel_rfl) ?_ ?_ ?_
   ·refine k_cqf rfl rfl Tryd.call36 rfl rfl rfl (q_pf (k_step_moved x89) (fun _ _ => trivial)) rfl pI ?_
    refine k_two (i := 8) (j := 9) (t1 := [9, 10, 11]) (t2 := [8, 10, 11]) (by kernel_rfl) (by kernel_rfl) (by kernel_rfl) (by kernel_rfl) ?_ ?_
    ·refine k_chgf rfl rfl (chg_alloc tt_ok rfl) rfl (.inr (by rintro _ _ ⟨_, rfl, rfl⟩; exact ⟨_, pP⟩)) ?_
     rintro _ _ ⟨b8, rfl, rfl⟩
     refine k_chg rfl rfl rfl (chg_alloc tt_ok rfl) rfl (.inr (by rintro _ _ ⟨_, rfl, rfl⟩; exact ⟨_, pP⟩)) ?_
     rintro _ _ ⟨b9, rfl, rfl⟩
     refine k_chg0 rfl rfl rfl (chg_store tt_ok rfl (Upd.there Upd.here) rfl rfl rfl rfl rfl rfl) (.inl rfl) ?_
     rintro _ _ rfl
     refine k_chg0 rfl rfl rfl (chg_store tt_ok rfl Upd.here rfl rfl rfl rfl rfl rfl) (.inl rfl) ?_
     rintro _ _ rfl
     refine k_end (by kernel_rfl) ?_
     exact wx_join ⟨b8, b9, rfl, rfl⟩ (ag4 rfl rfl rfl rfl) pI
    refine k_chgf rfl rfl (chg_alloc tt_ok rfl) rfl (.inr (by rintro _ _ ⟨_, rfl, rfl⟩; exact ⟨_, pP⟩)) ?_
    rintro _ _ ⟨b9, rfl, rfl⟩
    refine k_chg rfl rfl rfl (chg_alloc tt_ok rfl) rfl (.inr (by rintro _ _ ⟨_, rfl, rfl⟩; exact ⟨_, pP⟩)) ?_
    rintro _ _ ⟨b8, rfl, rfl⟩
    refine k_chg0 rfl rfl rfl (chg_store tt_ok rfl Upd.here rfl rfl rfl rfl rfl rfl) (.inl rfl) ?_
    rintro _ _ rfl
    refine k_chg0 rfl rfl rfl (chg_store tt_ok rfl (Upd.there Upd.here) rfl rfl rfl rfl rfl rfl) (.inl rfl) ?_
    rintro _ _ rfl
    refine k_end (by kernel_rfl) ?_
    exact wx_join ⟨b8, b9, rfl, rfl⟩ (ag4 rfl rfl rfl rfl) pI
   ·refine k_chgf rfl rfl (chg_alloc tt_ok rfl) rfl (.inr (by rintro _ _ ⟨_, rfl, rfl⟩; exact ⟨_, pP⟩)) ?_
    rintro _ _ ⟨b8, rfl, rfl⟩
    refine k_two (i := 7) (j := 9) (t1 := [9, 10, 11]) (t2 := [7, 10, 11]) (by kernel_rfl) (by kernel_rfl) (by kernel_rfl) (by kernel_rfl) ?_ ?_
    ·refine k_cqf rfl rfl Tryd.call36 rfl rfl rfl (q_pf (k_step_moved x89) (fun _ _ => trivial)) rfl pI ?_
     refine k_chg rfl rfl rfl (chg_alloc tt_ok rfl) rfl (.inr (by rintro _ _ ⟨_, rfl, rfl⟩; exact ⟨_, pP⟩)) ?_
     rintro _ _ ⟨b9, rfl, rfl⟩
     refine k_chg0 rfl rfl rfl (chg_store tt_ok rfl (Upd.there Upd.here) rfl rfl rfl rfl rfl rfl) (.inl rfl) ?_
     rintro _ _ rfl
     refine k_chg0 rfl rfl rfl (chg_store tt_ok rfl Upd.here rfl rfl rfl rfl rfl rfl) (.inl rfl) ?_
     rintro _ _ rfl
     refine k_end (by kernel_rfl) ?_
     exact wx_join ⟨b8, b9, rfl, rfl⟩ (ag4 rfl rfl rfl rfl) pI
    refine k_chgf rfl rfl (chg_alloc tt_ok rfl) rfl (.inr (by rintro _ _ ⟨_, rfl, rfl⟩; exact ⟨_, pP⟩)) ?_
    rintro _ _ ⟨b9, rfl, rfl⟩
    refine k_cq rfl rfl rfl Tryd.call36 rfl rfl rfl (q_pf (k_step_moved x89) (fun _ _ => trivial)) rfl pI ?_
    refine k_chg0 rfl rfl rfl (chg_store tt_ok rfl (Upd.there Upd.here) rfl rfl rfl rfl rfl rfl) (.inl rfl) ?_
    rintro _ _ rfl
    refine k_chg0 rfl rfl rfl (chg_store tt_ok rfl Upd.here rfl rfl rfl rfl rfl rfl) (.inl rfl) ?_
    rintro _ _ rfl
    refine k_end (by kernel_rfl) ?_
    exact wx_join ⟨b8, b9, rfl, rfl⟩ (ag4 rfl rfl rfl rfl) pI
   refine k_chgf rfl rfl (chg_alloc tt_ok rfl) rfl (.inr (by rintro _ _ ⟨_, rfl, rfl⟩; exact ⟨_, pP⟩)) ?_
   rintro _ _ ⟨b9, rfl, rfl⟩
   refine k_two (i := 7) (j := 8) (t1 := [8, 10, 11]) (t2 := [7, 10, 11]) (by kernel_rfl) (by kernel_rfl) (by kernel_rfl) (by kernel_rfl) ?_ ?_
   ·refine k_cqf rfl rfl Tryd.call36 rfl rfl rfl (q_pf (k_step_moved x89) (fun _ _ => trivial)) rfl pI ?_
    refine k_chg rfl rfl rfl (chg_alloc tt_ok rfl) rfl (.inr (by rintro _ _ ⟨_, rfl, rfl⟩; exact ⟨_, pP⟩)) ?_
    rintro _ _ ⟨b8, rfl, rfl⟩
    refine k_chg0 rfl rfl rfl (chg_store tt_ok rfl Upd.here rfl rfl rfl rfl rfl rfl) (.inl rfl) ?_
    rintro _ _ rfl
    refine k_chg0 rfl rfl rfl (chg_store tt_ok rfl (Upd.there Upd.here) rfl rfl rfl rfl rfl rfl) (.inl rfl) ?_
    rintro _ _ rfl
    refine k_end (by kernel_rfl) ?_
    exact wx_join ⟨b8, b9, rfl, rfl⟩ (ag4 rfl rfl rfl rfl) pI
   refine k_chgf rfl rfl (chg_alloc tt_ok rfl) rfl (.inr (by rintro _ _ ⟨_, rfl, rfl⟩; exact ⟨_, pP⟩)) ?_
   rintro _ _ ⟨b8, rfl, rfl⟩
   refine k_cq rfl rfl rfl Tryd.call36 rfl rfl rfl (q_pf (k_step_moved x89) (fun _ _ => trivial)) rfl pI ?_
   refine k_chg0 rfl rfl rfl (chg_store tt_ok rfl Upd.here rfl rfl rfl rfl rfl rfl) (.inl rfl) ?_
   rintro _ _ rfl
   refine k_chg0 rfl rfl rfl (chg_store tt_ok rfl (Upd.there Upd.here) rfl rfl rfl rfl rfl rfl) (.inl rfl) ?_
   rintro _ _ rfl
   refine k_end (by kernel_rfl) ?_
   exact wx_join ⟨b8, b9, rfl, rfl⟩ (ag4 rfl rfl rfl rfl) pI
  ·refine k_chgf rfl rfl (chg_alloc tt_ok rfl) rfl (.inr (by rintro _ _ ⟨_, rfl, rfl⟩; exact ⟨_, pP⟩)) ?_
   rintro _ _ ⟨b8, rfl, rfl⟩
   refine k_two (i := 3) (j := 9) (t1 := []) (t2 := [3, 7, 10, 11]) (by kernel_rfl) (by kernel_rfl) (by kernel_rfl) (by kernel_rfl) ?_ ?_
   ·refine k_cqf rfl rfl Tryd.call36 rfl rfl rfl (q_pf (k_step_moved x85) (fun _ _ => trivial)) rfl pI ?_
    refine k_two (i := 7) (j := 9) (t1 := [9, 10, 11]) (t2 := [7, 10, 11]) (by kernel_rfl) (by kernel_rfl) (by kernel_rfl) (by kernel_rfl) ?_ ?_
    ·refine k_cqf rfl rfl Tryd.call36 rfl rfl rfl (q_pf (k_step_moved x89) (fun _ _ => trivial)) rfl pI ?_
     refine k_chg rfl rfl rfl (chg_alloc tt_ok rfl) rfl (.inr (by rintro _ _ ⟨_, rfl, rfl⟩; exact ⟨_, pP⟩)) ?_
     rintro _ _ ⟨b9, rfl, rfl⟩
     refine k_chg0 rfl rfl rfl (chg_store tt_ok rfl (Upd.there Upd.here) rfl rfl rfl rfl rfl rfl) (.inl rfl) ?_
     rintro _ _ rfl
     refine k_chg0 rfl rfl rfl (chg_store tt_ok rfl Upd.here rfl rfl rfl rfl rfl rfl) (.inl rfl) ?_
     rintro _ _ rfl
     refine k_end (by kernel_rfl) ?_
     exact wx_join ⟨b8, b9, rfl, rfl⟩ (ag4 rfl rfl rfl rfl) pI
    refine k_chgf rfl rfl (chg_alloc tt_ok rfl) rfl (.inr (by rintro _ _ ⟨_, rfl, rfl⟩; exact ⟨_, pP⟩)) ?_
    rintro _ _ ⟨b9, rfl, rfl⟩
    refine k_cq rfl rfl rfl Tryd.call36 rfl rfl rfl (q_pf (k_step_moved x89) (fun _ _ => trivial)) rfl pI ?_
    refine k_chg0 rfl rfl rfl (chg_store tt_ok rfl (Upd.there Upd.here) rfl rfl rfl rfl rfl rfl) (.inl rfl) ?_
    rintro _ _ rfl
    refine k_chg0 rfl rfl rfl (chg_store tt_ok rfl Upd.here rfl rfl rfl rfl rfl rfl) (.inl rfl) ?_
    rintro _ _ rfl
    refine k_end (by kernel_rfl) ?_
    exact wx_join ⟨b8, b9, rfl, rfl⟩ (ag4 rfl rfl rfl rfl) pI
   refine k_chgf rfl rfl (chg_alloc tt_ok rfl) rfl (.inr (by rintro _ _ ⟨_, rfl, rfl⟩; exact ⟨_, pP⟩)) ?_
   rintro _ _ ⟨b9, rfl, rfl⟩
   refine k_cq rfl rfl rfl Tryd.call36 rfl rfl rfl (q_pf (k_step_moved x85) (fun _ _ => trivial)) rfl pI ?_
   refine k_cq rfl rfl rfl Tryd.call36 rfl rfl rfl (q_pf (k_step_moved x89) (fun _ _ => trivial)) rfl pI ?_
   refine k_chg0 rfl rfl rfl (chg_store tt_ok rfl (Upd.there Upd.here) rfl rfl rfl rfl rfl rfl) (.inl rfl) ?_
   rintro _ _ rfl
   refine k_chg0 rfl rfl rfl (chg_store tt_ok rfl Upd.here rfl rfl rfl rfl rfl rfl) (.inl rfl) ?_
   rintro _ _ rfl
   refine k_end (by kernel_rfl) ?_
   exact wx_join ⟨b8, b9, rfl, rfl⟩ (ag4 rfl rfl rfl rfl) pI
  refine k_chgf rfl rfl (chg_alloc tt_ok rfl) rfl (.inr (by rintro _ _ ⟨_, rfl, rfl⟩; exact ⟨_, pP⟩)) ?_
  rintro _ _ ⟨b9, rfl, rfl⟩
  refine k_two (i := 3) (j := 8) (t1 := []) (t2 := [3, 7, 10, 11]) (by kernel_rfl) (by kernel_rfl) (by kernel_rfl) (by kernel_rfl) ?_ ?_
  ·refine k_cqf rfl rfl Tryd.call36 rfl rfl rfl (q_pf (k_step_moved x85) (fun _ _ => trivial)) rfl pI ?_
   refine k_two (i := 7) (j := 8) (t1 := [8, 10, 11]) (t2 := [7, 10, 11]) (by kernel_rfl) (by kernel_rfl) (by kernel_rfl) (by kernel_rfl) ?_ ?_
   ·refine k_cqf rfl rfl Tryd.call36 rfl rfl rfl (q_pf (k_step_moved x89) (fun _ _ => trivial)) rfl pI ?_
    refine k_chg rfl rfl rfl (chg_alloc tt_ok rfl) rfl (.inr (by rintro _ _ ⟨_, rfl, rfl⟩; exact ⟨_, pP⟩)) ?_
    rintro _ _ ⟨b8, rfl, rfl⟩
    refine k_chg0 rfl rfl rfl (chg_store tt_ok rfl Upd.here rfl rfl rfl rfl rfl rfl) (.inl rfl) ?_
    rintro _ _ rfl
    refine k_chg0 rfl rfl rfl (chg_store tt_ok rfl (Upd.there Upd.here) rfl rfl rfl rfl rfl rfl) (.inl rfl) ?_
    rintro _ _ rfl
    refine k_end (by kernel_rfl) ?_
    exact wx_join ⟨b8, b9, rfl, rfl⟩ (ag4 rfl rfl rfl rfl) pI
   refine k_chgf rfl rfl (chg_alloc tt_ok rfl) rfl (.inr (by rintro _ _ ⟨_, rfl, rfl⟩; exact ⟨_, pP⟩)) ?_
   rintro _ _ ⟨b8, rfl, rfl⟩
   refine k_cq rfl rfl rfl Tryd.call36 rfl rfl rfl (q_pf (k_step_moved x89) (fun _ _ => trivial)) rfl pI ?_
   refine k_chg0 rfl rfl rfl (chg_store tt_ok rfl Upd.here rfl rfl rfl rfl rfl rfl) (.inl rfl) ?_
   rintro _ _ rfl
   refine k_chg0 rfl rfl rfl (chg_store tt_ok rfl (Upd.there Upd.here) rfl rfl rfl rfl rfl rfl) (.inl rfl) ?_
   rintro _ _ rfl
   refine k_end (by kernel_rfl) ?_
   exact wx_join ⟨b8, b9, rfl, rfl⟩ (ag4 rfl rfl rfl rfl) pI
  refine k_chgf rfl rfl (chg_alloc tt_ok rfl) rfl (.inr (by rintro _ _ ⟨_, rfl, rfl⟩; exact ⟨_, pP⟩)) ?_
  rintro _ _ ⟨b8, rfl, rfl⟩
  refine k_cq rfl rfl rfl Tryd.call36 rfl rfl rfl (q_pf (k_step_moved x85) (fun _ _ => trivial)) rfl pI ?_
  refine k_cq rfl rfl rfl Tryd.call36 rfl rfl rfl (q_pf (k_step_moved x89) (fun _ _ => trivial)) rfl pI ?_
  refine k_chg0 rfl rfl rfl (chg_store tt_ok rfl Upd.here rfl rfl rfl rfl rfl rfl) (.inl rfl) ?_
  rintro _ _ rfl
  refine k_chg0 rfl rfl rfl (chg_store tt_ok rfl (Upd.there Upd.here) rfl rfl rfl rfl rfl rfl) (.inl rfl) ?_
  rintro _ _ rfl
  refine k_end (by kernel_rfl) ?_
  exact wx_join ⟨b8, b9, rfl, rfl⟩ (ag4 rfl rfl rfl rfl) pI
 rintro _ _ ⟨b8, b9, rfl, rfl⟩
 refine wc_seq (wc_seq (wc_quiet (by kernel_rfl) (by kernel_rfl) (qLd (v := agP v85) rfl (mTT mH) rfl rfl ?_)))
 obtain ⟨v91, x91, h⟩ := bsome h
 refine wq_cq Tryd.call38 rfl rfl rfl (q_pf (k_step_box x91) (fun _ _ => trivial)) rfl ?_
 refine qLd (v := agP v89) rfl (mTT (mT mH)) rfl rfl ?_
 obtain ⟨v93, x93, h⟩ := bsome h
 refine wq_cq Tryd.call38 rfl rfl rfl (q_pf (k_step_box x93) (fun _ _ => trivial)) rfl ?_
 obtain ⟨v94, x94, h⟩ := bsome h
 refine wq_cq Tryd.call37 rfl rfl rfl (q_pf (k_geom_Over x94) (fun _ _ => trivial)) rfl ?_
 refine wq_nil (wx_then ?_)
 replace h := bsome h; obtain ⟨⟨zaf, zag⟩, h, hj60⟩ := h; try dsimp only at hj60
 refine wc_join2 (fun E L => E = [(2, .pointer (some ⟨b2, 0, none⟩)), (4, .pointer (some ⟨b4, 0, none⟩)), (8, .pointer (some ⟨b8, 0, none⟩)), (9, .pointer (some ⟨b9, 0, none⟩))] ∧ L = (⟨b2, (.int .u64 v12.Frame :: .int .u64 v12.Seed :: pl14 zc [.slice zf ze zg, .int .u16 v12.Score.1, .int .u16 v12.Score.2]), 41, (0, 0)⟩ :: (⟨b4, [.int .u64 0, .int .u64 0, .int .i32 0, .int .i32 0, .int .i32 0, .int .i32 0, .int .u8 0, .int .u8 0, .int .u8 0, .int .i32 0, .int .i32 0, .int .i32 0, .int .i32 0, .int .u8 0, .int .u8 0, .int .u8 0, .slice none 0 0, .int .u16 0, .int .u16 0], 41, (0, 0)⟩ :: (⟨b8, (pl7 zaf []), 35, (0, 0)⟩ :: (⟨b9, (pl7 zag []), 35, (0, 0)⟩ :: (zi ++ [])))))) ?_ ?_
 ·refine wcc h rfl ?_ ?_ <;> clear h <;> intro h
  ·refine wc_k2 (Ls := (⟨b2, (.int .u64 v12.Frame :: .int .u64 v12.Seed :: pl14 zc [.slice zf ze zg, .int .u16 v12.Score.1, .int .u16 v12.Score.2]), 41, (0, 0)⟩ :: (⟨b4, [.int .u64 0, .int .u64 0, .int .i32 0, .int .i32 0, .int .i32 0, .int .i32 0, .int .u8 0, .int .u8 0, .int .u8 0, .int .i32 0, .int .i32 0, .int .i32 0, .int .i32 0, .int .u8 0, .int .u8 0, .int .u8 0, .slice none 0 0, .int .u16 0, .int .u16 0], 41, (0, 0)⟩ :: (⟨b8, (pl7 v85 []), 35, (0, 0)⟩ :: (⟨b9, (pl7 v89 []), 35, (0, 0)⟩ :: (zi ++ [])))))) [3, 7, 8, 9] [7, 8, 9] [0, 1, 3, 7, 0, 16, 48, 127, 255, 511] [0, 1, 2, 4, 5, 6, 3, 7, 8, 9] (by kernel_rfl) (by kernel_rfl) (by kernel_rfl) ?_
   refine kM pI 1 rfl (k_val (v := .pointer (some ⟨b2, 2, none⟩)) rfl rfl rfl pI (val_ia (j := 0) tt_ok rfl rfl rfl rfl rfl rfl rfl) rfl (k_val (v := agP zc.1) rfl rfl rfl pI (val_load tt_ok rfl mH rfl) rfl (kM pI 1 rfl ?_)))
   refine k_val (v := .pointer (some ⟨b2, 9, none⟩)) rfl rfl rfl pI (val_ia (j := 1) tt_ok rfl rfl rfl rfl rfl rfl rfl) rfl (k_val (v := agP zc.2) rfl rfl rfl pI (val_load tt_ok rfl mH rfl) rfl ?_)
   obtain ⟨v98, x98, h⟩ := bsome h
   refine k_cq rfl rfl rfl Tryd.call39 rfl rfl rfl (q_pf (k_step_stopped x98) (fun _ _ => trivial)) rfl pI ?_
   obtain ⟨v102, x102, h⟩ := bsome h
   refine k_cq rfl rfl rfl Tryd.call39 rfl rfl rfl (q_pf (k_step_stopped x102) (fun _ _ => trivial)) rfl pI ?_
   refine k_chg0 rfl rfl rfl (chg_store tt_ok rfl (Upd.there (Upd.there Upd.here)) rfl rfl rfl rfl rfl rfl) (.inl rfl) ?_
   rintro _ _ rfl
   refine k_chg0 rfl rfl rfl (chg_store tt_ok rfl (Upd.there (Upd.there (Upd.there Upd.here))) rfl rfl rfl rfl rfl rfl) (.inl rfl) ?_
   rintro _ _ rfl
   refine k_end (by kernel_rfl) ?_
   obtain ⟨rfl, rfl⟩ := pJ2 h
   exact wx_join ⟨rfl, rfl⟩ (ag4 rfl rfl rfl rfl) pI
  refine wc_skip ?_
  obtain ⟨rfl, rfl⟩ := pJ2 h
  exact wx_join ⟨rfl, rfl⟩ (ag4 rfl rfl rfl rfl) pI
 rintro _ _ ⟨rfl, rfl⟩
 have h := hj60; clear hj60
 refine wSR (wLd (v := agP zaf) rfl (mTT mH) rfl rfl (wLd (v := agP zag) rfl (mTT (mT mH)) rfl rfl (wM 2 rfl (lSt Upd.here ?_))))
 refine wNT (wSR ?_)
 obtain ⟨zl, x107, h⟩ := bsome h
 refine wl_cs Tryd.call40 rfl rfl rfl (s_sp (k_step_fly (p0 := (T_api_State.mk v12.Frame v12.Seed (zaf, zag) za v12.Score)) (p0t := 41) zj zk x107) pP (fun _ _ => trivial)) rfl ?_
 rintro _ _ ⟨_, ⟨zas, zau, zat, zap, zaq, zar, rfl, rfl⟩, rfl⟩
 refine wNT (wc_seq (wSR (wM 1 rfl (wNT (wc_block ?_)))))
 replace h := bsome h; obtain ⟨⟨zak, zal, zam, zan, zao⟩, h, hl71⟩ := h; try dsimp only at hl71
 refine wc_loop (fun m E L => ∃ zv zs zt zh zb zn zp zm zq zu, m_step_Step_L70 F m zv zs zt zh zb zn = some (zak, zal, zam, zan, zao) ∧ zm = zb.length ∧ Own 87 6 zp zm zq (flat c_T_api_Shot zb) zu ∧ E = [(2, .pointer (some ⟨b2, 0, none⟩)), (4, .pointer (some ⟨b4, 0, none⟩)), (108, .int .i64 zv)] ∧ L = (⟨b2, (.int .u64 zs :: .int .u64 zt :: pl14 zh [.slice zp zm zq, .int .u16 zn.1, .int .u16 zn.2]), 41, (0, 0)⟩ :: (⟨b4, [.int .u64 0, .int .u64 0, .int .i32 0, .int .i32 0, .int .i32 0, .int .i32 0, .int .u8 0, .int .u8 0, .int .u8 0, .int .i32 0, .int .i32 0, .int .i32 0, .int .i32 0, .int .u8 0, .int .u8 0, .int .u8 0, .slice none 0 0, .int .u16 0, .int .u16 0], 41, (0, 0)⟩ :: (zu ++ [])))) F ⟨(0 : Int), zl.Frame, zl.Seed, zl.Players, zl.Shots, zl.Score, zas, zau, zat, zap, h, zaq, zar, rfl, rfl⟩ (ag3 rfl rfl rfl) pI ?_
 clear h
 rintro m71 _ _ ⟨zv, zs, zt, zh, zb, zn, zp, zm, zq, zu, h, zw, zx, rfl, rfl⟩
 rcases m71 with _ | m71
 ·rw [m_step_Step_L70.eq_1] at h; cases h
 rw [m_step_Step_L70.eq_2] at h
 refine wSR (wM 1 rfl (wNT (wc_seq (wcc h rfl ?_ ?_)))) <;> clear h <;> intro h
 ·refine wc_skip (wx_then (wc_seq (wc_block (wSR (wM 2 rfl (wNT (wSR (wM 2 rfl ?_))))))))
  rcases Bool.eq_false_or_eq_true (zv == (0 : Int)) with hx1130 | hx1130
  ·replace h := ct hx1130 h
   refine wl_val (v := .pointer (some ⟨b2, 2, none⟩)) (val_ia (j := 0) tt_ok rfl rfl rfl rfl (by simpa using hx1130) rfl rfl) rfl ?_
   refine wM 1 rfl (wLd rfl mH rfl rfl (wM 1 rfl (wNT (wcc h rfl ?_ ?_)))) <;> clear h <;> intro h
   ·refine wc_region (wM 1 rfl ?_)
    obtain ⟨zd, x118, h⟩ := bsome h
    refine wl_cs Tryd.call41 rfl rfl rfl (s_sp (k_step_revive (p0 := (T_api_State.mk zs zt zh zb zn)) (p0t := 41) zw zx x118) pP (fun _ _ => trivial)) rfl ?_
    rintro _ _ ⟨_, ⟨zac, zae, zad, zz, zaa, zab, rfl, rfl⟩, rfl⟩
    refine wl_nil (wx_block (wx_then (wc_region (wM 2 rfl (wl_nil ?_)))))
    exact wx_round m71 (Nat.lt_succ_self m71) ⟨(IntKind.wrap .i64 (zv + (1 : Int))), zd.Frame, zd.Seed, zd.Players, zd.Shots, zd.Score, zac, zae, zad, zz, h, zaa, zab, rfl, rfl⟩ (ag3 rfl rfl rfl) pI
   refine wc_skip (wx_block (wx_then (wc_region (wM 2 rfl (wl_nil ?_)))))
   exact wx_round m71 (Nat.lt_succ_self m71) ⟨(IntKind.wrap .i64 (zv + (1 : Int))), zs, zt, zh, zb, zn, zp, zm, zq, zu, h, zw, zx, rfl, rfl⟩ (ag3 rfl rfl rfl) pI
  replace h := cf hx1130 h
  rcases Bool.eq_false_or_eq_true (zv == (1 : Int)) with hx1131 | hx1131
  ·replace h := ct hx1131 h
   refine wl_val (v := .pointer (some ⟨b2, 9, none⟩)) (val_ia (j := 1) tt_ok rfl rfl rfl rfl (by simpa using hx1131) rfl rfl) rfl ?_
   refine wM 1 rfl (wLd rfl mH rfl rfl (wM 1 rfl (wNT (wcc h rfl ?_ ?_)))) <;> clear h <;> intro h
   ·refine wc_region (wM 1 rfl ?_)
    obtain ⟨zd, x118, h⟩ := bsome h
    refine wl_cs Tryd.call41 rfl rfl rfl (s_sp (k_step_revive (p0 := (T_api_State.mk zs zt zh zb zn)) (p0t := 41) zw zx x118) pP (fun _ _ => trivial)) rfl ?_
    rintro _ _ ⟨_, ⟨zac, zae, zad, zz, zaa, zab, rfl, rfl⟩, rfl⟩
    refine wl_nil (wx_block (wx_then (wc_region (wM 2 rfl (wl_nil ?_)))))
    exact wx_round m71 (Nat.lt_succ_self m71) ⟨(IntKind.wrap .i64 (zv + (1 : Int))), zd.Frame, zd.Seed, zd.Players, zd.Shots, zd.Score, zac, zae, zad, zz, h, zaa, zab, rfl, rfl⟩ (ag3 rfl rfl rfl) pI
   refine wc_skip (wx_block (wx_then (wc_region (wM 2 rfl (wl_nil ?_)))))
   exact wx_round m71 (Nat.lt_succ_self m71) ⟨(IntKind.wrap .i64 (zv + (1 : Int))), zs, zt, zh, zb, zn, zp, zm, zq, zu, h, zw, zx, rfl, rfl⟩ (ag3 rfl rfl rfl) pI
  replace h := cf hx1131 h
  cases h
 refine wc_exit (wx_then_exit ?_)
 obtain ⟨rfl, rfl, rfl, rfl, rfl⟩ := pJ5 h
 have h := hl71; clear hl71; try dsimp only [orE_l, orE_r] at h
 refine wx_then_exit (wx_block_exit (wx_then (wSR ?_)))
 refine wM 1 rfl (wLd rfl mH rfl rfl (wM 2 rfl (lSt Upd.here ?_)))
 refine wNT (wSR (wLd (v := .agg #[.int .u64 (IntKind.wrap .u64 (zs + (1 : Int))), .int .u64 zt, .int .i32 zh.1.X, .int .i32 zh.1.Y, .int .i32 zh.1.VX, .int .i32 zh.1.VY, .int .u8 zh.1.Health, .int .u8 zh.1.Cool, .int .u8 zh.1.Face, .int .i32 zh.2.X, .int .i32 zh.2.Y, .int .i32 zh.2.VX, .int .i32 zh.2.VY, .int .u8 zh.2.Health, .int .u8 zh.2.Cool, .int .u8 zh.2.Face, .slice zp zm zq, .int .u16 zn.1, .int .u16 zn.2]) rfl mH rfl rfl (lSt (Upd.there Upd.here) ?_)))
 refine wNT (wc_ret ?_)
 obtain rfl := sI h
 exact wE Tryd.results21 (Res.cell rfl (mT mH) rfl Res.nil) ⟨zp, zm, zq, zu, zw, zx, rfl, rfl⟩ pI

theorem k_codec_put_uint64 {p0 : T_codec_Writer} {p1 : Int} {p2 : Int} {r0 : T_codec_Writer} (p0N0 : p0n0 = p0.b.length) (p0V0 : Own 5 1 p0a0 p0n0 p0c0 (flat (e1 .u8) p0.b) p0B0) (h : m_codec_put_uint64 F p0 p1 p2 = some r0) :
    SpD Tryd.prog 74 [.pointer (some ⟨p0b, 0, none⟩), .int .u64 p1, .int .i64 p2] (⟨p0b, [.slice p0a0 p0n0 p0c0], p0t, (0, 0)⟩ :: (p0B0 ++ [])) (fun w => True) (fun v D => ∃ r0a0 r0n0 r0c0 r0B0, r0n0 = r0.b.length ∧ Own 5 1 r0a0 r0n0 r0c0 (flat (e1 .u8) r0.b) r0B0 ∧ v = .tuple #[] ∧ D = fun F => (⟨p0b, [.slice r0a0 r0n0 r0c0], p0t, (0, 0)⟩ :: (r0B0 ++ F))) := by
 unfold m_codec_put_uint64 at h
 refine sp_of_wc Tryd.func74 rfl Tryd.ntmps74 rfl rfl (fun w0 hR => ?_)
 refine wc_seq (wSR (wM 2 rfl (wNT (wc_cond_false rfl (wc_skip (wx_then (wSR (wM 2 rfl (wNT (wc_block ?_))))))))))
 obtain ⟨zi, h, hl10⟩ := bsome h
 refine wc_loop (fun m E L => ∃ zh za zc zb zd ze, m_codec_put_uint64_L9 F p1 p2 m zh za = some zi ∧ zb = za.length ∧ Own 5 1 zc zb zd (flat (e1 .u8) za) ze ∧ E = [(0, .pointer (some ⟨p0b, 0, none⟩)), (1, .int .u64 p1), (9, .int .i64 p2), (10, .int .i64 zh)] ∧ L = (⟨p0b, [.slice zc zb zd], p0t, (0, 0)⟩ :: (ze ++ []))) F ⟨(0 : Int), p0.b, p0a0, p0n0, p0c0, p0B0, h, p0N0, p0V0, rfl, rfl⟩ (ag4 rfl rfl rfl rfl) pI ?_
 clear h
 rintro m10 _ _ ⟨zh, za, zc, zb, zd, ze, h, zf, zg, rfl, rfl⟩
 rcases m10 with _ | m10
 ·rw [m_codec_put_uint64_L9.eq_1] at h; cases h
 rw [m_codec_put_uint64_L9.eq_2] at h
 refine wSR (wM 1 rfl (wNT (wc_seq (wcc h rfl ?_ ?_)))) <;> clear h <;> intro h
 ·refine wc_skip (wx_then (wc_seq (wc_block (wSR (wM 2 rfl (wNT (wc_k2 (Ls := (⟨p0b, [.slice zc zb zd], p0t, (0, 0)⟩ :: [])) [10, 11, 12, 13, 14] [12, 13, 14] [0, 0, 2, 6, 14, 0, 0, 64, 224, 480, 992, 2046, 4095, 8191, 16383] [0, 1, 2, 3, 4, 5, 6, 7, 8, 9, 10, 11, 12, 13, 14] (by kernel_rfl) (by kernel_rfl) (by kernel_rfl) (kM pI 4 rfl (k_val (v := .slice zc zb zd) rfl rfl rfl pI (val_load tt_ok rfl mH rfl) rfl (kM pI 3 rfl ?_))))))))))
  obtain ⟨v21, x21, h⟩ := bsome h
  refine k_val (v := .int .u64 v21) rfl rfl rfl pI (val_shr rfl rfl x21) rfl (kM pI 1 rfl (k_chg rfl rfl rfl (chg_bsv (enc := (e1 .u8)) (xs := ([(IntKind.wrap .u8 v21)] : List Int)) tt_ok rfl rfl rfl rfl rfl rfl rfl rfl (e1_len _)) rfl (.inr (by rintro _ _ ⟨_, _, _, _, rfl, _, _, rfl⟩; exact ⟨_, pP⟩)) ?_))
  rintro _ _ ⟨a23, n23_, c23, B23, rfl, N23, V23, rfl⟩
  obtain ⟨v24, x24, h⟩ := bsome h
  refine k_chg rfl rfl rfl (chg_app (enc := (e1 .u8)) (ys := ([(IntKind.wrap .u8 v21)] : List Int)) tt_ok rfl rfl rfl rfl rfl rfl zf N23 zg (sAC hA') (Rds.of_vec V23) ⟨_, hA'⟩ (e1_len _) (fun _ => rfl) rfl x24) rfl (.inr (by rintro _ _ ⟨_, _, _, _, rfl, _, _, rfl⟩; exact ⟨_, pP⟩)) ?_
  rintro _ _ ⟨a24, n24_, c24, B24, rfl, N24, V24, rfl⟩
  refine k_chg rfl rfl rfl (Chg.of_val (sV rfl)) rfl (.inl rfl) ?_
  rintro _ _ ⟨rfl, rfl⟩
  refine k_chg rfl rfl rfl (Chg.of_val (v := .pointer (some ⟨p0b, 0, none⟩)) (sV rfl)) rfl (.inl rfl) ?_
  rintro _ _ ⟨rfl, rfl⟩
  refine k_chg0 rfl rfl rfl (chg_store tt_ok rfl (Upd.right (Upd.right Upd.here)) rfl rfl rfl rfl rfl rfl) (.inl rfl) ?_
  rintro _ _ rfl
  refine k_end (by kernel_rfl) ?_
  refine wx_block (wx_then (wc_region (wM 2 rfl (wl_nil ?_))))
  exact wx_round m10 (Nat.lt_succ_self m10) ⟨(IntKind.wrap .i64 (zh + (1 : Int))), v24, a24, n24_, c24, B24, h, N24, V24, rfl, rfl⟩ (ag4 rfl rfl rfl rfl) pI
 refine wc_exit (wx_then_exit ?_)
 obtain rfl := sI h
 have h := hl10; clear hl10; try dsimp only [orE_l, orE_r] at h
 refine wx_then_exit (wx_block_exit ?_)
 obtain rfl := sI h
 exact wx_spD tt_ok (.inr rfl) Tryd.results74 Res.nil ⟨zc, zb, zd, ze, zf, zg, rfl, rfl⟩ (fun F => by simp) pI

theorem k_codec_Writer_U64 {p0 : T_codec_Writer} {p1 : Int} {r0 : T_codec_Writer} (p0N0 : p0n0 = p0.b.length) (p0V0 : Own 5 1 p0a0 p0n0 p0c0 (flat (e1 .u8) p0.b) p0B0) (h : m_codec_Writer_U64 F p0 p1 = some r0) :
    SpD Tryd.prog 45 [.pointer (some ⟨p0b, 0, none⟩), .int .u64 p1] (⟨p0b, [.slice p0a0 p0n0 p0c0], p0t, (0, 0)⟩ :: (p0B0 ++ [])) (fun w => True) (fun v D => ∃ r0a0 r0n0 r0c0 r0B0, r0n0 = r0.b.length ∧ Own 5 1 r0a0 r0n0 r0c0 (flat (e1 .u8) r0.b) r0B0 ∧ v = .tuple #[] ∧ D = fun F => (⟨p0b, [.slice r0a0 r0n0 r0c0], p0t, (0, 0)⟩ :: (r0B0 ++ F))) := by
 unfold m_codec_Writer_U64 at h
 refine sp_of_wc Tryd.func45 rfl Tryd.ntmps45 rfl rfl (fun w0 hR => ?_)
 refine wc_region (wM 2 rfl ?_)
 obtain ⟨za, x6, h⟩ := bsome h
 refine wl_cs Tryd.call74 rfl rfl rfl (s_sp (k_codec_put_uint64 (p0 := p0) (p0t := p0t) p0N0 p0V0 x6) pP (fun _ _ => trivial)) rfl ?_
 rintro _ _ ⟨_, ⟨ze, zg, zf, zb, zc, zd, rfl, rfl⟩, rfl⟩
 refine wl_nil ?_
 obtain rfl := sI h
 exact wx_spD tt_ok (.inr rfl) Tryd.results45 Res.nil ⟨ze, zg, zf, zb, zc, zd, rfl, rfl⟩ (fun F => by simp) pI

theorem k_codec_put_uint32 {p0 : T_codec_Writer} {p1 : Int} {p2 : Int} {r0 : T_codec_Writer} (p0N0 : p0n0 = p0.b.length) (p0V0 : Own 5 1 p0a0 p0n0 p0c0 (flat (e1 .u8) p0.b) p0B0) (h : m_codec_put_uint32 F p0 p1 p2 = some r0) :
    SpD Tryd.prog 91 [.pointer (some ⟨p0b, 0, none⟩), .int .u32 p1, .int .i64 p2] (⟨p0b, [.slice p0a0 p0n0 p0c0], p0t, (0, 0)⟩ :: (p0B0 ++ [])) (fun w => True) (fun v D => ∃ r0a0 r0n0 r0c0 r0B0, r0n0 = r0.b.length ∧ Own 5 1 r0a0 r0n0 r0c0 (flat (e1 .u8) r0.b) r0B0 ∧ v = .tuple #[] ∧ D = fun F => (⟨p0b, [.slice r0a0 r0n0 r0c0], p0t, (0, 0)⟩ :: (r0B0 ++ F))) := by
 unfold m_codec_put_uint32 at h
 refine sp_of_wc Tryd.func91 rfl Tryd.ntmps91 rfl rfl (fun w0 hR => ?_)
 refine wc_seq (wSR (wM 2 rfl (wNT (wc_cond_false rfl (wc_skip (wx_then (wSR (wM 2 rfl (wNT (wc_block ?_))))))))))
 obtain ⟨zi, h, hl10⟩ := bsome h
 refine wc_loop (fun m E L => ∃ zh za zc zb zd ze, m_codec_put_uint32_L9 F p1 p2 m zh za = some zi ∧ zb = za.length ∧ Own 5 1 zc zb zd (flat (e1 .u8) za) ze ∧ E = [(0, .pointer (some ⟨p0b, 0, none⟩)), (1, .int .u32 p1), (9, .int .i64 p2), (10, .int .i64 zh)] ∧ L = (⟨p0b, [.slice zc zb zd], p0t, (0, 0)⟩ :: (ze ++ []))) F ⟨(0 : Int), p0.b, p0a0, p0n0, p0c0, p0B0, h, p0N0, p0V0, rfl, rfl⟩ (ag4 rfl rfl rfl rfl) pI ?_
 clear h
 rintro m10 _ _ ⟨zh, za, zc, zb, zd, ze, h, zf, zg, rfl, rfl⟩
 rcases m10 with _ | m10
 ·rw [m_codec_put_uint32_L9.eq_1] at h; cases h
 rw [m_codec_put_uint32_L9.eq_2] at h
 refine wSR (wM 1 rfl (wNT (wc_seq (wcc h rfl ?_ ?_)))) <;> clear h <;> intro h
 ·refine wc_skip (wx_then (wc_seq (wc_block (wSR (wM 2 rfl (wNT (wc_k2 (Ls := (⟨p0b, [.slice zc zb zd], p0t, (0, 0)⟩ :: [])) [11, 12, 13, 14, 15] [13, 14, 15] [0, 0, 2, 6, 14, 0, 32, 0, 128, 480, 992, 2016, 4094, 8191, 16383, 32767] [0, 1, 2, 3, 4, 5, 6, 7, 8, 9, 10, 11, 12, 13, 14, 15] (by kernel_rfl) (by kernel_rfl) (by kernel_rfl) (kM pI 4 rfl (k_val (v := .slice zc zb zd) rfl rfl rfl pI (val_load tt_ok rfl mH rfl) rfl (kM pI 4 rfl ?_))))))))))
  obtain ⟨v22, x22, h⟩ := bsome h
  refine k_val (v := .int .u64 v22) rfl rfl rfl pI (val_shr rfl rfl x22) rfl (kM pI 1 rfl (k_chg rfl rfl rfl (chg_bsv (enc := (e1 .u8)) (xs := ([(IntKind.wrap .u8 v22)] : List Int)) tt_ok rfl rfl rfl rfl rfl rfl rfl rfl (e1_len _)) rfl (.inr (by rintro _ _ ⟨_, _, _, _, rfl, _, _, rfl⟩; exact ⟨_, pP⟩)) ?_))
  rintro _ _ ⟨a24, n24_, c24, B24, rfl, N24, V24, rfl⟩
  obtain ⟨v25, x25, h⟩ := bsome h
  refine k_chg rfl rfl rfl (chg_app (enc := (e1 .u8)) (ys := ([(IntKind.wrap .u8 v22)] : List Int)) tt_ok rfl rfl rfl rfl rfl rfl zf N24 zg (sAC hA') (Rds.of_vec V24) ⟨_, hA'⟩ (e1_len _) (fun _ => rfl) rfl x25) rfl (.inr (by rintro _ _ ⟨_, _, _, _, rfl, _, _, rfl⟩; exact ⟨_, pP⟩)) ?_
  rintro _ _ ⟨a25, n25_, c25, B25, rfl, N25, V25, rfl⟩
  refine k_chg rfl rfl rfl (Chg.of_val (sV rfl)) rfl (.inl rfl) ?_
  rintro _ _ ⟨rfl, rfl⟩
  refine k_chg rfl rfl rfl (Chg.of_val (v := .pointer (some ⟨p0b, 0, none⟩)) (sV rfl)) rfl (.inl rfl) ?_
  rintro _ _ ⟨rfl, rfl⟩
  refine k_chg0 rfl rfl rfl (chg_store tt_ok rfl (Upd.right (Upd.right Upd.here)) rfl rfl rfl rfl rfl rfl) (.inl rfl) ?_
  rintro _ _ rfl
  refine k_end (by kernel_rfl) ?_
  refine wx_block (wx_then (wc_region (wM 2 rfl (wl_nil ?_))))
  exact wx_round m10 (Nat.lt_succ_self m10) ⟨(IntKind.wrap .i64 (zh + (1 : Int))), v25, a25, n25_, c25, B25, h, N25, V25, rfl, rfl⟩ (ag4 rfl rfl rfl rfl) pI
 refine wc_exit (wx_then_exit ?_)
 obtain rfl := sI h
 have h := hl10; clear hl10; try dsimp only [orE_l, orE_r] at h
 refine wx_then_exit (wx_block_exit ?_)
 obtain rfl := sI h
 exact wx_spD tt_ok (.inr rfl) Tryd.results91 Res.nil ⟨zc, zb, zd, ze, zf, zg, rfl, rfl⟩ (fun F => by simp) pI

theorem k_codec_Writer_I32 {p0 : T_codec_Writer} {p1 : Int} {r0 : T_codec_Writer} (p0N0 : p0n0 = p0.b.length) (p0V0 : Own 5 1 p0a0 p0n0 p0c0 (flat (e1 .u8) p0.b) p0B0) (h : m_codec_Writer_I32 F p0 p1 = some r0) :
    SpD Tryd.prog 75 [.pointer (some ⟨p0b, 0, none⟩), .int .i32 p1] (⟨p0b, [.slice p0a0 p0n0 p0c0], p0t, (0, 0)⟩ :: (p0B0 ++ [])) (fun w => True) (fun v D => ∃ r0a0 r0n0 r0c0 r0B0, r0n0 = r0.b.length ∧ Own 5 1 r0a0 r0n0 r0c0 (flat (e1 .u8) r0.b) r0B0 ∧ v = .tuple #[] ∧ D = fun F => (⟨p0b, [.slice r0a0 r0n0 r0c0], p0t, (0, 0)⟩ :: (r0B0 ++ F))) := by
 unfold m_codec_Writer_I32 at h
 refine sp_of_wc Tryd.func75 rfl Tryd.ntmps75 rfl rfl (fun w0 hR => ?_)
 refine wc_region (wM 3 rfl ?_)
 obtain ⟨za, x7, h⟩ := bsome h
 refine wl_cs Tryd.call91 rfl rfl rfl (s_sp (k_codec_put_uint32 (p0 := p0) (p0t := p0t) p0N0 p0V0 x7) pP (fun _ _ => trivial)) rfl ?_
 rintro _ _ ⟨_, ⟨ze, zg, zf, zb, zc, zd, rfl, rfl⟩, rfl⟩
 refine wl_nil ?_
 obtain rfl := sI h
 exact wx_spD tt_ok (.inr rfl) Tryd.results75 Res.nil ⟨ze, zg, zf, zb, zc, zd, rfl, rfl⟩ (fun F => by simp) pI

theorem k_codec_put_uint8 {p0 : T_codec_Writer} {p1 : Int} {p2 : Int} {r0 : T_codec_Writer} (p0N0 : p0n0 = p0.b.length) (p0V0 : Own 5 1 p0a0 p0n0 p0c0 (flat (e1 .u8) p0.b) p0B0) (h : m_codec_put_uint8 F p0 p1 p2 = some r0) :
    SpD Tryd.prog 92 [.pointer (some ⟨p0b, 0, none⟩), .int .u8 p1, .int .i64 p2] (⟨p0b, [.slice p0a0 p0n0 p0c0], p0t, (0, 0)⟩ :: (p0B0 ++ [])) (fun w => True) (fun v D => ∃ r0a0 r0n0 r0c0 r0B0, r0n0 = r0.b.length ∧ Own 5 1 r0a0 r0n0 r0c0 (flat (e1 .u8) r0.b) r0B0 ∧ v = .tuple #[] ∧ D = fun F => (⟨p0b, [.slice r0a0 r0n0 r0c0], p0t, (0, 0)⟩ :: (r0B0 ++ F))) := by
 unfold m_codec_put_uint8 at h
 refine sp_of_wc Tryd.func92 rfl Tryd.ntmps92 rfl rfl (fun w0 hR => ?_)
 refine wc_seq (wSR (wM 2 rfl (wNT (wc_cond_false rfl (wc_skip (wx_then (wSR (wM 2 rfl (wNT (wc_block ?_))))))))))
 obtain ⟨zi, h, hl10⟩ := bsome h
 refine wc_loop (fun m E L => ∃ zh za zc zb zd ze, m_codec_put_uint8_L9 F p1 p2 m zh za = some zi ∧ zb = za.length ∧ Own 5 1 zc zb zd (flat (e1 .u8) za) ze ∧ E = [(0, .pointer (some ⟨p0b, 0, none⟩)), (1, .int .u8 p1), (9, .int .i64 p2), (10, .int .i64 zh)] ∧ L = (⟨p0b, [.slice zc zb zd], p0t, (0, 0)⟩ :: (ze ++ []))) F ⟨(0 : Int), p0.b, p0a0, p0n0, p0c0, p0B0, h, p0N0, p0V0, rfl, rfl⟩ (ag4 rfl rfl rfl rfl) pI ?_
 clear h
 rintro m10 _ _ ⟨zh, za, zc, zb, zd, ze, h, zf, zg, rfl, rfl⟩
 rcases m10 with _ | m10
 ·rw [m_codec_put_uint8_L9.eq_1] at h; cases h
 rw [m_codec_put_uint8_L9.eq_2] at h
 refine wSR (wM 1 rfl (wNT (wc_seq (wcc h rfl ?_ ?_)))) <;> clear h <;> intro h
 ·refine wc_skip (wx_then (wc_seq (wc_block (wSR (wM 2 rfl (wNT (wc_k2 (Ls := (⟨p0b, [.slice zc zb zd], p0t, (0, 0)⟩ :: [])) [11, 12, 13, 14, 15] [13, 14, 15] [0, 0, 2, 6, 14, 0, 32, 0, 128, 480, 992, 2016, 4094, 8191, 16383, 32767] [0, 1, 2, 3, 4, 5, 6, 7, 8, 9, 10, 11, 12, 13, 14, 15] (by kernel_rfl) (by kernel_rfl) (by kernel_rfl) (kM pI 4 rfl (k_val (v := .slice zc zb zd) rfl rfl rfl pI (val_load tt_ok rfl mH rfl) rfl (kM pI 4 rfl ?_))))))))))
  obtain ⟨v22, x22, h⟩ := bsome h
  refine k_val (v := .int .u64 v22) rfl rfl rfl pI (val_shr rfl rfl x22) rfl (kM pI 1 rfl (k_chg rfl rfl rfl (chg_bsv (enc := (e1 .u8)) (xs := ([(IntKind.wrap .u8 v22)] : List Int)) tt_ok rfl rfl rfl rfl rfl rfl rfl rfl (e1_len _)) rfl (.inr (by rintro _ _ ⟨_, _, _, _, rfl, _, _, rfl⟩; exact ⟨_, pP⟩)) ?_))
  rintro _ _ ⟨a24, n24_, c24, B24, rfl, N24, V24, rfl⟩
  obtain ⟨v25, x25, h⟩ := bsome h
  refine k_chg rfl rfl rfl (chg_app (enc := (e1 .u8)) (ys := ([(IntKind.wrap .u8 v22)] : List Int)) tt_ok rfl rfl rfl rfl rfl rfl zf N24 zg (sAC hA') (Rds.of_vec V24) ⟨_, hA'⟩ (e1_len _) (fun _ => rfl) rfl x25) rfl (.inr (by rintro _ _ ⟨_, _, _, _, rfl, _, _, rfl⟩; exact ⟨_, pP⟩)) ?_
  rintro _ _ ⟨a25, n25_, c25, B25, rfl, N25, V25, rfl⟩
  refine k_chg rfl rfl rfl (Chg.of_val (sV rfl)) rfl (.inl rfl) ?_
  rintro _ _ ⟨rfl, rfl⟩
  refine k_chg rfl rfl rfl (Chg.of_val (v := .pointer (some ⟨p0b, 0, none⟩)) (sV rfl)) rfl (.inl rfl) ?_
  rintro _ _ ⟨rfl, rfl⟩
  refine k_chg0 rfl rfl rfl (chg_store tt_ok rfl (Upd.right (Upd.right Upd.here)) rfl rfl rfl rfl rfl rfl) (.inl rfl) ?_
  rintro _ _ rfl
  refine k_end (by kernel_rfl) ?_
  refine wx_block (wx_then (wc_region (wM 2 rfl (wl_nil ?_))))
  exact wx_round m10 (Nat.lt_succ_self m10) ⟨(IntKind.wrap .i64 (zh + (1 : Int))), v25, a25, n25_, c25, B25, h, N25, V25, rfl, rfl⟩ (ag4 rfl rfl rfl rfl) pI
 refine wc_exit (wx_then_exit ?_)
 obtain rfl := sI h
 have h := hl10; clear hl10; try dsimp only [orE_l, orE_r] at h
 refine wx_then_exit (wx_block_exit ?_)
 obtain rfl := sI h
 exact wx_spD tt_ok (.inr rfl) Tryd.results92 Res.nil ⟨zc, zb, zd, ze, zf, zg, rfl, rfl⟩ (fun F => by simp) pI

theorem k_codec_Writer_U8 {p0 : T_codec_Writer} {p1 : Int} {r0 : T_codec_Writer} (p0N0 : p0n0 = p0.b.length) (p0V0 : Own 5 1 p0a0 p0n0 p0c0 (flat (e1 .u8) p0.b) p0B0) (h : m_codec_Writer_U8 F p0 p1 = some r0) :
    SpD Tryd.prog 76 [.pointer (some ⟨p0b, 0, none⟩), .int .u8 p1] (⟨p0b, [.slice p0a0 p0n0 p0c0], p0t, (0, 0)⟩ :: (p0B0 ++ [])) (fun w => True) (fun v D => ∃ r0a0 r0n0 r0c0 r0B0, r0n0 = r0.b.length ∧ Own 5 1 r0a0 r0n0 r0c0 (flat (e1 .u8) r0.b) r0B0 ∧ v = .tuple #[] ∧ D = fun F => (⟨p0b, [.slice r0a0 r0n0 r0c0], p0t, (0, 0)⟩ :: (r0B0 ++ F))) := by
 unfold m_codec_Writer_U8 at h
 refine sp_of_wc Tryd.func76 rfl Tryd.ntmps76 rfl rfl (fun w0 hR => ?_)
 refine wc_region (wM 2 rfl ?_)
 obtain ⟨za, x6, h⟩ := bsome h
 refine wl_cs Tryd.call92 rfl rfl rfl (s_sp (k_codec_put_uint8 (p0 := p0) (p0t := p0t) p0N0 p0V0 x6) pP (fun _ _ => trivial)) rfl ?_
 rintro _ _ ⟨_, ⟨ze, zg, zf, zb, zc, zd, rfl, rfl⟩, rfl⟩
 refine wl_nil ?_
 obtain rfl := sI h
 exact wx_spD tt_ok (.inr rfl) Tryd.results76 Res.nil ⟨ze, zg, zf, zb, zc, zd, rfl, rfl⟩ (fun F => by simp) pI

theorem k_state_put {p0 : T_codec_Writer} {p1 : (List Int)} {r0 : T_codec_Writer} (p0N0 : p0n0 = p0.b.length) (p0V0 : Own 5 1 p0a0 p0n0 p0c0 (flat (e1 .u8) p0.b) p0B0) (p1N0 : p1n0 = p1.length) (p1H0 : p1n0 ≤ p1c0) (h : m_state_put F p0 p1 = some r0) :
    SpD Tryd.prog 46 [.pointer (some ⟨p0b, 0, none⟩), .slice p1a0 p1n0 p1c0] (⟨p0b, [.slice p0a0 p0n0 p0c0], p0t, (0, 0)⟩ :: (p0B0 ++ [])) (fun w => Rds w (ids (⟨p0b, [.slice p0a0 p0n0 p0c0], p0t, (0, 0)⟩ :: (p0B0 ++ []))) [] p1a0 (flat (e1 .i32) p1)) (fun v D => ∃ r0a0 r0n0 r0c0 r0B0, r0n0 = r0.b.length ∧ Own 5 1 r0a0 r0n0 r0c0 (flat (e1 .u8) r0.b) r0B0 ∧ v = .tuple #[] ∧ D = fun F => (⟨p0b, [.slice r0a0 r0n0 r0c0], p0t, (0, 0)⟩ :: (r0B0 ++ F))) := by
 unfold m_state_put at h
 refine sp_of_wc Tryd.func46 rfl Tryd.ntmps46 rfl rfl (fun w0 hR => ?_)
 have p1S0 := hR
 refine wSR (wM 1 rfl (wl_val (v := .int .i64 (p1.length : Int)) (val_len tt_ok rfl rfl p1N0) rfl (wM 1 rfl (wNT (wc_block ?_)))))
 obtain ⟨zk, h, hl4⟩ := bsome h
 refine wc_loop (fun m E L => ∃ zj za zf zd zg ze, m_state_put_L3 F p1 m zj za = some zk ∧ zd = za.length ∧ Own 5 1 zf zd zg (flat (e1 .u8) za) ze ∧ E = [(0, .pointer (some ⟨p0b, 0, none⟩)), (6, .slice p1a0 p1n0 p1c0), (7, .int .i64 (p1.length : Int)), (8, .int .i64 zj)] ∧ L = (⟨p0b, [.slice zf zd zg], p0t, (0, 0)⟩ :: (ze ++ []))) F ⟨(0 : Int), p0.b, p0a0, p0n0, p0c0, p0B0, h, p0N0, p0V0, rfl, rfl⟩ (ag4 rfl rfl rfl rfl) pI ?_
 clear h
 rintro m4 _ _ ⟨zj, za, zf, zd, zg, ze, h, zh, zi, rfl, rfl⟩
 rcases m4 with _ | m4
 ·rw [m_state_put_L3.eq_1] at h; cases h
 rw [m_state_put_L3.eq_2] at h
 refine wSR (wM 1 rfl (wNT (wc_seq (wcc h rfl ?_ ?_)))) <;> clear h <;> intro h
 ·refine wc_skip (wx_then (wc_seq (wc_block (wSR (wM 1 rfl ?_)))))
  obtain ⟨v11, x11, h⟩ := bsome h
  refine wl_val (v := .pointer (some ((adOf p1a0).add (zj.toNat * 1 + 0)))) (val_ix (enc := (e1 .i32)) tt_ok rfl rfl rfl rfl p1N0 p1S0 (e1_len _) rfl x11) rfl ?_
  refine wl_val (v := .int .i32 v11) (val_le (enc := (e1 .i32)) (xs := p1) tt_ok rfl p1S0 rsub_nil (e1_len _) x11 rfl) rfl ?_
  refine wM 2 rfl (wNT (wSR (wM 2 rfl (wNT (wcc h rfl ?_ ?_))))) <;> clear h <;> intro h
  ·refine wc_region (wM 2 rfl ?_)
   obtain ⟨zb, x17, h⟩ := bsome h
   refine wl_cs Tryd.call75 rfl rfl rfl (s_sp (k_codec_Writer_I32 (p0 := (T_codec_Writer.mk za)) (p0t := p0t) zh zi x17) pP (fun _ _ => trivial)) rfl ?_
   rintro _ _ ⟨_, ⟨zo, zq, zp, zl, zm, zn, rfl, rfl⟩, rfl⟩
   refine wl_nil (wx_block (wx_then (wc_region (wM 2 rfl (wl_nil ?_)))))
   exact wx_round m4 (Nat.lt_succ_self m4) ⟨(IntKind.wrap .i64 (zj + (1 : Int))), zb.b, zo, zq, zp, zl, h, zm, zn, rfl, rfl⟩ (ag4 rfl rfl rfl rfl) pI
  refine wc_region (wM 3 rfl ?_)
  obtain ⟨zc, x21, h⟩ := bsome h
  refine wl_cs Tryd.call76 rfl rfl rfl (s_sp (k_codec_Writer_U8 (p0 := (T_codec_Writer.mk za)) (p0t := p0t) zh zi x21) pP (fun _ _ => trivial)) rfl ?_
  rintro _ _ ⟨_, ⟨zu, zw, zv, zr, zs, zt, rfl, rfl⟩, rfl⟩
  refine wl_nil (wx_block (wx_then (wc_region (wM 2 rfl (wl_nil ?_)))))
  exact wx_round m4 (Nat.lt_succ_self m4) ⟨(IntKind.wrap .i64 (zj + (1 : Int))), zc.b, zu, zw, zv, zr, h, zs, zt, rfl, rfl⟩ (ag4 rfl rfl rfl rfl) pI
 refine wc_exit (wx_then_exit ?_)
 obtain rfl := sI h
 have h := hl4; clear hl4; try dsimp only [orE_l, orE_r] at h
 refine wx_then_exit (wx_block_exit ?_)
 obtain rfl := sI h
 exact wx_spD tt_ok (.inr rfl) Tryd.results46 Res.nil ⟨zf, zd, zg, ze, zh, zi, rfl, rfl⟩ (fun F => by simp) pI

theorem k_codec_Writer_Var {p0 : T_codec_Writer} {p1 : Int} {r0 : T_codec_Writer} (p0N0 : p0n0 = p0.b.length) (p0V0 : Own 5 1 p0a0 p0n0 p0c0 (flat (e1 .u8) p0.b) p0B0) (h : m_codec_Writer_Var F p0 p1 = some r0) :
    SpD Tryd.prog 48 [.pointer (some ⟨p0b, 0, none⟩), .int .u64 p1] (⟨p0b, [.slice p0a0 p0n0 p0c0], p0t, (0, 0)⟩ :: (p0B0 ++ [])) (fun w => True) (fun v D => ∃ r0a0 r0n0 r0c0 r0B0, r0n0 = r0.b.length ∧ Own 5 1 r0a0 r0n0 r0c0 (flat (e1 .u8) r0.b) r0B0 ∧ v = .tuple #[] ∧ D = fun F => (⟨p0b, [.slice r0a0 r0n0 r0c0], p0t, (0, 0)⟩ :: (r0B0 ++ F))) := by
 unfold m_codec_Writer_Var at h
 refine sp_of_wc Tryd.func48 rfl Tryd.ntmps48 rfl rfl (fun w0 hR => ?_)
 refine wc_seq (wc_block ?_)
 replace h := bsome h; obtain ⟨⟨zx, zk⟩, h, hl3⟩ := h; try dsimp only at hl3
 refine wc_loop (fun m E L => ∃ zj za zf zd zg ze, m_codec_Writer_Var_L2 F m zj za = some (zx, zk) ∧ zd = za.length ∧ Own 5 1 zf zd zg (flat (e1 .u8) za) ze ∧ E = [(0, .pointer (some ⟨p0b, 0, none⟩)), (1, .int .u64 zj)] ∧ L = (⟨p0b, [.slice zf zd zg], p0t, (0, 0)⟩ :: (ze ++ []))) F ⟨p1, p0.b, p0a0, p0n0, p0c0, p0B0, h, p0N0, p0V0, rfl, rfl⟩ (ag2 rfl rfl) pI ?_
 clear h
 rintro m3 _ _ ⟨zj, za, zf, zd, zg, ze, h, zh, zi, rfl, rfl⟩
 rcases m3 with _ | m3
 ·rw [m_codec_Writer_Var_L2.eq_1] at h; cases h
 rw [m_codec_Writer_Var_L2.eq_2] at h
 refine wc_seq (wSR (wM 2 rfl (wNT (wcc h rfl ?_ ?_)))) <;> clear h <;> intro h
 ·refine wc_skip (wx_then (wc_block (wSR (wM 4 rfl ?_))))
  obtain ⟨zb, x10, h⟩ := bsome h
  refine wl_cs Tryd.call76 rfl rfl rfl (s_sp (k_codec_Writer_U8 (p0 := (T_codec_Writer.mk za)) (p0t := p0t) zh zi x10) pP (fun _ _ => trivial)) rfl ?_
  rintro _ _ ⟨_, ⟨zo, zq, zp, zl, zm, zn, rfl, rfl⟩, rfl⟩
  refine wNT (wc_region (wM 3 rfl (wl_nil (wx_block ?_))))
  exact wx_round m3 (Nat.lt_succ_self m3) ⟨(zj / 2 ^ (min 7 (IntKind.bits .u64))), zb.b, zo, zq, zp, zl, h, zm, zn, rfl, rfl⟩ (ag2 rfl rfl) pI
 refine wc_exit (wx_then_exit ?_)
 obtain ⟨rfl, rfl⟩ := pJ2 h
 have h := hl3; clear hl3; try dsimp only [orE_l, orE_r] at h
 refine wx_then_exit (wx_block_exit (wx_then (wc_region ?_)))
 refine wM 3 rfl ?_
 obtain ⟨zc, x16, h⟩ := bsome h
 refine wl_cs Tryd.call76 rfl rfl rfl (s_sp (k_codec_Writer_U8 (p0 := (T_codec_Writer.mk za)) (p0t := p0t) zh zi x16) pP (fun _ _ => trivial)) rfl ?_
 rintro _ _ ⟨_, ⟨zu, zw, zv, zr, zs, zt, rfl, rfl⟩, rfl⟩
 refine wl_nil ?_
 obtain rfl := sI h
 exact wx_spD tt_ok (.inr rfl) Tryd.results48 Res.nil ⟨zu, zw, zv, zr, zs, zt, rfl, rfl⟩ (fun F => by simp) pI

theorem k_codec_put_uint16 {p0 : T_codec_Writer} {p1 : Int} {p2 : Int} {r0 : T_codec_Writer} (p0N0 : p0n0 = p0.b.length) (p0V0 : Own 5 1 p0a0 p0n0 p0c0 (flat (e1 .u8) p0.b) p0B0) (h : m_codec_put_uint16 F p0 p1 p2 = some r0) :
    SpD Tryd.prog 77 [.pointer (some ⟨p0b, 0, none⟩), .int .u16 p1, .int .i64 p2] (⟨p0b, [.slice p0a0 p0n0 p0c0], p0t, (0, 0)⟩ :: (p0B0 ++ [])) (fun w => True) (fun v D => ∃ r0a0 r0n0 r0c0 r0B0, r0n0 = r0.b.length ∧ Own 5 1 r0a0 r0n0 r0c0 (flat (e1 .u8) r0.b) r0B0 ∧ v = .tuple #[] ∧ D = fun F => (⟨p0b, [.slice r0a0 r0n0 r0c0], p0t, (0, 0)⟩ :: (r0B0 ++ F))) := by
 unfold m_codec_put_uint16 at h
 refine sp_of_wc Tryd.func77 rfl Tryd.ntmps77 rfl rfl (fun w0 hR => ?_)
 refine wc_seq (wSR (wM 2 rfl (wNT (wc_cond_false rfl (wc_skip (wx_then (wSR (wM 2 rfl (wNT (wc_block ?_))))))))))
 obtain ⟨zi, h, hl10⟩ := bsome h
 refine wc_loop (fun m E L => ∃ zh za zc zb zd ze, m_codec_put_uint16_L9 F p1 p2 m zh za = some zi ∧ zb = za.length ∧ Own 5 1 zc zb zd (flat (e1 .u8) za) ze ∧ E = [(0, .pointer (some ⟨p0b, 0, none⟩)), (1, .int .u16 p1), (9, .int .i64 p2), (10, .int .i64 zh)] ∧ L = (⟨p0b, [.slice zc zb zd], p0t, (0, 0)⟩ :: (ze ++ []))) F ⟨(0 : Int), p0.b, p0a0, p0n0, p0c0, p0B0, h, p0N0, p0V0, rfl, rfl⟩ (ag4 rfl rfl rfl rfl) pI ?_
 clear h
 rintro m10 _ _ ⟨zh, za, zc, zb, zd, ze, h, zf, zg, rfl, rfl⟩
 rcases m10 with _ | m10
 ·rw [m_codec_put_uint16_L9.eq_1] at h; cases h
 rw [m_codec_put_uint16_L9.eq_2] at h
 refine wSR (wM 1 rfl (wNT (wc_seq (wcc h rfl ?_ ?_)))) <;> clear h <;> intro h
 ·refine wc_skip (wx_then (wc_seq (wc_block (wSR (wM 2 rfl (wNT (wc_k2 (Ls := (⟨p0b, [.slice zc zb zd], p0t, (0, 0)⟩ :: [])) [11, 12, 13, 14, 15] [13, 14, 15] [0, 0, 2, 6, 14, 0, 32, 0, 128, 480, 992, 2016, 4094, 8191, 16383, 32767] [0, 1, 2, 3, 4, 5, 6, 7, 8, 9, 10, 11, 12, 13, 14, 15] (by kernel_rfl) (by kernel_rfl) (by kernel_rfl) (kM pI 4 rfl (k_val (v := .slice zc zb zd) rfl rfl rfl pI (val_load tt_ok rfl mH rfl) rfl (kM pI 4 rfl ?_))))))))))
  obtain ⟨v22, x22, h⟩ := bsome h
  refine k_val (v := .int .u64 v22) rfl rfl rfl pI (val_shr rfl rfl x22) rfl (kM pI 1 rfl (k_chg rfl rfl rfl (chg_bsv (enc := (e1 .u8)) (xs := ([(IntKind.wrap .u8 v22)] : List Int)) tt_ok rfl rfl rfl rfl rfl rfl rfl rfl (e1_len _)) rfl (.inr (by rintro _ _ ⟨_, _, _, _, rfl, _, _, rfl⟩; exact ⟨_, pP⟩)) ?_))
  rintro _ _ ⟨a24, n24_, c24, B24, rfl, N24, V24, rfl⟩
  obtain ⟨v25, x25, h⟩ := bsome h
  refine k_chg rfl rfl rfl (chg_app (enc := (e1 .u8)) (ys := ([(IntKind.wrap .u8 v22)] : List Int)) tt_ok rfl rfl rfl rfl rfl rfl zf N24 zg (sAC hA') (Rds.of_vec V24) ⟨_, hA'⟩ (e1_len _) (fun _ => rfl) rfl x25) rfl (.inr (by rintro _ _ ⟨_, _, _, _, rfl, _, _, rfl⟩; exact ⟨_, pP⟩)) ?_
  rintro _ _ ⟨a25, n25_, c25, B25, rfl, N25, V25, rfl⟩
  refine k_chg rfl rfl rfl (Chg.of_val (sV rfl)) rfl (.inl rfl) ?_
  rintro _ _ ⟨rfl, rfl⟩
  refine k_chg rfl rfl rfl (Chg.of_val (v := .pointer (some ⟨p0b, 0, none⟩)) (sV rfl)) rfl (.inl rfl) ?_
  rintro _ _ ⟨rfl, rfl⟩
  refine k_chg0 rfl rfl rfl (chg_store tt_ok rfl (Upd.right (Upd.right Upd.here)) rfl rfl rfl rfl rfl rfl) (.inl rfl) ?_
  rintro _ _ rfl
  refine k_end (by kernel_rfl) ?_
  refine wx_block (wx_then (wc_region (wM 2 rfl (wl_nil ?_))))
  exact wx_round m10 (Nat.lt_succ_self m10) ⟨(IntKind.wrap .i64 (zh + (1 : Int))), v25, a25, n25_, c25, B25, h, N25, V25, rfl, rfl⟩ (ag4 rfl rfl rfl rfl) pI
 refine wc_exit (wx_then_exit ?_)
 obtain rfl := sI h
 have h := hl10; clear hl10; try dsimp only [orE_l, orE_r] at h
 refine wx_then_exit (wx_block_exit ?_)
 obtain rfl := sI h
 exact wx_spD tt_ok (.inr rfl) Tryd.results77 Res.nil ⟨zc, zb, zd, ze, zf, zg, rfl, rfl⟩ (fun F => by simp) pI

theorem k_codec_Writer_U16 {p0 : T_codec_Writer} {p1 : Int} {r0 : T_codec_Writer} (p0N0 : p0n0 = p0.b.length) (p0V0 : Own 5 1 p0a0 p0n0 p0c0 (flat (e1 .u8) p0.b) p0B0) (h : m_codec_Writer_U16 F p0 p1 = some r0) :
    SpD Tryd.prog 50 [.pointer (some ⟨p0b, 0, none⟩), .int .u16 p1] (⟨p0b, [.slice p0a0 p0n0 p0c0], p0t, (0, 0)⟩ :: (p0B0 ++ [])) (fun w => True) (fun v D => ∃ r0a0 r0n0 r0c0 r0B0, r0n0 = r0.b.length ∧ Own 5 1 r0a0 r0n0 r0c0 (flat (e1 .u8) r0.b) r0B0 ∧ v = .tuple #[] ∧ D = fun F => (⟨p0b, [.slice r0a0 r0n0 r0c0], p0t, (0, 0)⟩ :: (r0B0 ++ F))) := by
 unfold m_codec_Writer_U16 at h
 refine sp_of_wc Tryd.func50 rfl Tryd.ntmps50 rfl rfl (fun w0 hR => ?_)
 refine wc_region (wM 2 rfl ?_)
 obtain ⟨za, x6, h⟩ := bsome h
 refine wl_cs Tryd.call77 rfl rfl rfl (s_sp (k_codec_put_uint16 (p0 := p0) (p0t := p0t) p0N0 p0V0 x6) pP (fun _ _ => trivial)) rfl ?_
 rintro _ _ ⟨_, ⟨ze, zg, zf, zb, zc, zd, rfl, rfl⟩, rfl⟩
 refine wl_nil ?_
 obtain rfl := sI h
 exact wx_spD tt_ok (.inr rfl) Tryd.results50 Res.nil ⟨ze, zg, zf, zb, zc, zd, rfl, rfl⟩ (fun F => by simp) pI

theorem k_codec_Writer_Bytes {p0 : T_codec_Writer} {r0 : (List UInt8)} (p0N0 : p0n0 = p0.b.length) (p0V0 : Own 5 1 p0a0 p0n0 p0c0 (flat (e1 .u8) p0.b) p0B0) (h : m_codec_Writer_Bytes F p0 = some r0) :
    Rd2 Tryd.prog 51 [.pointer (some ⟨p0b, 0, none⟩)] (⟨p0b, [.slice p0a0 p0n0 p0c0], p0t, (0, 0)⟩ :: (p0B0 ++ [])) (fun w => True) (.string ⟨r0.toArray⟩) := by
 unfold m_codec_Writer_Bytes at h
 refine sp_of_wc Tryd.func51 rfl Tryd.ntmps51 rfl rfl (fun w0 hR => ?_)
 refine wSR (wM 1 rfl (wNT (wc_seq (wSR (wM 2 rfl (wNT (wc_cond_false rfl (wc_skip (wx_then (wSR (wM 3 rfl (wLd rfl mH rfl rfl (wl_val (v := .string ⟨(toB p0.b).toArray⟩) (val_b2s (xs := p0.b) tt_ok rfl rfl rfl rfl p0N0 (Rds.of_vec p0V0) ⟨_, (sC hA')⟩) rfl (wM 1 rfl (wNT (wc_ret ?_))))))))))))))))
 obtain rfl := sI h
 exact wx_rd tt_ok (.inl rfl) Tryd.results51 (rs1 rfl) pI rfl

theorem k_state_Put {p0 : T_api_State} {r0 : (List UInt8)} (p0N0 : p0n0 = p0.Shots.length) (p0H0 : p0n0 ≤ p0c0) (h : m_state_Put F p0 = some r0) :
    Pf Tryd.prog 29 [agS p0 p0a0 p0n0 p0c0] (fun w => Rds w [] [] p0a0 (flat c_T_api_Shot p0.Shots) ∧ Rds w [] [] (some ⟨0, 0, none⟩) (flat (fun _ : Unit => gl_state_playerBounds) [()]) ∧ Rds w [] [] (some ⟨1, 0, none⟩) (flat (fun _ : Unit => gl_state_shotBounds) [()])) (.string ⟨r0.toArray⟩) := by
 unfold m_state_Put at h
 refine pf_of_wc Tryd.func29 rfl Tryd.ntmps29 rfl rfl (fun w0 hR => ?_)
 obtain ⟨p0S0, G0S, G1S⟩ := hR
 refine wSR (wl_box rfl rfl rfl (fun b1 => (wM 1 rfl (wNT (wc_seq (wSR (wLd (v := agS p0 p0a0 p0n0 p0c0) rfl mH rfl rfl ?_)))))))
 obtain ⟨v11, x11, h⟩ := bsome h
 refine wl_cq Tryd.call31 rfl rfl rfl (q_pf (k_state_Check (p0 := p0) p0N0 p0H0 x11) (fun w hI => ⟨(Rds.call p0S0 pNil rsub_nil) w hI, (Rds.call G0S pNil rsub_nil) w hI, (Rds.call G1S pNil rsub_nil) w hI⟩)) rfl ?_
 refine wM 1 rfl (wNT (wcc h rfl ?_ ?_)) <;> clear h <;> intro h
 ·refine wSR (wM 1 rfl (wNT (wc_ret (wx_then_ret ?_))))
  obtain rfl := sI h
  exact pE Tryd.results29 rfl
 refine wc_skip (wx_then (wSR (wl_alloc tt_ok rfl rfl (fun b3 => (wNT (wSR (wM 1 rfl (wLd rfl (mT mH) rfl rfl ?_))))))))
 obtain ⟨zo, x15, h⟩ := bsome h
 refine wl_cs Tryd.call45 rfl rfl rfl (s_sp (k_codec_Writer_U64 (p0 := (T_codec_Writer.mk ([] : List Int))) (p0t := 103) rfl Own.zero x15) (pH (pNo pNil)) (fun _ _ => trivial)) rfl ?_
 rintro _ _ ⟨_, ⟨zbo, zbq, zbp, zbn, zat, zau, rfl, rfl⟩, rfl⟩
 refine wNT (wSR (wM 1 rfl (wLd rfl (mT (mR mH)) rfl rfl ?_)))
 obtain ⟨zf, x18, h⟩ := bsome h
 refine wl_cs Tryd.call45 rfl rfl rfl (s_sp (k_codec_Writer_U64 (p0 := zo) (p0t := 103) zat zau x18) pP (fun _ _ => trivial)) rfl ?_
 rintro _ _ ⟨_, ⟨zay, zba, zaz, zav, zaw, zax, rfl, rfl⟩, rfl⟩
 refine wNT (wc_seq (wSR (wM 1 rfl (wLd (v := .agg #[.int .i32 p0.Players.1.X, .int .i32 p0.Players.1.Y, .int .i32 p0.Players.1.VX, .int .i32 p0.Players.1.VY, .int .u8 p0.Players.1.Health, .int .u8 p0.Players.1.Cool, .int .u8 p0.Players.1.Face, .int .i32 p0.Players.2.X, .int .i32 p0.Players.2.Y, .int .i32 p0.Players.2.VX, .int .i32 p0.Players.2.VY, .int .u8 p0.Players.2.Health, .int .u8 p0.Players.2.Cool, .int .u8 p0.Players.2.Face]) rfl (mT (mR mH)) rfl rfl (wM 1 rfl (wNT (wc_block ?_)))))))
 obtain ⟨zaq, h, hl21⟩ := bsome h
 refine wc_loop (fun m E L => ∃ zp zb zu zj zv zr, m_state_Put_L20 F p0 m zp zb = some zaq ∧ zj = zb.length ∧ Own 5 1 zu zj zv (flat (e1 .u8) zb) zr ∧ E = [(1, .pointer (some ⟨b1, 0, none⟩)), (2, .string ⟨([] : List UInt8).toArray⟩), (3, .pointer (some ⟨b3, 0, none⟩)), (20, .agg #[.int .i32 p0.Players.1.X, .int .i32 p0.Players.1.Y, .int .i32 p0.Players.1.VX, .int .i32 p0.Players.1.VY, .int .u8 p0.Players.1.Health, .int .u8 p0.Players.1.Cool, .int .u8 p0.Players.1.Face, .int .i32 p0.Players.2.X, .int .i32 p0.Players.2.Y, .int .i32 p0.Players.2.VX, .int .i32 p0.Players.2.VY, .int .u8 p0.Players.2.Health, .int .u8 p0.Players.2.Cool, .int .u8 p0.Players.2.Face]), (21, .int .i64 zp)] ∧ L = (⟨b1, (st19 p0 p0a0 p0n0 p0c0 []), 41, (0, 0)⟩ :: (⟨b3, [.slice zu zj zv], 103, (0, 0)⟩ :: (zr ++ [])))) F ⟨(0 : Int), zf.b, zay, zba, zaz, zav, h, zaw, zax, rfl, rfl⟩ (ag5 rfl rfl rfl rfl rfl) pI ?_
 clear h
 rintro m21 _ _ ⟨zp, zb, zu, zj, zv, zr, h, zs, zt, rfl, rfl⟩
 rcases m21 with _ | m21
 ·rw [m_state_Put_L20.eq_1] at h; cases h
 rw [m_state_Put_L20.eq_2] at h
 refine wSR (wM 1 rfl (wNT (wc_seq (wcc h rfl ?_ ?_)))) <;> clear h <;> intro h
 ·refine wc_skip (wx_then (wc_seq (wc_block (wSR ?_))))
  rcases Bool.eq_false_or_eq_true (zp == (0 : Int)) with hx230 | hx230
  ·replace h := ct hx230 h
   refine wl_val (v := agP p0.Players.1) (val_iv (j := 0) tt_ok rfl rfl rfl rfl (by simpa using hx230) rfl rfl) rfl ?_
   refine wl_alloc tt_ok rfl rfl (fun b5 => ?_)
   refine lSt Upd.here ?_
   refine wNT (wc_region (wLd (v := agP p0.Players.1) rfl mH rfl rfl ?_))
   obtain ⟨v25, x25, h⟩ := bsome h
   refine wl_cs Tryd.call47 rfl rfl rfl (s_sp (k_state_ofPlayer x25) pNil (fun _ _ => trivial)) rfl ?_
   rintro _ _ ⟨_, ⟨v25a0, v25n0, v25c0, v25B0, v25N0, v25V0, rfl, rfl⟩, rfl⟩
   obtain ⟨zd, x26, h⟩ := bsome h
   refine wl_cs Tryd.call46 rfl rfl rfl (s_sp (k_state_put (p0 := (T_codec_Writer.mk zb)) (p1 := v25) (p0t := 103) zs zt v25N0 (vec_cap v25V0) x26) pP (Rds.call (Rds.of_vec v25V0) pP ⟨_, hA'⟩)) rfl ?_
   rintro _ _ ⟨_, ⟨zah, zaj, zai, zae, zaf, zag, rfl, rfl⟩, rfl⟩
   refine wl_nil (wx_block (wx_then (wc_region (wM 2 rfl (wl_nil ?_)))))
   exact wx_round m21 (Nat.lt_succ_self m21) ⟨(IntKind.wrap .i64 (zp + (1 : Int))), zd.b, zah, zaj, zai, zae, h, zaf, zag, rfl, rfl⟩ (ag5 rfl rfl rfl rfl rfl) pI
  replace h := cf hx230 h
  rcases Bool.eq_false_or_eq_true (zp == (1 : Int)) with hx231 | hx231
  ·replace h := ct hx231 h
   refine wl_val (v := agP p0.Players.2) (val_iv (j := 1) tt_ok rfl rfl rfl rfl (by simpa using hx231) rfl rfl) rfl ?_
   refine wl_alloc tt_ok rfl rfl (fun b5 => ?_)
   refine lSt Upd.here ?_
   refine wNT (wc_region (wLd (v := agP p0.Players.2) rfl mH rfl rfl ?_))
   obtain ⟨v25, x25, h⟩ := bsome h
   refine wl_cs Tryd.call47 rfl rfl rfl (s_sp (k_state_ofPlayer x25) pNil (fun _ _ => trivial)) rfl ?_
   rintro _ _ ⟨_, ⟨v25a0, v25n0, v25c0, v25B0, v25N0, v25V0, rfl, rfl⟩, rfl⟩
   obtain ⟨zd, x26, h⟩ := bsome h
   refine wl_cs Tryd.call46 rfl rfl rfl (s_sp (k_state_put (p0 := (T_codec_Writer.mk zb)) (p1 := v25) (p0t := 103) zs zt v25N0 (vec_cap v25V0) x26) pP (Rds.call (Rds.of_vec v25V0) pP ⟨_, hA'⟩)) rfl ?_
   rintro _ _ ⟨_, ⟨zah, zaj, zai, zae, zaf, zag, rfl, rfl⟩, rfl⟩
   refine wl_nil (wx_block (wx_then (wc_region (wM 2 rfl (wl_nil ?_)))))
   exact wx_round m21 (Nat.lt_succ_self m21) ⟨(IntKind.wrap .i64 (zp + (1 : Int))), zd.b, zah, zaj, zai, zae, h, zaf, zag, rfl, rfl⟩ (ag5 rfl rfl rfl rfl rfl) pI
  replace h := cf hx231 h
  cases h
 refine wc_exit (wx_then_exit ?_)
 obtain rfl := sI h
 have h := hl21; clear hl21; try dsimp only [orE_l, orE_r] at h
 refine wx_then_exit (wx_block_exit (wx_then (wSR ?_)))
 refine wM 1 rfl (wLd rfl mH rfl rfl (wl_val (v := .int .i64 (p0.Shots.length : Int)) (val_len tt_ok rfl rfl p0N0) rfl (wM 1 rfl ?_)))
 obtain ⟨zg, x32, h⟩ := bsome h
 refine wl_cs Tryd.call48 rfl rfl rfl (s_sp (k_codec_Writer_Var (p0 := (T_codec_Writer.mk zb)) (p0t := 103) zs zt x32) pP (fun _ _ => trivial)) rfl ?_
 rintro _ _ ⟨_, ⟨zbe, zbg, zbf, zbb, zbc, zbd, rfl, rfl⟩, rfl⟩
 refine wNT (wc_seq (wSR (wM 1 rfl (wLd rfl (mT (mR mH)) rfl rfl (wl_val (v := .int .i64 (p0.Shots.length : Int)) (val_len tt_ok rfl rfl p0N0) rfl (wM 1 rfl (wNT (wc_block ?_))))))))
 obtain ⟨zar, h, hl40⟩ := bsome h
 refine wc_loop (fun m E L => ∃ zab za zl zi zm zk, m_state_Put_L39 F p0 m zab za = some zar ∧ zi = za.length ∧ Own 5 1 zl zi zm (flat (e1 .u8) za) zk ∧ E = [(1, .pointer (some ⟨b1, 0, none⟩)), (2, .string ⟨([] : List UInt8).toArray⟩), (3, .pointer (some ⟨b3, 0, none⟩)), (34, .slice p0a0 p0n0 p0c0), (35, .int .i64 (p0.Shots.length : Int)), (36, .int .i64 zab)] ∧ L = (⟨b1, (st19 p0 p0a0 p0n0 p0c0 []), 41, (0, 0)⟩ :: (⟨b3, [.slice zl zi zm], 103, (0, 0)⟩ :: (zk ++ [])))) F ⟨(0 : Int), zg.b, zbe, zbg, zbf, zbb, h, zbc, zbd, rfl, rfl⟩ (ag6 rfl rfl rfl rfl rfl rfl) pI ?_
 clear h
 rintro m40 _ _ ⟨zab, za, zl, zi, zm, zk, h, zac, zad, rfl, rfl⟩
 rcases m40 with _ | m40
 ·rw [m_state_Put_L39.eq_1] at h; cases h
 rw [m_state_Put_L39.eq_2] at h
 refine wSR (wM 1 rfl (wNT (wc_seq (wcc h rfl ?_ ?_)))) <;> clear h <;> intro h
 ·refine wc_skip (wx_then (wc_seq (wc_block (wSR ?_))))
  obtain ⟨v38, x38, h⟩ := bsome h
  refine wl_val (v := .pointer (some ((adOf p0a0).add (zab.toNat * 6 + 0)))) (val_ix (enc := c_T_api_Shot) tt_ok rfl rfl rfl rfl p0N0 p0S0 c_T_api_Shot_len rfl x38) rfl ?_
  refine wl_val (v := .agg #[.int .i32 v38.X, .int .i32 v38.Y, .int .i32 v38.VX, .int .i32 v38.VY, .int .u8 v38.Owner, .int .u8 v38.Life]) (val_le (enc := c_T_api_Shot) (xs := p0.Shots) tt_ok rfl p0S0 rsub_nil c_T_api_Shot_len x38 rfl) rfl ?_
  refine wl_alloc tt_ok rfl rfl (fun b7 => ?_)
  refine lSt Upd.here ?_
  refine wNT (wc_region (wLd (v := .agg #[.int .i32 v38.X, .int .i32 v38.Y, .int .i32 v38.VX, .int .i32 v38.VY, .int .u8 v38.Owner, .int .u8 v38.Life]) rfl mH rfl rfl ?_))
  obtain ⟨v41, x41, h⟩ := bsome h
  refine wl_cs Tryd.call49 rfl rfl rfl (s_sp (k_state_ofShot x41) pNil (fun _ _ => trivial)) rfl ?_
  rintro _ _ ⟨_, ⟨v41a0, v41n0, v41c0, v41B0, v41N0, v41V0, rfl, rfl⟩, rfl⟩
  obtain ⟨zh, x42, h⟩ := bsome h
  refine wl_cs Tryd.call46 rfl rfl rfl (s_sp (k_state_put (p0 := (T_codec_Writer.mk za)) (p1 := v41) (p0t := 103) zac zad v41N0 (vec_cap v41V0) x42) pP (Rds.call (Rds.of_vec v41V0) pP ⟨_, hA'⟩)) rfl ?_
  rintro _ _ ⟨_, ⟨zbk, zbm, zbl, zbh, zbi, zbj, rfl, rfl⟩, rfl⟩
  refine wl_nil (wx_block (wx_then (wc_region (wM 2 rfl (wl_nil ?_)))))
  exact wx_round m40 (Nat.lt_succ_self m40) ⟨(IntKind.wrap .i64 (zab + (1 : Int))), zh.b, zbk, zbm, zbl, zbh, h, zbi, zbj, rfl, rfl⟩ (ag6 rfl rfl rfl rfl rfl rfl) pI
 refine wc_exit (wx_then_exit ?_)
 obtain rfl := sI h
 have h := hl40; clear hl40; try dsimp only [orE_l, orE_r] at h
 refine wx_then_exit (wx_block_exit (wx_then (wc_seq (wSR ?_))))
 refine wM 1 rfl (wLd (v := .agg #[.int .u16 p0.Score.1, .int .u16 p0.Score.2]) rfl mH rfl rfl (wM 1 rfl (wNT (wc_block ?_))))
 obtain ⟨zas, h, hl57⟩ := bsome h
 refine wc_loop (fun m E L => ∃ zq zc zz zn zaa zw, m_state_Put_L56 F p0 m zq zc = some zas ∧ zn = zc.length ∧ Own 5 1 zz zn zaa (flat (e1 .u8) zc) zw ∧ E = [(2, .string ⟨([] : List UInt8).toArray⟩), (3, .pointer (some ⟨b3, 0, none⟩)), (45, .agg #[.int .u16 p0.Score.1, .int .u16 p0.Score.2]), (46, .int .i64 zq)] ∧ L = (⟨b3, [.slice zz zn zaa], 103, (0, 0)⟩ :: (zw ++ []))) F ⟨(0 : Int), za, zl, zi, zm, zk, h, zac, zad, rfl, rfl⟩ (ag4 rfl rfl rfl rfl) pI ?_
 clear h
 rintro m57 _ _ ⟨zq, zc, zz, zn, zaa, zw, h, zx, zy, rfl, rfl⟩
 rcases m57 with _ | m57
 ·rw [m_state_Put_L56.eq_1] at h; cases h
 rw [m_state_Put_L56.eq_2] at h
 refine wSR (wM 1 rfl (wNT (wc_seq (wcc h rfl ?_ ?_)))) <;> clear h <;> intro h
 ·refine wc_skip (wx_then (wc_seq (wc_block (wSR ?_))))
  rcases Bool.eq_false_or_eq_true (zq == (0 : Int)) with hx480 | hx480
  ·replace h := ct hx480 h
   refine wl_val (v := .int .u16 p0.Score.1) (val_iv (j := 0) tt_ok rfl rfl rfl rfl (by simpa using hx480) rfl rfl) rfl ?_
   refine wM 1 rfl (wNT (wc_region (wM 1 rfl ?_)))
   obtain ⟨ze, x50, h⟩ := bsome h
   refine wl_cs Tryd.call50 rfl rfl rfl (s_sp (k_codec_Writer_U16 (p0 := (T_codec_Writer.mk zc)) (p0t := 103) zx zy x50) pP (fun _ _ => trivial)) rfl ?_
   rintro _ _ ⟨_, ⟨zan, zap, zao, zak, zal, zam, rfl, rfl⟩, rfl⟩
   refine wl_nil (wx_block (wx_then (wc_region (wM 2 rfl (wl_nil ?_)))))
   exact wx_round m57 (Nat.lt_succ_self m57) ⟨(IntKind.wrap .i64 (zq + (1 : Int))), ze.b, zan, zap, zao, zak, h, zal, zam, rfl, rfl⟩ (ag4 rfl rfl rfl rfl) pI
  replace h := cf hx480 h
  rcases Bool.eq_false_or_eq_true (zq == (1 : Int)) with hx481 | hx481
  ·replace h := ct hx481 h
   refine wl_val (v := .int .u16 p0.Score.2) (val_iv (j := 1) tt_ok rfl rfl rfl rfl (by simpa using hx481) rfl rfl) rfl ?_
   refine wM 1 rfl (wNT (wc_region (wM 1 rfl ?_)))
   obtain ⟨ze, x50, h⟩ := bsome h
   refine wl_cs Tryd.call50 rfl rfl rfl (s_sp (k_codec_Writer_U16 (p0 := (T_codec_Writer.mk zc)) (p0t := 103) zx zy x50) pP (fun _ _ => trivial)) rfl ?_
   rintro _ _ ⟨_, ⟨zan, zap, zao, zak, zal, zam, rfl, rfl⟩, rfl⟩
   refine wl_nil (wx_block (wx_then (wc_region (wM 2 rfl (wl_nil ?_)))))
   exact wx_round m57 (Nat.lt_succ_self m57) ⟨(IntKind.wrap .i64 (zq + (1 : Int))), ze.b, zan, zap, zao, zak, h, zal, zam, rfl, rfl⟩ (ag4 rfl rfl rfl rfl) pI
  replace h := cf hx481 h
  cases h
 refine wc_exit (wx_then_exit ?_)
 obtain rfl := sI h
 have h := hl57; clear hl57; try dsimp only [orE_l, orE_r] at h
 refine wx_then_exit (wx_block_exit (wx_then (wSR ?_)))
 obtain ⟨v52, x52, h⟩ := bsome h
 refine wl_cq Tryd.call51 rfl rfl rfl (q_rd (k_codec_Writer_Bytes (p0 := (T_codec_Writer.mk zc)) (p0t := 103) zx zy x52) pP (fun _ _ => trivial)) rfl ?_
 refine wM 1 rfl (wNT (wc_ret ?_))
 obtain rfl := sI h
 exact pE Tryd.results29 rfl

theorem k_digest_Join {p0 : Int} {p1 : (List UInt8)} {r0 : Int} (h : m_digest_Join F p0 p1 = some r0) :
    Pf Tryd.prog 28 [.int .u64 p0, .string ⟨p1.toArray⟩] (fun w => True) (.int .u64 r0) := by
 unfold m_digest_Join at h
 refine pf_of_wc Tryd.func28 rfl Tryd.ntmps28 rfl rfl (fun w0 hR => ?_)
 refine wSR (wM 1 rfl (wNT (wc_seq (wSR (wM 3 rfl (wNT (wc_block ?_)))))))
 obtain ⟨zc, h, hl7⟩ := bsome h
 refine wc_loop (fun m E L => ∃ za zb, m_digest_Join_L6 F p1 m za zb = some zc ∧ E = [(0, .int .u64 za), (1, .string ⟨p1.toArray⟩), (4, .int .u64 0), (7, .int .i64 (p1.length : Int)), (8, .int .i64 zb)] ∧ L = []) F ⟨p0, (0 : Int), h, rfl, rfl⟩ (ag5 rfl rfl rfl rfl rfl) pI ?_
 clear h
 rintro m7 _ _ ⟨za, zb, h, rfl, rfl⟩
 rcases m7 with _ | m7
 ·rw [m_digest_Join_L6.eq_1] at h; cases h
 rw [m_digest_Join_L6.eq_2] at h
 refine wSR (wM 1 rfl (wNT (wc_seq (wcc h rfl ?_ ?_)))) <;> clear h <;> intro h
 ·refine wc_skip (wx_then (wc_seq (wc_block (wSR (wM 2 rfl (wNT (wc_region (wM 3 rfl ?_))))))))
  obtain ⟨v14, x14, h⟩ := bsome h
  refine wl_val (v := .int .u8 (v14.toNat : Int)) (val_sx tt_ok rfl rfl rfl x14) rfl ?_
  refine wM 4 rfl (wl_nil (wx_block (wx_then (wc_region (wM 2 rfl (wl_nil ?_))))))
  exact wx_round m7 (Nat.lt_succ_self m7) ⟨(IntKind.wrap .u64 ((bits .xor .u64 za (IntKind.wrap .u64 (v14.toNat : Int))) * (1099511628211 : Int))), (IntKind.wrap .i64 (zb + (1 : Int))), h, rfl, rfl⟩ (ag5 rfl rfl rfl rfl rfl) pI
 refine wc_exit (wx_then_exit ?_)
 obtain rfl := sI h
 have h := hl7; clear hl7; try dsimp only [orE_l, orE_r] at h
 refine wx_then_exit (wx_block_exit (wx_then (wSR ?_)))
 refine wM 2 rfl (wNT (wc_ret ?_))
 obtain rfl := sI h
 exact pE Tryd.results28 rfl

theorem k_digest_Of {p0 : T_api_State} {r0 : Int} (p0N0 : p0n0 = p0.Shots.length) (p0H0 : p0n0 ≤ p0c0) (h : m_digest_Of F p0 = some r0) :
    Pf Tryd.prog 20 [agS p0 p0a0 p0n0 p0c0] (fun w => Rds w [] [] p0a0 (flat c_T_api_Shot p0.Shots) ∧ Rds w [] [] (some ⟨0, 0, none⟩) (flat (fun _ : Unit => gl_state_playerBounds) [()]) ∧ Rds w [] [] (some ⟨1, 0, none⟩) (flat (fun _ : Unit => gl_state_shotBounds) [()])) (.int .u64 r0) := by
 unfold m_digest_Of at h
 refine pf_of_wc Tryd.func20 rfl Tryd.ntmps20 rfl rfl (fun w0 hR => ?_)
 obtain ⟨p0S0, G0S, G1S⟩ := hR
 refine wSR (wl_box rfl rfl rfl (fun b1 => (wM 1 rfl (wNT (wSR (wLd (v := agS p0 p0a0 p0n0 p0c0) rfl mH rfl rfl ?_))))))
 obtain ⟨v4, x4, h⟩ := bsome h
 refine wl_cq Tryd.call29 rfl rfl rfl (q_pf (k_state_Put (p0 := p0) p0N0 p0H0 x4) (fun w hI => ⟨(Rds.call p0S0 pNil rsub_nil) w hI, (Rds.call G0S pNil rsub_nil) w hI, (Rds.call G1S pNil rsub_nil) w hI⟩)) rfl ?_
 obtain ⟨v5, x5, h⟩ := bsome h
 refine wl_cq Tryd.call28 rfl rfl rfl (q_pf (k_digest_Join x5) (fun _ _ => trivial)) rfl ?_
 refine wM 1 rfl (wNT (wc_ret ?_))
 obtain rfl := sI h
 exact pE Tryd.results20 rfl

theorem k_watch_Watch_State {p0 : T_watch_Watch} {p1 : T_api_State} {r0 : T_watch_Watch} {r1 : Int} (p0N0 : p0n0 = p0.l.length) (p0V0 : Own 73 5 p0a0 p0n0 p0c0 (flat c_T_watch_entry p0.l) p0B0) (p1N0 : p1n0 = p1.Shots.length) (p1H0 : p1n0 ≤ p1c0) (h : m_watch_Watch_State F p0 p1 = some (r0, r1)) :
    SpD Tryd.prog 18 [.pointer (some ⟨p0b, 0, none⟩), agS p1 p1a0 p1n0 p1c0] (⟨p0b, [.int .u64 p0.rows, .slice p0a0 p0n0 p0c0, .bool p0.clashed], p0t, (0, 0)⟩ :: (p0B0 ++ [])) (fun w => Rds w (ids (⟨p0b, [.int .u64 p0.rows, .slice p0a0 p0n0 p0c0, .bool p0.clashed], p0t, (0, 0)⟩ :: (p0B0 ++ []))) [] p1a0 (flat c_T_api_Shot p1.Shots) ∧ Rds w (ids (⟨p0b, [.int .u64 p0.rows, .slice p0a0 p0n0 p0c0, .bool p0.clashed], p0t, (0, 0)⟩ :: (p0B0 ++ []))) [] (some ⟨0, 0, none⟩) (flat (fun _ : Unit => gl_state_playerBounds) [()]) ∧ Rds w (ids (⟨p0b, [.int .u64 p0.rows, .slice p0a0 p0n0 p0c0, .bool p0.clashed], p0t, (0, 0)⟩ :: (p0B0 ++ []))) [] (some ⟨1, 0, none⟩) (flat (fun _ : Unit => gl_state_shotBounds) [()])) (fun v D => ∃ r0a0 r0n0 r0c0 r0B0, r0n0 = r0.l.length ∧ Own 73 5 r0a0 r0n0 r0c0 (flat c_T_watch_entry r0.l) r0B0 ∧ v = .int .i64 r1 ∧ D = fun F => (⟨p0b, [.int .u64 r0.rows, .slice r0a0 r0n0 r0c0, .bool r0.clashed], p0t, (0, 0)⟩ :: (r0B0 ++ F))) := by
 unfold m_watch_Watch_State at h
 refine sp_of_wc Tryd.func18 rfl Tryd.ntmps18 rfl rfl (fun w0 hR => ?_)
 obtain ⟨p1S0, G0S, G1S⟩ := hR
 refine wSR (wl_box rfl rfl rfl (fun b3 => (wM 1 rfl (wNT (wc_seq (wc_block (wSR (wM 1 rfl ?_))))))))
 obtain ⟨v7, x7, h⟩ := bsome h
 refine wl_cq Tryd.call24 rfl rfl rfl (q_rd (k_watch_Watch_is (p0 := p0) (p0t := p0t) p0N0 p0V0 x7) pP (fun _ _ => trivial)) rfl ?_
 refine wM 2 rfl (wNT (wcc h rfl ?_ ?_)) <;> clear h <;> intro h
 ·refine wSR (wM 1 rfl (wNT (wc_ret (wx_block_ret (wx_then_ret ?_)))))
  obtain ⟨rfl, rfl⟩ := pJ2 h
  exact wE Tryd.results18 (rs1 rfl) ⟨p0a0, p0n0, p0c0, p0B0, p0N0, p0V0, rfl, rfl⟩ pI
 refine wc_seq (wc_quiet (by kernel_rfl) (by kernel_rfl) (qM 1 rfl (qLd rfl mH rfl rfl (qM 3 rfl (qLd rfl (mT mH) rfl rfl ?_)))))
 obtain ⟨v16, x16, h⟩ := bsome h
 refine wq_val (v := .int .u64 v16) (val_rem rfl rfl x16) rfl ?_
 refine qM 2 rfl (wq_nil (wx_then (wcc h rfl ?_ ?_))) <;> clear h <;> intro h
 ·refine wSR (wM 1 rfl (wNT (wc_ret (wx_block_ret (wx_then_ret ?_)))))
  obtain ⟨rfl, rfl⟩ := pJ2 h
  exact wE Tryd.results18 (rs1 rfl) ⟨p0a0, p0n0, p0c0, p0B0, p0N0, p0V0, rfl, rfl⟩ pI
 refine wc_skip (wx_block (wx_then (wc_seq (wc_k2 (Ls := (⟨b3, (st19 p1 p1a0 p1n0 p1c0 []), 41, (0, 0)⟩ :: (⟨p0b, [.int .u64 p0.rows, .slice p0a0 p0n0 p0c0, .bool p0.clashed], p0t, (0, 0)⟩ :: (p0B0 ++ [])))) [4, 5, 6] [5, 6] [0, 0, 2, 0, 8, 31, 63] [0, 1, 2, 3, 4, 5, 6] (by kernel_rfl) (by kernel_rfl) (by kernel_rfl) ?_))))
 refine kM pI 2 rfl (k_val (v := .int .u64 p1.Frame) rfl rfl rfl pI (val_load tt_ok rfl mH rfl) rfl (k_val (v := agS p1 p1a0 p1n0 p1c0) rfl rfl rfl pI (val_load tt_ok rfl mH rfl) rfl ?_))
 obtain ⟨v22, x22, h⟩ := bsome h
 refine k_cq rfl rfl rfl Tryd.call20 rfl rfl rfl (q_pf (k_digest_Of (p0 := p1) p1N0 p1H0 x22) (fun w hI => ⟨(Rds.call p1S0 pNil rsub_nil) w hI, (Rds.call G0S pNil rsub_nil) w hI, (Rds.call G1S pNil rsub_nil) w hI⟩)) rfl pI ?_
 replace h := bsome h; obtain ⟨⟨za, v23⟩, x23, h⟩ := h; try dsimp only at h
 refine k_cs rfl rfl rfl Tryd.call16 rfl rfl rfl (s_sp (k_watch_Watch_Own (p0 := p0) (p0t := p0t) p0N0 p0V0 x23) pP (fun _ _ => trivial)) rfl (.inl rfl) ?_
 rintro _ _ ⟨_, ⟨ze, zg, zf, zb, zc, zd, rfl, rfl⟩, rfl⟩
 refine k_chg rfl rfl rfl (Chg.of_val (sV rfl)) rfl (.inl rfl) ?_
 rintro _ _ ⟨rfl, rfl⟩
 refine k_end (by kernel_rfl) ?_
 refine wx_then (wc_ret ?_)
 obtain ⟨rfl, rfl⟩ := pJ2 h
 exact wE Tryd.results18 (rs1 rfl) ⟨ze, zg, zf, zb, zc, zd, rfl, rfl⟩ pI

theorem k_watch_Watch_Latest {p0 : T_watch_Watch} {r0 : Int} {r1 : Int} {r2 : Bool} (p0N0 : p0n0 = p0.l.length) (p0V0 : Own 73 5 p0a0 p0n0 p0c0 (flat c_T_watch_entry p0.l) p0B0) (h : m_watch_Watch_Latest F p0 = some (r0, r1, r2)) :
    Rd2 Tryd.prog 12 [.pointer (some ⟨p0b, 0, none⟩)] (⟨p0b, [.int .u64 p0.rows, .slice p0a0 p0n0 p0c0, .bool p0.clashed], p0t, (0, 0)⟩ :: (p0B0 ++ [])) (fun w => True) (.tuple #[.int .u64 r0, .int .u64 r1, .bool r2]) := by
 unfold m_watch_Watch_Latest at h
 refine sp_of_wc Tryd.func12 rfl Tryd.ntmps12 rfl rfl (fun w0 hR => ?_)
 refine wSR (wM 3 rfl (wNT (wc_seq (wSR (wM 1 rfl ?_)))))
 obtain ⟨v8, x8, h⟩ := bsome h
 refine wl_cq Tryd.call24 rfl rfl rfl (q_rd (k_watch_Watch_is (p0 := p0) (p0t := p0t) p0N0 p0V0 x8) pP (fun _ _ => trivial)) rfl ?_
 refine wM 1 rfl (wNT (wcc h rfl ?_ ?_)) <;> clear h <;> intro h
 ·refine wSR (wM 3 rfl (wNT (wc_ret (wx_then_ret ?_))))
  obtain ⟨rfl, rfl, rfl⟩ := pJ3 h
  exact wx_rd tt_ok (.inl rfl) Tryd.results12 (Res.tmp rfl (rs2 rfl rfl)) pI rfl
 refine wc_skip (wx_then (wc_seq (wSR (wM 3 rfl (wLd rfl mH rfl rfl (wl_val (v := .int .i64 (p0.l.length : Int)) (val_len tt_ok rfl rfl p0N0) rfl (wM 1 rfl (wNT (wc_block ?_)))))))))
 replace h := bsome h; obtain ⟨⟨ze, zf, zg⟩, h, hl15⟩ := h; try dsimp only at hl15
 refine wc_loop (fun m E L => ∃ zb zc zd za, m_watch_Watch_Latest_L14 F p0 m zb zc zd za = some (ze, zf, zg) ∧ E = [(2, .int .u64 zb), (3, .int .u64 zc), (4, .bool zd), (13, .slice p0a0 p0n0 p0c0), (14, .int .i64 (p0.l.length : Int)), (15, .int .i64 za)] ∧ L = (⟨p0b, [.int .u64 p0.rows, .slice p0a0 p0n0 p0c0, .bool p0.clashed], p0t, (0, 0)⟩ :: (p0B0 ++ []))) F ⟨(0 : Int), (0 : Int), false, (0 : Int), h, rfl, rfl⟩ (ag6 rfl rfl rfl rfl rfl rfl) pI ?_
 clear h
 rintro m15 _ _ ⟨zb, zc, zd, za, h, rfl, rfl⟩
 rcases m15 with _ | m15
 ·rw [m_watch_Watch_Latest_L14.eq_1] at h; cases h
 rw [m_watch_Watch_Latest_L14.eq_2] at h
 refine wSR (wM 1 rfl (wNT (wc_seq (wcc h rfl ?_ ?_)))) <;> clear h <;> intro h
 ·refine wc_skip (wx_then (wc_seq (wc_block (wSR ?_))))
  obtain ⟨v17, x17, h⟩ := bsome h
  refine wl_val (v := .pointer (some ((adOf p0a0).add (za.toNat * 5 + 0)))) (val_ix (enc := c_T_watch_entry) tt_ok rfl rfl rfl rfl p0N0 (Rds.of_vec p0V0) c_T_watch_entry_len rfl x17) rfl ?_
  refine wl_val (v := .agg #[.int .u64 v17.f, .int .u64 v17.own.n, .bool v17.own.is_, .int .u64 v17.other.n, .bool v17.other.is_]) (val_le (enc := c_T_watch_entry) (xs := p0.l) tt_ok rfl (Rds.of_vec p0V0) ⟨_, (sC hA')⟩ c_T_watch_entry_len x17 rfl) rfl ?_
  refine wl_alloc tt_ok rfl rfl (fun b6 => ?_)
  refine lSt Upd.here ?_
  refine wNT (wSR (wM 2 rfl (wLd rfl mH rfl rfl (wNT (wcc h rfl ?_ ?_))))) <;> clear h <;> intro h
  ·refine wc_quiet (by kernel_rfl) (by kernel_rfl) ?_
   refine qM 1 rfl (qLd rfl mH rfl rfl (qM 2 rfl (qLd rfl mH rfl rfl (qM 3 rfl (wq_nil (wx_block (wx_then (wc_region (wM 2 rfl (wl_nil ?_))))))))))
   exact wx_round m15 (Nat.lt_succ_self m15) ⟨v17.f, v17.own.n, true, (IntKind.wrap .i64 (za + (1 : Int))), h, rfl, rfl⟩ (ag6 rfl rfl rfl rfl rfl rfl) pI
  refine wc_skip (wx_block (wx_then (wc_region (wM 2 rfl (wl_nil ?_)))))
  exact wx_round m15 (Nat.lt_succ_self m15) ⟨zb, zc, zd, (IntKind.wrap .i64 (za + (1 : Int))), h, rfl, rfl⟩ (ag6 rfl rfl rfl rfl rfl rfl) pI
 refine wc_exit (wx_then_exit ?_)
 obtain ⟨rfl, rfl, rfl⟩ := pJ3 h
 have h := hl15; clear hl15; try dsimp only [orE_l, orE_r] at h
 refine wx_then_exit (wx_block_exit (wx_then (wSR ?_)))
 refine wM 6 rfl (wNT (wc_ret ?_))
 obtain ⟨rfl, rfl, rfl⟩ := pJ3 h
 exact wx_rd tt_ok (.inl rfl) Tryd.results12 (Res.tmp rfl (rs2 rfl rfl)) pI rfl

theorem k_hindcastlaw29_WatchSame {p0 : Int} {p1 : (List (Int × Int))} {p2 : (List T_hindcastlaw29_Order)} {r0 : Bool} (p1N0 : p1n0 = p1.length) (p1H0 : p1n0 ≤ p1c0) (p2N0 : p2n0 = p2.length) (p2H0 : p2n0 ≤ p2c0) (h : m_hindcastlaw29_WatchSame F p0 p1 p2 = some r0) :
    Pf Tryd.prog 5 [.int .u64 p0, .slice p1a0 p1n0 p1c0, .slice p2a0 p2n0 p2c0] (fun w => Rds w [] [] p1a0 (flat (e2 .u8) p1) ∧ Rds w [] [] p2a0 (flat c_T_hindcastlaw29_Order p2) ∧ Rds w [] [] (some ⟨0, 0, none⟩) (flat (fun _ : Unit => gl_state_playerBounds) [()]) ∧ Rds w [] [] (some ⟨1, 0, none⟩) (flat (fun _ : Unit => gl_state_shotBounds) [()])) (.bool r0) := by
 unfold m_hindcastlaw29_WatchSame at h
 refine pf_of_wc Tryd.func5 rfl Tryd.ntmps5 rfl rfl (fun w0 hR => ?_)
 obtain ⟨p1S0, p2S0, G0S, G1S⟩ := hR
 refine wSR (wM 1 rfl (wNT (wc_seq (wSR (wM 1 rfl (wl_val (v := .int .i64 (p1.length : Int)) (val_len tt_ok rfl rfl p1N0) rfl (wM 2 rfl ?_)))))))
 obtain ⟨v24, h, hg24⟩ := bsome h
 refine wls 20 h rfl ?_ ?_ <;> clear h <;> intro h
 ·refine wM 3 rfl ?_
  obtain rfl := sI h
  have h := hg24; clear hg24
  refine wM 1 rfl (wNT ?_)
  replace h := ct rfl h
  refine wc_cond_true rfl ?_
  refine wSR ?_
  obtain ⟨v25, x25, h⟩ := bsome h
  refine wl_cq Tryd.call8 rfl rfl rfl (q_pf (k_hindcastlaw29_awake x25) (fun _ _ => trivial)) rfl ?_
  refine wM 1 rfl (wNT (wc_ret (wx_then_ret ?_)))
  obtain rfl := sI h
  exact pE Tryd.results5 rfl
 refine wM 1 rfl (wl_run rfl (wl_val (v := .int .i64 (p2.length : Int)) (val_len tt_ok rfl rfl p2N0) rfl (wM 1 rfl ?_)))
 obtain rfl := sI h
 have h := hg24; clear hg24
 refine wM 1 rfl (wNT (wcc h rfl ?_ ?_)) <;> clear h <;> intro h
 ·refine wSR ?_
  obtain ⟨v25, x25, h⟩ := bsome h
  refine wl_cq Tryd.call8 rfl rfl rfl (q_pf (k_hindcastlaw29_awake x25) (fun _ _ => trivial)) rfl ?_
  refine wM 1 rfl (wNT (wc_ret (wx_then_ret ?_)))
  obtain rfl := sI h
  exact pE Tryd.results5 rfl
 refine wc_skip (wx_then (wSR (wM 5 rfl (wNT (wSR (wM 1 rfl ?_))))))
 obtain ⟨v31, x31, h⟩ := bsome h
 rcases v31 with _ | v31s
 ·replace h := poN h
  refine wl_cs Tryd.call6 rfl rfl rfl (s_sp (k_watch_New_none x31) pNil (fun _ _ => trivial)) rfl ?_
  rintro _ _ ⟨_, ⟨rfl, rfl⟩, rfl⟩
  refine wM 1 rfl ?_
  obtain ⟨v33, x33, h⟩ := bsome h
  rcases v33 with _ | v33s
  ·replace h := poN h
   refine wl_cs Tryd.call6 rfl rfl rfl (s_sp (k_watch_New_none x33) pNil (fun _ _ => trivial)) rfl ?_
   rintro _ _ ⟨_, ⟨rfl, rfl⟩, rfl⟩
   refine wM 1 rfl (wl_alloc tt_ok rfl rfl (fun b8 => (lSt Upd.here ?_)))
   refine wNT (wc_seq (wSR (wl_val (v := .pointer (some ⟨b8, 0, none⟩)) (val_ia (j := 0) tt_ok rfl rfl rfl rfl rfl rfl rfl) rfl (wLd rfl mH rfl rfl (wM 6 rfl (wNT (wc_cond_true rfl (wSR (wM 1 rfl (wNT (wc_ret (wx_then_ret ?_))))))))))))
   obtain rfl := sI h
   exact pE Tryd.results5 rfl
  replace h := poS h
  refine wl_cs Tryd.call6 rfl rfl rfl (s_sp (k_watch_New x33) pNil (fun _ _ => trivial)) rfl ?_
  rintro _ _ ⟨_, ⟨zab, v33sa0, v33sn0, v33sc0, v33sB0, v33sN0, v33sV0, rfl, rfl⟩, rfl⟩
  refine wM 1 rfl (wl_alloc tt_ok rfl rfl (fun b8 => (lSt Upd.here ?_)))
  refine wNT (wc_seq (wSR (wl_val (v := .pointer (some ⟨b8, 0, none⟩)) (val_ia (j := 0) tt_ok rfl rfl rfl rfl rfl rfl rfl) rfl (wLd rfl mH rfl rfl (wM 6 rfl (wNT (wc_cond_true rfl (wSR (wM 1 rfl (wNT (wc_ret (wx_then_ret ?_))))))))))))
  obtain rfl := sI h
  exact pE Tryd.results5 rfl
 replace h := poS h
 refine wl_cs Tryd.call6 rfl rfl rfl (s_sp (k_watch_New x31) pNil (fun _ _ => trivial)) rfl ?_
 rintro _ _ ⟨_, ⟨zac, v31sa0, v31sn0, v31sc0, v31sB0, v31sN0, v31sV0, rfl, rfl⟩, rfl⟩
 refine wM 1 rfl ?_
 obtain ⟨v33, x33, h⟩ := bsome h
 rcases v33 with _ | v33s
 ·replace h := poN h
  refine wl_cs Tryd.call6 rfl rfl rfl (s_sp (k_watch_New_none x33) pNil (fun _ _ => trivial)) rfl ?_
  rintro _ _ ⟨_, ⟨rfl, rfl⟩, rfl⟩
  refine wM 1 rfl (wl_alloc tt_ok rfl rfl (fun b8 => (lSt Upd.here ?_)))
  refine wNT (wc_seq (wSR (wl_val (v := .pointer (some ⟨b8, 0, none⟩)) (val_ia (j := 0) tt_ok rfl rfl rfl rfl rfl rfl rfl) rfl (wLd rfl mH rfl rfl (wM 2 rfl (wl_run rfl (wl_val (v := .pointer (some ⟨b8, 1, none⟩)) (val_ia (j := 1) tt_ok rfl rfl rfl rfl rfl rfl rfl) rfl (wl_run rfl (wLd rfl mH rfl rfl (wM 2 rfl (wNT (wc_cond_true rfl (wSR (wM 1 rfl (wNT (wc_ret (wx_then_ret ?_)))))))))))))))))
  obtain rfl := sI h
  exact pE Tryd.results5 rfl
 replace h := poS h
 refine wl_cs Tryd.call6 rfl rfl rfl (s_sp (k_watch_New x33) pNil (fun _ _ => trivial)) rfl ?_
 rintro _ _ ⟨_, ⟨zab, v33sa0, v33sn0, v33sc0, v33sB0, v33sN0, v33sV0, rfl, rfl⟩, rfl⟩
 refine wM 1 rfl (wl_alloc tt_ok rfl rfl (fun b8 => (lSt Upd.here ?_)))
 refine wNT (wc_seq (wSR (wl_val (v := .pointer (some ⟨b8, 0, none⟩)) (val_ia (j := 0) tt_ok rfl rfl rfl rfl rfl rfl rfl) rfl (wLd rfl mH rfl rfl (wM 2 rfl (wl_run rfl (wl_val (v := .pointer (some ⟨b8, 1, none⟩)) (val_ia (j := 1) tt_ok rfl rfl rfl rfl rfl rfl rfl) rfl (wl_run rfl (wLd rfl mH rfl rfl (wM 2 rfl (wNT (wc_cond_false rfl (wc_skip (wx_then (wSR (wM 1 rfl ?_))))))))))))))))
 obtain ⟨v44, x44, h⟩ := bsome h
 refine wl_cs Tryd.call19 rfl rfl rfl (s_sp (k_state_Start x44) pNil (fun _ _ => trivial)) rfl ?_
 rintro _ _ ⟨_, ⟨v44a0, v44n0, v44c0, v44B0, v44N0, v44V0, rfl, rfl⟩, rfl⟩
 refine wl_chg (chg_bsv (enc := cg_T_api_State) (xs := ([(v44, (v44a0, v44n0, v44c0))] : List (T_api_State × G))) tt_ok rfl rfl rfl rfl rfl rfl rfl rfl cg_T_api_State_len) rfl ?_
 rintro _ _ ⟨a45, n45_, c45, B45, rfl, N45, V45, rfl⟩
 refine wM 1 rfl (wNT (wc_seq (wSR (wM 1 rfl (wNT (wc_block ?_))))))
 obtain ⟨zbe, h, hl29⟩ := bsome h
 refine wc_loop (fun m E L => ∃ zc zaz zal zay zba zak zx zad, m_hindcastlaw29_WatchSame_L28 F p1 m zc zaz = some zbe ∧ zay = zc.length ∧ Own 41 19 zal zay zba (flat cg_T_api_State zx) zak ∧ zc = unG zx ∧ AllP sh_T_api_State c_T_api_Shot zad zx ∧ E = [(1, .slice p1a0 p1n0 p1c0), (2, .slice p2a0 p2n0 p2c0), (6, .bool false), (8, .pointer (some ⟨b8, 0, none⟩)), (9, .slice zal zay zba), (10, .int .i64 zaz)] ∧ L = (⟨b8, [.pointer (some ⟨zac, 0, none⟩), .pointer (some ⟨zab, 0, none⟩)], 59, (0, 0)⟩ :: (⟨zac, [.int .u64 v31s.rows, .slice v31sa0 v31sn0 v31sc0, .bool v31s.clashed], 56, (0, 0)⟩ :: (⟨zab, [.int .u64 v33s.rows, .slice v33sa0 v33sn0 v33sc0, .bool v33s.clashed], 56, (0, 0)⟩ :: (v31sB0 ++ (v33sB0 ++ (zak ++ (zad ++ [])))))))) F ⟨([v44] : List T_api_State), (0 : Int), a45, n45_, c45, B45, ([(v44, (v44a0, v44n0, v44c0))] : List (T_api_State × G)), v44B0, h, N45, V45, rfl, (fun w A => (allrd_one (sh := sh_T_api_State) (x := v44) (s := v44.Shots) rfl v44N0 (vec_cap v44V0) (Rds.of_vec v44V0) (own_Z v44V0))), rfl, rfl⟩ (ag6 rfl rfl rfl rfl rfl rfl) pI ?_
 clear h
 rintro m29 _ _ ⟨zc, zaz, zal, zay, zba, zak, zx, zad, h, zam, zan, zaa, zs, rfl, rfl⟩
 rcases m29 with _ | m29
 ·rw [m_hindcastlaw29_WatchSame_L28.eq_1] at h; cases h
 rw [m_hindcastlaw29_WatchSame_L28.eq_2] at h
 refine wc_seq (wSR (wM 2 rfl (wl_val (v := .int .i64 (p1.length : Int)) (val_len tt_ok rfl rfl p1N0) rfl (wM 1 rfl (wNT (wcc h rfl ?_ ?_)))))) <;> clear h <;> intro h
 ·refine wc_skip (wx_then (wc_seq (wc_block (wc_seq ?_))))
  obtain ⟨v56, x56, h⟩ := bsome h
  obtain ⟨v60, x60, h⟩ := bsome h
  obtain ⟨v62, x62, h⟩ := bsome h
  refine wc_join2 (fun E L => ∃ b11 v62a0 v62n0 v62c0 v62B0, v62n0 = v62.Shots.length ∧ Own 87 6 v62a0 v62n0 v62c0 (flat c_T_api_Shot v62.Shots) v62B0 ∧ E = [(1, .slice p1a0 p1n0 p1c0), (2, .slice p2a0 p2n0 p2c0), (6, .bool false), (8, .pointer (some ⟨b8, 0, none⟩)), (9, .slice zal zay zba), (10, .int .i64 zaz), (11, .pointer (some ⟨b11, 0, none⟩))] ∧ L = (⟨b8, [.pointer (some ⟨zac, 0, none⟩), .pointer (some ⟨zab, 0, none⟩)], 59, (0, 0)⟩ :: (⟨zac, [.int .u64 v31s.rows, .slice v31sa0 v31sn0 v31sc0, .bool v31s.clashed], 56, (0, 0)⟩ :: (⟨zab, [.int .u64 v33s.rows, .slice v33sa0 v33sn0 v33sc0, .bool v33s.clashed], 56, (0, 0)⟩ :: (⟨b11, (st19 v62 v62a0 v62n0 v62c0 []), 41, (0, 0)⟩ :: (v31sB0 ++ (v33sB0 ++ (zak ++ (zad ++ (v62B0 ++ [])))))))))) ?_ ?_
  ·refine wc_k2 (Ls := (⟨b8, [.pointer (some ⟨zac, 0, none⟩), .pointer (some ⟨zab, 0, none⟩)], 59, (0, 0)⟩ :: (⟨zac, [.int .u64 v31s.rows, .slice v31sa0 v31sn0 v31sc0, .bool v31s.clashed], 56, (0, 0)⟩ :: (⟨zab, [.int .u64 v33s.rows, .slice v33sa0 v33sn0 v33sc0, .bool v33s.clashed], 56, (0, 0)⟩ :: (v31sB0 ++ (v33sB0 ++ (zak ++ (zad ++ [])))))))) [10, 11, 12] [10, 12] [0, 0, 2, 6, 15, 31, 0, 0, 192, 448, 1023, 0, 4095] [0, 1, 2, 3, 4, 5, 6, 7, 8, 9] (by kernel_rfl) (by kernel_rfl) (by kernel_rfl) ?_
   refine kM pI 2 rfl (k_val (v := .int .i64 (zc.length : Int)) rfl rfl rfl pI (val_len tt_ok rfl rfl zam) rfl (kM pI 1 rfl ?_))
   obtain ⟨G56, y56⟩ := getI_g zaa x56
   refine k_val (v := .pointer (some ((adOf zal).add ((IntKind.wrap .i64 ((zc.length : Int) - (1 : Int))).toNat * 19 + 0)))) rfl rfl rfl pI (val_ix (enc := cg_T_api_State) tt_ok rfl rfl rfl rfl (len_g zam zaa) (Rds.of_vec zan) cg_T_api_State_len rfl y56) rfl (k_val (v := agS v56 G56.1 G56.2.1 G56.2.2) rfl rfl rfl pI (val_le (enc := cg_T_api_State) (xs := zx) tt_ok rfl (Rds.of_vec zan) ⟨_, (sCC (sC (sAA hA')))⟩ cg_T_api_State_len y56 rfl) rfl ?_)
   refine kM pI 2 rfl (k_val (v := .pointer (some ((adOf p1a0).add (zaz.toNat * 2 + 0)))) rfl rfl rfl pI (val_ix (enc := (e2 .u8)) tt_ok rfl rfl rfl rfl p1N0 p1S0 (e2_len _) rfl x60) rfl (k_val (v := .agg #[.int .u8 v60.1, .int .u8 v60.2]) rfl rfl rfl pI (val_le (enc := (e2 .u8)) (xs := p1) tt_ok rfl p1S0 rsub_nil (e2_len _) x60 rfl) rfl (k_two (i := 10) (j := 11) (t1 := [11, 12]) (t2 := [10, 12]) (by kernel_rfl) (by kernel_rfl) (by kernel_rfl) (by kernel_rfl) ?_ ?_)))
   ·refine k_csf rfl rfl Tryd.call21 rfl rfl rfl (s_sp (k_step_Step (p0 := v56) (allrd_get (zs w0 []) y56).1 (allrd_get (zs w0 []) y56).2.1 x62) pNil (fun w hI => ⟨(Rds.call (allrd_get (zs w0 []) y56).2.2.1 pNil ⟨_, (sCC (sC (sAA (sA hA'))))⟩) w hI, (Rds.call G0S pNil rsub_nil) w hI, (Rds.call G1S pNil rsub_nil) w hI⟩)) rfl (.inl rfl) ?_
    rintro _ _ ⟨_, ⟨v62a0, v62n0, v62c0, v62B0, v62N0, v62V0, rfl, rfl⟩, rfl⟩
    refine k_chg rfl rfl rfl (chg_alloc tt_ok rfl) rfl (.inr (by rintro _ _ ⟨_, rfl, rfl⟩; exact ⟨_, pP⟩)) ?_
    rintro _ _ ⟨b11, rfl, rfl⟩
    refine k_chg0 rfl rfl rfl (chg_store tt_ok rfl Upd.here rfl rfl rfl rfl rfl rfl) (.inl rfl) ?_
    rintro _ _ rfl
    refine k_end (by kernel_rfl) ?_
    exact wx_join ⟨b11, v62a0, v62n0, v62c0, v62B0, v62N0, v62V0, rfl, rfl⟩ (ag7 rfl rfl rfl rfl rfl rfl rfl) pI
   refine k_chgf rfl rfl (chg_alloc tt_ok rfl) rfl (.inr (by rintro _ _ ⟨_, rfl, rfl⟩; exact ⟨_, pP⟩)) ?_
   rintro _ _ ⟨b11, rfl, rfl⟩
   refine k_cs rfl rfl rfl Tryd.call21 rfl rfl rfl (s_sp (k_step_Step (p0 := v56) (allrd_get (zs w0 []) y56).1 (allrd_get (zs w0 []) y56).2.1 x62) pNil (fun w hI => ⟨(Rds.call (allrd_get (zs w0 []) y56).2.2.1 pNil ⟨_, (sCC (sCC (sAA (sA hA'))))⟩) w hI, (Rds.call G0S pNil rsub_nil) w hI, (Rds.call G1S pNil rsub_nil) w hI⟩)) rfl (.inl rfl) ?_
   rintro _ _ ⟨_, ⟨v62a0, v62n0, v62c0, v62B0, v62N0, v62V0, rfl, rfl⟩, rfl⟩
   refine k_chg0 rfl rfl rfl (chg_store tt_ok rfl (Upd.right Upd.here) rfl rfl rfl rfl rfl rfl) (.inl rfl) ?_
   rintro _ _ rfl
   refine k_end (by kernel_rfl) ?_
   exact wx_join ⟨b11, v62a0, v62n0, v62c0, v62B0, v62N0, v62V0, rfl, rfl⟩ (ag7 rfl rfl rfl rfl rfl rfl rfl) pI
  rintro _ _ ⟨b11, v62a0, v62n0, v62c0, v62B0, v62N0, v62V0, rfl, rfl⟩
  refine wc_region (wM 1 rfl (wLd (v := agS v62 v62a0 v62n0 v62c0) rfl (mTT (mT mH)) rfl rfl (wl_chg (chg_bsv (enc := cg_T_api_State) (xs := ([(v62, (v62a0, v62n0, v62c0))] : List (T_api_State × G))) tt_ok rfl rfl rfl rfl rfl rfl rfl rfl cg_T_api_State_len) rfl ?_)))
  rintro _ _ ⟨a65, n65_, c65, B65, rfl, N65, V65, rfl⟩
  refine wl_sub (L' := ((zad ++ v62B0) ++ (B65 ++ (⟨b8, [.pointer (some ⟨zac, 0, none⟩), .pointer (some ⟨zab, 0, none⟩)], 59, (0, 0)⟩ :: (⟨zac, [.int .u64 v31s.rows, .slice v31sa0 v31sn0 v31sc0, .bool v31s.clashed], 56, (0, 0)⟩ :: (⟨zab, [.int .u64 v33s.rows, .slice v33sa0 v33sn0 v33sc0, .bool v33s.clashed], 56, (0, 0)⟩ :: (⟨b11, (st19 v62 v62a0 v62n0 v62c0 []), 41, (0, 0)⟩ :: (v31sB0 ++ (v33sB0 ++ (zak ++ [])))))))))) (pMerge (sA (sCC (sCC (sAA (sA hA'))))) (sA (sCC (sCC (sAA (sA hA')))))) ?_
  obtain ⟨v66, x66, h⟩ := bsome h
  refine wl_chg (chg_app (enc := cg_T_api_State) (ys := ([(v62, (v62a0, v62n0, v62c0))] : List (T_api_State × G))) tt_ok rfl rfl rfl rfl rfl rfl (len_g zam zaa) (len_g N65 rfl) zan (sAA (sCC (sCC (sAA hA')))) (Rds.of_vec V65) ⟨_, (sA hA')⟩ cg_T_api_State_len (fun _ => rfl) rfl (app_g (l := zx) (m := ([(v62, (v62a0, v62n0, v62c0))] : List (T_api_State × G))) zaa rfl x66).1) rfl ?_
  rintro _ _ ⟨a66, n66_, c66, B66, rfl, N66, V66, rfl⟩
  refine wM 1 rfl (wl_nil (wx_block (wx_then (wc_region (wM 3 rfl (wl_nil ?_))))))
  exact wx_round m29 (Nat.lt_succ_self m29) ⟨v66, (IntKind.wrap .i64 (zaz + (1 : Int))), a66, n66_, c66, B66, (zx ++ ([(v62, (v62a0, v62n0, v62c0))] : List (T_api_State × G))), (zad ++ v62B0), h, (appn_g (app_g (l := zx) (m := ([(v62, (v62a0, v62n0, v62c0))] : List (T_api_State × G))) zaa rfl x66).2 N66), V66, (app_g (l := zx) (m := ([(v62, (v62a0, v62n0, v62c0))] : List (T_api_State × G))) zaa rfl x66).2, (fun w A => (allrd_app (allrd_left (zs w A)) (allrd_right (allrd_one (sh := sh_T_api_State) (x := v62) (s := v62.Shots) rfl v62N0 (vec_cap v62V0) (Rds.of_vec v62V0) (own_Z v62V0))))), rfl, rfl⟩ (ag6 rfl rfl rfl rfl rfl rfl) pI
 refine wc_exit (wx_then_exit ?_)
 obtain rfl := sI h
 have h := hl29; clear hl29; try dsimp only [orE_l, orE_r] at h
 refine wx_then_exit (wx_block_exit (wx_then (wc_seq (wSR ?_))))
 refine wM 1 rfl (wNT (wc_block ?_))
 obtain ⟨o46, h, hl46⟩ := bsome h
 refine wc_loop (fun m E L => ∃ zf zg za zh zi zb zj zn zk zo zm zq zl zr zp, m_hindcastlaw29_WatchSame_L45 F p2 zc m zf zg za zh zi zb zj = some o46 ∧ zk = za.length ∧ Own 73 5 zn zk zo (flat c_T_watch_entry za) zm ∧ zl = zb.length ∧ Own 73 5 zq zl zr (flat c_T_watch_entry zb) zp ∧ E = [(2, .slice p2a0 p2n0 p2c0), (6, .bool false), (8, .pointer (some ⟨b8, 0, none⟩)), (9, .slice zal zay zba), (12, .int .i64 zf)] ∧ L = (⟨b8, [.pointer (some ⟨zac, 0, none⟩), .pointer (some ⟨zab, 0, none⟩)], 59, (0, 0)⟩ :: (⟨zac, [.int .u64 zg, .slice zn zk zo, .bool zh], 56, (0, 0)⟩ :: (⟨zab, [.int .u64 zi, .slice zq zl zr, .bool zj], 56, (0, 0)⟩ :: (zm ++ (zp ++ (zak ++ (zad ++ [])))))))) F ⟨(0 : Int), v31s.rows, v31s.l, v31s.clashed, v33s.rows, v33s.l, v33s.clashed, v31sa0, v31sn0, v31sc0, v31sB0, v33sa0, v33sn0, v33sc0, v33sB0, h, v31sN0, v31sV0, v33sN0, v33sV0, rfl, rfl⟩ (ag5 rfl rfl rfl rfl rfl) pI ?_
 clear h
 rintro m46 _ _ ⟨zf, zg, za, zh, zi, zb, zj, zn, zk, zo, zm, zq, zl, zr, zp, h, zt, zu, zv, zw, rfl, rfl⟩
 rcases m46 with _ | m46
 ·rw [m_hindcastlaw29_WatchSame_L45.eq_1] at h; cases h
 rw [m_hindcastlaw29_WatchSame_L45.eq_2] at h
 refine wc_seq (wSR (wM 2 rfl (wl_val (v := .int .i64 (p2.length : Int)) (val_len tt_ok rfl rfl p2N0) rfl (wM 1 rfl (wNT (wcc h rfl ?_ ?_)))))) <;> clear h <;> intro h
 ·refine wc_skip (wx_then (wc_seq (wc_block (wSR (wM 2 rfl ?_)))))
  obtain ⟨v75, x75, h⟩ := bsome h
  refine wl_val (v := .pointer (some ((adOf p2a0).add (zf.toNat * 3 + 0)))) (val_ix (enc := c_T_hindcastlaw29_Order) tt_ok rfl rfl rfl rfl p2N0 p2S0 c_T_hindcastlaw29_Order_len rfl x75) rfl ?_
  refine wl_val (v := .pointer (some ((adOf p2a0).add (zf.toNat * 3 + 0)))) (val_fa (k := zf.toNat * 3 + 0) (off := 0) tt_ok rfl rfl rfl rfl rfl) rfl ?_
  refine wl_val (v := .int .u8 v75.Side) (val_le (enc := c_T_hindcastlaw29_Order) (xs := p2) tt_ok rfl p2S0 rsub_nil c_T_hindcastlaw29_Order_len x75 rfl) rfl ?_
  refine wM 3 rfl (wNT (wc_seq (wc_seq (wc_k2 (Ls := (⟨b8, [.pointer (some ⟨zac, 0, none⟩), .pointer (some ⟨zab, 0, none⟩)], 59, (0, 0)⟩ :: (⟨zac, [.int .u64 zg, .slice zn zk zo, .bool zh], 56, (0, 0)⟩ :: (⟨zab, [.int .u64 zi, .slice zq zl zr, .bool zj], 56, (0, 0)⟩ :: (zm ++ (zp ++ (zak ++ (zad ++ [])))))))) [15, 16] [15, 16] [0, 1, 3, 0, 0, 0, 48, 112, 240, 496, 0, 1024, 4080, 8184, 16376, 32767, 65535] [0, 1, 2, 3, 4, 5, 6, 7, 8, 9, 10, 11, 12, 13, 14, 15, 16] (by kernel_rfl) (by kernel_rfl) (by kernel_rfl) (kM pI 1 rfl ?_)))))
  rcases Bool.eq_false_or_eq_true ((IntKind.wrap .i64 (Int.tmod v75.Side 2)) == (0 : Int)) with hx810 | hx810
  ·replace h := ct hx810 h
   refine k_val (v := .pointer (some ⟨b8, 0, none⟩)) rfl rfl rfl pI (val_ia (j := 0) tt_ok rfl rfl rfl rfl (by simpa using hx810) rfl rfl) rfl (k_val (v := .pointer (some ⟨zac, 0, none⟩)) rfl rfl rfl pI (val_load tt_ok rfl mH rfl) rfl (kM pI 3 rfl ?_))
   obtain ⟨v86, x86, h⟩ := bsome h
   refine k_val (v := .pointer (some ((adOf p2a0).add (zf.toNat * 3 + 0)))) rfl rfl rfl pI (val_ix (enc := c_T_hindcastlaw29_Order) tt_ok rfl rfl rfl rfl p2N0 p2S0 c_T_hindcastlaw29_Order_len rfl x86) rfl (k_val (v := .pointer (some ((adOf p2a0).add (zf.toNat * 3 + 1)))) rfl rfl rfl pI (val_fa (k := zf.toNat * 3 + 0) (off := 1) tt_ok rfl rfl rfl rfl rfl) rfl (k_val (v := .int .u8 v86.At) rfl rfl rfl pI (val_le (enc := c_T_hindcastlaw29_Order) (xs := p2) tt_ok rfl p2S0 rsub_nil c_T_hindcastlaw29_Order_len x86 rfl) rfl ?_))
   refine kM pI 2 rfl (k_val (v := .int .i64 (zc.length : Int)) rfl rfl rfl pI (val_len tt_ok rfl rfl zam) rfl ?_)
   obtain ⟨v92, x92, h⟩ := bsome h
   refine k_val (v := .int .i64 v92) rfl rfl rfl pI (val_rem rfl rfl x92) rfl ?_
   obtain ⟨v93, x93, h⟩ := bsome h
   obtain ⟨G93, y93⟩ := getI_g zaa x93
   refine k_val (v := .pointer (some ((adOf zal).add (v92.toNat * 19 + 0)))) rfl rfl rfl pI (val_ix (enc := cg_T_api_State) tt_ok rfl rfl rfl rfl (len_g zam zaa) (Rds.of_vec zan) cg_T_api_State_len rfl y93) rfl (k_val (v := agS v93 G93.1 G93.2.1 G93.2.2) rfl rfl rfl pI (val_le (enc := cg_T_api_State) (xs := zx) tt_ok rfl (Rds.of_vec zan) ⟨_, (sCC (sC (sAA hA')))⟩ cg_T_api_State_len y93 rfl) rfl ?_)
   replace h := bsome h; obtain ⟨⟨zd, v95⟩, x95, h⟩ := h; try dsimp only at h
   refine k_cs rfl rfl rfl Tryd.call18 rfl rfl rfl (s_sp (k_watch_Watch_State (p0 := (T_watch_Watch.mk zg za zh)) (p1 := v93) (p0t := 56) zt zu (allrd_get (zs w0 []) y93).1 (allrd_get (zs w0 []) y93).2.1 x95) pP (fun w hI => ⟨(Rds.call (allrd_get (zs w0 []) y93).2.2.1 pP ⟨_, (sCC (sAA hA'))⟩) w hI, (Rds.call G0S pP rsub_nil) w hI, (Rds.call G1S pP rsub_nil) w hI⟩)) rfl (.inl rfl) ?_
   rintro _ _ ⟨_, ⟨zap, zar, zaq, zao, zy, zz, rfl, rfl⟩, rfl⟩
   refine k_chg rfl rfl rfl (Chg.of_val (v := .bool (v95 != (0 : Int))) (sV rfl)) rfl (.inl rfl) ?_
   rintro _ _ ⟨rfl, rfl⟩
   refine k_end (by kernel_rfl) ?_
   refine wx_then (wcc h rfl ?_ ?_) <;> clear h <;> intro h
   ·refine wSR (wM 1 rfl (wNT (wc_ret (wx_then_ret (wx_block_ret (wx_then_ret ?_))))))
    obtain rfl := Option.some.inj h
    have h := hl46; clear hl46; try dsimp only [orE_l, orE_r] at h
    refine wx_then_ret (wx_block_ret (wx_then_ret ?_))
    obtain rfl := sI h
    exact pE Tryd.results5 rfl
   refine wc_skip (wx_then (wSR (wM 1 rfl (wl_val (v := .pointer (some ⟨b8, 0, none⟩)) (val_ia (j := 0) tt_ok rfl rfl rfl rfl (by simpa using hx810) rfl rfl) rfl (wLd rfl (mT (mR mH)) rfl rfl ?_)))))
   replace h := bsome h; obtain ⟨⟨zbb, zbc, zbd⟩, x101, h⟩ := h; try dsimp only at h
   refine wl_cq Tryd.call12 rfl rfl rfl (q_rd (k_watch_Watch_Latest (p0 := zd) (p0t := 56) zy zz x101) pP (fun _ _ => trivial)) rfl ?_
   refine wM 7 rfl (wNT (wSR (wM 2 rfl ?_)))
   obtain ⟨v113, h, hg113⟩ := bsome h
   refine wls 106 h rfl ?_ ?_ <;> clear h <;> intro h
   ·refine wM 2 rfl ?_
    obtain ⟨v109, x109, h⟩ := bsome h
    refine wl_run rfl (wl_val (v := .pointer (some ((adOf p2a0).add (zf.toNat * 3 + 0)))) (val_ix (enc := c_T_hindcastlaw29_Order) tt_ok rfl rfl rfl rfl p2N0 p2S0 c_T_hindcastlaw29_Order_len rfl x109) rfl (wl_run rfl (wl_val (v := .pointer (some ((adOf p2a0).add (zf.toNat * 3 + 2)))) (val_fa (k := zf.toNat * 3 + 0) (off := 2) tt_ok rfl rfl rfl rfl rfl) rfl (wl_run rfl (wl_val (v := .bool v109.Lost) (val_le (enc := c_T_hindcastlaw29_Order) (xs := p2) tt_ok rfl p2S0 rsub_nil c_T_hindcastlaw29_Order_len x109 rfl) rfl (wM 1 rfl ?_))))))
    obtain rfl := sI h
    have h := hg113; clear hg113
    refine wM 2 rfl ?_
    replace h := bsome h; obtain ⟨⟨v123, zas, zat, zau, zav, zaw, zax⟩, h, hg123⟩ := h
    refine wls 114 h rfl ?_ ?_ <;> clear h <;> intro h
    ·refine wM 2 rfl ?_
     rcases Bool.eq_false_or_eq_true ((IntKind.wrap .i64 ((1 : Int) - (IntKind.wrap .i64 (Int.tmod v75.Side 2)))) == (0 : Int)) with hx1170 | hx1170
     ·replace h := ct hx1170 h
      refine wl_run rfl (wl_val (v := .pointer (some ⟨b8, 0, none⟩)) (val_ia (j := 0) tt_ok rfl rfl rfl rfl (by simpa using hx1170) rfl rfl) rfl (wl_run rfl (wLd rfl (mT (mR mH)) rfl rfl (wM 2 rfl ?_))))
      replace h := bsome h; obtain ⟨⟨ze, v121⟩, x121, h⟩ := h; try dsimp only at h
      refine wl_run rfl (wl_cs Tryd.call17 rfl rfl rfl (s_sp (k_watch_Watch_Other (p0 := zd) (p0t := 56) zy zz x121) pP (fun _ _ => trivial)) rfl ?_)
      rintro _ _ ⟨_, ⟨zah, zaj, zai, zae, zaf, zag, rfl, rfl⟩, rfl⟩
      refine wM 1 rfl ?_
      simp only [Option.some.injEq, Prod.mk.injEq] at h
      obtain ⟨rfl, rfl, rfl, rfl, rfl, rfl, rfl⟩ := h
      have h := hg123; clear hg123; try dsimp only at h
      refine wM 1 rfl (wNT (wcc h rfl ?_ ?_)) <;> clear h <;> intro h
      ·refine wSR (wM 1 rfl (wNT (wc_ret (wx_block_ret (wx_then_ret ?_)))))
       obtain rfl := Option.some.inj h
       have h := hl46; clear hl46; try dsimp only [orE_l, orE_r] at h
       refine wx_then_ret (wx_block_ret (wx_then_ret ?_))
       obtain rfl := sI h
       exact pE Tryd.results5 rfl
      refine wc_skip (wx_block (wx_then (wc_region (wM 3 rfl (wl_nil ?_)))))
      exact wx_round m46 (Nat.lt_succ_self m46) ⟨(IntKind.wrap .i64 (zf + (1 : Int))), ze.rows, ze.l, ze.clashed, zi, zb, zj, zah, zaj, zai, zae, zq, zl, zr, zp, h, zaf, zag, zv, zw, rfl, rfl⟩ (ag5 rfl rfl rfl rfl rfl) pI
     replace h := cf hx1170 h
     rcases Bool.eq_false_or_eq_true ((IntKind.wrap .i64 ((1 : Int) - (IntKind.wrap .i64 (Int.tmod v75.Side 2)))) == (1 : Int)) with hx1171 | hx1171
     ·replace h := ct hx1171 h
      refine wl_run rfl (wl_val (v := .pointer (some ⟨b8, 1, none⟩)) (val_ia (j := 1) tt_ok rfl rfl rfl rfl (by simpa using hx1171) rfl rfl) rfl (wl_run rfl (wLd rfl (mT (mR mH)) rfl rfl (wM 2 rfl ?_))))
      replace h := bsome h; obtain ⟨⟨ze, v121⟩, x121, h⟩ := h; try dsimp only at h
      refine wl_run rfl (wl_cs Tryd.call17 rfl rfl rfl (s_sp (k_watch_Watch_Other (p0 := (T_watch_Watch.mk zi zb zj)) (p0t := 56) zv zw x121) pP (fun _ _ => trivial)) rfl ?_)
      rintro _ _ ⟨_, ⟨zah, zaj, zai, zae, zaf, zag, rfl, rfl⟩, rfl⟩
      refine wM 1 rfl ?_
      simp only [Option.some.injEq, Prod.mk.injEq] at h
      obtain ⟨rfl, rfl, rfl, rfl, rfl, rfl, rfl⟩ := h
      have h := hg123; clear hg123; try dsimp only at h
      refine wM 1 rfl (wNT (wcc h rfl ?_ ?_)) <;> clear h <;> intro h
      ·refine wSR (wM 1 rfl (wNT (wc_ret (wx_block_ret (wx_then_ret ?_)))))
       obtain rfl := Option.some.inj h
       have h := hl46; clear hl46; try dsimp only [orE_l, orE_r] at h
       refine wx_then_ret (wx_block_ret (wx_then_ret ?_))
       obtain rfl := sI h
       exact pE Tryd.results5 rfl
      refine wc_skip (wx_block (wx_then (wc_region (wM 3 rfl (wl_nil ?_)))))
      exact wx_round m46 (Nat.lt_succ_self m46) ⟨(IntKind.wrap .i64 (zf + (1 : Int))), zd.rows, zd.l, zd.clashed, ze.rows, ze.l, ze.clashed, zap, zar, zaq, zao, zah, zaj, zai, zae, h, zy, zz, zaf, zag, rfl, rfl⟩ (ag5 rfl rfl rfl rfl rfl) pI
     replace h := cf hx1171 h
     cases h
    refine wM 8 rfl ?_
    simp only [Option.some.injEq, Prod.mk.injEq] at h
    obtain ⟨rfl, rfl, rfl, rfl, rfl, rfl, rfl⟩ := h
    have h := hg123; clear hg123; try dsimp only at h
    refine wM 1 rfl (wNT ?_)
    replace h := cf rfl h
    refine wc_cond_false rfl ?_
    refine wc_skip (wx_block (wx_then (wc_region (wM 3 rfl (wl_nil ?_)))))
    exact wx_round m46 (Nat.lt_succ_self m46) ⟨(IntKind.wrap .i64 (zf + (1 : Int))), zd.rows, zd.l, zd.clashed, zi, zb, zj, zap, zar, zaq, zao, zq, zl, zr, zp, h, zy, zz, zv, zw, rfl, rfl⟩ (ag5 rfl rfl rfl rfl rfl) pI
   refine wM 6 rfl ?_
   obtain rfl := sI h
   have h := hg113; clear hg113
   refine wM 2 rfl ?_
   replace h := bsome h; obtain ⟨⟨v123, zas, zat, zau, zav, zaw, zax⟩, h, hg123⟩ := h
   replace h := cf rfl h
   refine wM 8 rfl ?_
   simp only [Option.some.injEq, Prod.mk.injEq] at h
   obtain ⟨rfl, rfl, rfl, rfl, rfl, rfl, rfl⟩ := h
   have h := hg123; clear hg123; try dsimp only at h
   refine wM 1 rfl (wNT ?_)
   replace h := cf rfl h
   refine wc_cond_false rfl ?_
   refine wc_skip (wx_block (wx_then (wc_region (wM 3 rfl (wl_nil ?_)))))
   exact wx_round m46 (Nat.lt_succ_self m46) ⟨(IntKind.wrap .i64 (zf + (1 : Int))), zd.rows, zd.l, zd.clashed, zi, zb, zj, zap, zar, zaq, zao, zq, zl, zr, zp, h, zy, zz, zv, zw, rfl, rfl⟩ (ag5 rfl rfl rfl rfl rfl) pI
  replace h := cf hx810 h
  rcases Bool.eq_false_or_eq_true ((IntKind.wrap .i64 (Int.tmod v75.Side 2)) == (1 : Int)) with hx811 | hx811
  ·replace h := ct hx811 h
   refine k_val (v := .pointer (some ⟨b8, 1, none⟩)) rfl rfl rfl pI (val_ia (j := 1) tt_ok rfl rfl rfl rfl (by simpa using hx811) rfl rfl) rfl (k_val (v := .pointer (some ⟨zab, 0, none⟩)) rfl rfl rfl pI (val_load tt_ok rfl mH rfl) rfl (kM pI 3 rfl ?_))
   obtain ⟨v86, x86, h⟩ := bsome h
   refine k_val (v := .pointer (some ((adOf p2a0).add (zf.toNat * 3 + 0)))) rfl rfl rfl pI (val_ix (enc := c_T_hindcastlaw29_Order) tt_ok rfl rfl rfl rfl p2N0 p2S0 c_T_hindcastlaw29_Order_len rfl x86) rfl (k_val (v := .pointer (some ((adOf p2a0).add (zf.toNat * 3 + 1)))) rfl rfl rfl pI (val_fa (k := zf.toNat * 3 + 0) (off := 1) tt_ok rfl rfl rfl rfl rfl) rfl (k_val (v := .int .u8 v86.At) rfl rfl rfl pI (val_le (enc := c_T_hindcastlaw29_Order) (xs := p2) tt_ok rfl p2S0 rsub_nil c_T_hindcastlaw29_Order_len x86 rfl) rfl ?_))
   refine kM pI 2 rfl (k_val (v := .int .i64 (zc.length : Int)) rfl rfl rfl pI (val_len tt_ok rfl rfl zam) rfl ?_)
   obtain ⟨v92, x92, h⟩ := bsome h
   refine k_val (v := .int .i64 v92) rfl rfl rfl pI (val_rem rfl rfl x92) rfl ?_
   obtain ⟨v93, x93, h⟩ := bsome h
   obtain ⟨G93, y93⟩ := getI_g zaa x93
   refine k_val (v := .pointer (some ((adOf zal).add (v92.toNat * 19 + 0)))) rfl rfl rfl pI (val_ix (enc := cg_T_api_State) tt_ok rfl rfl rfl rfl (len_g zam zaa) (Rds.of_vec zan) cg_T_api_State_len rfl y93) rfl (k_val (v := agS v93 G93.1 G93.2.1 G93.2.2) rfl rfl rfl pI (val_le (enc := cg_T_api_State) (xs := zx) tt_ok rfl (Rds.of_vec zan) ⟨_, (sCC (sC (sAA hA')))⟩ cg_T_api_State_len y93 rfl) rfl ?_)
   replace h := bsome h; obtain ⟨⟨zd, v95⟩, x95, h⟩ := h; try dsimp only at h
   refine k_cs rfl rfl rfl Tryd.call18 rfl rfl rfl (s_sp (k_watch_Watch_State (p0 := (T_watch_Watch.mk zi zb zj)) (p1 := v93) (p0t := 56) zv zw (allrd_get (zs w0 []) y93).1 (allrd_get (zs w0 []) y93).2.1 x95) pP (fun w hI => ⟨(Rds.call (allrd_get (zs w0 []) y93).2.2.1 pP ⟨_, (sCC (sAA hA'))⟩) w hI, (Rds.call G0S pP rsub_nil) w hI, (Rds.call G1S pP rsub_nil) w hI⟩)) rfl (.inl rfl) ?_
   rintro _ _ ⟨_, ⟨zap, zar, zaq, zao, zy, zz, rfl, rfl⟩, rfl⟩
   refine k_chg rfl rfl rfl (Chg.of_val (v := .bool (v95 != (0 : Int))) (sV rfl)) rfl (.inl rfl) ?_
   rintro _ _ ⟨rfl, rfl⟩
   refine k_end (by kernel_rfl) ?_
   refine wx_then (wcc h rfl ?_ ?_) <;> clear h <;> intro h
   ·refine wSR (wM 1 rfl (wNT (wc_ret (wx_then_ret (wx_block_ret (wx_then_ret ?_))))))
    obtain rfl := Option.some.inj h
    have h := hl46; clear hl46; try dsimp only [orE_l, orE_r] at h
    refine wx_then_ret (wx_block_ret (wx_then_ret ?_))
    obtain rfl := sI h
    exact pE Tryd.results5 rfl
   refine wc_skip (wx_then (wSR (wM 1 rfl (wl_val (v := .pointer (some ⟨b8, 1, none⟩)) (val_ia (j := 1) tt_ok rfl rfl rfl rfl (by simpa using hx811) rfl rfl) rfl (wLd rfl (mT (mR mH)) rfl rfl ?_)))))
   replace h := bsome h; obtain ⟨⟨zbb, zbc, zbd⟩, x101, h⟩ := h; try dsimp only at h
   refine wl_cq Tryd.call12 rfl rfl rfl (q_rd (k_watch_Watch_Latest (p0 := zd) (p0t := 56) zy zz x101) pP (fun _ _ => trivial)) rfl ?_
   refine wM 7 rfl (wNT (wSR (wM 2 rfl ?_)))
   obtain ⟨v113, h, hg113⟩ := bsome h
   refine wls 106 h rfl ?_ ?_ <;> clear h <;> intro h
   ·refine wM 2 rfl ?_
    obtain ⟨v109, x109, h⟩ := bsome h
    refine wl_run rfl (wl_val (v := .pointer (some ((adOf p2a0).add (zf.toNat * 3 + 0)))) (val_ix (enc := c_T_hindcastlaw29_Order) tt_ok rfl rfl rfl rfl p2N0 p2S0 c_T_hindcastlaw29_Order_len rfl x109) rfl (wl_run rfl (wl_val (v := .pointer (some ((adOf p2a0).add (zf.toNat * 3 + 2)))) (val_fa (k := zf.toNat * 3 + 0) (off := 2) tt_ok rfl rfl rfl rfl rfl) rfl (wl_run rfl (wl_val (v := .bool v109.Lost) (val_le (enc := c_T_hindcastlaw29_Order) (xs := p2) tt_ok rfl p2S0 rsub_nil c_T_hindcastlaw29_Order_len x109 rfl) rfl (wM 1 rfl ?_))))))
    obtain rfl := sI h
    have h := hg113; clear hg113
    refine wM 2 rfl ?_
    replace h := bsome h; obtain ⟨⟨v123, zas, zat, zau, zav, zaw, zax⟩, h, hg123⟩ := h
    refine wls 114 h rfl ?_ ?_ <;> clear h <;> intro h
    ·refine wM 2 rfl ?_
     rcases Bool.eq_false_or_eq_true ((IntKind.wrap .i64 ((1 : Int) - (IntKind.wrap .i64 (Int.tmod v75.Side 2)))) == (0 : Int)) with hx1170 | hx1170
     ·replace h := ct hx1170 h
      refine wl_run rfl (wl_val (v := .pointer (some ⟨b8, 0, none⟩)) (val_ia (j := 0) tt_ok rfl rfl rfl rfl (by simpa using hx1170) rfl rfl) rfl (wl_run rfl (wLd rfl (mT (mR mH)) rfl rfl (wM 2 rfl ?_))))
      replace h := bsome h; obtain ⟨⟨ze, v121⟩, x121, h⟩ := h; try dsimp only at h
      refine wl_run rfl (wl_cs Tryd.call17 rfl rfl rfl (s_sp (k_watch_Watch_Other (p0 := (T_watch_Watch.mk zg za zh)) (p0t := 56) zt zu x121) pP (fun _ _ => trivial)) rfl ?_)
      rintro _ _ ⟨_, ⟨zah, zaj, zai, zae, zaf, zag, rfl, rfl⟩, rfl⟩
      refine wM 1 rfl ?_
      simp only [Option.some.injEq, Prod.mk.injEq] at h
      obtain ⟨rfl, rfl, rfl, rfl, rfl, rfl, rfl⟩ := h
      have h := hg123; clear hg123; try dsimp only at h
      refine wM 1 rfl (wNT (wcc h rfl ?_ ?_)) <;> clear h <;> intro h
      ·refine wSR (wM 1 rfl (wNT (wc_ret (wx_block_ret (wx_then_ret ?_)))))
       obtain rfl := Option.some.inj h
       have h := hl46; clear hl46; try dsimp only [orE_l, orE_r] at h
       refine wx_then_ret (wx_block_ret (wx_then_ret ?_))
       obtain rfl := sI h
       exact pE Tryd.results5 rfl
      refine wc_skip (wx_block (wx_then (wc_region (wM 3 rfl (wl_nil ?_)))))
      exact wx_round m46 (Nat.lt_succ_self m46) ⟨(IntKind.wrap .i64 (zf + (1 : Int))), ze.rows, ze.l, ze.clashed, zd.rows, zd.l, zd.clashed, zah, zaj, zai, zae, zap, zar, zaq, zao, h, zaf, zag, zy, zz, rfl, rfl⟩ (ag5 rfl rfl rfl rfl rfl) pI
     replace h := cf hx1170 h
     rcases Bool.eq_false_or_eq_true ((IntKind.wrap .i64 ((1 : Int) - (IntKind.wrap .i64 (Int.tmod v75.Side 2)))) == (1 : Int)) with hx1171 | hx1171
     ·replace h := ct hx1171 h
      refine wl_run rfl (wl_val (v := .pointer (some ⟨b8, 1, none⟩)) (val_ia (j := 1) tt_ok rfl rfl rfl rfl (by simpa using hx1171) rfl rfl) rfl (wl_run rfl (wLd rfl (mT (mR mH)) rfl rfl (wM 2 rfl ?_))))
      replace h := bsome h; obtain ⟨⟨ze, v121⟩, x121, h⟩ := h; try dsimp only at h
      refine wl_run rfl (wl_cs Tryd.call17 rfl rfl rfl (s_sp (k_watch_Watch_Other (p0 := zd) (p0t := 56) zy zz x121) pP (fun _ _ => trivial)) rfl ?_)
      rintro _ _ ⟨_, ⟨zah, zaj, zai, zae, zaf, zag, rfl, rfl⟩, rfl⟩
      refine wM 1 rfl ?_
      simp only [Option.some.injEq, Prod.mk.injEq] at h
      obtain ⟨rfl, rfl, rfl, rfl, rfl, rfl, rfl⟩ := h
      have h := hg123; clear hg123; try dsimp only at h
      refine wM 1 rfl (wNT (wcc h rfl ?_ ?_)) <;> clear h <;> intro h
      ·refine wSR (wM 1 rfl (wNT (wc_ret (wx_block_ret (wx_then_ret ?_)))))
       obtain rfl := Option.some.inj h
       have h := hl46; clear hl46; try dsimp only [orE_l, orE_r] at h
       refine wx_then_ret (wx_block_ret (wx_then_ret ?_))
       obtain rfl := sI h
       exact pE Tryd.results5 rfl
      refine wc_skip (wx_block (wx_then (wc_region (wM 3 rfl (wl_nil ?_)))))
      exact wx_round m46 (Nat.lt_succ_self m46) ⟨(IntKind.wrap .i64 (zf + (1 : Int))), zg, za, zh, ze.rows, ze.l, ze.clashed, zn, zk, zo, zm, zah, zaj, zai, zae, h, zt, zu, zaf, zag, rfl, rfl⟩ (ag5 rfl rfl rfl rfl rfl) pI
     replace h := cf hx1171 h
     cases h
    refine wM 8 rfl ?_
    simp only [Option.some.injEq, Prod.mk.injEq] at h
    obtain ⟨rfl, rfl, rfl, rfl, rfl, rfl, rfl⟩ := h
    have h := hg123; clear hg123; try dsimp only at h
    refine wM 1 rfl (wNT ?_)
    replace h := cf rfl h
    refine wc_cond_false rfl ?_
    refine wc_skip (wx_block (wx_then (wc_region (wM 3 rfl (wl_nil ?_)))))
    exact wx_round m46 (Nat.lt_succ_self m46) ⟨(IntKind.wrap .i64 (zf + (1 : Int))), zg, za, zh, zd.rows, zd.l, zd.clashed, zn, zk, zo, zm, zap, zar, zaq, zao, h, zt, zu, zy, zz, rfl, rfl⟩ (ag5 rfl rfl rfl rfl rfl) pI
   refine wM 6 rfl ?_
   obtain rfl := sI h
   have h := hg113; clear hg113
   refine wM 2 rfl ?_
   replace h := bsome h; obtain ⟨⟨v123, zas, zat, zau, zav, zaw, zax⟩, h, hg123⟩ := h
   replace h := cf rfl h
   refine wM 8 rfl ?_
   simp only [Option.some.injEq, Prod.mk.injEq] at h
   obtain ⟨rfl, rfl, rfl, rfl, rfl, rfl, rfl⟩ := h
   have h := hg123; clear hg123; try dsimp only at h
   refine wM 1 rfl (wNT ?_)
   replace h := cf rfl h
   refine wc_cond_false rfl ?_
   refine wc_skip (wx_block (wx_then (wc_region (wM 3 rfl (wl_nil ?_)))))
   exact wx_round m46 (Nat.lt_succ_self m46) ⟨(IntKind.wrap .i64 (zf + (1 : Int))), zg, za, zh, zd.rows, zd.l, zd.clashed, zn, zk, zo, zm, zap, zar, zaq, zao, h, zt, zu, zy, zz, rfl, rfl⟩ (ag5 rfl rfl rfl rfl rfl) pI
  replace h := cf hx811 h
  cases h
 refine wc_exit (wx_then_exit ?_)
 obtain rfl := Option.some.inj h
 have h := hl46; clear hl46; try dsimp only [orE_l, orE_r] at h
 refine wx_then_exit (wx_block_exit (wx_then (wSR ?_)))
 refine wl_val (v := .pointer (some ⟨b8, 0, none⟩)) (val_ia (j := 0) tt_ok rfl rfl rfl rfl rfl rfl rfl) rfl ?_
 refine wLd rfl mH rfl rfl ?_
 obtain ⟨v126, x126, h⟩ := bsome h
 refine wl_cq Tryd.call11 rfl rfl rfl (q_rd (k_watch_Watch_Clashed (p0 := (T_watch_Watch.mk zg za zh)) (p0t := 56) zt zu x126) pP (fun _ _ => trivial)) rfl ?_
 refine wM 2 rfl ?_
 obtain ⟨v133, h, hg133⟩ := bsome h
 refine wls 128 h rfl ?_ ?_ <;> clear h <;> intro h
 ·refine wl_run rfl (wl_val (v := .pointer (some ⟨b8, 1, none⟩)) (val_ia (j := 1) tt_ok rfl rfl rfl rfl rfl rfl rfl) rfl (wl_run rfl (wLd rfl mH rfl rfl ?_)))
  obtain ⟨v131, x131, h⟩ := bsome h
  refine wl_run rfl (wl_cq Tryd.call11 rfl rfl rfl (q_rd (k_watch_Watch_Clashed (p0 := (T_watch_Watch.mk zi zb zj)) (p0t := 56) zv zw x131) pP (fun _ _ => trivial)) rfl (wM 1 rfl ?_))
  obtain rfl := sI h
  have h := hg133; clear hg133
  refine wM 2 rfl ?_
  obtain ⟨v136, h, hg136⟩ := bsome h
  refine wls 134 h rfl ?_ ?_ <;> clear h <;> intro h
  ·obtain ⟨v135, x135, h⟩ := bsome h
   refine wl_run rfl (wl_cq Tryd.call8 rfl rfl rfl (q_pf (k_hindcastlaw29_awake x135) (fun _ _ => trivial)) rfl ?_)
   obtain rfl := sI h
   have h := hg136; clear hg136
   refine wM 2 rfl (wNT (wc_ret ?_))
   obtain rfl := sI h
   exact pE Tryd.results5 rfl
  refine wM 1 rfl ?_
  obtain rfl := sI h
  have h := hg136; clear hg136
  refine wM 2 rfl (wNT (wc_ret ?_))
  obtain rfl := sI h
  exact pE Tryd.results5 rfl
 refine wM 4 rfl ?_
 obtain rfl := sI h
 have h := hg133; clear hg133
 refine wM 2 rfl ?_
 obtain ⟨v136, h, hg136⟩ := bsome h
 replace h := cf rfl h
 refine wM 1 rfl ?_
 obtain rfl := sI h
 have h := hg136; clear hg136
 refine wM 2 rfl (wNT (wc_ret ?_))
 obtain rfl := sI h
 exact pE Tryd.results5 rfl

end Go.Proofs.YthlnellnlhkphaaDoor
