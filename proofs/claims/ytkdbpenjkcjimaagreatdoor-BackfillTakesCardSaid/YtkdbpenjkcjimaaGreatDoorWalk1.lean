/-
  Each function computes what its model says. Printed by a program of this claim's own.
-/
import Derived.Test.YtkdbpenjkcjimaaGreatDoorTab
import Derived.Test.YtkdbpenjkcjimaaGreatDoorMod
namespace Go.Proofs.YtkdbpenjkcjimaaGreatDoor
open Go.Proofs.YtkdbpenjkcjimaaGreatDoor.Eng
set_option linter.unusedVariables false
set_option linter.unusedSimpArgs false
set_option maxHeartbeats 4000000
set_option maxRecDepth 20000
set_option synthInstance.maxHeartbeats 400000
set_option synthInstance.maxSize 4000
variable {F p0_4b p0_4c0 p0_4n0 p0_4t p0_5b p0_5t p0b p0c0 p0c1 p0n0 p0n1 p0t p1b p1c0 p1c0b p1c0t p1n0 p1t p2b p2t : Nat}
variable {p0B0 p0B1 p0P0 p0_4B0 p0_5P0 : List Blk}
variable {p0_4a0 p0a0 p0a1 p1a0 : Option Addr}

theorem k_state_Start {p0 : Int} {r0 : T_api_State} (h : m_state_Start F p0 = some r0) :
    SpD Tryz.prog 18 [.int .u64 p0] [] (fun w => True) (fun v D => ∃ r0a0 r0n0 r0c0 r0B0, r0n0 = r0.Shots.length ∧ Own 119 6 r0a0 r0n0 r0c0 (flat c_T_api_Shot r0.Shots) r0B0 ∧ v = agS r0 r0a0 r0n0 r0c0 ∧ D = fun F => (r0B0 ++ F)) := by
 unfold m_state_Start at h
 refine sp_of_wc Tryz.func18 rfl Tryz.ntmps18 rfl rfl (fun w0 hR => ?_)
 refine wSR (wl_alloc tt_ok rfl rfl (fun b2 => (wNT (wSR (wM 2 rfl (wl_alloc tt_ok rfl rfl (fun b3 => (lSt Upd.here ?_))))))))
 refine wNT (wc_seq (wSR (wM 1 rfl (wNT (wc_block ?_)))))
 obtain ⟨zc, h, hl9⟩ := bsome h
 refine wc_loop (fun m E L => ∃ zb za, m_state_Start_L8 F m zb za = some zc ∧ E = [(2, .pointer (some ⟨b2, 0, none⟩)), (3, .pointer (some ⟨b3, 0, none⟩)), (7, .int .i64 zb)] ∧ L = (⟨b2, [.int .u64 0, .int .u64 0, .int .i32 0, .int .i32 0, .int .i32 0, .int .i32 0, .int .u8 0, .int .u8 0, .int .u8 0, .int .i32 0, .int .i32 0, .int .i32 0, .int .i32 0, .int .u8 0, .int .u8 0, .int .u8 0, .slice none 0 0, .int .u16 0, .int .u16 0], 64, (0, 0)⟩ :: (⟨b3, (.int .u64 0 :: .int .u64 p0 :: pl14 za [.slice none 0 0, .int .u16 0, .int .u16 0]), 64, (0, 0)⟩ :: []))) F ⟨(0 : Int), ((T_api_Player.mk (0 : Int) (0 : Int) (0 : Int) (0 : Int) (0 : Int) (0 : Int) (0 : Int)), (T_api_Player.mk (0 : Int) (0 : Int) (0 : Int) (0 : Int) (0 : Int) (0 : Int) (0 : Int))), h, rfl, rfl⟩ (ag3 rfl rfl rfl) pI ?_
 clear h
 rintro m9 _ _ ⟨zb, za, h, rfl, rfl⟩
 rcases m9 with _ | m9
 ·rw [m_state_Start_L8.eq_1] at h; cases h
 rw [m_state_Start_L8.eq_2] at h
 refine wSR (wM 1 rfl (wNT (wc_seq (wcc h rfl ?_ ?_)))) <;> clear h <;> intro h
 ·refine wc_skip (wx_then (wc_seq (wc_block (wSR (wM 2 rfl (wNT (wc_region (wM 9 rfl ?_))))))))
  rcases Bool.eq_false_or_eq_true (zb == (0 : Int)) with hx190 | hx190
  ·replace h := ct hx190 h
   refine wl_val (v := .pointer (some ⟨b3, 2, none⟩)) (val_ia (j := 0) tt_ok rfl rfl rfl rfl (by simpa using hx190) rfl rfl) rfl ?_
   refine lSt (Upd.there Upd.here) ?_
   refine wl_nil (wx_block (wx_then (wc_region (wM 2 rfl (wl_nil ?_)))))
   exact wx_round m9 (Nat.lt_succ_self m9) ⟨(IntKind.wrap .i64 (zb + (1 : Int))), ((T_api_Player.mk (IntKind.wrap .i32 ((8192 : Int) + (IntKind.wrap .i32 ((IntKind.wrap .i32 zb) * (45056 : Int))))) (14336 : Int) (0 : Int) (0 : Int) (100 : Int) (0 : Int) (IntKind.wrap .u8 zb)), za.2), h, rfl, rfl⟩ (ag3 rfl rfl rfl) pI
  replace h := cf hx190 h
  rcases Bool.eq_false_or_eq_true (zb == (1 : Int)) with hx191 | hx191
  ·replace h := ct hx191 h
   refine wl_val (v := .pointer (some ⟨b3, 9, none⟩)) (val_ia (j := 1) tt_ok rfl rfl rfl rfl (by simpa using hx191) rfl rfl) rfl ?_
   refine lSt (Upd.there Upd.here) ?_
   refine wl_nil (wx_block (wx_then (wc_region (wM 2 rfl (wl_nil ?_)))))
   exact wx_round m9 (Nat.lt_succ_self m9) ⟨(IntKind.wrap .i64 (zb + (1 : Int))), (za.1, (T_api_Player.mk (IntKind.wrap .i32 ((8192 : Int) + (IntKind.wrap .i32 ((IntKind.wrap .i32 zb) * (45056 : Int))))) (14336 : Int) (0 : Int) (0 : Int) (100 : Int) (0 : Int) (IntKind.wrap .u8 zb))), h, rfl, rfl⟩ (ag3 rfl rfl rfl) pI
  replace h := cf hx191 h
  cases h
 refine wc_exit (wx_then_exit ?_)
 obtain rfl := sI h
 have h := hl9; clear hl9; try dsimp only [orE_l, orE_r] at h
 refine wx_then_exit (wx_block_exit (wx_then (wSR ?_)))
 refine wLd (v := .agg #[.int .u64 0, .int .u64 p0, .int .i32 za.1.X, .int .i32 za.1.Y, .int .i32 za.1.VX, .int .i32 za.1.VY, .int .u8 za.1.Health, .int .u8 za.1.Cool, .int .u8 za.1.Face, .int .i32 za.2.X, .int .i32 za.2.Y, .int .i32 za.2.VX, .int .i32 za.2.VY, .int .u8 za.2.Health, .int .u8 za.2.Cool, .int .u8 za.2.Face, .slice none 0 0, .int .u16 0, .int .u16 0]) rfl (mT mH) rfl rfl (lSt Upd.here ?_)
 refine wNT (wc_ret ?_)
 obtain rfl := sI h
 exact wE Tryz.results18 (Res.cell rfl mH rfl Res.nil) ⟨none, 0, 0, [], rfl, Own.zero, rfl, rfl⟩ pI

theorem k_state_ofPlayer {p0 : T_api_Player} {r0 : (List Int)} (h : m_state_ofPlayer F p0 = some r0) :
    SpD Tryz.prog 81 [agP p0] [] (fun w => True) (fun v D => ∃ r0a0 r0n0 r0c0 r0B0, r0n0 = r0.length ∧ Own 21 1 r0a0 r0n0 r0c0 (flat (e1 .i32) r0) r0B0 ∧ v = .slice r0a0 r0n0 r0c0 ∧ D = fun F => (r0B0 ++ F)) := by
 unfold m_state_ofPlayer at h
 refine sp_of_wc Tryz.func81 rfl Tryz.ntmps81 rfl rfl (fun w0 hR => ?_)
 refine wSR (wl_box rfl rfl rfl (fun b1 => (wM 1 rfl (wNT (wSR (wM 1 rfl (wLd rfl mH rfl rfl (wM 1 rfl (wLd rfl mH rfl rfl (wM 1 rfl (wLd rfl mH rfl rfl (wM 1 rfl (wLd rfl mH rfl rfl (wM 1 rfl (wLd rfl mH rfl rfl (wM 2 rfl (wLd rfl mH rfl rfl (wM 2 rfl (wLd rfl mH rfl rfl (wM 1 rfl (wl_chg (chg_bsv (enc := (e1 .i32)) (xs := ([p0.X, p0.Y, p0.VX, p0.VY, (IntKind.wrap .i32 p0.Health), (IntKind.wrap .i32 p0.Cool), (IntKind.wrap .i32 p0.Face)] : List Int)) tt_ok rfl rfl rfl rfl rfl rfl rfl rfl (e1_len _)) rfl ?_)))))))))))))))))))))
 rintro _ _ ⟨a20, n20_, c20, B20, rfl, N20, V20, rfl⟩
 refine wM 1 rfl (wNT (wc_ret ?_))
 obtain rfl := sI h
 exact wE Tryz.results81 (rs1 rfl) ⟨a20, n20_, c20, B20, N20, V20, rfl, rfl⟩ pI

theorem k_state_within {p0 : (List Int)} {p1 : (List (Int × Int))} {r0 : Bool} (p0N0 : p0n0 = p0.length) (p0H0 : p0n0 ≤ p0c0) (p1N0 : p1n0 = p1.length) (p1H0 : p1n0 ≤ p1c0) (h : m_state_within F p0 p1 = some r0) :
    Pf Tryz.prog 80 [.slice p0a0 p0n0 p0c0, .slice p1a0 p1n0 p1c0] (fun w => Rds w [] [] p0a0 (flat (e1 .i32) p0) ∧ Rds w [] [] p1a0 (flat (e2 .i32) p1)) (.bool r0) := by
 unfold m_state_within at h
 refine pf_of_wc Tryz.func80 rfl Tryz.ntmps80 rfl rfl (fun w0 hR => ?_)
 obtain ⟨p0S0, p1S0⟩ := hR
 refine wSR (wM 1 rfl (wNT (wc_seq (wSR (wM 1 rfl (wl_val (v := .int .i64 (p0.length : Int)) (val_len tt_ok rfl rfl p0N0) rfl (wM 1 rfl (wNT (wc_block ?_)))))))))
 obtain ⟨o7, h, hl7⟩ := bsome h
 refine wc_loop (fun m E L => ∃ za, m_state_within_L6 F p0 p1 m za = some o7 ∧ E = [(0, .slice p0a0 p0n0 p0c0), (1, .slice p1a0 p1n0 p1c0), (4, .bool false), (7, .int .i64 (p0.length : Int)), (8, .int .i64 za)] ∧ L = []) F ⟨(0 : Int), h, rfl, rfl⟩ (ag5 rfl rfl rfl rfl rfl) pI ?_
 clear h
 rintro m7 _ _ ⟨za, h, rfl, rfl⟩
 rcases m7 with _ | m7
 ·rw [m_state_within_L6.eq_1] at h; cases h
 rw [m_state_within_L6.eq_2] at h
 refine wSR (wM 1 rfl (wNT (wc_seq (wcc h rfl ?_ ?_)))) <;> clear h <;> intro h
 ·refine wc_skip (wx_then (wc_seq (wc_block (wSR (wM 2 rfl (wNT (wc_seq (wc_quiet (by kernel_rfl) (by kernel_rfl) (qM 2 rfl ?_)))))))))
  obtain ⟨v13, x13, h⟩ := bsome h
  refine wq_val (v := .pointer (some ((adOf p0a0).add (za.toNat * 1 + 0)))) (val_ix (enc := (e1 .i32)) tt_ok rfl rfl rfl rfl p0N0 p0S0 (e1_len _) rfl x13) rfl ?_
  refine wq_val (v := .int .i32 v13) (val_le (enc := (e1 .i32)) (xs := p0) tt_ok rfl p0S0 rsub_nil (e1_len _) x13 rfl) rfl ?_
  refine qM 2 rfl ?_
  obtain ⟨v17, x17, h⟩ := bsome h
  refine wq_val (v := .pointer (some ((adOf p1a0).add (za.toNat * 2 + 0)))) (val_ix (enc := (e2 .i32)) tt_ok rfl rfl rfl rfl p1N0 p1S0 (e2_len _) rfl x17) rfl ?_
  refine wq_val (v := .pointer (some ((adOf p1a0).add (za.toNat * 2 + 0)))) (val_fia (j := 0) tt_ok rfl rfl rfl rfl rfl rfl rfl) rfl ?_
  refine wq_val (v := .int .i32 v17.1) (val_le (enc := (e2 .i32)) (xs := p1) tt_ok rfl p1S0 rsub_nil (e2_len _) x17 rfl) rfl ?_
  refine qM 2 rfl ?_
  obtain ⟨v32, h, hg32⟩ := bsome h
  refine wqs 21 h rfl ?_ ?_ <;> clear h <;> intro h
  ·refine qM 10 rfl ?_
   obtain rfl := sI h
   have h := hg32; clear hg32
   refine qM 1 rfl (wq_nil (wx_then ?_))
   replace h := ct rfl h
   refine wc_cond_true rfl ?_
   refine wSR (wM 1 rfl (wNT (wc_ret (wx_block_ret (wx_then_ret ?_)))))
   obtain rfl := Option.some.inj h
   have h := hl7; clear hl7; try dsimp only [orE_l, orE_r] at h
   refine wx_then_ret (wx_block_ret (wx_then_ret ?_))
   obtain rfl := sI h
   exact pE Tryz.results80 rfl
  refine qM 2 rfl ?_
  obtain ⟨v24, x24, h⟩ := bsome h
  refine wq_run rfl (wq_val (v := .pointer (some ((adOf p0a0).add (za.toNat * 1 + 0)))) (val_ix (enc := (e1 .i32)) tt_ok rfl rfl rfl rfl p0N0 p0S0 (e1_len _) rfl x24) rfl (wq_run rfl (wq_val (v := .int .i32 v24) (val_le (enc := (e1 .i32)) (xs := p0) tt_ok rfl p0S0 rsub_nil (e1_len _) x24 rfl) rfl (qM 2 rfl ?_))))
  obtain ⟨v28, x28, h⟩ := bsome h
  refine wq_run rfl (wq_val (v := .pointer (some ((adOf p1a0).add (za.toNat * 2 + 0)))) (val_ix (enc := (e2 .i32)) tt_ok rfl rfl rfl rfl p1N0 p1S0 (e2_len _) rfl x28) rfl (wq_run rfl (wq_val (v := .pointer (some ((adOf p1a0).add (za.toNat * 2 + 1)))) (val_fia (j := 1) tt_ok rfl rfl rfl rfl rfl rfl rfl) rfl (wq_run rfl (wq_val (v := .int .i32 v28.2) (val_le (enc := (e2 .i32)) (xs := p1) tt_ok rfl p1S0 rsub_nil (e2_len _) x28 rfl) rfl (qM 1 rfl ?_))))))
  obtain rfl := sI h
  have h := hg32; clear hg32
  refine qM 1 rfl (wq_nil (wx_then (wcc h rfl ?_ ?_))) <;> clear h <;> intro h
  ·refine wSR (wM 1 rfl (wNT (wc_ret (wx_block_ret (wx_then_ret ?_)))))
   obtain rfl := Option.some.inj h
   have h := hl7; clear hl7; try dsimp only [orE_l, orE_r] at h
   refine wx_then_ret (wx_block_ret (wx_then_ret ?_))
   obtain rfl := sI h
   exact pE Tryz.results80 rfl
  refine wc_skip (wx_block (wx_then (wc_region (wM 2 rfl (wl_nil ?_)))))
  exact wx_round m7 (Nat.lt_succ_self m7) ⟨(IntKind.wrap .i64 (za + (1 : Int))), h, rfl, rfl⟩ (ag5 rfl rfl rfl rfl rfl) pI
 refine wc_exit (wx_then_exit ?_)
 obtain rfl := Option.some.inj h
 have h := hl7; clear hl7; try dsimp only [orE_l, orE_r] at h
 refine wx_then_exit (wx_block_exit (wx_then (wSR ?_)))
 refine wM 1 rfl (wNT (wc_ret ?_))
 obtain rfl := sI h
 exact pE Tryz.results80 rfl

theorem k_state_ofShot {p0 : T_api_Shot} {r0 : (List Int)} (h : m_state_ofShot F p0 = some r0) :
    SpD Tryz.prog 84 [.agg #[.int .i32 p0.X, .int .i32 p0.Y, .int .i32 p0.VX, .int .i32 p0.VY, .int .u8 p0.Owner, .int .u8 p0.Life]] [] (fun w => True) (fun v D => ∃ r0a0 r0n0 r0c0 r0B0, r0n0 = r0.length ∧ Own 21 1 r0a0 r0n0 r0c0 (flat (e1 .i32) r0) r0B0 ∧ v = .slice r0a0 r0n0 r0c0 ∧ D = fun F => (r0B0 ++ F)) := by
 unfold m_state_ofShot at h
 refine sp_of_wc Tryz.func84 rfl Tryz.ntmps84 rfl rfl (fun w0 hR => ?_)
 refine wSR (wl_box rfl rfl rfl (fun b1 => (wM 1 rfl (wNT (wSR (wM 1 rfl (wLd rfl mH rfl rfl (wM 1 rfl (wLd rfl mH rfl rfl (wM 1 rfl (wLd rfl mH rfl rfl (wM 1 rfl (wLd rfl mH rfl rfl (wM 1 rfl (wLd rfl mH rfl rfl (wM 2 rfl (wLd rfl mH rfl rfl (wM 1 rfl (wl_chg (chg_bsv (enc := (e1 .i32)) (xs := ([p0.X, p0.Y, p0.VX, p0.VY, (IntKind.wrap .i32 p0.Owner), (IntKind.wrap .i32 p0.Life)] : List Int)) tt_ok rfl rfl rfl rfl rfl rfl rfl rfl (e1_len _)) rfl ?_)))))))))))))))))))
 rintro _ _ ⟨a17, n17_, c17, B17, rfl, N17, V17, rfl⟩
 refine wM 1 rfl (wNT (wc_ret ?_))
 obtain rfl := sI h
 exact wE Tryz.results84 (rs1 rfl) ⟨a17, n17_, c17, B17, N17, V17, rfl, rfl⟩ pI

theorem k_state_Check_1 {p0 : T_api_Shot} {p1 : (Arr (Int × Int) 6)} {r0 : Bool} (h : m_state_Check_1 F p0 p1 = some r0) :
    Rd2 Tryz.prog 83 [.agg #[.int .i32 p0.X, .int .i32 p0.Y, .int .i32 p0.VX, .int .i32 p0.VY, .int .u8 p0.Owner, .int .u8 p0.Life], .pointer (some ⟨p1b, 0, none⟩)] (⟨p1b, flat (e2 .i32) p1.1, p1t, (0, 0)⟩ :: []) (fun w => True) (.bool r0) := by
 unfold m_state_Check_1 at h
 refine sp_of_wc Tryz.func83 rfl Tryz.ntmps83 rfl rfl (fun w0 hR => ?_)
 refine wSR (wl_box rfl rfl rfl (fun b2 => (wM 1 rfl (wNT (wc_seq (wc_k2 (Ls := (⟨b2, [.int .i32 p0.X, .int .i32 p0.Y, .int .i32 p0.VX, .int .i32 p0.VY, .int .u8 p0.Owner, .int .u8 p0.Life], 119, (0, 0)⟩ :: (⟨p1b, flat (e2 .i32) p1.1, p1t, (0, 0)⟩ :: []))) [1, 3, 4, 5] [3, 4, 5] [0, 1, 0, 7, 15, 31] [0, 2, 1, 3, 4, 5] (by kernel_rfl) (by kernel_rfl) (by kernel_rfl) (k_val (v := .agg #[.int .i32 p0.X, .int .i32 p0.Y, .int .i32 p0.VX, .int .i32 p0.VY, .int .u8 p0.Owner, .int .u8 p0.Life]) rfl rfl rfl pI (val_load tt_ok rfl mH rfl) rfl (k_val (v := .slice (some ⟨p1b, 0, none⟩) 6 6) rfl rfl rfl pI (val_sla tt_ok rfl rfl rfl rfl) rfl ?_))))))))
 obtain ⟨v5, x5, h⟩ := bsome h
 refine k_cs rfl rfl rfl Tryz.call84 rfl rfl rfl (s_sp (k_state_ofShot x5) pNil (fun _ _ => trivial)) rfl (.inr (by rintro _ _ ⟨_, ⟨_, _, _, _, _, _, rfl, rfl⟩, rfl⟩; exact ⟨_, pP⟩)) ?_
 rintro _ _ ⟨_, ⟨v5a0, v5n0, v5c0, v5B0, v5N0, v5V0, rfl, rfl⟩, rfl⟩
 obtain ⟨v7, x7, h⟩ := bsome h
 refine k_cq rfl rfl rfl Tryz.call80 rfl rfl rfl (q_pf (k_state_within (p0 := v5) (p1 := p1.1) v5N0 (vec_cap v5V0) (p1.2).symm (Nat.le_refl _) x7) (fun w hI => ⟨(Rds.call (Rds.of_vec v5V0) pNil ⟨_, hA'⟩) w hI, (Rds.call (Rds.of_blk (t := p1t) (fz := (0, 0))) pNil ⟨_, (sAC hC)⟩) w hI⟩)) rfl pI ?_
 refine k_chg rfl rfl rfl (Chg.of_val (v := .bool (!v7)) (sV rfl)) rfl (.inl rfl) ?_
 rintro _ _ ⟨rfl, rfl⟩
 refine k_chg rfl rfl rfl (Chg.of_val (sV rfl)) rfl (.inl rfl) ?_
 rintro _ _ ⟨rfl, rfl⟩
 refine k_end (by kernel_rfl) ?_
 refine wx_then (wc_ret ?_)
 obtain rfl := sI h
 exact wx_rd tt_ok (.inl rfl) Tryz.results83 (rs1 rfl) pI rfl

theorem k_slices_IndexFunc___api_Shot_api_Shot_f1_state_Check_1 {p0 : (List T_api_Shot)} {p1c0 : (Arr (Int × Int) 6)} {r0 : Int} (p0N0 : p0n0 = p0.length) (p0H0 : p0n0 ≤ p0c0) (h : m_slices_IndexFunc___api_Shot_api_Shot_f1_state_Check_1 F p0 p1c0 = some r0) :
    Rd2 Tryz.prog 109 [.slice p0a0 p0n0 p0c0, .func (.func 83) #[] #[.pointer (some ⟨p1c0b, 0, none⟩)]] (⟨p1c0b, flat (e2 .i32) p1c0.1, p1c0t, (0, 0)⟩ :: []) (fun w => Rds w (ids (⟨p1c0b, flat (e2 .i32) p1c0.1, p1c0t, (0, 0)⟩ :: [])) [] p0a0 (flat c_T_api_Shot p0)) (.int .i64 r0) := by
 unfold m_slices_IndexFunc___api_Shot_api_Shot_f1_state_Check_1 at h
 refine sp_of_wc Tryz.func109 rfl Tryz.ntmps109 rfl rfl (fun w0 hR => ?_)
 have p0S0 := hR
 refine wSR (wM 1 rfl (wNT (wc_seq (wSR (wM 1 rfl (wl_val (v := .int .i64 (p0.length : Int)) (val_len tt_ok rfl rfl p0N0) rfl (wM 1 rfl (wNT (wc_block ?_)))))))))
 obtain ⟨o7, h, hl7⟩ := bsome h
 refine wc_loop (fun m E L => ∃ za, m_slices_IndexFunc___api_Shot_api_Shot_f1_state_Check_1_L6 F p0 p1c0 m za = some o7 ∧ E = [(0, .slice p0a0 p0n0 p0c0), (1, .func (.func 83) #[] #[.pointer (some ⟨p1c0b, 0, none⟩)]), (4, .int .i64 0), (7, .int .i64 (p0.length : Int)), (8, .int .i64 za)] ∧ L = (⟨p1c0b, flat (e2 .i32) p1c0.1, p1c0t, (0, 0)⟩ :: [])) F ⟨(0 : Int), h, rfl, rfl⟩ (ag5 rfl rfl rfl rfl rfl) pI ?_
 clear h
 rintro m7 _ _ ⟨za, h, rfl, rfl⟩
 rcases m7 with _ | m7
 ·rw [m_slices_IndexFunc___api_Shot_api_Shot_f1_state_Check_1_L6.eq_1] at h; cases h
 rw [m_slices_IndexFunc___api_Shot_api_Shot_f1_state_Check_1_L6.eq_2] at h
 refine wSR (wM 1 rfl (wNT (wc_seq (wcc h rfl ?_ ?_)))) <;> clear h <;> intro h
 ·refine wc_skip (wx_then (wc_seq (wc_block (wSR (wM 2 rfl (wNT (wSR (wM 3 rfl ?_))))))))
  obtain ⟨v14, x14, h⟩ := bsome h
  refine wl_val (v := .pointer (some ((adOf p0a0).add (za.toNat * 6 + 0)))) (val_ix (enc := c_T_api_Shot) tt_ok rfl rfl rfl rfl p0N0 p0S0 c_T_api_Shot_len rfl x14) rfl ?_
  refine wl_val (v := .agg #[.int .i32 v14.X, .int .i32 v14.Y, .int .i32 v14.VX, .int .i32 v14.VY, .int .u8 v14.Owner, .int .u8 v14.Life]) (val_le (enc := c_T_api_Shot) (xs := p0) tt_ok rfl p0S0 rsub_nil c_T_api_Shot_len x14 rfl) rfl ?_
  obtain ⟨v16, x16, h⟩ := bsome h
  refine wl_cq Tryz.call83 rfl rfl rfl (q_rd (k_state_Check_1 (p1t := p1c0t) x16) pP (fun _ _ => trivial)) rfl ?_
  refine wNT (wcc h rfl ?_ ?_) <;> clear h <;> intro h
  ·refine wSR (wM 2 rfl (wNT (wc_ret (wx_block_ret (wx_then_ret ?_)))))
   obtain rfl := Option.some.inj h
   have h := hl7; clear hl7; try dsimp only [orE_l, orE_r] at h
   refine wx_then_ret (wx_block_ret (wx_then_ret ?_))
   obtain rfl := sI h
   exact wx_rd tt_ok (.inl rfl) Tryz.results109 (rs1 rfl) pI rfl
  refine wc_skip (wx_block (wx_then (wc_region (wM 2 rfl (wl_nil ?_)))))
  exact wx_round m7 (Nat.lt_succ_self m7) ⟨(IntKind.wrap .i64 (za + (1 : Int))), h, rfl, rfl⟩ (ag5 rfl rfl rfl rfl rfl) pI
 refine wc_exit (wx_then_exit ?_)
 obtain rfl := Option.some.inj h
 have h := hl7; clear hl7; try dsimp only [orE_l, orE_r] at h
 refine wx_then_exit (wx_block_exit (wx_then (wSR ?_)))
 refine wM 1 rfl (wNT (wc_ret ?_))
 obtain rfl := sI h
 exact wx_rd tt_ok (.inl rfl) Tryz.results109 (rs1 rfl) pI rfl

theorem k_slices_ContainsFunc___api_Shot_api_Shot_f1_state_Check_1 {p0 : (List T_api_Shot)} {p1c0 : (Arr (Int × Int) 6)} {r0 : Bool} (p0N0 : p0n0 = p0.length) (p0H0 : p0n0 ≤ p0c0) (h : m_slices_ContainsFunc___api_Shot_api_Shot_f1_state_Check_1 F p0 p1c0 = some r0) :
    Rd2 Tryz.prog 82 [.slice p0a0 p0n0 p0c0, .func (.func 83) #[] #[.pointer (some ⟨p1c0b, 0, none⟩)]] (⟨p1c0b, flat (e2 .i32) p1c0.1, p1c0t, (0, 0)⟩ :: []) (fun w => Rds w (ids (⟨p1c0b, flat (e2 .i32) p1c0.1, p1c0t, (0, 0)⟩ :: [])) [] p0a0 (flat c_T_api_Shot p0)) (.bool r0) := by
 unfold m_slices_ContainsFunc___api_Shot_api_Shot_f1_state_Check_1 at h
 refine sp_of_wc Tryz.func82 rfl Tryz.ntmps82 rfl rfl (fun w0 hR => ?_)
 have p0S0 := hR
 refine wSR (wM 1 rfl (wNT (wSR (wM 2 rfl ?_))))
 obtain ⟨v7, x7, h⟩ := bsome h
 refine wl_cq Tryz.call109 rfl rfl rfl (q_rd (k_slices_IndexFunc___api_Shot_api_Shot_f1_state_Check_1 (p0 := p0) (p1c0t := p1c0t) p0N0 p0H0 x7) pP (Rds.call p0S0 pP rsub_nil)) rfl ?_
 refine wM 2 rfl (wNT (wc_ret ?_))
 obtain rfl := sI h
 exact wx_rd tt_ok (.inl rfl) Tryz.results82 (rs1 rfl) pI rfl

theorem k_state_Check {p0 : T_api_State} {r0 : Int} (p0N0 : p0n0 = p0.Shots.length) (p0H0 : p0n0 ≤ p0c0) (h : m_state_Check F p0 = some r0) :
    Pf Tryz.prog 55 [agS p0 p0a0 p0n0 p0c0] (fun w => Rds w [] [] p0a0 (flat c_T_api_Shot p0.Shots) ∧ Rds w [] [] (some ⟨0, 0, none⟩) (flat (fun _ : Unit => gl_state_playerBounds) [()]) ∧ Rds w [] [] (some ⟨1, 0, none⟩) (flat (fun _ : Unit => gl_state_shotBounds) [()])) (.int .i64 r0) := by
 unfold m_state_Check at h
 refine pf_of_wc Tryz.func55 rfl Tryz.ntmps55 rfl rfl (fun w0 hR => ?_)
 obtain ⟨p0S0, G0S, G1S⟩ := hR
 refine wSR (wl_box rfl rfl rfl (fun b1 => (wM 1 rfl (wNT (wSR (wl_val (v := .agg #[.int .i32 0, .int .i32 61440, .int .i32 0, .int .i32 28672, .int .i32 ((-1024) : Int), .int .i32 1024, .int .i32 ((-1024) : Int), .int .i32 1024, .int .i32 1, .int .i32 100, .int .i32 0, .int .i32 30, .int .i32 0, .int .i32 3]) (val_le (enc := fun _ : Unit => gl_state_playerBounds) (xs := [()]) (v := 0) (o := 0) (size := 14) tt_ok rfl G0S rsub_nil (fun _ => rfl) rfl rfl) rfl (wl_val (v := .agg #[.int .i32 0, .int .i32 65024, .int .i32 0, .int .i32 32256, .int .i32 ((-2048) : Int), .int .i32 2048, .int .i32 ((-2048) : Int), .int .i32 2048, .int .i32 0, .int .i32 1, .int .i32 1, .int .i32 40]) (val_le (enc := fun _ : Unit => gl_state_shotBounds) (xs := [()]) (v := 0) (o := 0) (size := 12) tt_ok rfl G1S rsub_nil (fun _ => rfl) rfl rfl) rfl ?_)))))))
 refine wl_alloc tt_ok rfl rfl (fun b3 => ?_)
 refine wl_alloc tt_ok rfl rfl (fun b4 => ?_)
 refine lSt (Upd.there Upd.here) ?_
 refine lSt Upd.here ?_
 refine wNT (wSR (wM 1 rfl (wLd rfl (mTT mH) rfl rfl (wl_val (v := .int .i64 (p0.Shots.length : Int)) (val_len tt_ok rfl rfl p0N0) rfl (wM 2 rfl (wNT (wc_seq (wSR (wM 1 rfl (wLd (v := .agg #[.int .i32 p0.Players.1.X, .int .i32 p0.Players.1.Y, .int .i32 p0.Players.1.VX, .int .i32 p0.Players.1.VY, .int .u8 p0.Players.1.Health, .int .u8 p0.Players.1.Cool, .int .u8 p0.Players.1.Face, .int .i32 p0.Players.2.X, .int .i32 p0.Players.2.Y, .int .i32 p0.Players.2.VX, .int .i32 p0.Players.2.VY, .int .u8 p0.Players.2.Health, .int .u8 p0.Players.2.Cool, .int .u8 p0.Players.2.Face]) rfl (mTT mH) rfl rfl ?_))))))))))
 refine wM 1 rfl (wNT (wc_block ?_))
 obtain ⟨zc, h, hl11⟩ := bsome h
 refine wc_loop (fun m E L => ∃ zb za, m_state_Check_L10 F p0 m zb za = some zc ∧ E = [(1, .pointer (some ⟨b1, 0, none⟩)), (2, .int .i64 0), (3, .pointer (some ⟨b3, 0, none⟩)), (4, .pointer (some ⟨b4, 0, none⟩)), (5, .bool zb), (15, .agg #[.int .i32 p0.Players.1.X, .int .i32 p0.Players.1.Y, .int .i32 p0.Players.1.VX, .int .i32 p0.Players.1.VY, .int .u8 p0.Players.1.Health, .int .u8 p0.Players.1.Cool, .int .u8 p0.Players.1.Face, .int .i32 p0.Players.2.X, .int .i32 p0.Players.2.Y, .int .i32 p0.Players.2.VX, .int .i32 p0.Players.2.VY, .int .u8 p0.Players.2.Health, .int .u8 p0.Players.2.Cool, .int .u8 p0.Players.2.Face]), (16, .int .i64 za)] ∧ L = (⟨b1, (st19 p0 p0a0 p0n0 p0c0 []), 64, (0, 0)⟩ :: (⟨b3, [.int .i32 0, .int .i32 61440, .int .i32 0, .int .i32 28672, .int .i32 ((-1024) : Int), .int .i32 1024, .int .i32 ((-1024) : Int), .int .i32 1024, .int .i32 1, .int .i32 100, .int .i32 0, .int .i32 30, .int .i32 0, .int .i32 3], 126, (0, 0)⟩ :: (⟨b4, [.int .i32 0, .int .i32 65024, .int .i32 0, .int .i32 32256, .int .i32 ((-2048) : Int), .int .i32 2048, .int .i32 ((-2048) : Int), .int .i32 2048, .int .i32 0, .int .i32 1, .int .i32 1, .int .i32 40], 127, (0, 0)⟩ :: [])))) F ⟨(decide ((p0.Shots.length : Int) ≤ (8 : Int))), (0 : Int), h, rfl, rfl⟩ (ag7 rfl rfl rfl rfl rfl rfl rfl) pI ?_
 clear h
 rintro m11 _ _ ⟨zb, za, h, rfl, rfl⟩
 rcases m11 with _ | m11
 ·rw [m_state_Check_L10.eq_1] at h; cases h
 rw [m_state_Check_L10.eq_2] at h
 refine wSR (wM 1 rfl (wNT (wc_seq (wcc h rfl ?_ ?_)))) <;> clear h <;> intro h
 ·refine wc_skip (wx_then (wc_seq (wc_block (wSR ?_))))
  rcases Bool.eq_false_or_eq_true (za == (0 : Int)) with hx180 | hx180
  ·replace h := ct hx180 h
   refine wl_val (v := agP p0.Players.1) (val_iv (j := 0) tt_ok rfl rfl rfl rfl (by simpa using hx180) rfl rfl) rfl ?_
   refine wl_alloc tt_ok rfl rfl (fun b7 => ?_)
   refine lSt Upd.here ?_
   refine wNT (wc_k2 (Ls := (⟨b7, (pl7 p0.Players.1 []), 58, (0, 0)⟩ :: (⟨b1, (st19 p0 p0a0 p0n0 p0c0 []), 64, (0, 0)⟩ :: (⟨b3, [.int .i32 0, .int .i32 61440, .int .i32 0, .int .i32 28672, .int .i32 ((-1024) : Int), .int .i32 1024, .int .i32 ((-1024) : Int), .int .i32 1024, .int .i32 1, .int .i32 100, .int .i32 0, .int .i32 30, .int .i32 0, .int .i32 3], 126, (0, 0)⟩ :: (⟨b4, [.int .i32 0, .int .i32 65024, .int .i32 0, .int .i32 32256, .int .i32 ((-2048) : Int), .int .i32 2048, .int .i32 ((-2048) : Int), .int .i32 2048, .int .i32 0, .int .i32 1, .int .i32 1, .int .i32 40], 127, (0, 0)⟩ :: []))))) [3, 5] [] [0, 1, 3, 7, 3, 31, 63, 127] [0, 1, 2, 4, 3, 5, 6, 7] (by kernel_rfl) (by kernel_rfl) (by kernel_rfl) ?_)
   refine kM pI 2 rfl ?_
   obtain ⟨v25, h, hg25⟩ := bsome h
   refine ks 20 h rfl ?_ ?_ <;> clear h <;> intro h
   ·refine k_val (v := agP p0.Players.1) rfl rfl rfl pI (val_load tt_ok rfl mH rfl) rfl (k_val (v := .slice (some ⟨b3, 0, none⟩) 7 7) rfl rfl rfl pI (val_sla tt_ok rfl rfl rfl rfl) rfl ?_)
    obtain ⟨v22, x22, h⟩ := bsome h
    refine k_cs rfl rfl rfl Tryz.call81 rfl rfl rfl (s_sp (k_state_ofPlayer x22) pNil (fun _ _ => trivial)) rfl (.inr (by rintro _ _ ⟨_, ⟨_, _, _, _, _, _, rfl, rfl⟩, rfl⟩; exact ⟨_, pP⟩)) ?_
    rintro _ _ ⟨_, ⟨v22a0, v22n0, v22c0, v22B0, v22N0, v22V0, rfl, rfl⟩, rfl⟩
    obtain ⟨v24, x24, h⟩ := bsome h
    refine k_cq rfl rfl rfl Tryz.call80 rfl rfl rfl (q_pf (k_state_within (p0 := v22) (p1 := ([((0 : Int), (61440 : Int)), ((0 : Int), (28672 : Int)), (((-1024) : Int), (1024 : Int)), (((-1024) : Int), (1024 : Int)), ((1 : Int), (100 : Int)), ((0 : Int), (30 : Int)), ((0 : Int), (3 : Int))] : List (Int × Int))) v22N0 (vec_cap v22V0) rfl (Nat.le_refl _) x24) (fun w hI => ⟨(Rds.call (Rds.of_vec v22V0) pNil ⟨_, hA'⟩) w hI, (Rds.call (Rds.of_blk (t := 126) (fz := (0, 0))) pNil ⟨_, (sA (sCC hC))⟩) w hI⟩)) rfl pI ?_
    obtain rfl := sI h
    have h := hg25; clear hg25
    refine kM pI 2 rfl (k_end (by kernel_rfl) (wx_block (wx_then (wc_region (wM 2 rfl (wl_nil ?_))))))
    exact wx_round m11 (Nat.lt_succ_self m11) ⟨v24, (IntKind.wrap .i64 (za + (1 : Int))), h, rfl, rfl⟩ (ag7 rfl rfl rfl rfl rfl rfl rfl) pI
   refine kM pI 4 rfl ?_
   obtain rfl := sI h
   have h := hg25; clear hg25
   refine kM pI 2 rfl (k_end (by kernel_rfl) (wx_block (wx_then (wc_region (wM 2 rfl (wl_nil ?_))))))
   exact wx_round m11 (Nat.lt_succ_self m11) ⟨false, (IntKind.wrap .i64 (za + (1 : Int))), h, rfl, rfl⟩ (ag7 rfl rfl rfl rfl rfl rfl rfl) pI
  replace h := cf hx180 h
  rcases Bool.eq_false_or_eq_true (za == (1 : Int)) with hx181 | hx181
  ·replace h := ct hx181 h
   refine wl_val (v := agP p0.Players.2) (val_iv (j := 1) tt_ok rfl rfl rfl rfl (by simpa using hx181) rfl rfl) rfl ?_
   refine wl_alloc tt_ok rfl rfl (fun b7 => ?_)
   refine lSt Upd.here ?_
   refine wNT (wc_k2 (Ls := (⟨b7, (pl7 p0.Players.2 []), 58, (0, 0)⟩ :: (⟨b1, (st19 p0 p0a0 p0n0 p0c0 []), 64, (0, 0)⟩ :: (⟨b3, [.int .i32 0, .int .i32 61440, .int .i32 0, .int .i32 28672, .int .i32 ((-1024) : Int), .int .i32 1024, .int .i32 ((-1024) : Int), .int .i32 1024, .int .i32 1, .int .i32 100, .int .i32 0, .int .i32 30, .int .i32 0, .int .i32 3], 126, (0, 0)⟩ :: (⟨b4, [.int .i32 0, .int .i32 65024, .int .i32 0, .int .i32 32256, .int .i32 ((-2048) : Int), .int .i32 2048, .int .i32 ((-2048) : Int), .int .i32 2048, .int .i32 0, .int .i32 1, .int .i32 1, .int .i32 40], 127, (0, 0)⟩ :: []))))) [3, 5] [] [0, 1, 3, 7, 3, 31, 63, 127] [0, 1, 2, 4, 3, 5, 6, 7] (by kernel_rfl) (by kernel_rfl) (by kernel_rfl) ?_)
   refine kM pI 2 rfl ?_
   obtain ⟨v25, h, hg25⟩ := bsome h
   refine ks 20 h rfl ?_ ?_ <;> clear h <;> intro h
   ·refine k_val (v := agP p0.Players.2) rfl rfl rfl pI (val_load tt_ok rfl mH rfl) rfl (k_val (v := .slice (some ⟨b3, 0, none⟩) 7 7) rfl rfl rfl pI (val_sla tt_ok rfl rfl rfl rfl) rfl ?_)
    obtain ⟨v22, x22, h⟩ := bsome h
    refine k_cs rfl rfl rfl Tryz.call81 rfl rfl rfl (s_sp (k_state_ofPlayer x22) pNil (fun _ _ => trivial)) rfl (.inr (by rintro _ _ ⟨_, ⟨_, _, _, _, _, _, rfl, rfl⟩, rfl⟩; exact ⟨_, pP⟩)) ?_
    rintro _ _ ⟨_, ⟨v22a0, v22n0, v22c0, v22B0, v22N0, v22V0, rfl, rfl⟩, rfl⟩
    obtain ⟨v24, x24, h⟩ := bsome h
    refine k_cq rfl rfl rfl Tryz.call80 rfl rfl rfl (q_pf (k_state_within (p0 := v22) (p1 := ([((0 : Int), (61440 : Int)), ((0 : Int), (28672 : Int)), (((-1024) : Int), (1024 : Int)), (((-1024) : Int), (1024 : Int)), ((1 : Int), (100 : Int)), ((0 : Int), (30 : Int)), ((0 : Int), (3 : Int))] : List (Int × Int))) v22N0 (vec_cap v22V0) rfl (Nat.le_refl _) x24) (fun w hI => ⟨(Rds.call (Rds.of_vec v22V0) pNil ⟨_, hA'⟩) w hI, (Rds.call (Rds.of_blk (t := 126) (fz := (0, 0))) pNil ⟨_, (sA (sCC hC))⟩) w hI⟩)) rfl pI ?_
    obtain rfl := sI h
    have h := hg25; clear hg25
    refine kM pI 2 rfl (k_end (by kernel_rfl) (wx_block (wx_then (wc_region (wM 2 rfl (wl_nil ?_))))))
    exact wx_round m11 (Nat.lt_succ_self m11) ⟨v24, (IntKind.wrap .i64 (za + (1 : Int))), h, rfl, rfl⟩ (ag7 rfl rfl rfl rfl rfl rfl rfl) pI
   refine kM pI 4 rfl ?_
   obtain rfl := sI h
   have h := hg25; clear hg25
   refine kM pI 2 rfl (k_end (by kernel_rfl) (wx_block (wx_then (wc_region (wM 2 rfl (wl_nil ?_))))))
   exact wx_round m11 (Nat.lt_succ_self m11) ⟨false, (IntKind.wrap .i64 (za + (1 : Int))), h, rfl, rfl⟩ (ag7 rfl rfl rfl rfl rfl rfl rfl) pI
  replace h := cf hx181 h
  cases h
 refine wc_exit (wx_then_exit ?_)
 obtain rfl := sI h
 have h := hl11; clear hl11; try dsimp only [orE_l, orE_r] at h
 refine wx_then_exit (wx_block_exit (wx_then (wc_seq (wSR ?_))))
 refine wM 3 rfl ?_
 obtain ⟨v34, h, hg34⟩ := bsome h
 refine wls 29 h rfl ?_ ?_ <;> clear h <;> intro h
 ·refine wM 4 rfl ?_
  obtain rfl := sI h
  have h := hg34; clear hg34
  refine wM 1 rfl (wNT ?_)
  replace h := ct rfl h
  refine wc_cond_true rfl ?_
  refine wSR (wM 1 rfl (wNT (wc_ret (wx_then_ret ?_))))
  obtain rfl := sI h
  exact pE Tryz.results55 rfl
 refine wM 1 rfl (wl_run rfl (wLd rfl mH rfl rfl (wM 1 rfl ?_)))
 obtain ⟨v33, x33, h⟩ := bsome h
 refine wl_run rfl (wl_cq Tryz.call82 rfl rfl rfl (q_rd (k_slices_ContainsFunc___api_Shot_api_Shot_f1_state_Check_1 (p0 := p0.Shots) (p1c0t := 127) p0N0 p0H0 x33) (pCons (sCC hC) pNil) (Rds.call p0S0 (pCons (sCC hC) pNil) rsub_nil)) rfl ?_)
 obtain rfl := sI h
 have h := hg34; clear hg34
 refine wM 1 rfl (wNT (wcc h rfl ?_ ?_)) <;> clear h <;> intro h
 ·refine wSR (wM 1 rfl (wNT (wc_ret (wx_then_ret ?_))))
  obtain rfl := sI h
  exact pE Tryz.results55 rfl
 refine wc_skip (wx_then (wSR (wM 1 rfl (wNT (wc_ret ?_)))))
 obtain rfl := sI h
 exact pE Tryz.results55 rfl

theorem k_slices_Clone___api_Shot_api_Shot {p0 : (List T_api_Shot)} {r0 : (List T_api_Shot)} (p0N0 : p0n0 = p0.length) (p0H0 : p0n0 ≤ p0c0) (h : m_slices_Clone___api_Shot_api_Shot F p0 = some r0) :
    SpD Tryz.prog 85 [.slice p0a0 p0n0 p0c0] [] (fun w => Rds w (ids []) [] p0a0 (flat c_T_api_Shot p0)) (fun v D => ∃ r0a0 r0n0 r0c0 r0B0, r0n0 = r0.length ∧ Own 119 6 r0a0 r0n0 r0c0 (flat c_T_api_Shot r0) r0B0 ∧ v = .slice r0a0 r0n0 r0c0 ∧ D = fun F => (r0B0 ++ F)) := by
 unfold m_slices_Clone___api_Shot_api_Shot at h
 refine sp_of_wc Tryz.func85 rfl Tryz.ntmps85 rfl rfl (fun w0 hR => ?_)
 have p0S0 := hR
 refine wSR (wM 1 rfl (wNT (wc_seq (wSR (wM 1 rfl ?_)))))
 rcases p0a0 with _ | dp0a0
 ·obtain rfl : p0 = [] := rds_none p0S0 c_T_api_Shot_len (by decide)
  refine wM 1 rfl (wNT (wc_cond_true rfl (wSR (wM 1 rfl (wNT (wc_ret (wx_then_ret ?_)))))))
  simp [appI] at h
  obtain rfl := h
  exact wE Tryz.results85 (rs1 rfl) ⟨none, 0, 0, [], rfl, Own.zero, rfl, rfl⟩ pI
 refine wM 1 rfl (wNT (wc_cond_false rfl (wc_skip (wx_then (wSR (wl_chg (chg_bsv (enc := c_T_api_Shot) (xs := ([] : List T_api_Shot)) tt_ok rfl rfl rfl rfl rfl rfl rfl rfl c_T_api_Shot_len) rfl ?_))))))
 rintro _ _ ⟨a5, n5_, c5, B5, rfl, N5, V5, rfl⟩
 refine wM 1 rfl ?_
 obtain ⟨v7, x7, h⟩ := bsome h
 refine wl_chg (chg_app (enc := c_T_api_Shot) (ys := p0) tt_ok rfl rfl rfl rfl rfl rfl N5 p0N0 V5 hA' p0S0 rsub_nil c_T_api_Shot_len (fun _ => rfl) rfl x7) rfl ?_
 rintro _ _ ⟨a7, n7_, c7, B7, rfl, N7, V7, rfl⟩
 refine wM 1 rfl (wNT (wc_ret ?_))
 obtain rfl := sI h
 exact wE Tryz.results85 (rs1 rfl) ⟨a7, n7_, c7, B7, N7, V7, rfl, rfl⟩ pI

theorem k_state_Copy {p0 : T_api_State} {r0 : T_api_State} (p0N0 : p0n0 = p0.Shots.length) (p0H0 : p0n0 ≤ p0c0) (h : m_state_Copy F p0 = some r0) :
    SpD Tryz.prog 56 [agS p0 p0a0 p0n0 p0c0] [] (fun w => Rds w (ids []) [] p0a0 (flat c_T_api_Shot p0.Shots)) (fun v D => ∃ r0a0 r0n0 r0c0 r0B0, r0n0 = r0.Shots.length ∧ Own 119 6 r0a0 r0n0 r0c0 (flat c_T_api_Shot r0.Shots) r0B0 ∧ v = agS r0 r0a0 r0n0 r0c0 ∧ D = fun F => (r0B0 ++ F)) := by
 unfold m_state_Copy at h
 refine sp_of_wc Tryz.func56 rfl Tryz.ntmps56 rfl rfl (fun w0 hR => ?_)
 have p0S0 := hR
 refine wSR (wl_box rfl rfl rfl (fun b1 => (wl_alloc tt_ok rfl rfl (fun b2 => (wNT (wSR (wM 1 rfl (wLd rfl (mT mH) rfl rfl ?_))))))))
 obtain ⟨v5, x5, h⟩ := bsome h
 refine wl_cs Tryz.call85 rfl rfl rfl (s_sp (k_slices_Clone___api_Shot_api_Shot (p0 := p0.Shots) p0N0 p0H0 x5) pNil (Rds.call p0S0 pNil rsub_nil)) rfl ?_
 rintro _ _ ⟨_, ⟨v5a0, v5n0, v5c0, v5B0, v5N0, v5V0, rfl, rfl⟩, rfl⟩
 refine wM 1 rfl (lSt (Upd.right (Upd.there Upd.here)) ?_)
 refine wNT (wSR (wLd (v := agS p0 v5a0 v5n0 v5c0) rfl (mR (mT mH)) rfl rfl (lSt (Upd.right Upd.here) ?_)))
 refine wNT (wc_ret ?_)
 obtain rfl := sI h
 exact wE Tryz.results56 (Res.cell rfl (mR mH) rfl Res.nil) ⟨v5a0, v5n0, v5c0, v5B0, v5N0, v5V0, rfl, rfl⟩ pI

theorem k_queue_New {p0 : Int} {r0 : T_queue_Queue} (h : m_queue_New F p0 = some r0) :
    SpD Tryz.prog 57 [.int .u64 p0] [] (fun w => True) (fun v D => ∃ r0b r0a0 r0n0 r0c0 r0B0, r0n0 = r0.l.length ∧ Own 52 1 r0a0 r0n0 r0c0 (flat (e1 .u8) r0.l) r0B0 ∧ v = .pointer (some ⟨r0b, 0, none⟩) ∧ D = fun F => (⟨r0b, [.int .u64 r0.first_, .slice r0a0 r0n0 r0c0, .int .u8 r0.last], 124, (0, 0)⟩ :: (r0B0 ++ F))) := by
 unfold m_queue_New at h
 refine sp_of_wc Tryz.func57 rfl Tryz.ntmps57 rfl rfl (fun w0 hR => ?_)
 refine wSR (wM 1 rfl (wNT (wSR (wM 2 rfl (wl_box rfl rfl rfl (fun b5 => (wM 1 rfl (wNT (wc_ret ?_)))))))))
 obtain rfl := sI h
 exact wE Tryz.results57 (rs1 rfl) ⟨b5, none, 0, 0, [], rfl, Own.zero, rfl, rfl⟩ pI

theorem k_ring_New {p0 : Int} {r0 : T_ring_Ring} (h : m_ring_New F p0 = some (some r0)) :
    SpD Tryz.prog 58 [.int .i64 p0] [] (fun w => True) (fun v D => ∃ r0b r0g0 r0P0, r0.places.1 = unG r0g0 ∧ AllP sh_T_ring_place c_T_api_Shot r0P0 r0g0 ∧ v = .pointer (some ⟨r0b, 0, none⟩) ∧ D = fun F => (⟨r0b, ([.int .i64 r0.size] ++ flat cg_T_ring_place r0g0), 140, (0, 0)⟩ :: (r0P0 ++ F))) := by
 unfold m_ring_New at h
 refine sp_of_wc Tryz.func58 rfl Tryz.ntmps58 rfl rfl (fun w0 hR => ?_)
 refine wSR (wM 1 rfl (wNT (wc_seq (wSR (wM 3 rfl ?_)))))
 obtain ⟨v8, h, hg8⟩ := bsome h
 refine wls 5 h rfl ?_ ?_ <;> clear h <;> intro h
 ·refine wM 2 rfl ?_
  simp only [Option.some.injEq, Prod.mk.injEq] at h
  obtain rfl := h
  have h := hg8; clear hg8
  refine wM 1 rfl (wNT ?_)
  replace h := ct rfl h
  refine wc_cond_true rfl ?_
  refine wSR (wM 1 rfl (wNT (wc_ret (wx_then_ret ?_))))
  first | (cases h; done) | simp at h
 refine wM 2 rfl ?_
 simp only [Option.some.injEq, Prod.mk.injEq] at h
 obtain rfl := h
 have h := hg8; clear hg8
 refine wM 1 rfl (wNT (wcc h rfl ?_ ?_)) <;> clear h <;> intro h
 ·refine wSR (wM 1 rfl (wNT (wc_ret (wx_then_ret ?_))))
  first | (cases h; done) | simp at h
 refine wc_skip (wx_then (wSR (wM 2 rfl (wl_box rfl rfl rfl (fun b11 => (wM 1 rfl (wNT (wc_ret ?_))))))))
 simp only [Option.some.injEq] at h
 obtain rfl := h
 exact wE Tryz.results58 (rs1 rfl) ⟨b11, (List.replicate 14 ((T_ring_place.mk (T_api_State.mk (0 : Int) (0 : Int) ((T_api_Player.mk (0 : Int) (0 : Int) (0 : Int) (0 : Int) (0 : Int) (0 : Int) (0 : Int)), (T_api_Player.mk (0 : Int) (0 : Int) (0 : Int) (0 : Int) (0 : Int) (0 : Int) (0 : Int))) ([] : List T_api_Shot) ((0 : Int), (0 : Int))) false), ((none, 0, 0) : G))), [], (unG_rep 14), (fun _ _ => allrd_rep 14 rfl), rfl, rfl⟩ (pSub (pH (pNo pNil)))

theorem k_ring_Ring_is {p0 : T_ring_Ring} {p0g0 : List (T_ring_place × G)} {r0 : Bool} (p0G0 : p0.places.1 = unG p0g0) (p0A0 : AllP sh_T_ring_place c_T_api_Shot p0P0 p0g0) (h : m_ring_Ring_is F p0 = some r0) :
    Rd2 Tryz.prog 86 [.pointer (some ⟨p0b, 0, none⟩)] (⟨p0b, ([.int .i64 p0.size] ++ flat cg_T_ring_place p0g0), p0t, (0, 0)⟩ :: (p0P0 ++ [])) (fun w => True) (.bool r0) := by
 unfold m_ring_Ring_is at h
 refine sp_of_wc Tryz.func86 rfl Tryz.ntmps86 rfl rfl (fun w0 hR => ?_)
 refine wSR (wM 1 rfl (wNT (wSR (wM 6 rfl (wl_run rfl (wLd rfl mH rfl rfl (wM 3 rfl (wNT (wc_ret ?_)))))))))
 obtain rfl := sI h
 exact wx_rd tt_ok (.inl rfl) Tryz.results86 (rs1 rfl) pI rfl

theorem k_ring_told {p0 : T_api_State} {r0 : T_api_State} (p0N0 : p0n0 = p0.Shots.length) (p0H0 : p0n0 ≤ p0c0) (p0Z0 : p0a0 = none → p0c0 = 0) (h : m_ring_told F p0 = some r0) :
    SpD Tryz.prog 88 [agS p0 p0a0 p0n0 p0c0] [] (fun w => Rds w (ids []) [] p0a0 (flat c_T_api_Shot p0.Shots)) (fun v D => ∃ r0a0 r0n0 r0c0 r0B0, r0n0 = r0.Shots.length ∧ Own 119 6 r0a0 r0n0 r0c0 (flat c_T_api_Shot r0.Shots) r0B0 ∧ v = agS r0 r0a0 r0n0 r0c0 ∧ D = fun F => (r0B0 ++ F)) := by
 unfold m_ring_told at h
 refine sp_of_wc Tryz.func88 rfl Tryz.ntmps88 rfl rfl (fun w0 hR => ?_)
 have p0S0 := hR
 refine wSR (wl_box rfl rfl rfl (fun b1 => (wl_alloc tt_ok rfl rfl (fun b2 => (wNT (wc_seq (wSR (wM 1 rfl (wLd rfl (mT mH) rfl rfl ?_)))))))))
 rcases p0a0 with _ | dp0a0
 ·have hz_ : p0.Shots = [] := rds_none p0S0 c_T_api_Shot_len (by decide)
  obtain rfl : p0n0 = 0 := by rw [p0N0, hz_]; rfl
  obtain rfl : p0c0 = 0 := p0Z0 rfl
  refine wM 1 rfl (wNT (wc_cond_false rfl (wc_skip (wx_then (wSR (wLd (v := agS p0 none 0 0) rfl (mT mH) rfl rfl (lSt Upd.here ?_)))))))
  refine wNT (wc_ret ?_)
  simp [hz_, appI, mkI, copyL] at h
  obtain rfl := h
  exact wE Tryz.results88 (Res.cell rfl mH rfl Res.nil) ⟨none, 0, 0, [], rfl, Own.zero, rfl, rfl⟩ pI
 refine wM 1 rfl (wNT (wc_cond_true rfl (wSR (wM 1 rfl (wLd rfl (mT mH) rfl rfl (wl_val (v := .int .i64 (p0.Shots.length : Int)) (val_len tt_ok rfl rfl p0N0) rfl ?_))))))
 obtain ⟨v10, x10, h⟩ := bsome h
 refine wl_chg (chg_make (enc := c_T_api_Shot) tt_ok rfl rfl rfl rfl rfl rfl c_T_api_Shot_len rfl x10) rfl ?_
 rintro _ _ ⟨a10, n10_, c10, B10, rfl, N10, V10, rfl⟩
 refine wM 1 rfl (wNT (wSR (wM 2 rfl (wLd rfl (mR (mT mH)) rfl rfl (wl_chg (chg_copy (enc := c_T_api_Shot) (ys := p0.Shots) tt_ok rfl rfl rfl rfl N10 p0N0 V10 hA' p0S0 rsub_nil c_T_api_Shot_len (fun _ => rfl)) rfl ?_)))))
 rintro _ _ ⟨Bk10_3, rfl, Nk10_3, Vk10_3, rfl⟩
 refine wNT (wc_region (wM 2 rfl (lSt (Upd.right (Upd.there Upd.here)) ?_)))
 refine wNT (wSR (wLd (v := agS p0 a10 n10_ c10) rfl (mR (mT mH)) rfl rfl (lSt (Upd.right Upd.here) ?_)))
 refine wNT (wc_ret ?_)
 obtain rfl := sI h
 exact wE Tryz.results88 (Res.cell rfl (mR mH) rfl Res.nil) ⟨a10, n10_, c10, Bk10_3, Nk10_3, Vk10_3, rfl, rfl⟩ pI

theorem k_ring_Ring_Put {p0 : T_ring_Ring} {p0g0 : List (T_ring_place × G)} {p1 : T_api_State} {r0 : T_ring_Ring} {r1 : Bool} (p0G0 : p0.places.1 = unG p0g0) (p0A0 : AllP sh_T_ring_place c_T_api_Shot p0P0 p0g0) (p1N0 : p1n0 = p1.Shots.length) (p1H0 : p1n0 ≤ p1c0) (p1Z0 : p1a0 = none → p1c0 = 0) (h : m_ring_Ring_Put F p0 p1 = some (r0, r1)) :
    SpD Tryz.prog 59 [.pointer (some ⟨p0b, 0, none⟩), agS p1 p1a0 p1n0 p1c0] (⟨p0b, ([.int .i64 p0.size] ++ flat cg_T_ring_place p0g0), p0t, (0, 0)⟩ :: (p0P0 ++ [])) (fun w => Rds w (ids (⟨p0b, ([.int .i64 p0.size] ++ flat cg_T_ring_place p0g0), p0t, (0, 0)⟩ :: (p0P0 ++ []))) [] p1a0 (flat c_T_api_Shot p1.Shots) ∧ Rds w (ids (⟨p0b, ([.int .i64 p0.size] ++ flat cg_T_ring_place p0g0), p0t, (0, 0)⟩ :: (p0P0 ++ []))) [] (some ⟨0, 0, none⟩) (flat (fun _ : Unit => gl_state_playerBounds) [()]) ∧ Rds w (ids (⟨p0b, ([.int .i64 p0.size] ++ flat cg_T_ring_place p0g0), p0t, (0, 0)⟩ :: (p0P0 ++ []))) [] (some ⟨1, 0, none⟩) (flat (fun _ : Unit => gl_state_shotBounds) [()])) (fun v D => ∃ r0g0 r0P0, r0.places.1 = unG r0g0 ∧ AllP sh_T_ring_place c_T_api_Shot r0P0 r0g0 ∧ v = .bool r1 ∧ D = fun F => (⟨p0b, ([.int .i64 r0.size] ++ flat cg_T_ring_place r0g0), p0t, (0, 0)⟩ :: (r0P0 ++ F))) := by
 unfold m_ring_Ring_Put at h
 refine sp_of_wc Tryz.func59 rfl Tryz.ntmps59 rfl rfl (fun w0 hR => ?_)
 obtain ⟨p1S0, G0S, G1S⟩ := hR
 refine wSR (wl_box rfl rfl rfl (fun b3 => (wM 1 rfl (wNT (wc_seq (wSR (wM 1 rfl ?_)))))))
 obtain ⟨v7, x7, h⟩ := bsome h
 refine wl_cq Tryz.call86 rfl rfl rfl (q_rd (k_ring_Ring_is (p0 := p0) (p0t := p0t) p0G0 p0A0 x7) pP (fun _ _ => trivial)) rfl ?_
 refine wM 2 rfl ?_
 obtain ⟨v13, h, hg13⟩ := bsome h
 refine wls 9 h rfl ?_ ?_ <;> clear h <;> intro h
 ·refine wM 3 rfl ?_
  obtain rfl := sI h
  have h := hg13; clear hg13
  refine wM 1 rfl (wNT ?_)
  replace h := ct rfl h
  refine wc_cond_true rfl ?_
  refine wSR (wM 1 rfl (wNT (wc_ret (wx_then_ret ?_))))
  obtain ⟨rfl, rfl⟩ := pJ2 h
  exact wE Tryz.results59 (rs1 rfl) ⟨p0g0, p0P0, p0G0, p0A0, rfl, rfl⟩ pI
 refine wl_run rfl (wLd (v := agS p1 p1a0 p1n0 p1c0) rfl mH rfl rfl ?_)
 obtain ⟨v11, x11, h⟩ := bsome h
 refine wl_run rfl (wl_cq Tryz.call55 rfl rfl rfl (q_pf (k_state_Check (p0 := p1) p1N0 p1H0 x11) (fun w hI => ⟨(Rds.call p1S0 pNil rsub_nil) w hI, (Rds.call G0S pNil rsub_nil) w hI, (Rds.call G1S pNil rsub_nil) w hI⟩)) rfl (wM 1 rfl ?_))
 obtain rfl := sI h
 have h := hg13; clear hg13
 refine wM 1 rfl (wNT (wcc h rfl ?_ ?_)) <;> clear h <;> intro h
 ·refine wSR (wM 1 rfl (wNT (wc_ret (wx_then_ret ?_))))
  obtain ⟨rfl, rfl⟩ := pJ2 h
  exact wE Tryz.results59 (rs1 rfl) ⟨p0g0, p0P0, p0G0, p0A0, rfl, rfl⟩ pI
 refine wc_skip (wx_then (wSR (wM 2 rfl (wLd rfl mH rfl rfl (wl_inl Tryz.call87 rfl rfl rfl Tryz.func87 rfl Tryz.ntmps87 rfl rfl rfl (wSR (wM 1 rfl (wNT (wc_seq (wc_quiet (by kernel_rfl) (by kernel_rfl) (qM 5 rfl (qLd rfl (mT mH) rfl rfl (qM 1 rfl ?_)))))))))))))
 obtain ⟨v100012, x100012, h⟩ := bsome h
 refine wq_val (v := .int .u64 v100012) (val_rem rfl rfl x100012) rfl ?_
 refine qM 2 rfl ?_
 obtain ⟨v100015, x100015, h⟩ := bsome h
 obtain ⟨G100015, y100015⟩ := getI_g p0G0 x100015
 refine wq_val (v := .pointer (some ⟨p0b, 1 + v100012.toNat * 20 + 0, none⟩)) (val_xa (a := p0.places) tt_ok rfl rfl rfl rfl x100015) rfl ?_
 refine qM 1 rfl (wq_nil (wx_then (wc_ret (wx_inl (v := .pointer (some ⟨p0b, 1 + v100012.toNat * 20 + 0, none⟩)) tt_ok (.inl rfl) Tryz.results87 (rs1 rfl) rfl (wM 1 rfl (wNT (wc_seq (wc_seq (wc_quiet (by kernel_rfl) (by kernel_rfl) (qM 3 rfl (wq_val (v := .bool v100015.is_) (val_xl (enc := cg_T_ring_place) (pre := [.int .i64 p0.size]) (post := []) (xs := p0g0) tt_ok rfl (mT mH) c_np rfl cg_T_ring_place_len y100015 rfl) rfl (qM 1 rfl ?_))))))))))))
 obtain ⟨v31, h, hg31⟩ := bsome h
 refine wqs 22 h rfl ?_ ?_ <;> clear h <;> intro h
 ·refine qM 4 rfl (wq_run rfl (wq_val (v := .int .u64 v100015.s.Frame) (val_xl (enc := cg_T_ring_place) (pre := [.int .i64 p0.size]) (post := []) (xs := p0g0) tt_ok rfl (mT mH) c_np rfl cg_T_ring_place_len y100015 rfl) rfl (qM 1 rfl (wq_run rfl (qLd rfl mH rfl rfl (qM 1 rfl ?_))))))
  obtain rfl := sI h
  have h := hg31; clear hg31
  refine qM 1 rfl (wq_nil (wx_then (wcc h rfl ?_ ?_))) <;> clear h <;> intro h
  ·refine wSR (wM 1 rfl (wNT (wc_ret (wx_then_ret ?_))))
   obtain ⟨rfl, rfl⟩ := pJ2 h
   exact wE Tryz.results59 (rs1 rfl) ⟨p0g0, p0P0, p0G0, p0A0, rfl, rfl⟩ pI
  refine wc_skip (wx_then (wSR (wM 1 rfl (wLd (v := agS p1 p1a0 p1n0 p1c0) rfl mH rfl rfl ?_))))
  obtain ⟨v34, x34, h⟩ := bsome h
  refine wl_cs Tryz.call88 rfl rfl rfl (s_sp (k_ring_told (p0 := p1) p1N0 p1H0 p1Z0 x34) pNil (Rds.call p1S0 pNil rsub_nil)) rfl ?_
  rintro _ _ ⟨_, ⟨v34a0, v34n0, v34c0, v34B0, v34N0, v34V0, rfl, rfl⟩, rfl⟩
  refine wM 2 rfl (wl_sub (L' := ((p0P0 ++ v34B0) ++ (⟨b3, (st19 p1 p1a0 p1n0 p1c0 []), 64, (0, 0)⟩ :: (⟨p0b, ([.int .i64 p0.size] ++ flat cg_T_ring_place p0g0), p0t, (0, 0)⟩ :: [])))) (pMerge (sA (sCC hA')) hA') (wl_chg0 (chg_stx (enc := cg_T_ring_place) (pre := [.int .i64 p0.size]) (post := []) (xs := p0g0) (y' := ((T_ring_place.mk v34 true), (v34a0, v34n0, v34c0))) (c' := ([.int .i64 p0.size] ++ flat cg_T_ring_place (setI p0g0 v100012 ((T_ring_place.mk v34 true), (v34a0, v34n0, v34c0))))) tt_ok rfl rfl rfl rfl rfl rfl (Upd.right (Upd.there Upd.here)) c_np c_np rfl cg_T_ring_place_len y100015 rfl (by intro h; cases h)) ?_))
  rintro _ _ rfl
  refine wNT (wSR (wM 1 rfl (wNT (wc_ret ?_))))
  obtain ⟨rfl, rfl⟩ := pJ2 h
  exact wE Tryz.results59 (rs1 rfl) ⟨(setI p0g0 v100012 ((T_ring_place.mk v34 true), (v34a0, v34n0, v34c0))), (p0P0 ++ v34B0), (setI_g p0G0 v100012 ((T_ring_place.mk v34 true), (v34a0, v34n0, v34c0))), (fun w A => allrd_set (allrd_left (p0A0 w A)) (allrd_one (sh := sh_T_ring_place) (x := (T_ring_place.mk v34 true)) (s := v34.Shots) rfl v34N0 (vec_cap v34V0) (Rds.right (Rds.of_vec v34V0)) (own_Z v34V0))), rfl, rfl⟩ pI
 refine qM 8 rfl ?_
 obtain rfl := sI h
 have h := hg31; clear hg31
 refine qM 1 rfl (wq_nil (wx_then ?_))
 replace h := cf rfl h
 refine wc_cond_false rfl ?_
 refine wc_skip (wx_then (wSR (wM 1 rfl (wLd (v := agS p1 p1a0 p1n0 p1c0) rfl mH rfl rfl ?_))))
 obtain ⟨v34, x34, h⟩ := bsome h
 refine wl_cs Tryz.call88 rfl rfl rfl (s_sp (k_ring_told (p0 := p1) p1N0 p1H0 p1Z0 x34) pNil (Rds.call p1S0 pNil rsub_nil)) rfl ?_
 rintro _ _ ⟨_, ⟨v34a0, v34n0, v34c0, v34B0, v34N0, v34V0, rfl, rfl⟩, rfl⟩
 refine wM 2 rfl (wl_sub (L' := ((p0P0 ++ v34B0) ++ (⟨b3, (st19 p1 p1a0 p1n0 p1c0 []), 64, (0, 0)⟩ :: (⟨p0b, ([.int .i64 p0.size] ++ flat cg_T_ring_place p0g0), p0t, (0, 0)⟩ :: [])))) (pMerge (sA (sCC hA')) hA') (wl_chg0 (chg_stx (enc := cg_T_ring_place) (pre := [.int .i64 p0.size]) (post := []) (xs := p0g0) (y' := ((T_ring_place.mk v34 true), (v34a0, v34n0, v34c0))) (c' := ([.int .i64 p0.size] ++ flat cg_T_ring_place (setI p0g0 v100012 ((T_ring_place.mk v34 true), (v34a0, v34n0, v34c0))))) tt_ok rfl rfl rfl rfl rfl rfl (Upd.right (Upd.there Upd.here)) c_np c_np rfl cg_T_ring_place_len y100015 rfl (by intro h; cases h)) ?_))
 rintro _ _ rfl
 refine wNT (wSR (wM 1 rfl (wNT (wc_ret ?_))))
 obtain ⟨rfl, rfl⟩ := pJ2 h
 exact wE Tryz.results59 (rs1 rfl) ⟨(setI p0g0 v100012 ((T_ring_place.mk v34 true), (v34a0, v34n0, v34c0))), (p0P0 ++ v34B0), (setI_g p0G0 v100012 ((T_ring_place.mk v34 true), (v34a0, v34n0, v34c0))), (fun w A => allrd_set (allrd_left (p0A0 w A)) (allrd_one (sh := sh_T_ring_place) (x := (T_ring_place.mk v34 true)) (s := v34.Shots) rfl v34N0 (vec_cap v34V0) (Rds.right (Rds.of_vec v34V0)) (own_Z v34V0))), rfl, rfl⟩ pI

theorem k_rollback_New {p0 : T_api_State} {p1 : Int} {p2 : Int} {r0 : (T_rollback_Engine × T_queue_Queue × T_ring_Ring)} (p0N0 : p0n0 = p0.Shots.length) (p0H0 : p0n0 ≤ p0c0) (p0Z0 : p0a0 = none → p0c0 = 0) (h : m_rollback_New F p0 p1 p2 = some (some r0)) :
    SpD Tryz.prog 17 [agS p0 p0a0 p0n0 p0c0, .int .u8 p1, .int .i64 p2] [] (fun w => Rds w (ids []) [] p0a0 (flat c_T_api_Shot p0.Shots) ∧ Rds w (ids []) [] (some ⟨0, 0, none⟩) (flat (fun _ : Unit => gl_state_playerBounds) [()]) ∧ Rds w (ids []) [] (some ⟨1, 0, none⟩) (flat (fun _ : Unit => gl_state_shotBounds) [()])) (fun v D => ∃ r0b r0b_4 r0b_5 r0a0 r0n0 r0c0 r0B0 r0a1 r0n1 r0c1 r0B1 r0_4a0 r0_4n0 r0_4c0 r0_4B0 r0_5g0 r0_5P0, r0n0 = r0.1.sure.Shots.length ∧ Own 119 6 r0a0 r0n0 r0c0 (flat c_T_api_Shot r0.1.sure.Shots) r0B0 ∧ r0n1 = r0.1.own.length ∧ Own 52 1 r0a1 r0n1 r0c1 (flat (e1 .u8) r0.1.own) r0B1 ∧ r0_4n0 = r0.2.1.l.length ∧ Own 52 1 r0_4a0 r0_4n0 r0_4c0 (flat (e1 .u8) r0.2.1.l) r0_4B0 ∧ r0.2.2.places.1 = unG r0_5g0 ∧ AllP sh_T_ring_place c_T_api_Shot r0_5P0 r0_5g0 ∧ v = .pointer (some ⟨r0b, 0, none⟩) ∧ D = fun F => (⟨r0b, (.int .u8 r0.1.player :: .int .i64 r0.1.window :: st19 r0.1.sure r0a0 r0n0 r0c0 [.slice r0a1 r0n1 r0c1, .pointer (some ⟨r0b_4, 0, none⟩), .pointer (some ⟨r0b_5, 0, none⟩)]), 97, (0, 0)⟩ :: (r0B0 ++ (r0B1 ++ (⟨r0b_4, [.int .u64 r0.2.1.first_, .slice r0_4a0 r0_4n0 r0_4c0, .int .u8 r0.2.1.last], 124, (0, 0)⟩ :: (r0_4B0 ++ (⟨r0b_5, ([.int .i64 r0.2.2.size] ++ flat cg_T_ring_place r0_5g0), 140, (0, 0)⟩ :: (r0_5P0 ++ F)))))))) := by
 unfold m_rollback_New at h
 refine sp_of_wc Tryz.func17 rfl Tryz.ntmps17 rfl rfl (fun w0 hR => ?_)
 obtain ⟨p0S0, G0S, G1S⟩ := hR
 refine wSR (wl_box rfl rfl rfl (fun b3 => (wM 1 rfl (wNT (wc_seq (wSR (wLd (v := agS p0 p0a0 p0n0 p0c0) rfl mH rfl rfl ?_)))))))
 obtain ⟨v9, x9, h⟩ := bsome h
 refine wl_cq Tryz.call55 rfl rfl rfl (q_pf (k_state_Check (p0 := p0) p0N0 p0H0 x9) (fun w hI => ⟨(Rds.call p0S0 pNil rsub_nil) w hI, (Rds.call G0S pNil rsub_nil) w hI, (Rds.call G1S pNil rsub_nil) w hI⟩)) rfl ?_
 refine wM 2 rfl ?_
 obtain ⟨v15, h, hg15⟩ := bsome h
 refine wls 11 h rfl ?_ ?_ <;> clear h <;> intro h
 ·refine wM 3 rfl ?_
  simp only [Option.some.injEq, Prod.mk.injEq] at h
  obtain rfl := h
  have h := hg15; clear hg15
  refine wM 2 rfl ?_
  obtain ⟨v19, h, hg19⟩ := bsome h
  replace h := ct rfl h
  refine wM 2 rfl ?_
  simp only [Option.some.injEq, Prod.mk.injEq] at h
  obtain rfl := h
  have h := hg19; clear hg19
  refine wM 2 rfl ?_
  obtain ⟨v23, h, hg23⟩ := bsome h
  replace h := ct rfl h
  refine wM 2 rfl ?_
  simp only [Option.some.injEq, Prod.mk.injEq] at h
  obtain rfl := h
  have h := hg23; clear hg23
  refine wM 2 rfl ?_
  obtain ⟨v27, h, hg27⟩ := bsome h
  replace h := ct rfl h
  refine wM 2 rfl ?_
  simp only [Option.some.injEq, Prod.mk.injEq] at h
  obtain rfl := h
  have h := hg27; clear hg27
  refine wM 1 rfl (wNT ?_)
  replace h := ct rfl h
  refine wc_cond_true rfl ?_
  refine wSR (wM 1 rfl (wNT (wc_ret (wx_then_ret ?_))))
  first | (cases h; done) | simp at h
 refine wM 1 rfl (wl_run rfl (wLd rfl mH rfl rfl (wM 1 rfl ?_)))
 simp only [Option.some.injEq, Prod.mk.injEq] at h
 obtain rfl := h
 have h := hg15; clear hg15
 refine wM 2 rfl ?_
 obtain ⟨v19, h, hg19⟩ := bsome h
 refine wls 16 h rfl ?_ ?_ <;> clear h <;> intro h
 ·refine wM 2 rfl ?_
  simp only [Option.some.injEq, Prod.mk.injEq] at h
  obtain rfl := h
  have h := hg19; clear hg19
  refine wM 2 rfl ?_
  obtain ⟨v23, h, hg23⟩ := bsome h
  replace h := ct rfl h
  refine wM 2 rfl ?_
  simp only [Option.some.injEq, Prod.mk.injEq] at h
  obtain rfl := h
  have h := hg23; clear hg23
  refine wM 2 rfl ?_
  obtain ⟨v27, h, hg27⟩ := bsome h
  replace h := ct rfl h
  refine wM 2 rfl ?_
  simp only [Option.some.injEq, Prod.mk.injEq] at h
  obtain rfl := h
  have h := hg27; clear hg27
  refine wM 1 rfl (wNT ?_)
  replace h := ct rfl h
  refine wc_cond_true rfl ?_
  refine wSR (wM 1 rfl (wNT (wc_ret (wx_then_ret ?_))))
  first | (cases h; done) | simp at h
 refine wM 2 rfl ?_
 simp only [Option.some.injEq, Prod.mk.injEq] at h
 obtain rfl := h
 have h := hg19; clear hg19
 refine wM 2 rfl ?_
 obtain ⟨v23, h, hg23⟩ := bsome h
 refine wls 20 h rfl ?_ ?_ <;> clear h <;> intro h
 ·refine wM 2 rfl ?_
  simp only [Option.some.injEq, Prod.mk.injEq] at h
  obtain rfl := h
  have h := hg23; clear hg23
  refine wM 2 rfl ?_
  obtain ⟨v27, h, hg27⟩ := bsome h
  replace h := ct rfl h
  refine wM 2 rfl ?_
  simp only [Option.some.injEq, Prod.mk.injEq] at h
  obtain rfl := h
  have h := hg27; clear hg27
  refine wM 1 rfl (wNT ?_)
  replace h := ct rfl h
  refine wc_cond_true rfl ?_
  refine wSR (wM 1 rfl (wNT (wc_ret (wx_then_ret ?_))))
  first | (cases h; done) | simp at h
 refine wM 2 rfl ?_
 simp only [Option.some.injEq, Prod.mk.injEq] at h
 obtain rfl := h
 have h := hg23; clear hg23
 refine wM 2 rfl ?_
 obtain ⟨v27, h, hg27⟩ := bsome h
 refine wls 24 h rfl ?_ ?_ <;> clear h <;> intro h
 ·refine wM 2 rfl ?_
  simp only [Option.some.injEq, Prod.mk.injEq] at h
  obtain rfl := h
  have h := hg27; clear hg27
  refine wM 1 rfl (wNT ?_)
  replace h := ct rfl h
  refine wc_cond_true rfl ?_
  refine wSR (wM 1 rfl (wNT (wc_ret (wx_then_ret ?_))))
  first | (cases h; done) | simp at h
 refine wM 2 rfl ?_
 simp only [Option.some.injEq, Prod.mk.injEq] at h
 obtain rfl := h
 have h := hg27; clear hg27
 refine wM 1 rfl (wNT (wcc h rfl ?_ ?_)) <;> clear h <;> intro h
 ·refine wSR (wM 1 rfl (wNT (wc_ret (wx_then_ret ?_))))
  first | (cases h; done) | simp at h
 refine wc_skip (wx_then (wc_seq (wc_k2 (Ls := (⟨b3, (st19 p0 p0a0 p0n0 p0c0 []), 64, (0, 0)⟩ :: [])) [3, 6, 9, 10, 11, 12] [10, 11, 12] [0, 0, 0, 4, 0, 16, 60, 0, 128, 508, 1023, 2047, 4095] [0, 1, 2, 4, 5, 7, 8, 3, 6, 9, 10, 11, 12] (by kernel_rfl) (by kernel_rfl) (by kernel_rfl) ?_)))
 refine kM pI 2 rfl (k_val (v := agS p0 p0a0 p0n0 p0c0) rfl rfl rfl pI (val_load tt_ok rfl mH rfl) rfl (kM pI 1 rfl (k_val (v := .int .u64 p0.Frame) rfl rfl rfl pI (val_load tt_ok rfl mH rfl) rfl ?_)))
 refine kM pI 2 rfl ?_
 obtain ⟨v31, x31, h⟩ := bsome h
 refine k_cs rfl rfl rfl Tryz.call56 rfl rfl rfl (s_sp (k_state_Copy (p0 := p0) p0N0 p0H0 x31) pNil (Rds.call p0S0 pNil rsub_nil)) rfl (.inr (by rintro _ _ ⟨_, ⟨_, _, _, _, _, _, rfl, rfl⟩, rfl⟩; exact ⟨_, pP⟩)) ?_
 rintro _ _ ⟨_, ⟨v31a0, v31n0, v31c0, v31B0, v31N0, v31V0, rfl, rfl⟩, rfl⟩
 obtain ⟨v34, x34, h⟩ := bsome h
 refine k_cs rfl rfl rfl Tryz.call57 rfl rfl rfl (s_sp (k_queue_New x34) pNil (fun _ _ => trivial)) rfl (.inr (by rintro _ _ ⟨_, ⟨_, _, _, _, _, _, _, rfl, rfl⟩, rfl⟩; exact ⟨_, pP⟩)) ?_
 rintro _ _ ⟨_, ⟨zc, v34a0, v34n0, v34c0, v34B0, v34N0, v34V0, rfl, rfl⟩, rfl⟩
 obtain ⟨v37, x37, h⟩ := bsome h
 rcases v37 with _ | v37s
 ·cases h
 replace h := poS h
 refine k_cs rfl rfl rfl Tryz.call58 rfl rfl rfl (s_sp (k_ring_New x37) pNil (fun _ _ => trivial)) rfl (.inr (by rintro _ _ ⟨_, ⟨_, _, _, _, _, rfl, rfl⟩, rfl⟩; exact ⟨_, pP⟩)) ?_
 rintro _ _ ⟨_, ⟨zb, v37sg0, v37sP0, v37sG0, v37sA0, rfl, rfl⟩, rfl⟩
 refine k_chg rfl rfl rfl (Chg.of_val (v := .agg #[.int .u8 p1, .int .i64 p2, .int .u64 v31.Frame, .int .u64 v31.Seed, .int .i32 v31.Players.1.X, .int .i32 v31.Players.1.Y, .int .i32 v31.Players.1.VX, .int .i32 v31.Players.1.VY, .int .u8 v31.Players.1.Health, .int .u8 v31.Players.1.Cool, .int .u8 v31.Players.1.Face, .int .i32 v31.Players.2.X, .int .i32 v31.Players.2.Y, .int .i32 v31.Players.2.VX, .int .i32 v31.Players.2.VY, .int .u8 v31.Players.2.Health, .int .u8 v31.Players.2.Cool, .int .u8 v31.Players.2.Face, .slice v31a0 v31n0 v31c0, .int .u16 v31.Score.1, .int .u16 v31.Score.2, .slice none 0 0, .pointer (some ⟨zc, 0, none⟩), .pointer (some ⟨zb, 0, none⟩)]) (sV rfl)) rfl (.inl rfl) ?_
 rintro _ _ ⟨rfl, rfl⟩
 refine k_chg rfl rfl rfl (chg_box rfl rfl) rfl (.inl rfl) ?_
 rintro _ _ ⟨b39, rfl, rfl⟩
 refine k_chg rfl rfl rfl (Chg.of_val (sV rfl)) rfl (.inl rfl) ?_
 rintro _ _ ⟨rfl, rfl⟩
 refine k_end (by kernel_rfl) ?_
 refine wx_then (wc_seq (wc_k2 (Ls := (⟨b39, (.int .u8 p1 :: .int .i64 p2 :: st19 v31 v31a0 v31n0 v31c0 [.slice none 0 0, .pointer (some ⟨zc, 0, none⟩), .pointer (some ⟨zb, 0, none⟩)]), 97, (0, 0)⟩ :: (⟨zb, ([.int .i64 v37s.size] ++ flat cg_T_ring_place v37sg0), 140, (0, 0)⟩ :: (v37sP0 ++ (⟨zc, [.int .u64 v34.first_, .slice v34a0 v34n0 v34c0, .int .u8 v34.last], 124, (0, 0)⟩ :: (v34B0 ++ (v31B0 ++ (⟨b3, (st19 p0 p0a0 p0n0 p0c0 []), 64, (0, 0)⟩ :: [])))))))) [5] [5] [0, 1, 3, 7, 0, 31] [0, 1, 2, 3, 4, 5] (by kernel_rfl) (by kernel_rfl) (by kernel_rfl) ?_))
 refine kM pI 3 rfl (k_val (v := .pointer (some ⟨zb, 0, none⟩)) rfl rfl rfl pI (val_load tt_ok rfl mH rfl) rfl (k_val (v := agS p0 p0a0 p0n0 p0c0) rfl rfl rfl pI (val_load tt_ok rfl (mTT (mR (mT (mR (mR mH))))) rfl) rfl ?_))
 replace h := bsome h; obtain ⟨⟨za, v45⟩, x45, h⟩ := h; try dsimp only at h
 refine k_cs rfl rfl rfl Tryz.call59 rfl rfl rfl (s_sp (k_ring_Ring_Put (p0 := v37s) (p1 := p0) (p0t := 140) v37sG0 v37sA0 p0N0 p0H0 p0Z0 x45) pP (fun w hI => ⟨(Rds.call p0S0 pP rsub_nil) w hI, (Rds.call G0S pP rsub_nil) w hI, (Rds.call G1S pP rsub_nil) w hI⟩)) rfl (.inl rfl) ?_
 rintro _ _ ⟨_, ⟨zg, zf, ze, zd, rfl, rfl⟩, rfl⟩
 refine k_end (by kernel_rfl) ?_
 refine wx_then (wSR (wM 2 rfl (wNT (wc_ret ?_))))
 simp only [Option.some.injEq] at h
 obtain rfl := h
 exact wE Tryz.results17 (rs1 rfl) ⟨b39, zc, zb, v31a0, v31n0, v31c0, v31B0, none, 0, 0, [], v34a0, v34n0, v34c0, v34B0, zg, zf, v31N0, v31V0, rfl, Own.zero, v34N0, v34V0, ze, zd, rfl, rfl⟩ (pSub (pCons (sCA hC) (pApp (sCA (sCA hA')) (pNo (pCons (sCA hC) (pApp (sCA hA') (pH (pA pNil))))))))

theorem k_fold_New {p0 : Int} {p1 : Int} {r0 : T_fold_History} (h : m_fold_New F p0 p1 = some (some r0)) :
    SpD Tryz.prog 19 [.int .u64 p0, .int .i64 p1] [] (fun w => True) (fun v D => ∃ r0b, v = .pointer (some ⟨r0b, 0, none⟩) ∧ D = fun F => (⟨r0b, ([.int .u64 r0.from_, .int .u64 r0.count, .int .u64 r0.most] ++ flat (e2 .u8) r0.ring.1), 105, (0, 0)⟩ :: F)) := by
 unfold m_fold_New at h
 refine sp_of_wc Tryz.func19 rfl Tryz.ntmps19 rfl rfl (fun w0 hR => ?_)
 refine wSR (wM 1 rfl (wNT (wc_seq (wSR (wM 3 rfl ?_)))))
 obtain ⟨v10, h, hg10⟩ := bsome h
 refine wls 7 h rfl ?_ ?_ <;> clear h <;> intro h
 ·refine wM 2 rfl ?_
  simp only [Option.some.injEq, Prod.mk.injEq] at h
  obtain rfl := h
  have h := hg10; clear hg10
  refine wM 1 rfl (wNT ?_)
  replace h := ct rfl h
  refine wc_cond_true rfl ?_
  refine wSR (wM 1 rfl (wNT (wc_ret (wx_then_ret ?_))))
  first | (cases h; done) | simp at h
 refine wM 2 rfl ?_
 simp only [Option.some.injEq, Prod.mk.injEq] at h
 obtain rfl := h
 have h := hg10; clear hg10
 refine wM 1 rfl (wNT (wcc h rfl ?_ ?_)) <;> clear h <;> intro h
 ·refine wSR (wM 1 rfl (wNT (wc_ret (wx_then_ret ?_))))
  first | (cases h; done) | simp at h
 refine wc_skip (wx_then (wSR (wM 5 rfl (wl_box rfl rfl rfl (fun b16 => (wM 1 rfl (wNT (wc_ret ?_))))))))
 simp only [Option.some.injEq] at h
 obtain rfl := h
 exact wE Tryz.results19 (rs1 rfl) ⟨b16, rfl, rfl⟩ (pSub (pH pNil))

theorem k_rollback_Engine_is {p0 : T_rollback_Engine} {p0_4 : T_queue_Queue} {p0_5 : T_ring_Ring} {p0_5g0 : List (T_ring_place × G)} {r0 : Bool} (p0N0 : p0n0 = p0.sure.Shots.length) (p0V0 : Own 119 6 p0a0 p0n0 p0c0 (flat c_T_api_Shot p0.sure.Shots) p0B0) (p0N1 : p0n1 = p0.own.length) (p0V1 : Own 52 1 p0a1 p0n1 p0c1 (flat (e1 .u8) p0.own) p0B1) (p0_4N0 : p0_4n0 = p0_4.l.length) (p0_4V0 : Own 52 1 p0_4a0 p0_4n0 p0_4c0 (flat (e1 .u8) p0_4.l) p0_4B0) (p0_5G0 : p0_5.places.1 = unG p0_5g0) (p0_5A0 : AllP sh_T_ring_place c_T_api_Shot p0_5P0 p0_5g0) (h : m_rollback_Engine_is F p0 p0_4 p0_5 = some r0) :
    Rd2 Tryz.prog 53 [.pointer (some ⟨p0b, 0, none⟩)] (⟨p0b, (.int .u8 p0.player :: .int .i64 p0.window :: st19 p0.sure p0a0 p0n0 p0c0 [.slice p0a1 p0n1 p0c1, .pointer (some ⟨p0_4b, 0, none⟩), .pointer (some ⟨p0_5b, 0, none⟩)]), p0t, (0, 0)⟩ :: (p0B0 ++ (p0B1 ++ (⟨p0_4b, [.int .u64 p0_4.first_, .slice p0_4a0 p0_4n0 p0_4c0, .int .u8 p0_4.last], p0_4t, (0, 0)⟩ :: (p0_4B0 ++ (⟨p0_5b, ([.int .i64 p0_5.size] ++ flat cg_T_ring_place p0_5g0), p0_5t, (0, 0)⟩ :: (p0_5P0 ++ []))))))) (fun w => True) (.bool r0) := by
 unfold m_rollback_Engine_is at h
 refine sp_of_wc Tryz.func53 rfl Tryz.ntmps53 rfl rfl (fun w0 hR => ?_)
 refine wSR (wM 1 rfl (wNT (wSR (wM 6 rfl (wl_run rfl (wLd rfl mH rfl rfl (wM 3 rfl (wNT (wc_ret ?_)))))))))
 obtain rfl := sI h
 exact wx_rd tt_ok (.inl rfl) Tryz.results53 (rs1 rfl) pI rfl

theorem k_input_Legal {p0 : Int} {r0 : Bool} (h : m_input_Legal F p0 = some r0) :
    Pf Tryz.prog 60 [.int .u8 p0] (fun w => True) (.bool r0) := by
 unfold m_input_Legal at h
 refine pf_of_wc Tryz.func60 rfl Tryz.ntmps60 rfl rfl (fun w0 hR => ?_)
 refine wSR (wM 1 rfl (wNT (wSR (wM 3 rfl (wNT (wc_ret ?_))))))
 obtain rfl := sI h
 exact pE Tryz.results60 rfl

theorem k_rollback_Engine_Local {p0 : T_rollback_Engine} {p0_4 : T_queue_Queue} {p0_5 : T_ring_Ring} {p0_5g0 : List (T_ring_place × G)} {p1 : Int} {r0 : T_rollback_Engine} {r1 : Int} (p0N0 : p0n0 = p0.sure.Shots.length) (p0V0 : Own 119 6 p0a0 p0n0 p0c0 (flat c_T_api_Shot p0.sure.Shots) p0B0) (p0N1 : p0n1 = p0.own.length) (p0V1 : Own 52 1 p0a1 p0n1 p0c1 (flat (e1 .u8) p0.own) p0B1) (p0_4N0 : p0_4n0 = p0_4.l.length) (p0_4V0 : Own 52 1 p0_4a0 p0_4n0 p0_4c0 (flat (e1 .u8) p0_4.l) p0_4B0) (p0_5G0 : p0_5.places.1 = unG p0_5g0) (p0_5A0 : AllP sh_T_ring_place c_T_api_Shot p0_5P0 p0_5g0) (h : m_rollback_Engine_Local F p0 p0_4 p0_5 p1 = some (r0, r1)) :
    SpD Tryz.prog 20 [.pointer (some ⟨p0b, 0, none⟩), .int .u8 p1] (⟨p0b, (.int .u8 p0.player :: .int .i64 p0.window :: st19 p0.sure p0a0 p0n0 p0c0 [.slice p0a1 p0n1 p0c1, .pointer (some ⟨p0_4b, 0, none⟩), .pointer (some ⟨p0_5b, 0, none⟩)]), p0t, (0, 0)⟩ :: (p0B0 ++ (p0B1 ++ (⟨p0_4b, [.int .u64 p0_4.first_, .slice p0_4a0 p0_4n0 p0_4c0, .int .u8 p0_4.last], p0_4t, (0, 0)⟩ :: (p0_4B0 ++ (⟨p0_5b, ([.int .i64 p0_5.size] ++ flat cg_T_ring_place p0_5g0), p0_5t, (0, 0)⟩ :: (p0_5P0 ++ []))))))) (fun w => True) (fun v D => ∃ r0a0 r0n0 r0c0 r0B0 r0a1 r0n1 r0c1 r0B1, r0n0 = r0.sure.Shots.length ∧ Own 119 6 r0a0 r0n0 r0c0 (flat c_T_api_Shot r0.sure.Shots) r0B0 ∧ r0n1 = r0.own.length ∧ Own 52 1 r0a1 r0n1 r0c1 (flat (e1 .u8) r0.own) r0B1 ∧ v = .int .i64 r1 ∧ D = fun F => (⟨p0b, (.int .u8 r0.player :: .int .i64 r0.window :: st19 r0.sure r0a0 r0n0 r0c0 [.slice r0a1 r0n1 r0c1, .pointer (some ⟨p0_4b, 0, none⟩), .pointer (some ⟨p0_5b, 0, none⟩)]), p0t, (0, 0)⟩ :: (r0B0 ++ (r0B1 ++ (⟨p0_4b, [.int .u64 p0_4.first_, .slice p0_4a0 p0_4n0 p0_4c0, .int .u8 p0_4.last], p0_4t, (0, 0)⟩ :: (p0_4B0 ++ (⟨p0_5b, ([.int .i64 p0_5.size] ++ flat cg_T_ring_place p0_5g0), p0_5t, (0, 0)⟩ :: (p0_5P0 ++ F)))))))) := by
 unfold m_rollback_Engine_Local at h
 refine sp_of_wc Tryz.func20 rfl Tryz.ntmps20 rfl rfl (fun w0 hR => ?_)
 refine wSR (wM 1 rfl (wNT (wc_seq (wc_block (wSR (wM 1 rfl ?_))))))
 obtain ⟨v7, x7, h⟩ := bsome h
 refine wl_cq Tryz.call53 rfl rfl rfl (q_rd (k_rollback_Engine_is (p0 := p0) (p0_4 := p0_4) (p0_5 := p0_5) (p0t := p0t) (p0_4b := p0_4b) (p0_4t := p0_4t) (p0_5b := p0_5b) (p0_5t := p0_5t) p0N0 p0V0 p0N1 p0V1 p0_4N0 p0_4V0 p0_5G0 p0_5A0 x7) pP (fun _ _ => trivial)) rfl ?_
 refine wM 2 rfl (wNT (wcc h rfl ?_ ?_)) <;> clear h <;> intro h
 ·refine wSR (wM 1 rfl (wNT (wc_ret (wx_block_ret (wx_then_ret ?_)))))
  obtain ⟨rfl, rfl⟩ := pJ2 h
  exact wE Tryz.results20 (rs1 rfl) ⟨p0a0, p0n0, p0c0, p0B0, p0a1, p0n1, p0c1, p0B1, p0N0, p0V0, p0N1, p0V1, rfl, rfl⟩ pI
 refine wSR (wM 1 rfl ?_)
 obtain ⟨v11, x11, h⟩ := bsome h
 refine wl_cq Tryz.call60 rfl rfl rfl (q_pf (k_input_Legal x11) (fun _ _ => trivial)) rfl ?_
 refine wM 2 rfl (wNT (wcc h rfl ?_ ?_)) <;> clear h <;> intro h
 ·refine wSR (wM 1 rfl (wNT (wc_ret (wx_block_ret (wx_then_ret ?_)))))
  obtain ⟨rfl, rfl⟩ := pJ2 h
  exact wE Tryz.results20 (rs1 rfl) ⟨p0a0, p0n0, p0c0, p0B0, p0a1, p0n1, p0c1, p0B1, p0N0, p0V0, p0N1, p0V1, rfl, rfl⟩ pI
 refine wc_seq (wc_quiet (by kernel_rfl) (by kernel_rfl) (qM 3 rfl (qLd rfl mH rfl rfl (wq_val (v := .int .i64 (p0.own.length : Int)) (val_len tt_ok rfl rfl p0N1) rfl (qM 3 rfl (qLd rfl mH rfl rfl (qM 2 rfl (wq_nil (wx_then (wcc h rfl ?_ ?_)))))))))) <;> clear h <;> intro h
 ·refine wSR (wM 1 rfl (wNT (wc_ret (wx_block_ret (wx_then_ret ?_)))))
  obtain ⟨rfl, rfl⟩ := pJ2 h
  exact wE Tryz.results20 (rs1 rfl) ⟨p0a0, p0n0, p0c0, p0B0, p0a1, p0n1, p0c1, p0B1, p0N0, p0V0, p0N1, p0V1, rfl, rfl⟩ pI
 refine wc_skip (wx_block (wx_then (wSR (wM 4 rfl (wLd rfl mH rfl rfl (wM 1 rfl (wl_chg (chg_bsv (enc := (e1 .u8)) (xs := ([p1] : List Int)) tt_ok rfl rfl rfl rfl rfl rfl rfl rfl (e1_len _)) rfl ?_)))))))
 rintro _ _ ⟨a30, n30_, c30, B30, rfl, N30, V30, rfl⟩
 obtain ⟨v31, x31, h⟩ := bsome h
 refine wl_chg (chg_app (enc := (e1 .u8)) (ys := ([p1] : List Int)) tt_ok rfl rfl rfl rfl rfl rfl p0N1 N30 p0V1 (sA (sCA hA')) (Rds.of_vec V30) ⟨_, hA'⟩ (e1_len _) (fun _ => rfl) rfl x31) rfl ?_
 rintro _ _ ⟨a31, n31_, c31, B31, rfl, N31, V31, rfl⟩
 refine wM 2 rfl (lSt (Upd.right (Upd.right Upd.here)) ?_)
 refine wNT (wSR (wM 1 rfl (wNT (wc_ret ?_))))
 obtain ⟨rfl, rfl⟩ := pJ2 h
 exact wE Tryz.results20 (rs1 rfl) ⟨p0a0, p0n0, p0c0, p0B0, a31, n31_, c31, B31, p0N0, p0V0, N31, V31, rfl, rfl⟩ pI

theorem k_queue_Queue_Known {p0 : T_queue_Queue} {r0 : Int} (p0N0 : p0n0 = p0.l.length) (p0V0 : Own 52 1 p0a0 p0n0 p0c0 (flat (e1 .u8) p0.l) p0B0) (h : m_queue_Queue_Known F p0 = some r0) :
    Rd2 Tryz.prog 54 [.pointer (some ⟨p0b, 0, none⟩)] (⟨p0b, [.int .u64 p0.first_, .slice p0a0 p0n0 p0c0, .int .u8 p0.last], p0t, (0, 0)⟩ :: (p0B0 ++ [])) (fun w => True) (.int .u64 r0) := by
 unfold m_queue_Queue_Known at h
 refine sp_of_wc Tryz.func54 rfl Tryz.ntmps54 rfl rfl (fun w0 hR => ?_)
 refine wSR (wM 1 rfl (wNT (wc_seq (wSR (wM 2 rfl (wNT (wc_cond_false rfl (wc_skip (wx_then (wc_seq (wc_quiet (by kernel_rfl) (by kernel_rfl) (qM 3 rfl (qLd rfl mH rfl rfl (qM 3 rfl (qLd rfl mH rfl rfl (wq_val (v := .int .i64 (p0.l.length : Int)) (val_len tt_ok rfl rfl p0N0) rfl (qM 3 rfl (wq_nil (wx_then (wc_ret ?_))))))))))))))))))))
 obtain rfl := sI h
 exact wx_rd tt_ok (.inl rfl) Tryz.results54 (rs1 rfl) pI rfl

theorem k_queue_Queue_from {p0 : T_queue_Queue} {p1 : Int} {r0 : (List Int)} (p0N0 : p0n0 = p0.l.length) (p0V0 : Own 52 1 p0a0 p0n0 p0c0 (flat (e1 .u8) p0.l) p0B0) (h : m_queue_Queue_from F p0 p1 = some r0) :
    SpD Tryz.prog 110 [.pointer (some ⟨p0b, 0, none⟩), .int .u64 p1] (⟨p0b, [.int .u64 p0.first_, .slice p0a0 p0n0 p0c0, .int .u8 p0.last], p0t, (0, 0)⟩ :: (p0B0 ++ [])) (fun w => True) (fun v D => ∃ r0a r0n r0c, r0n = r0.length ∧ r0n ≤ r0c ∧ (∀ w A B, Rds w A B p0a0 (flat (e1 .u8) p0.l) → Rds w A B r0a (flat (e1 .u8) r0)) ∧ v = .slice r0a r0n r0c ∧ D = fun F => (⟨p0b, [.int .u64 p0.first_, .slice p0a0 p0n0 p0c0, .int .u8 p0.last], p0t, (0, 0)⟩ :: (p0B0 ++ F))) := by
 unfold m_queue_Queue_from at h
 refine sp_of_wc Tryz.func110 rfl Tryz.ntmps110 rfl rfl (fun w0 hR => ?_)
 refine wSR (wM 1 rfl (wNT (wc_seq (wSR (wM 7 rfl (wl_run rfl (wLd rfl mH rfl rfl (wM 3 rfl ?_))))))))
 obtain ⟨v20, h, hg20⟩ := bsome h
 refine wls 15 h rfl ?_ ?_ <;> clear h <;> intro h
 ·refine wM 4 rfl ?_
  obtain rfl := sI h
  have h := hg20; clear hg20
  refine wM 1 rfl (wNT ?_)
  replace h := ct rfl h
  refine wc_cond_true rfl ?_
  refine wSR (wM 1 rfl (wNT (wc_ret (wx_then_ret ?_))))
  obtain rfl := sI h
  exact wE Tryz.results110 (rs1 rfl) ⟨none, 0, 0, rfl, (Nat.le_refl _), (fun _ _ _ _ => Rds.nil), rfl, rfl⟩ pI
 refine wM 2 rfl ?_
 obtain ⟨v18, x18, h⟩ := bsome h
 refine wl_run rfl (wl_cq Tryz.call54 rfl rfl rfl (q_rd (k_queue_Queue_Known (p0 := p0) (p0t := p0t) p0N0 p0V0 x18) pP (fun _ _ => trivial)) rfl (wM 1 rfl ?_))
 obtain rfl := sI h
 have h := hg20; clear hg20
 refine wM 1 rfl (wNT (wcc h rfl ?_ ?_)) <;> clear h <;> intro h
 ·refine wSR (wM 1 rfl (wNT (wc_ret (wx_then_ret ?_))))
  obtain rfl := sI h
  exact wE Tryz.results110 (rs1 rfl) ⟨none, 0, 0, rfl, (Nat.le_refl _), (fun _ _ _ _ => Rds.nil), rfl, rfl⟩ pI
 refine wc_skip (wx_then (wc_seq (wc_quiet (by kernel_rfl) (by kernel_rfl) (qM 3 rfl (qLd rfl mH rfl rfl (qM 4 rfl (qLd rfl mH rfl rfl (qM 4 rfl (qLd rfl mH rfl rfl (wq_val (v := .int .i64 (p0.l.length : Int)) (val_len tt_ok rfl rfl p0N0) rfl (qM 3 rfl (qLd rfl mH rfl rfl (wq_val (v := .int .i64 (p0.l.length : Int)) (val_len tt_ok rfl rfl p0N0) rfl ?_)))))))))))))
 obtain ⟨v41, x41, h⟩ := bsome h
 refine wq_cut (enc := (e1 .u8)) tt_ok rfl rfl rfl p0N0 (vec_some p0V0) (e1_len _) (vec_cap p0V0) (.inr ⟨_, _, rfl, rfl⟩) (.inr ⟨_, _, rfl, rfl⟩) (.inr ⟨_, _, rfl, rfl⟩) (by intro h; first | rfl | cases h) (cut3b x41 p0N0 (vec_cap p0V0)) (cut3a x41) rfl ?_
 intro a41 n41_ c41 N41 H41 I41 O41 Z41
 refine qM 1 rfl (wq_nil (wx_then (wc_ret ?_)))
 obtain rfl := sI h
 exact wE Tryz.results110 (rs1 rfl) ⟨a41, n41_, c41, N41, H41, (fun w A B h => I41 w A B ((fun _ _ _ h => h) w A B h)), rfl, rfl⟩ pI

theorem k_queue_Queue_At {p0 : T_queue_Queue} {p1 : Int} {r0 : Int} {r1 : Bool} (p0N0 : p0n0 = p0.l.length) (p0V0 : Own 52 1 p0a0 p0n0 p0c0 (flat (e1 .u8) p0.l) p0B0) (h : m_queue_Queue_At F p0 p1 = some (r0, r1)) :
    Rd2 Tryz.prog 89 [.pointer (some ⟨p0b, 0, none⟩), .int .u64 p1] (⟨p0b, [.int .u64 p0.first_, .slice p0a0 p0n0 p0c0, .int .u8 p0.last], p0t, (0, 0)⟩ :: (p0B0 ++ [])) (fun w => True) (.tuple #[.int .u8 r0, .bool r1]) := by
 unfold m_queue_Queue_At at h
 refine sp_of_wc Tryz.func89 rfl Tryz.ntmps89 rfl rfl (fun w0 hR => ?_)
 refine wSR (wM 2 rfl (wNT (wc_seq (wSR (wM 2 rfl ?_)))))
 obtain ⟨v9, x9, h⟩ := bsome h
 refine wl_cs Tryz.call110 rfl rfl rfl (s_sp (k_queue_Queue_from (p0 := p0) (p0t := p0t) p0N0 p0V0 x9) pP (fun _ _ => trivial)) rfl ?_
 rintro _ _ ⟨_, ⟨v9a, v9n, v9c, Nv9, Hv9, Iv9, rfl, rfl⟩, rfl⟩
 refine wM 1 rfl (wNT (wSR (wM 1 rfl (wl_val (v := .int .i64 (v9.length : Int)) (val_len tt_ok rfl rfl Nv9) rfl (wM 1 rfl (wNT (wcc h rfl ?_ ?_))))))) <;> clear h <;> intro h
 ·refine wSR (wM 1 rfl ?_)
  obtain ⟨v14, x14, h⟩ := bsome h
  refine wl_val (v := .pointer (some ((adOf v9a).add ((0 : Int).toNat * 1 + 0)))) (val_ix (enc := (e1 .u8)) tt_ok rfl rfl rfl rfl Nv9 (Iv9 _ _ _ (Rds.of_vec p0V0)) (e1_len _) rfl x14) rfl ?_
  refine wl_val (v := .int .u8 v14) (val_le (enc := (e1 .u8)) (xs := v9) tt_ok rfl (Iv9 _ _ _ (Rds.of_vec p0V0)) ⟨_, (sC hA')⟩ (e1_len _) x14 rfl) rfl ?_
  refine wM 2 rfl (wNT (wc_ret (wx_then_ret ?_)))
  obtain ⟨rfl, rfl⟩ := pJ2 h
  exact wx_rd tt_ok (.inl rfl) Tryz.results89 (rs2 rfl rfl) pI rfl
 refine wc_skip (wx_then (wSR (wM 2 rfl (wNT (wc_ret ?_)))))
 obtain ⟨rfl, rfl⟩ := pJ2 h
 exact wx_rd tt_ok (.inl rfl) Tryz.results89 (rs2 rfl rfl) pI rfl

theorem k_queue_Queue_Guess {p0 : T_queue_Queue} {p1 : Int} {r0 : Int} (p0N0 : p0n0 = p0.l.length) (p0V0 : Own 52 1 p0a0 p0n0 p0c0 (flat (e1 .u8) p0.l) p0B0) (h : m_queue_Queue_Guess F p0 p1 = some r0) :
    Rd2 Tryz.prog 61 [.pointer (some ⟨p0b, 0, none⟩), .int .u64 p1] (⟨p0b, [.int .u64 p0.first_, .slice p0a0 p0n0 p0c0, .int .u8 p0.last], p0t, (0, 0)⟩ :: (p0B0 ++ [])) (fun w => True) (.int .u8 r0) := by
 unfold m_queue_Queue_Guess at h
 refine sp_of_wc Tryz.func61 rfl Tryz.ntmps61 rfl rfl (fun w0 hR => ?_)
 refine wSR (wM 1 rfl (wNT (wc_seq (wSR (wM 2 rfl ?_)))))
 replace h := bsome h; obtain ⟨⟨za, zb⟩, x10, h⟩ := h; try dsimp only at h
 refine wl_cq Tryz.call89 rfl rfl rfl (q_rd (k_queue_Queue_At (p0 := p0) (p0t := p0t) p0N0 p0V0 x10) pP (fun _ _ => trivial)) rfl ?_
 refine wM 5 rfl (wNT (wSR (wM 2 rfl ?_)))
 obtain ⟨v17, h, hg17⟩ := bsome h
 refine wls 14 h rfl ?_ ?_ <;> clear h <;> intro h
 ·refine wM 2 rfl ?_
  obtain rfl := sI h
  have h := hg17; clear hg17
  refine wM 1 rfl (wNT ?_)
  replace h := ct rfl h
  refine wc_cond_true rfl ?_
  refine wSR (wM 2 rfl (wNT (wc_ret (wx_then_ret ?_))))
  obtain rfl := sI h
  exact wx_rd tt_ok (.inl rfl) Tryz.results61 (rs1 rfl) pI rfl
 refine wM 2 rfl ?_
 obtain rfl := sI h
 have h := hg17; clear hg17
 refine wM 1 rfl (wNT ?_)
 replace h := cf rfl h
 refine wc_cond_false rfl ?_
 refine wc_skip (wx_then (wSR (wM 3 rfl (wLd rfl mH rfl rfl (wM 1 rfl (wNT (wc_ret ?_)))))))
 obtain rfl := sI h
 exact wx_rd tt_ok (.inl rfl) Tryz.results61 (rs1 rfl) pI rfl

theorem k_queue_Queue_Add {p0 : T_queue_Queue} {p1 : Int} {p2 : Int} {r0 : T_queue_Queue} {r1 : Int} (p0N0 : p0n0 = p0.l.length) (p0V0 : Own 52 1 p0a0 p0n0 p0c0 (flat (e1 .u8) p0.l) p0B0) (h : m_queue_Queue_Add F p0 p1 p2 = some (r0, r1)) :
    SpD Tryz.prog 62 [.pointer (some ⟨p0b, 0, none⟩), .int .u64 p1, .int .u8 p2] (⟨p0b, [.int .u64 p0.first_, .slice p0a0 p0n0 p0c0, .int .u8 p0.last], p0t, (0, 0)⟩ :: (p0B0 ++ [])) (fun w => True) (fun v D => ∃ r0a0 r0n0 r0c0 r0B0, r0n0 = r0.l.length ∧ Own 52 1 r0a0 r0n0 r0c0 (flat (e1 .u8) r0.l) r0B0 ∧ v = .int .i64 r1 ∧ D = fun F => (⟨p0b, [.int .u64 r0.first_, .slice r0a0 r0n0 r0c0, .int .u8 r0.last], p0t, (0, 0)⟩ :: (r0B0 ++ F))) := by
 unfold m_queue_Queue_Add at h
 refine sp_of_wc Tryz.func62 rfl Tryz.ntmps62 rfl rfl (fun w0 hR => ?_)
 refine wSR (wM 1 rfl (wNT (wc_seq (wc_block (wSR (wM 3 rfl (wNT (wc_cond_false rfl (wSR (wM 1 rfl ?_))))))))))
 obtain ⟨v14, x14, h⟩ := bsome h
 refine wl_cq Tryz.call60 rfl rfl rfl (q_pf (k_input_Legal x14) (fun _ _ => trivial)) rfl ?_
 refine wM 2 rfl (wNT (wcc h rfl ?_ ?_)) <;> clear h <;> intro h
 ·refine wSR (wM 1 rfl (wNT (wc_ret (wx_block_ret (wx_then_ret ?_)))))
  obtain ⟨rfl, rfl⟩ := pJ2 h
  exact wE Tryz.results62 (rs1 rfl) ⟨p0a0, p0n0, p0c0, p0B0, p0N0, p0V0, rfl, rfl⟩ pI
 refine wSR (wM 4 rfl (wLd rfl mH rfl rfl (wM 2 rfl (wNT (wcc h rfl ?_ ?_))))) <;> clear h <;> intro h
 ·refine wSR (wM 1 rfl (wNT (wc_ret (wx_block_ret (wx_then_ret ?_)))))
  obtain ⟨rfl, rfl⟩ := pJ2 h
  exact wE Tryz.results62 (rs1 rfl) ⟨p0a0, p0n0, p0c0, p0B0, p0N0, p0V0, rfl, rfl⟩ pI
 refine wc_skip (wx_block (wx_then (wc_seq (wSR (wM 2 rfl ?_)))))
 replace h := bsome h; obtain ⟨⟨za, zb⟩, x26, h⟩ := h; try dsimp only at h
 refine wl_cq Tryz.call89 rfl rfl rfl (q_rd (k_queue_Queue_At (p0 := p0) (p0t := p0t) p0N0 p0V0 x26) pP (fun _ _ => trivial)) rfl ?_
 refine wM 5 rfl (wNT (wc_block (wSR (wM 2 rfl ?_))))
 obtain ⟨v35, h, hg35⟩ := bsome h
 refine wls 31 h rfl ?_ ?_ <;> clear h <;> intro h
 ·refine wM 3 rfl ?_
  obtain rfl := sI h
  have h := hg35; clear hg35
  refine wM 2 rfl (wNT (wcc h rfl ?_ ?_)) <;> clear h <;> intro h
  ·refine wSR (wM 1 rfl (wNT (wc_ret (wx_block_ret (wx_then_ret ?_)))))
   obtain ⟨rfl, rfl⟩ := pJ2 h
   exact wE Tryz.results62 (rs1 rfl) ⟨p0a0, p0n0, p0c0, p0B0, p0N0, p0V0, rfl, rfl⟩ pI
  refine wSR (wM 2 rfl (wNT (wcc h rfl ?_ ?_))) <;> clear h <;> intro h
  ·refine wSR (wM 1 rfl (wNT (wc_ret (wx_block_ret (wx_then_ret ?_)))))
   obtain ⟨rfl, rfl⟩ := pJ2 h
   exact wE Tryz.results62 (rs1 rfl) ⟨p0a0, p0n0, p0c0, p0B0, p0N0, p0V0, rfl, rfl⟩ pI
  refine wSR (wM 2 rfl ?_)
  obtain ⟨v41, x41, h⟩ := bsome h
  refine wl_cq Tryz.call54 rfl rfl rfl (q_rd (k_queue_Queue_Known (p0 := p0) (p0t := p0t) p0N0 p0V0 x41) pP (fun _ _ => trivial)) rfl ?_
  refine wM 2 rfl ?_
  obtain ⟨v46, h, hg46⟩ := bsome h
  refine wls 43 h rfl ?_ ?_ <;> clear h <;> intro h
  ·refine wM 2 rfl ?_
   obtain rfl := sI h
   have h := hg46; clear hg46
   refine wM 2 rfl (wNT ?_)
   replace h := ct rfl h
   refine wc_cond_true rfl ?_
   refine wSR (wM 1 rfl (wNT (wc_ret (wx_block_ret (wx_then_ret ?_)))))
   obtain ⟨rfl, rfl⟩ := pJ2 h
   exact wE Tryz.results62 (rs1 rfl) ⟨p0a0, p0n0, p0c0, p0B0, p0N0, p0V0, rfl, rfl⟩ pI
  refine wM 2 rfl ?_
  obtain rfl := sI h
  have h := hg46; clear hg46
  refine wM 2 rfl (wNT (wcc h rfl ?_ ?_)) <;> clear h <;> intro h
  ·refine wSR (wM 1 rfl (wNT (wc_ret (wx_block_ret (wx_then_ret ?_)))))
   obtain ⟨rfl, rfl⟩ := pJ2 h
   exact wE Tryz.results62 (rs1 rfl) ⟨p0a0, p0n0, p0c0, p0B0, p0N0, p0V0, rfl, rfl⟩ pI
  refine wSR (wM 3 rfl (wLd rfl mH rfl rfl (wl_val (v := .int .i64 (p0.l.length : Int)) (val_len tt_ok rfl rfl p0N0) rfl (wM 2 rfl (wNT (wcc h rfl ?_ ?_)))))) <;> clear h <;> intro h
  ·refine wSR (wM 1 rfl (wNT (wc_ret (wx_block_ret (wx_then_ret ?_)))))
   obtain ⟨rfl, rfl⟩ := pJ2 h
   exact wE Tryz.results62 (rs1 rfl) ⟨p0a0, p0n0, p0c0, p0B0, p0N0, p0V0, rfl, rfl⟩ pI
  refine wc_skip (wx_block (wx_then (wSR (wM 5 rfl (wLd rfl mH rfl rfl (wM 1 rfl (wl_chg (chg_bsv (enc := (e1 .u8)) (xs := ([p2] : List Int)) tt_ok rfl rfl rfl rfl rfl rfl rfl rfl (e1_len _)) rfl ?_)))))))
  rintro _ _ ⟨a61, n61_, c61, B61, rfl, N61, V61, rfl⟩
  obtain ⟨v62, x62, h⟩ := bsome h
  refine wl_chg (chg_app (enc := (e1 .u8)) (ys := ([p2] : List Int)) tt_ok rfl rfl rfl rfl rfl rfl p0N0 N61 p0V0 (sAC hA') (Rds.of_vec V61) ⟨_, hA'⟩ (e1_len _) (fun _ => rfl) rfl x62) rfl ?_
  rintro _ _ ⟨a62, n62_, c62, B62, rfl, N62, V62, rfl⟩
  refine wM 3 rfl (lSt (Upd.right (Upd.right Upd.here)) ?_)
  refine wM 2 rfl (lSt (Upd.right (Upd.right Upd.here)) ?_)
  refine wNT (wSR (wM 1 rfl (wNT (wc_ret ?_))))
  obtain ⟨rfl, rfl⟩ := pJ2 h
  exact wE Tryz.results62 (rs1 rfl) ⟨a62, n62_, c62, B62, N62, V62, rfl, rfl⟩ pI
 refine wM 3 rfl ?_
 obtain rfl := sI h
 have h := hg35; clear hg35
 refine wM 2 rfl (wNT ?_)
 replace h := cf rfl h
 refine wc_cond_false rfl ?_
 refine wSR (wM 2 rfl (wNT (wcc h rfl ?_ ?_))) <;> clear h <;> intro h
 ·refine wSR (wM 1 rfl (wNT (wc_ret (wx_block_ret (wx_then_ret ?_)))))
  obtain ⟨rfl, rfl⟩ := pJ2 h
  exact wE Tryz.results62 (rs1 rfl) ⟨p0a0, p0n0, p0c0, p0B0, p0N0, p0V0, rfl, rfl⟩ pI
 refine wSR (wM 2 rfl ?_)
 obtain ⟨v41, x41, h⟩ := bsome h
 refine wl_cq Tryz.call54 rfl rfl rfl (q_rd (k_queue_Queue_Known (p0 := p0) (p0t := p0t) p0N0 p0V0 x41) pP (fun _ _ => trivial)) rfl ?_
 refine wM 2 rfl ?_
 obtain ⟨v46, h, hg46⟩ := bsome h
 refine wls 43 h rfl ?_ ?_ <;> clear h <;> intro h
 ·refine wM 2 rfl ?_
  obtain rfl := sI h
  have h := hg46; clear hg46
  refine wM 2 rfl (wNT ?_)
  replace h := ct rfl h
  refine wc_cond_true rfl ?_
  refine wSR (wM 1 rfl (wNT (wc_ret (wx_block_ret (wx_then_ret ?_)))))
  obtain ⟨rfl, rfl⟩ := pJ2 h
  exact wE Tryz.results62 (rs1 rfl) ⟨p0a0, p0n0, p0c0, p0B0, p0N0, p0V0, rfl, rfl⟩ pI
 refine wM 2 rfl ?_
 obtain rfl := sI h
 have h := hg46; clear hg46
 refine wM 2 rfl (wNT (wcc h rfl ?_ ?_)) <;> clear h <;> intro h
 ·refine wSR (wM 1 rfl (wNT (wc_ret (wx_block_ret (wx_then_ret ?_)))))
  obtain ⟨rfl, rfl⟩ := pJ2 h
  exact wE Tryz.results62 (rs1 rfl) ⟨p0a0, p0n0, p0c0, p0B0, p0N0, p0V0, rfl, rfl⟩ pI
 refine wSR (wM 3 rfl (wLd rfl mH rfl rfl (wl_val (v := .int .i64 (p0.l.length : Int)) (val_len tt_ok rfl rfl p0N0) rfl (wM 2 rfl (wNT (wcc h rfl ?_ ?_)))))) <;> clear h <;> intro h
 ·refine wSR (wM 1 rfl (wNT (wc_ret (wx_block_ret (wx_then_ret ?_)))))
  obtain ⟨rfl, rfl⟩ := pJ2 h
  exact wE Tryz.results62 (rs1 rfl) ⟨p0a0, p0n0, p0c0, p0B0, p0N0, p0V0, rfl, rfl⟩ pI
 refine wc_skip (wx_block (wx_then (wSR (wM 5 rfl (wLd rfl mH rfl rfl (wM 1 rfl (wl_chg (chg_bsv (enc := (e1 .u8)) (xs := ([p2] : List Int)) tt_ok rfl rfl rfl rfl rfl rfl rfl rfl (e1_len _)) rfl ?_)))))))
 rintro _ _ ⟨a61, n61_, c61, B61, rfl, N61, V61, rfl⟩
 obtain ⟨v62, x62, h⟩ := bsome h
 refine wl_chg (chg_app (enc := (e1 .u8)) (ys := ([p2] : List Int)) tt_ok rfl rfl rfl rfl rfl rfl p0N0 N61 p0V0 (sAC hA') (Rds.of_vec V61) ⟨_, hA'⟩ (e1_len _) (fun _ => rfl) rfl x62) rfl ?_
 rintro _ _ ⟨a62, n62_, c62, B62, rfl, N62, V62, rfl⟩
 refine wM 3 rfl (lSt (Upd.right (Upd.right Upd.here)) ?_)
 refine wM 2 rfl (lSt (Upd.right (Upd.right Upd.here)) ?_)
 refine wNT (wSR (wM 1 rfl (wNT (wc_ret ?_))))
 obtain ⟨rfl, rfl⟩ := pJ2 h
 exact wE Tryz.results62 (rs1 rfl) ⟨a62, n62_, c62, B62, N62, V62, rfl, rfl⟩ pI

theorem k_ring_Ring_Cut {p0 : T_ring_Ring} {p0g0 : List (T_ring_place × G)} {p1 : Int} {r0 : T_ring_Ring} {r1 : Int} (p0G0 : p0.places.1 = unG p0g0) (p0A0 : AllP sh_T_ring_place c_T_api_Shot p0P0 p0g0) (h : m_ring_Ring_Cut F p0 p1 = some (r0, r1)) :
    SpD Tryz.prog 63 [.pointer (some ⟨p0b, 0, none⟩), .int .u64 p1] (⟨p0b, ([.int .i64 p0.size] ++ flat cg_T_ring_place p0g0), p0t, (0, 0)⟩ :: (p0P0 ++ [])) (fun w => True) (fun v D => ∃ r0g0 r0P0, r0.places.1 = unG r0g0 ∧ AllP sh_T_ring_place c_T_api_Shot r0P0 r0g0 ∧ v = .int .i64 r1 ∧ D = fun F => (⟨p0b, ([.int .i64 r0.size] ++ flat cg_T_ring_place r0g0), p0t, (0, 0)⟩ :: (r0P0 ++ F))) := by
 unfold m_ring_Ring_Cut at h
 refine sp_of_wc Tryz.func63 rfl Tryz.ntmps63 rfl rfl (fun w0 hR => ?_)
 refine wSR (wM 1 rfl (wNT (wc_seq (wSR (wM 1 rfl ?_)))))
 obtain ⟨v9, x9, h⟩ := bsome h
 refine wl_cq Tryz.call86 rfl rfl rfl (q_rd (k_ring_Ring_is (p0 := p0) (p0t := p0t) p0G0 p0A0 x9) pP (fun _ _ => trivial)) rfl ?_
 refine wM 1 rfl (wNT (wcc h rfl ?_ ?_)) <;> clear h <;> intro h
 ·refine wSR (wM 1 rfl (wNT (wc_ret (wx_then_ret ?_))))
  obtain ⟨rfl, rfl⟩ := pJ2 h
  exact wE Tryz.results63 (rs1 rfl) ⟨p0g0, p0P0, p0G0, p0A0, rfl, rfl⟩ pI
 refine wc_skip (wx_then (wSR (wM 1 rfl (wNT (wc_seq (wSR (wM 3 rfl (wl_val (v := .agg (flat cg_T_ring_place p0g0 : List Value).toArray) (val_load tt_ok rfl mH (partV_arr (enc := cg_T_ring_place) (pre := [.int .i64 p0.size]) (post := []) (xs := p0g0) rfl c_np rfl (arr_len cg_T_ring_place_len (arrg_len p0G0 p0.places.2) rfl))) rfl (wM 1 rfl (wNT (wc_block ?_)))))))))))
 replace h := bsome h; obtain ⟨⟨zh, zg⟩, h, hl17⟩ := h; try dsimp only at hl17
 refine wc_loop (fun m E L => ∃ zf zc za zb, m_ring_Ring_Cut_L16 F p0 p1 m zf zc za = some (zh, zg) ∧ za.1 = unG zb ∧ AllP sh_T_ring_place c_T_api_Shot p0P0 zb ∧ E = [(0, .pointer (some ⟨p0b, 0, none⟩)), (1, .int .u64 p1), (4, .int .i64 0), (5, .int .i64 zf), (14, .agg (flat cg_T_ring_place p0g0 : List Value).toArray), (15, .int .i64 zc)] ∧ L = (⟨p0b, ([.int .i64 p0.size] ++ flat cg_T_ring_place zb), p0t, (0, 0)⟩ :: (p0P0 ++ []))) F ⟨(0 : Int), (0 : Int), p0.places, p0g0, h, p0G0, p0A0, rfl, rfl⟩ (ag6 rfl rfl rfl rfl rfl rfl) pI ?_
 clear h
 rintro m17 _ _ ⟨zf, zc, za, zb, h, zd, ze, rfl, rfl⟩
 rcases m17 with _ | m17
 ·rw [m_ring_Ring_Cut_L16.eq_1] at h; cases h
 rw [m_ring_Ring_Cut_L16.eq_2] at h
 refine wSR (wM 1 rfl (wNT (wc_seq (wcc h rfl ?_ ?_)))) <;> clear h <;> intro h
 ·refine wc_skip (wx_then (wc_seq (wc_block (wSR (wM 1 rfl ?_)))))
  obtain ⟨v18, x18, h⟩ := bsome h
  obtain ⟨G18, y18⟩ := getI_g p0G0 x18
  refine wl_val (v := .agg #[.int .u64 v18.s.Frame, .int .u64 v18.s.Seed, .int .i32 v18.s.Players.1.X, .int .i32 v18.s.Players.1.Y, .int .i32 v18.s.Players.1.VX, .int .i32 v18.s.Players.1.VY, .int .u8 v18.s.Players.1.Health, .int .u8 v18.s.Players.1.Cool, .int .u8 v18.s.Players.1.Face, .int .i32 v18.s.Players.2.X, .int .i32 v18.s.Players.2.Y, .int .i32 v18.s.Players.2.VX, .int .i32 v18.s.Players.2.VY, .int .u8 v18.s.Players.2.Health, .int .u8 v18.s.Players.2.Cool, .int .u8 v18.s.Players.2.Face, .slice G18.1 G18.2.1 G18.2.2, .int .u16 v18.s.Score.1, .int .u16 v18.s.Score.2, .bool v18.is_]) (val_xv (enc := cg_T_ring_place) (xs := p0g0) tt_ok rfl rfl rfl rfl rfl (arrg_len p0G0 p0.places.2) cg_T_ring_place_len y18) rfl ?_
  refine wl_alloc tt_ok rfl rfl (fun b7 => ?_)
  refine wM 1 rfl (lSt Upd.here ?_)
  refine wNT (wSR (wM 1 rfl (wLd rfl mH rfl rfl (wM 1 rfl ?_))))
  obtain ⟨v27, h, hg27⟩ := bsome h
  refine wls 21 h rfl ?_ ?_ <;> clear h <;> intro h
  ·refine wM 2 rfl (wl_run rfl (wLd rfl mH rfl rfl (wM 2 rfl ?_)))
   obtain rfl := sI h
   have h := hg27; clear hg27
   refine wM 1 rfl (wNT (wcc h rfl ?_ ?_)) <;> clear h <;> intro h
   ·refine wSR (wM 5 rfl ?_)
    obtain ⟨v33, x33, h⟩ := bsome h
    obtain ⟨G33, y33⟩ := getI_g zd x33
    refine wl_val (v := .pointer (some ⟨p0b, 1 + zc.toNat * 20 + 0, none⟩)) (val_xa (a := za) tt_ok rfl rfl rfl rfl x33) rfl ?_
    refine wl_chg0 (chg_stx (enc := cg_T_ring_place) (pre := [.int .i64 p0.size]) (post := []) (xs := zb) (y' := ((T_ring_place.mk (T_api_State.mk (0 : Int) (0 : Int) ((T_api_Player.mk (0 : Int) (0 : Int) (0 : Int) (0 : Int) (0 : Int) (0 : Int) (0 : Int)), (T_api_Player.mk (0 : Int) (0 : Int) (0 : Int) (0 : Int) (0 : Int) (0 : Int) (0 : Int))) ([] : List T_api_Shot) ((0 : Int), (0 : Int))) false), (none, 0, 0))) (c' := ([.int .i64 p0.size] ++ flat cg_T_ring_place (setI zb zc ((T_ring_place.mk (T_api_State.mk (0 : Int) (0 : Int) ((T_api_Player.mk (0 : Int) (0 : Int) (0 : Int) (0 : Int) (0 : Int) (0 : Int) (0 : Int)), (T_api_Player.mk (0 : Int) (0 : Int) (0 : Int) (0 : Int) (0 : Int) (0 : Int) (0 : Int))) ([] : List T_api_Shot) ((0 : Int), (0 : Int))) false), (none, 0, 0))))) tt_ok rfl rfl rfl rfl rfl rfl (Upd.there Upd.here) c_np c_np rfl cg_T_ring_place_len y33 rfl (by intro h; cases h)) ?_
    rintro _ _ rfl
    refine wNT (wc_region (wM 3 rfl (wl_nil (wx_block (wx_then (wc_region (wM 2 rfl (wl_nil ?_))))))))
    exact wx_round m17 (Nat.lt_succ_self m17) ⟨(IntKind.wrap .i64 (zf + (1 : Int))), (IntKind.wrap .i64 (zc + (1 : Int))), (Arr.set za zc (T_ring_place.mk (T_api_State.mk (0 : Int) (0 : Int) ((T_api_Player.mk (0 : Int) (0 : Int) (0 : Int) (0 : Int) (0 : Int) (0 : Int) (0 : Int)), (T_api_Player.mk (0 : Int) (0 : Int) (0 : Int) (0 : Int) (0 : Int) (0 : Int) (0 : Int))) ([] : List T_api_Shot) ((0 : Int), (0 : Int))) false)), (setI zb zc ((T_ring_place.mk (T_api_State.mk (0 : Int) (0 : Int) ((T_api_Player.mk (0 : Int) (0 : Int) (0 : Int) (0 : Int) (0 : Int) (0 : Int) (0 : Int)), (T_api_Player.mk (0 : Int) (0 : Int) (0 : Int) (0 : Int) (0 : Int) (0 : Int) (0 : Int))) ([] : List T_api_Shot) ((0 : Int), (0 : Int))) false), (none, 0, 0))), h, (setI_g zd zc ((T_ring_place.mk (T_api_State.mk (0 : Int) (0 : Int) ((T_api_Player.mk (0 : Int) (0 : Int) (0 : Int) (0 : Int) (0 : Int) (0 : Int) (0 : Int)), (T_api_Player.mk (0 : Int) (0 : Int) (0 : Int) (0 : Int) (0 : Int) (0 : Int) (0 : Int))) ([] : List T_api_Shot) ((0 : Int), (0 : Int))) false), (none, 0, 0))), (fun w A => allrd_set (ze w A) (allrd_one (sh := sh_T_ring_place) (x := (T_ring_place.mk (T_api_State.mk (0 : Int) (0 : Int) ((T_api_Player.mk (0 : Int) (0 : Int) (0 : Int) (0 : Int) (0 : Int) (0 : Int) (0 : Int)), (T_api_Player.mk (0 : Int) (0 : Int) (0 : Int) (0 : Int) (0 : Int) (0 : Int) (0 : Int))) ([] : List T_api_Shot) ((0 : Int), (0 : Int))) false)) (s := ([] : List T_api_Shot)) rfl rfl (Nat.le_refl _) Rds.nil (fun _ => rfl))), rfl, rfl⟩ (ag6 rfl rfl rfl rfl rfl rfl) pI
   refine wc_skip (wx_block (wx_then (wc_region (wM 2 rfl (wl_nil ?_)))))
   exact wx_round m17 (Nat.lt_succ_self m17) ⟨zf, (IntKind.wrap .i64 (zc + (1 : Int))), za, zb, h, zd, ze, rfl, rfl⟩ (ag6 rfl rfl rfl rfl rfl rfl) pI
  refine wM 5 rfl ?_
  obtain rfl := sI h
  have h := hg27; clear hg27
  refine wM 1 rfl (wNT ?_)
  replace h := cf rfl h
  refine wc_cond_false rfl ?_
  refine wc_skip (wx_block (wx_then (wc_region (wM 2 rfl (wl_nil ?_)))))
  exact wx_round m17 (Nat.lt_succ_self m17) ⟨zf, (IntKind.wrap .i64 (zc + (1 : Int))), za, zb, h, zd, ze, rfl, rfl⟩ (ag6 rfl rfl rfl rfl rfl rfl) pI
 refine wc_exit (wx_then_exit ?_)
 obtain ⟨rfl, rfl⟩ := pJ2 h
 have h := hl17; clear hl17; try dsimp only [orE_l, orE_r] at h
 refine wx_then_exit (wx_block_exit (wx_then (wSR ?_)))
 refine wM 2 rfl (wNT (wc_ret ?_))
 obtain ⟨rfl, rfl⟩ := pJ2 h
 exact wE Tryz.results63 (rs1 rfl) ⟨zb, p0P0, zd, ze, rfl, rfl⟩ pI

theorem k_rollback_Engine_Remote {p0 : T_rollback_Engine} {p0_4 : T_queue_Queue} {p0_5 : T_ring_Ring} {p0_5g0 : List (T_ring_place × G)} {p1 : Int} {p2 : Int} {r0 : T_queue_Queue} {r1 : T_ring_Ring} {r2 : Int} (p0N0 : p0n0 = p0.sure.Shots.length) (p0V0 : Own 119 6 p0a0 p0n0 p0c0 (flat c_T_api_Shot p0.sure.Shots) p0B0) (p0N1 : p0n1 = p0.own.length) (p0V1 : Own 52 1 p0a1 p0n1 p0c1 (flat (e1 .u8) p0.own) p0B1) (p0_4N0 : p0_4n0 = p0_4.l.length) (p0_4V0 : Own 52 1 p0_4a0 p0_4n0 p0_4c0 (flat (e1 .u8) p0_4.l) p0_4B0) (p0_5G0 : p0_5.places.1 = unG p0_5g0) (p0_5A0 : AllP sh_T_ring_place c_T_api_Shot p0_5P0 p0_5g0) (h : m_rollback_Engine_Remote F p0 p0_4 p0_5 p1 p2 = some (r0, r1, r2)) :
    SpD Tryz.prog 22 [.pointer (some ⟨p0b, 0, none⟩), .int .u64 p1, .int .u8 p2] (⟨p0b, (.int .u8 p0.player :: .int .i64 p0.window :: st19 p0.sure p0a0 p0n0 p0c0 [.slice p0a1 p0n1 p0c1, .pointer (some ⟨p0_4b, 0, none⟩), .pointer (some ⟨p0_5b, 0, none⟩)]), p0t, (0, 0)⟩ :: (p0B0 ++ (p0B1 ++ (⟨p0_4b, [.int .u64 p0_4.first_, .slice p0_4a0 p0_4n0 p0_4c0, .int .u8 p0_4.last], p0_4t, (0, 0)⟩ :: (p0_4B0 ++ (⟨p0_5b, ([.int .i64 p0_5.size] ++ flat cg_T_ring_place p0_5g0), p0_5t, (0, 0)⟩ :: (p0_5P0 ++ []))))))) (fun w => True) (fun v D => ∃ r0a0 r0n0 r0c0 r0B0 r1g0 r1P0, r0n0 = r0.l.length ∧ Own 52 1 r0a0 r0n0 r0c0 (flat (e1 .u8) r0.l) r0B0 ∧ r1.places.1 = unG r1g0 ∧ AllP sh_T_ring_place c_T_api_Shot r1P0 r1g0 ∧ v = .int .i64 r2 ∧ D = fun F => (⟨p0b, (.int .u8 p0.player :: .int .i64 p0.window :: st19 p0.sure p0a0 p0n0 p0c0 [.slice p0a1 p0n1 p0c1, .pointer (some ⟨p0_4b, 0, none⟩), .pointer (some ⟨p0_5b, 0, none⟩)]), p0t, (0, 0)⟩ :: (p0B0 ++ (p0B1 ++ (⟨p0_4b, [.int .u64 r0.first_, .slice r0a0 r0n0 r0c0, .int .u8 r0.last], p0_4t, (0, 0)⟩ :: (r0B0 ++ (⟨p0_5b, ([.int .i64 r1.size] ++ flat cg_T_ring_place r1g0), p0_5t, (0, 0)⟩ :: (r1P0 ++ F)))))))) := by
 unfold m_rollback_Engine_Remote at h
 refine sp_of_wc Tryz.func22 rfl Tryz.ntmps22 rfl rfl (fun w0 hR => ?_)
 refine wSR (wM 1 rfl (wNT (wc_seq (wSR (wM 1 rfl ?_)))))
 obtain ⟨v11, x11, h⟩ := bsome h
 refine wl_cq Tryz.call53 rfl rfl rfl (q_rd (k_rollback_Engine_is (p0 := p0) (p0_4 := p0_4) (p0_5 := p0_5) (p0t := p0t) (p0_4b := p0_4b) (p0_4t := p0_4t) (p0_5b := p0_5b) (p0_5t := p0_5t) p0N0 p0V0 p0N1 p0V1 p0_4N0 p0_4V0 p0_5G0 p0_5A0 x11) pP (fun _ _ => trivial)) rfl ?_
 refine wM 1 rfl (wNT (wcc h rfl ?_ ?_)) <;> clear h <;> intro h
 ·refine wSR (wM 1 rfl (wNT (wc_ret (wx_then_ret ?_))))
  obtain ⟨rfl, rfl, rfl⟩ := pJ3 h
  exact wE Tryz.results22 (rs1 rfl) ⟨p0_4a0, p0_4n0, p0_4c0, p0_4B0, p0_5g0, p0_5P0, p0_4N0, p0_4V0, p0_5G0, p0_5A0, rfl, rfl⟩ pI
 refine wc_skip (wx_then (wc_seq (wc_quiet (by kernel_rfl) (by kernel_rfl) (qM 3 rfl (qLd rfl mH rfl rfl ?_)))))
 obtain ⟨v17, x17, h⟩ := bsome h
 refine wq_cq Tryz.call54 rfl rfl rfl (q_rd (k_queue_Queue_Known (p0 := p0_4) (p0t := p0_4t) p0_4N0 p0_4V0 x17) pP (fun _ _ => trivial)) rfl ?_
 refine qM 3 rfl (qLd rfl mH rfl rfl (qM 1 rfl ?_))
 obtain ⟨v23, x23, h⟩ := bsome h
 refine wq_cq Tryz.call61 rfl rfl rfl (q_rd (k_queue_Queue_Guess (p0 := p0_4) (p0t := p0_4t) p0_4N0 p0_4V0 x23) pP (fun _ _ => trivial)) rfl ?_
 refine qM 2 rfl (wq_nil (wx_then (wSR (wM 3 rfl (wLd rfl mH rfl rfl (wM 2 rfl ?_))))))
 replace h := bsome h; obtain ⟨⟨zb, v30⟩, x30, h⟩ := h; try dsimp only at h
 refine wl_cs Tryz.call62 rfl rfl rfl (s_sp (k_queue_Queue_Add (p0 := p0_4) (p0t := p0_4t) p0_4N0 p0_4V0 x30) pP (fun _ _ => trivial)) rfl ?_
 rintro _ _ ⟨_, ⟨zj, zl, zk, zi, zm, zn, rfl, rfl⟩, rfl⟩
 refine wM 1 rfl (wNT (wc_seq (wSR (wM 3 rfl (wLd rfl (mT (mR mH)) rfl rfl ?_)))))
 obtain ⟨v35, x35, h⟩ := bsome h
 refine wl_cq Tryz.call54 rfl rfl rfl (q_rd (k_queue_Queue_Known (p0 := zb) (p0t := p0_4t) zm zn x35) pP (fun _ _ => trivial)) rfl ?_
 refine wM 3 rfl ?_
 obtain ⟨v42, h, hg42⟩ := bsome h
 refine wls 38 h rfl ?_ ?_ <;> clear h <;> intro h
 ·refine wM 3 rfl ?_
  obtain rfl := sI h
  have h := hg42; clear hg42
  refine wM 1 rfl (wNT ?_)
  replace h := bsome h; obtain ⟨⟨zh, za⟩, h, hj18⟩ := h; try dsimp only at hj18
  refine wc_join2 (fun E L => ∃ zc zd, za.1 = unG zc ∧ AllP sh_T_ring_place c_T_api_Shot zd zc ∧ E = [(6, .int .i64 0), (9, .int .i64 v30)] ∧ L = (⟨p0b, (.int .u8 p0.player :: .int .i64 p0.window :: st19 p0.sure p0a0 p0n0 p0c0 [.slice p0a1 p0n1 p0c1, .pointer (some ⟨p0_4b, 0, none⟩), .pointer (some ⟨p0_5b, 0, none⟩)]), p0t, (0, 0)⟩ :: (⟨p0_4b, [.int .u64 zb.first_, .slice zj zl zk, .int .u8 zb.last], p0_4t, (0, 0)⟩ :: (⟨p0_5b, ([.int .i64 zh] ++ flat cg_T_ring_place zc), p0_5t, (0, 0)⟩ :: (p0B0 ++ (p0B1 ++ (zi ++ (zd ++ [])))))))) ?_ ?_
  ·refine wcc h rfl ?_ ?_ <;> clear h <;> intro h
   ·refine wc_region (wM 3 rfl (wLd rfl (mT (mR mH)) rfl rfl (wM 1 rfl ?_)))
    replace h := bsome h; obtain ⟨⟨zg, v48⟩, x48, h⟩ := h; try dsimp only at h
    refine wl_cs Tryz.call63 rfl rfl rfl (s_sp (k_ring_Ring_Cut (p0 := p0_5) (p0t := p0_5t) p0_5G0 p0_5A0 x48) pP (fun _ _ => trivial)) rfl ?_
    rintro _ _ ⟨_, ⟨zr, zq, zp, zo, rfl, rfl⟩, rfl⟩
    refine wl_nil ?_
    obtain ⟨rfl, rfl⟩ := pJ2 h
    exact wx_join ⟨zr, zq, zp, zo, rfl, rfl⟩ (ag2 rfl rfl) pI
   refine wc_skip ?_
   obtain ⟨rfl, rfl⟩ := pJ2 h
   exact wx_join ⟨p0_5g0, p0_5P0, p0_5G0, p0_5A0, rfl, rfl⟩ (ag2 rfl rfl) pI
  rintro _ _ ⟨zc, zd, zf, ze, rfl, rfl⟩
  have h := hj18; clear hj18
  refine wSR (wM 2 rfl (wNT (wc_ret ?_)))
  obtain ⟨rfl, rfl, rfl⟩ := pJ3 h
  exact wE Tryz.results22 (rs1 rfl) ⟨zj, zl, zk, zi, zc, zd, zm, zn, zf, ze, rfl, rfl⟩ pI
 refine wM 3 rfl ?_
 obtain rfl := sI h
 have h := hg42; clear hg42
 refine wM 1 rfl (wNT ?_)
 replace h := bsome h; obtain ⟨⟨zh, za⟩, h, hj18⟩ := h; try dsimp only at hj18
 refine wc_join2 (fun E L => ∃ zc zd, za.1 = unG zc ∧ AllP sh_T_ring_place c_T_api_Shot zd zc ∧ E = [(6, .int .i64 0), (9, .int .i64 v30)] ∧ L = (⟨p0b, (.int .u8 p0.player :: .int .i64 p0.window :: st19 p0.sure p0a0 p0n0 p0c0 [.slice p0a1 p0n1 p0c1, .pointer (some ⟨p0_4b, 0, none⟩), .pointer (some ⟨p0_5b, 0, none⟩)]), p0t, (0, 0)⟩ :: (⟨p0_4b, [.int .u64 zb.first_, .slice zj zl zk, .int .u8 zb.last], p0_4t, (0, 0)⟩ :: (⟨p0_5b, ([.int .i64 zh] ++ flat cg_T_ring_place zc), p0_5t, (0, 0)⟩ :: (p0B0 ++ (p0B1 ++ (zi ++ (zd ++ [])))))))) ?_ ?_
 ·replace h := cf rfl h
  refine wc_cond_false rfl ?_
  refine wc_skip ?_
  obtain ⟨rfl, rfl⟩ := pJ2 h
  exact wx_join ⟨p0_5g0, p0_5P0, p0_5G0, p0_5A0, rfl, rfl⟩ (ag2 rfl rfl) pI
 rintro _ _ ⟨zc, zd, zf, ze, rfl, rfl⟩
 have h := hj18; clear hj18
 refine wSR (wM 2 rfl (wNT (wc_ret ?_)))
 obtain ⟨rfl, rfl, rfl⟩ := pJ3 h
 exact wE Tryz.results22 (rs1 rfl) ⟨zj, zl, zk, zi, zc, zd, zm, zn, zf, ze, rfl, rfl⟩ pI

theorem k_rollback_Engine_pair {p0 : T_rollback_Engine} {p0_4 : T_queue_Queue} {p0_5 : T_ring_Ring} {p0_5g0 : List (T_ring_place × G)} {p1 : Int} {r0 : (Int × Int)} (p0N0 : p0n0 = p0.sure.Shots.length) (p0V0 : Own 119 6 p0a0 p0n0 p0c0 (flat c_T_api_Shot p0.sure.Shots) p0B0) (p0N1 : p0n1 = p0.own.length) (p0V1 : Own 52 1 p0a1 p0n1 p0c1 (flat (e1 .u8) p0.own) p0B1) (p0_4N0 : p0_4n0 = p0_4.l.length) (p0_4V0 : Own 52 1 p0_4a0 p0_4n0 p0_4c0 (flat (e1 .u8) p0_4.l) p0_4B0) (p0_5G0 : p0_5.places.1 = unG p0_5g0) (p0_5A0 : AllP sh_T_ring_place c_T_api_Shot p0_5P0 p0_5g0) (h : m_rollback_Engine_pair F p0 p0_4 p0_5 p1 = some r0) :
    Rd2 Tryz.prog 75 [.pointer (some ⟨p0b, 0, none⟩), .int .u64 p1] (⟨p0b, (.int .u8 p0.player :: .int .i64 p0.window :: st19 p0.sure p0a0 p0n0 p0c0 [.slice p0a1 p0n1 p0c1, .pointer (some ⟨p0_4b, 0, none⟩), .pointer (some ⟨p0_5b, 0, none⟩)]), p0t, (0, 0)⟩ :: (p0B0 ++ (p0B1 ++ (⟨p0_4b, [.int .u64 p0_4.first_, .slice p0_4a0 p0_4n0 p0_4c0, .int .u8 p0_4.last], p0_4t, (0, 0)⟩ :: (p0_4B0 ++ (⟨p0_5b, ([.int .i64 p0_5.size] ++ flat cg_T_ring_place p0_5g0), p0_5t, (0, 0)⟩ :: (p0_5P0 ++ []))))))) (fun w => True) (.agg #[.int .u8 r0.1, .int .u8 r0.2]) := by
 unfold m_rollback_Engine_pair at h
 refine sp_of_wc Tryz.func75 rfl Tryz.ntmps75 rfl rfl (fun w0 hR => ?_)
 refine wSR (wl_alloc tt_ok rfl rfl (fun b4 => (wNT (wc_seq (wc_k2 (Ls := (⟨b4, [.int .u8 0, .int .u8 0], 54, (0, 0)⟩ :: (⟨p0b, (.int .u8 p0.player :: .int .i64 p0.window :: st19 p0.sure p0a0 p0n0 p0c0 [.slice p0a1 p0n1 p0c1, .pointer (some ⟨p0_4b, 0, none⟩), .pointer (some ⟨p0_5b, 0, none⟩)]), p0t, (0, 0)⟩ :: (p0B0 ++ (p0B1 ++ (⟨p0_4b, [.int .u64 p0_4.first_, .slice p0_4a0 p0_4n0 p0_4c0, .int .u8 p0_4.last], p0_4t, (0, 0)⟩ :: (p0_4B0 ++ (⟨p0_5b, ([.int .i64 p0_5.size] ++ flat cg_T_ring_place p0_5g0), p0_5t, (0, 0)⟩ :: (p0_5P0 ++ []))))))))) [18] [18] [0, 1, 3, 7, 0, 16, 48, 112, 0, 0, 512, 1536, 3584, 7680, 16128, 32752, 65520, 131071, 262143] [0, 1, 2, 3, 4, 5, 6, 7, 8, 9, 10, 11, 12, 13, 14, 15, 16, 17, 18] (by kernel_rfl) (by kernel_rfl) (by kernel_rfl) ?_)))))
 refine kM pI 3 rfl (k_val (v := .int .u8 p0.player) rfl rfl rfl pI (val_load tt_ok rfl (mT mH) rfl) rfl (kM pI 3 rfl (k_val (v := .slice p0a1 p0n1 p0c1) rfl rfl rfl pI (val_load tt_ok rfl (mT mH) rfl) rfl ?_)))
 refine kM pI 5 rfl (k_val (v := .int .u64 p0.sure.Frame) rfl rfl rfl pI (val_load tt_ok rfl (mT mH) rfl) rfl (kM pI 1 rfl ?_))
 obtain ⟨v20, x20, h⟩ := bsome h
 refine k_val (v := .pointer (some ((adOf p0a1).add ((IntKind.wrap .u64 (p1 - p0.sure.Frame)).toNat * 1 + 0)))) rfl rfl rfl pI (val_ix (enc := (e1 .u8)) tt_ok rfl rfl rfl rfl p0N1 (Rds.of_vec p0V1) (e1_len _) rfl x20) rfl (k_val (v := .int .u8 v20) rfl rfl rfl pI (val_le (enc := (e1 .u8)) (xs := p0.own) tt_ok rfl (Rds.of_vec p0V1) ⟨_, (sCC (sA hA'))⟩ (e1_len _) x20 rfl) rfl ?_)
 rcases Bool.eq_false_or_eq_true (p0.player == (0 : Int)) with hx220 | hx220
 ·replace h := ct hx220 h
  refine k_val (v := .pointer (some ⟨b4, 0, none⟩)) rfl rfl rfl pI (val_ia (j := 0) tt_ok rfl rfl rfl rfl (by simpa using hx220) rfl rfl) rfl (k_chg0 rfl rfl rfl (chg_store tt_ok rfl Upd.here rfl rfl rfl rfl rfl rfl) (.inl rfl) ?_)
  rintro _ _ rfl
  refine k_end (by kernel_rfl) ?_
  refine wx_then (wc_seq (wc_k2 (Ls := (⟨b4, [.int .u8 v20, .int .u8 0], 54, (0, 0)⟩ :: (⟨p0b, (.int .u8 p0.player :: .int .i64 p0.window :: st19 p0.sure p0a0 p0n0 p0c0 [.slice p0a1 p0n1 p0c1, .pointer (some ⟨p0_4b, 0, none⟩), .pointer (some ⟨p0_5b, 0, none⟩)]), p0t, (0, 0)⟩ :: (p0B0 ++ (p0B1 ++ (⟨p0_4b, [.int .u64 p0_4.first_, .slice p0_4a0 p0_4n0 p0_4c0, .int .u8 p0_4.last], p0_4t, (0, 0)⟩ :: (p0_4B0 ++ (⟨p0_5b, ([.int .i64 p0_5.size] ++ flat cg_T_ring_place p0_5g0), p0_5t, (0, 0)⟩ :: (p0_5P0 ++ []))))))))) [10, 11, 12] [11, 12] [0, 1, 3, 7, 15, 0, 32, 96, 224, 0, 992, 2047, 4095] [0, 1, 2, 3, 4, 5, 6, 7, 8, 9, 10, 11, 12] (by kernel_rfl) (by kernel_rfl) (by kernel_rfl) ?_))
  refine kM pI 3 rfl (k_val (v := .int .u8 p0.player) rfl rfl rfl pI (val_load tt_ok rfl (mT mH) rfl) rfl (kM pI 4 rfl (k_val (v := .pointer (some ⟨p0_4b, 0, none⟩)) rfl rfl rfl pI (val_load tt_ok rfl (mT mH) rfl) rfl ?_)))
  refine kM pI 1 rfl ?_
  obtain ⟨v33, x33, h⟩ := bsome h
  refine k_cq rfl rfl rfl Tryz.call61 rfl rfl rfl (q_rd (k_queue_Queue_Guess (p0 := p0_4) (p0t := p0_4t) p0_4N0 p0_4V0 x33) pP (fun _ _ => trivial)) rfl pI ?_
  rcases Bool.eq_false_or_eq_true ((IntKind.wrap .u8 ((1 : Int) - p0.player)) == (0 : Int)) with hx340 | hx340
  ·replace h := ct hx340 h
   refine k_chg rfl rfl rfl (Chg.of_val (v := .pointer (some ⟨b4, 0, none⟩)) (val_ia (j := 0) tt_ok rfl rfl rfl rfl (by simpa using hx340) rfl rfl)) rfl (.inl rfl) ?_
   rintro _ _ ⟨rfl, rfl⟩
   refine k_chg0 rfl rfl rfl (chg_store tt_ok rfl Upd.here rfl rfl rfl rfl rfl rfl) (.inl rfl) ?_
   rintro _ _ rfl
   refine k_end (by kernel_rfl) ?_
   refine wx_then (wSR (wLd (v := .agg #[.int .u8 v33, .int .u8 0]) rfl mH rfl rfl (lSt Upd.here ?_)))
   refine wNT (wc_ret ?_)
   obtain rfl := sI h
   exact wx_rd tt_ok (.inl rfl) Tryz.results75 (Res.cell rfl mH rfl Res.nil) pI rfl
  replace h := cf hx340 h
  rcases Bool.eq_false_or_eq_true ((IntKind.wrap .u8 ((1 : Int) - p0.player)) == (1 : Int)) with hx341 | hx341
  ·replace h := ct hx341 h
   refine k_chg rfl rfl rfl (Chg.of_val (v := .pointer (some ⟨b4, 1, none⟩)) (val_ia (j := 1) tt_ok rfl rfl rfl rfl (by simpa using hx341) rfl rfl)) rfl (.inl rfl) ?_
   rintro _ _ ⟨rfl, rfl⟩
   refine k_chg0 rfl rfl rfl (chg_store tt_ok rfl Upd.here rfl rfl rfl rfl rfl rfl) (.inl rfl) ?_
   rintro _ _ rfl
   refine k_end (by kernel_rfl) ?_
   refine wx_then (wSR (wLd (v := .agg #[.int .u8 v20, .int .u8 v33]) rfl mH rfl rfl (lSt Upd.here ?_)))
   refine wNT (wc_ret ?_)
   obtain rfl := sI h
   exact wx_rd tt_ok (.inl rfl) Tryz.results75 (Res.cell rfl mH rfl Res.nil) pI rfl
  replace h := cf hx341 h
  cases h
 replace h := cf hx220 h
 rcases Bool.eq_false_or_eq_true (p0.player == (1 : Int)) with hx221 | hx221
 ·replace h := ct hx221 h
  refine k_val (v := .pointer (some ⟨b4, 1, none⟩)) rfl rfl rfl pI (val_ia (j := 1) tt_ok rfl rfl rfl rfl (by simpa using hx221) rfl rfl) rfl (k_chg0 rfl rfl rfl (chg_store tt_ok rfl Upd.here rfl rfl rfl rfl rfl rfl) (.inl rfl) ?_)
  rintro _ _ rfl
  refine k_end (by kernel_rfl) ?_
  refine wx_then (wc_seq (wc_k2 (Ls := (⟨b4, [.int .u8 0, .int .u8 v20], 54, (0, 0)⟩ :: (⟨p0b, (.int .u8 p0.player :: .int .i64 p0.window :: st19 p0.sure p0a0 p0n0 p0c0 [.slice p0a1 p0n1 p0c1, .pointer (some ⟨p0_4b, 0, none⟩), .pointer (some ⟨p0_5b, 0, none⟩)]), p0t, (0, 0)⟩ :: (p0B0 ++ (p0B1 ++ (⟨p0_4b, [.int .u64 p0_4.first_, .slice p0_4a0 p0_4n0 p0_4c0, .int .u8 p0_4.last], p0_4t, (0, 0)⟩ :: (p0_4B0 ++ (⟨p0_5b, ([.int .i64 p0_5.size] ++ flat cg_T_ring_place p0_5g0), p0_5t, (0, 0)⟩ :: (p0_5P0 ++ []))))))))) [10, 11, 12] [11, 12] [0, 1, 3, 7, 15, 0, 32, 96, 224, 0, 992, 2047, 4095] [0, 1, 2, 3, 4, 5, 6, 7, 8, 9, 10, 11, 12] (by kernel_rfl) (by kernel_rfl) (by kernel_rfl) ?_))
  refine kM pI 3 rfl (k_val (v := .int .u8 p0.player) rfl rfl rfl pI (val_load tt_ok rfl (mT mH) rfl) rfl (kM pI 4 rfl (k_val (v := .pointer (some ⟨p0_4b, 0, none⟩)) rfl rfl rfl pI (val_load tt_ok rfl (mT mH) rfl) rfl ?_)))
  refine kM pI 1 rfl ?_
  obtain ⟨v33, x33, h⟩ := bsome h
  refine k_cq rfl rfl rfl Tryz.call61 rfl rfl rfl (q_rd (k_queue_Queue_Guess (p0 := p0_4) (p0t := p0_4t) p0_4N0 p0_4V0 x33) pP (fun _ _ => trivial)) rfl pI ?_
  rcases Bool.eq_false_or_eq_true ((IntKind.wrap .u8 ((1 : Int) - p0.player)) == (0 : Int)) with hx340 | hx340
  ·replace h := ct hx340 h
   refine k_chg rfl rfl rfl (Chg.of_val (v := .pointer (some ⟨b4, 0, none⟩)) (val_ia (j := 0) tt_ok rfl rfl rfl rfl (by simpa using hx340) rfl rfl)) rfl (.inl rfl) ?_
   rintro _ _ ⟨rfl, rfl⟩
   refine k_chg0 rfl rfl rfl (chg_store tt_ok rfl Upd.here rfl rfl rfl rfl rfl rfl) (.inl rfl) ?_
   rintro _ _ rfl
   refine k_end (by kernel_rfl) ?_
   refine wx_then (wSR (wLd (v := .agg #[.int .u8 v33, .int .u8 v20]) rfl mH rfl rfl (lSt Upd.here ?_)))
   refine wNT (wc_ret ?_)
   obtain rfl := sI h
   exact wx_rd tt_ok (.inl rfl) Tryz.results75 (Res.cell rfl mH rfl Res.nil) pI rfl
  replace h := cf hx340 h
  rcases Bool.eq_false_or_eq_true ((IntKind.wrap .u8 ((1 : Int) - p0.player)) == (1 : Int)) with hx341 | hx341
  ·replace h := ct hx341 h
   refine k_chg rfl rfl rfl (Chg.of_val (v := .pointer (some ⟨b4, 1, none⟩)) (val_ia (j := 1) tt_ok rfl rfl rfl rfl (by simpa using hx341) rfl rfl)) rfl (.inl rfl) ?_
   rintro _ _ ⟨rfl, rfl⟩
   refine k_chg0 rfl rfl rfl (chg_store tt_ok rfl Upd.here rfl rfl rfl rfl rfl rfl) (.inl rfl) ?_
   rintro _ _ rfl
   refine k_end (by kernel_rfl) ?_
   refine wx_then (wSR (wLd (v := .agg #[.int .u8 0, .int .u8 v33]) rfl mH rfl rfl (lSt Upd.here ?_)))
   refine wNT (wc_ret ?_)
   obtain rfl := sI h
   exact wx_rd tt_ok (.inl rfl) Tryz.results75 (Res.cell rfl mH rfl Res.nil) pI rfl
  replace h := cf hx341 h
  cases h
 replace h := cf hx221 h
 cases h

theorem k_rollback_Engine_Next {p0 : T_rollback_Engine} {p0_4 : T_queue_Queue} {p0_5 : T_ring_Ring} {p0_5g0 : List (T_ring_place × G)} {r0 : (Int × Int)} {r1 : Bool} (p0N0 : p0n0 = p0.sure.Shots.length) (p0V0 : Own 119 6 p0a0 p0n0 p0c0 (flat c_T_api_Shot p0.sure.Shots) p0B0) (p0N1 : p0n1 = p0.own.length) (p0V1 : Own 52 1 p0a1 p0n1 p0c1 (flat (e1 .u8) p0.own) p0B1) (p0_4N0 : p0_4n0 = p0_4.l.length) (p0_4V0 : Own 52 1 p0_4a0 p0_4n0 p0_4c0 (flat (e1 .u8) p0_4.l) p0_4B0) (p0_5G0 : p0_5.places.1 = unG p0_5g0) (p0_5A0 : AllP sh_T_ring_place c_T_api_Shot p0_5P0 p0_5g0) (h : m_rollback_Engine_Next F p0 p0_4 p0_5 = some (r0, r1)) :
    Rd2 Tryz.prog 44 [.pointer (some ⟨p0b, 0, none⟩)] (⟨p0b, (.int .u8 p0.player :: .int .i64 p0.window :: st19 p0.sure p0a0 p0n0 p0c0 [.slice p0a1 p0n1 p0c1, .pointer (some ⟨p0_4b, 0, none⟩), .pointer (some ⟨p0_5b, 0, none⟩)]), p0t, (0, 0)⟩ :: (p0B0 ++ (p0B1 ++ (⟨p0_4b, [.int .u64 p0_4.first_, .slice p0_4a0 p0_4n0 p0_4c0, .int .u8 p0_4.last], p0_4t, (0, 0)⟩ :: (p0_4B0 ++ (⟨p0_5b, ([.int .i64 p0_5.size] ++ flat cg_T_ring_place p0_5g0), p0_5t, (0, 0)⟩ :: (p0_5P0 ++ []))))))) (fun w => True) (.tuple #[.agg #[.int .u8 r0.1, .int .u8 r0.2], .bool r1]) := by
 unfold m_rollback_Engine_Next at h
 refine sp_of_wc Tryz.func44 rfl Tryz.ntmps44 rfl rfl (fun w0 hR => ?_)
 refine wSR (wl_alloc tt_ok rfl rfl (fun b2 => (wM 1 rfl (wNT (wc_seq (wc_seq (wc_quiet (by kernel_rfl) (by kernel_rfl) (qM 1 rfl ?_))))))))
 obtain ⟨v5, x5, h⟩ := bsome h
 refine wq_cq Tryz.call53 rfl rfl rfl (q_rd (k_rollback_Engine_is (p0 := p0) (p0_4 := p0_4) (p0_5 := p0_5) (p0t := p0t) (p0_4b := p0_4b) (p0_4t := p0_4t) (p0_5b := p0_5b) (p0_5t := p0_5t) p0N0 p0V0 p0N1 p0V1 p0_4N0 p0_4V0 p0_5G0 p0_5A0 x5) pP (fun _ _ => trivial)) rfl ?_
 refine qM 2 rfl ?_
 obtain ⟨v14, h, hg14⟩ := bsome h
 refine wqs 7 h rfl ?_ ?_ <;> clear h <;> intro h
 ·refine qM 6 rfl ?_
  obtain rfl := sI h
  have h := hg14; clear hg14
  refine qM 2 rfl ?_
  obtain ⟨v27, h, hg27⟩ := bsome h
  replace h := ct rfl h
  refine qM 11 rfl ?_
  obtain rfl := sI h
  have h := hg27; clear hg27
  refine qM 1 rfl (wq_nil (wx_then ?_))
  replace h := ct rfl h
  refine wc_cond_true rfl ?_
  refine wSR (wM 1 rfl (lSt Upd.here ?_))
  refine wM 1 rfl (wNT (wc_ret (wx_then_ret ?_)))
  obtain ⟨rfl, rfl⟩ := pJ2 h
  exact wx_rd tt_ok (.inl rfl) Tryz.results44 (Res.cell rfl mH rfl (rs1 rfl)) pI rfl
 refine qM 3 rfl (wq_run rfl (qLd rfl (mT mH) rfl rfl (wq_run rfl (wq_val (v := .int .i64 (p0.own.length : Int)) (val_len tt_ok rfl rfl p0N1) rfl (qM 1 rfl ?_)))))
 obtain rfl := sI h
 have h := hg14; clear hg14
 refine qM 2 rfl ?_
 obtain ⟨v27, h, hg27⟩ := bsome h
 refine wqs 15 h rfl ?_ ?_ <;> clear h <;> intro h
 ·refine qM 11 rfl ?_
  obtain rfl := sI h
  have h := hg27; clear hg27
  refine qM 1 rfl (wq_nil (wx_then ?_))
  replace h := ct rfl h
  refine wc_cond_true rfl ?_
  refine wSR (wM 1 rfl (lSt Upd.here ?_))
  refine wM 1 rfl (wNT (wc_ret (wx_then_ret ?_)))
  obtain ⟨rfl, rfl⟩ := pJ2 h
  exact wx_rd tt_ok (.inl rfl) Tryz.results44 (Res.cell rfl mH rfl (rs1 rfl)) pI rfl
 refine qM 3 rfl (wq_run rfl (qLd rfl (mT mH) rfl rfl ?_))
 obtain ⟨v20, x20, h⟩ := bsome h
 refine wq_run rfl (wq_cq Tryz.call54 rfl rfl rfl (q_rd (k_queue_Queue_Known (p0 := p0_4) (p0t := p0_4t) p0_4N0 p0_4V0 x20) pP (fun _ _ => trivial)) rfl (qM 4 rfl (wq_run rfl (qLd rfl (mT mH) rfl rfl (qM 1 rfl ?_)))))
 obtain rfl := sI h
 have h := hg27; clear hg27
 refine qM 1 rfl (wq_nil (wx_then (wcc h rfl ?_ ?_))) <;> clear h <;> intro h
 ·refine wSR (wM 1 rfl (lSt Upd.here ?_))
  refine wM 1 rfl (wNT (wc_ret (wx_then_ret ?_)))
  obtain ⟨rfl, rfl⟩ := pJ2 h
  exact wx_rd tt_ok (.inl rfl) Tryz.results44 (Res.cell rfl mH rfl (rs1 rfl)) pI rfl
 refine wc_skip (wx_then (wSR (wM 5 rfl (wLd rfl (mT mH) rfl rfl ?_))))
 obtain ⟨v35, x35, h⟩ := bsome h
 refine wl_cq Tryz.call75 rfl rfl rfl (q_rd (k_rollback_Engine_pair (p0 := p0) (p0_4 := p0_4) (p0_5 := p0_5) (p0t := p0t) (p0_4b := p0_4b) (p0_4t := p0_4t) (p0_5b := p0_5b) (p0_5t := p0_5t) p0N0 p0V0 p0N1 p0V1 p0_4N0 p0_4V0 p0_5G0 p0_5A0 x35) pP (fun _ _ => trivial)) rfl ?_
 refine lSt Upd.here ?_
 refine wM 1 rfl (wNT (wc_ret ?_))
 obtain ⟨rfl, rfl⟩ := pJ2 h
 exact wx_rd tt_ok (.inl rfl) Tryz.results44 (Res.cell rfl mH rfl (rs1 rfl)) pI rfl

theorem k_input_way {p0 : Int} {p1 : Int} {p2 : Int} {r0 : Int} (h : m_input_way F p0 p1 p2 = some r0) :
    Pf Tryz.prog 130 [.int .u8 p0, .int .u8 p1, .int .u8 p2] (fun w => True) (.int .i32 r0) := by
 unfold m_input_way at h
 refine pf_of_wc Tryz.func130 rfl Tryz.ntmps130 rfl rfl (fun w0 hR => ?_)
 refine wSR (wM 1 rfl (wNT (wc_seq (wSR (wM 5 rfl (wNT (wc_block (wSR (wM 3 rfl (wNT (wcc h rfl ?_ ?_))))))))))) <;> clear h <;> intro h
 ·refine wSR (wM 1 rfl (wNT (wc_ret (wx_block_ret (wx_then_ret ?_)))))
  obtain rfl := sI h
  exact pE Tryz.results130 rfl
 refine wSR (wM 3 rfl (wNT (wcc h rfl ?_ ?_))) <;> clear h <;> intro h
 ·refine wSR (wM 1 rfl (wNT (wc_ret (wx_block_ret (wx_then_ret ?_)))))
  obtain rfl := sI h
  exact pE Tryz.results130 rfl
 refine wc_skip (wx_block (wx_then (wSR (wM 1 rfl (wNT (wc_ret ?_))))))
 obtain rfl := sI h
 exact pE Tryz.results130 rfl

theorem k_input_Dir {p0 : Int} {r0 : Int} {r1 : Int} (h : m_input_Dir F p0 = some (r0, r1)) :
    Pf Tryz.prog 111 [.int .u8 p0] (fun w => True) (.tuple #[.int .i32 r0, .int .i32 r1]) := by
 unfold m_input_Dir at h
 refine pf_of_wc Tryz.func111 rfl Tryz.ntmps111 rfl rfl (fun w0 hR => ?_)
 refine wSR (wM 2 rfl (wNT (wSR (wM 1 rfl ?_))))
 obtain ⟨v5, x5, h⟩ := bsome h
 refine wl_cq Tryz.call130 rfl rfl rfl (q_pf (k_input_way x5) (fun _ _ => trivial)) rfl ?_
 refine wM 1 rfl ?_
 obtain ⟨v7, x7, h⟩ := bsome h
 refine wl_cq Tryz.call130 rfl rfl rfl (q_pf (k_input_way x7) (fun _ _ => trivial)) rfl ?_
 refine wM 2 rfl (wNT (wc_ret ?_))
 obtain ⟨rfl, rfl⟩ := pJ2 h
 exact wx_pf tt_ok (.inl rfl) Tryz.results111 (rs2 rfl rfl) rfl

theorem k_step_turn {p0 : Int} {p1 : Int} {p2 : Int} {r0 : Int} (h : m_step_turn F p0 p1 p2 = some r0) :
    Pf Tryz.prog 112 [.int .u8 p0, .int .i32 p1, .int .i32 p2] (fun w => True) (.int .u8 r0) := by
 unfold m_step_turn at h
 refine pf_of_wc Tryz.func112 rfl Tryz.ntmps112 rfl rfl (fun w0 hR => ?_)
 refine wSR (wM 1 rfl (wNT (wc_seq (wc_block (wSR (wM 3 rfl (wNT (wcc h rfl ?_ ?_)))))))) <;> clear h <;> intro h
 ·refine wSR (wM 1 rfl (wNT (wc_ret (wx_block_ret (wx_then_ret ?_)))))
  obtain rfl := sI h
  exact pE Tryz.results112 rfl
 refine wSR (wM 3 rfl (wNT (wcc h rfl ?_ ?_))) <;> clear h <;> intro h
 ·refine wSR (wM 1 rfl (wNT (wc_ret (wx_block_ret (wx_then_ret ?_)))))
  obtain rfl := sI h
  exact pE Tryz.results112 rfl
 refine wSR (wM 3 rfl (wNT (wcc h rfl ?_ ?_))) <;> clear h <;> intro h
 ·refine wSR (wM 1 rfl (wNT (wc_ret (wx_block_ret (wx_then_ret ?_)))))
  obtain rfl := sI h
  exact pE Tryz.results112 rfl
 refine wSR (wM 3 rfl (wNT (wcc h rfl ?_ ?_))) <;> clear h <;> intro h
 ·refine wSR (wM 1 rfl (wNT (wc_ret (wx_block_ret (wx_then_ret ?_)))))
  obtain rfl := sI h
  exact pE Tryz.results112 rfl
 refine wc_skip (wx_block (wx_then (wSR (wM 2 rfl (wNT (wc_ret ?_))))))
 obtain rfl := sI h
 exact pE Tryz.results112 rfl

theorem k_input_Dash {p0 : Int} {r0 : Bool} (h : m_input_Dash F p0 = some r0) :
    Pf Tryz.prog 113 [.int .u8 p0] (fun w => True) (.bool r0) := by
 unfold m_input_Dash at h
 refine pf_of_wc Tryz.func113 rfl Tryz.ntmps113 rfl rfl (fun w0 hR => ?_)
 refine wSR (wM 1 rfl (wNT (wSR (wM 4 rfl (wNT (wc_ret ?_))))))
 obtain rfl := sI h
 exact pE Tryz.results113 rfl

theorem k_step_steer_1 {p0 : Int} {p1 : Int} {p2 : Bool} {r0 : Int} (h : m_step_steer_1 F p0 p1 p2 = some r0) :
    Rd2 Tryz.prog 114 [.int .i32 p0, .int .i32 p1, .pointer (some ⟨p2b, 0, none⟩)] (⟨p2b, [.bool p2], p2t, (0, 0)⟩ :: []) (fun w => True) (.int .i32 r0) := by
 unfold m_step_steer_1 at h
 refine sp_of_wc Tryz.func114 rfl Tryz.ntmps114 rfl rfl (fun w0 hR => ?_)
 refine wSR (wM 1 rfl (wNT (wc_seq (wSR (wM 2 rfl (wNT ?_))))))
 obtain ⟨zb, h, hj6⟩ := bsome h
 refine wc_join2 (fun E L => E = [(0, .int .i32 zb), (2, .pointer (some ⟨p2b, 0, none⟩)), (5, .int .i32 0)] ∧ L = (⟨p2b, [.bool p2], p2t, (0, 0)⟩ :: [])) ?_ ?_
 ·refine wcc h rfl ?_ ?_ <;> clear h <;> intro h
  ·refine wc_region (wM 5 rfl (wl_nil ?_))
   obtain rfl := sI h
   exact wx_join ⟨rfl, rfl⟩ (ag3 rfl rfl rfl) pI
  refine wSR (wM 5 rfl (wNT (wSR (wM 3 rfl ?_))))
  obtain ⟨v21, h, hg21⟩ := bsome h
  refine wls 18 h rfl ?_ ?_ <;> clear h <;> intro h
  ·refine wM 2 rfl ?_
   obtain rfl := sI h
   have h := hg21; clear hg21
   refine wM 1 rfl (wNT (wcc h rfl ?_ ?_)) <;> clear h <;> intro h
   ·refine wc_region (wM 1 rfl (wl_nil ?_))
    obtain rfl := sI h
    exact wx_join ⟨rfl, rfl⟩ (ag3 rfl rfl rfl) pI
   refine wc_skip ?_
   obtain rfl := sI h
   exact wx_join ⟨rfl, rfl⟩ (ag3 rfl rfl rfl) pI
  refine wM 2 rfl ?_
  obtain rfl := sI h
  have h := hg21; clear hg21
  refine wM 1 rfl (wNT ?_)
  replace h := cf rfl h
  refine wc_cond_false rfl ?_
  refine wc_skip ?_
  obtain rfl := sI h
  exact wx_join ⟨rfl, rfl⟩ (ag3 rfl rfl rfl) pI
 rintro _ _ ⟨rfl, rfl⟩
 have h := hj6; clear hj6
 refine wc_seq (wSR (wLd rfl mH rfl rfl (wNT ?_)))
 obtain ⟨za, h, hj18⟩ := bsome h
 refine wc_join2 (fun E L => E = [(0, .int .i32 za), (5, .int .i32 0)] ∧ L = (⟨p2b, [.bool p2], p2t, (0, 0)⟩ :: [])) ?_ ?_
 ·refine wcc h rfl ?_ ?_ <;> clear h <;> intro h
  ·refine wc_region (wM 3 rfl (wl_nil ?_))
   obtain rfl := sI h
   exact wx_join ⟨rfl, rfl⟩ (ag2 rfl rfl) pI
  refine wc_skip ?_
  obtain rfl := sI h
  exact wx_join ⟨rfl, rfl⟩ (ag2 rfl rfl) pI
 rintro _ _ ⟨rfl, rfl⟩
 have h := hj18; clear hj18
 refine wSR (wM 4 rfl (wNT (wc_ret ?_)))
 obtain rfl := sI h
 exact wx_rd tt_ok (.inl rfl) Tryz.results114 (rs1 rfl) pI rfl

theorem k_step_steer {p0 : T_api_Player} {p1 : Int} {r0 : T_api_Player} (h : m_step_steer F p0 p1 = some r0) :
    Pf Tryz.prog 90 [agP p0, .int .u8 p1] (fun w => True) (agP r0) := by
 unfold m_step_steer at h
 refine pf_of_wc Tryz.func90 rfl Tryz.ntmps90 rfl rfl (fun w0 hR => ?_)
 refine wSR (wl_box rfl rfl rfl (fun b2 => (wl_alloc tt_ok rfl rfl (fun b4 => (wNT (wSR (wM 1 rfl ?_)))))))
 replace h := bsome h; obtain ⟨⟨zb, zc⟩, x11, h⟩ := h; try dsimp only at h
 refine wl_cq Tryz.call111 rfl rfl rfl (q_pf (k_input_Dir x11) (fun _ _ => trivial)) rfl ?_
 refine wM 5 rfl (wNT (wSR (wM 1 rfl (wLd rfl (mT mH) rfl rfl (wM 1 rfl (wLd rfl (mT mH) rfl rfl (wM 3 rfl (lSt (Upd.there Upd.here) ?_))))))))
 refine wNT (wSR (wM 1 rfl (wLd rfl (mT mH) rfl rfl (wM 2 rfl ?_))))
 obtain ⟨v25, x25, h⟩ := bsome h
 refine wl_cq Tryz.call112 rfl rfl rfl (q_pf (k_step_turn x25) (fun _ _ => trivial)) rfl ?_
 refine wM 1 rfl (lSt (Upd.there Upd.here) ?_)
 refine wNT (wSR (wM 1 rfl ?_))
 obtain ⟨v28, x28, h⟩ := bsome h
 refine wl_cq Tryz.call113 rfl rfl rfl (q_pf (k_input_Dash x28) (fun _ _ => trivial)) rfl ?_
 refine wM 1 rfl ?_
 obtain ⟨v33, h, hg33⟩ := bsome h
 refine wls 29 h rfl ?_ ?_ <;> clear h <;> intro h
 ·refine wM 1 rfl (wl_run rfl (wLd rfl (mT mH) rfl rfl (wM 1 rfl ?_)))
  obtain rfl := sI h
  have h := hg33; clear hg33
  refine wM 1 rfl (wl_alloc tt_ok rfl rfl (fun b7 => (lSt Upd.here ?_)))
  refine wNT (wSR (wM 2 rfl (wNT (wc_seq (wc_k2 (Ls := (⟨b7, [.bool ((IntKind.wrap .u8 (p0.Cool - (min p0.Cool (1 : Int)))) == (0 : Int))], 4, (0, 0)⟩ :: (⟨b4, [.int .i32 0, .int .i32 0, .int .i32 0, .int .i32 0, .int .u8 0, .int .u8 0, .int .u8 0], 58, (0, 0)⟩ :: (⟨b2, [.int .i32 p0.X, .int .i32 p0.Y, .int .i32 p0.VX, .int .i32 p0.VY, .int .u8 p0.Health, .int .u8 (IntKind.wrap .u8 (p0.Cool - (min p0.Cool (1 : Int)))), .int .u8 v25], 58, (0, 0)⟩ :: [])))) [4, 9, 11, 12, 13] [11, 12, 13] [0, 0, 2, 0, 15, 0, 0, 64, 0, 511, 223, 2047, 4095, 8191] [0, 1, 2, 3, 5, 6, 7, 8, 4, 10, 9, 11, 12, 13] (by kernel_rfl) (by kernel_rfl) (by kernel_rfl) ?_)))))
  refine kM pI 2 rfl (k_val (v := .int .i32 p0.VX) rfl rfl rfl pI (val_load tt_ok rfl (mTT mH) rfl) rfl (kM pI 3 rfl (k_val (v := .int .i32 p0.VY) rfl rfl rfl pI (val_load tt_ok rfl (mTT mH) rfl) rfl (kM pI 1 rfl ?_))))
  obtain ⟨v39, x39, h⟩ := bsome h
  refine k_cq rfl rfl rfl Tryz.call114 rfl rfl rfl (q_rd (k_step_steer_1 (p2t := 4) x39) pP (fun _ _ => trivial)) rfl pI ?_
  refine kM pI 1 rfl ?_
  obtain ⟨v44, x44, h⟩ := bsome h
  refine k_cq rfl rfl rfl Tryz.call114 rfl rfl rfl (q_rd (k_step_steer_1 (p2t := 4) x44) pP (fun _ _ => trivial)) rfl pI ?_
  refine k_chg0 rfl rfl rfl (chg_store tt_ok rfl (Upd.there (Upd.there Upd.here)) rfl rfl rfl rfl rfl rfl) (.inl rfl) ?_
  rintro _ _ rfl
  refine k_chg rfl rfl rfl (Chg.of_val (v := .pointer (some ⟨b2, 3, none⟩)) (sV rfl)) rfl (.inl rfl) ?_
  rintro _ _ ⟨rfl, rfl⟩
  refine k_chg0 rfl rfl rfl (chg_store tt_ok rfl (Upd.there (Upd.there Upd.here)) rfl rfl rfl rfl rfl rfl) (.inl rfl) ?_
  rintro _ _ rfl
  refine k_end (by kernel_rfl) ?_
  refine wx_then (wc_seq (wSR (wLd rfl mH rfl rfl (wNT ?_))))
  obtain ⟨za, h, hj18⟩ := bsome h
  refine wc_join2 (fun E L => E = [(2, .pointer (some ⟨b2, 0, none⟩)), (4, .pointer (some ⟨b4, 0, none⟩))] ∧ L = (⟨b2, (pl7 za []), 58, (0, 0)⟩ :: (⟨b4, [.int .i32 0, .int .i32 0, .int .i32 0, .int .i32 0, .int .u8 0, .int .u8 0, .int .u8 0], 58, (0, 0)⟩ :: []))) ?_ ?_
  ·refine wcc h rfl ?_ ?_ <;> clear h <;> intro h
   ·refine wc_region (wM 1 rfl (lSt (Upd.there (Upd.there Upd.here)) ?_))
    refine wl_nil ?_
    obtain rfl := sI h
    exact wx_join ⟨rfl, rfl⟩ (ag2 rfl rfl) pI
   refine wc_skip ?_
   obtain rfl := sI h
   exact wx_join ⟨rfl, rfl⟩ (ag2 rfl rfl) pI
  rintro _ _ ⟨rfl, rfl⟩
  have h := hj18; clear hj18
  refine wSR (wLd (v := agP za) rfl mH rfl rfl (lSt (Upd.there Upd.here) ?_))
  refine wNT (wc_ret ?_)
  obtain rfl := sI h
  exact wx_pf tt_ok (.inl rfl) Tryz.results90 (Res.cell rfl (mT mH) rfl Res.nil) rfl
 refine wM 3 rfl ?_
 obtain rfl := sI h
 have h := hg33; clear hg33
 refine wM 1 rfl (wl_alloc tt_ok rfl rfl (fun b7 => (lSt Upd.here ?_)))
 refine wNT (wSR (wM 2 rfl (wNT (wc_seq (wc_k2 (Ls := (⟨b7, [.bool false], 4, (0, 0)⟩ :: (⟨b4, [.int .i32 0, .int .i32 0, .int .i32 0, .int .i32 0, .int .u8 0, .int .u8 0, .int .u8 0], 58, (0, 0)⟩ :: (⟨b2, [.int .i32 p0.X, .int .i32 p0.Y, .int .i32 p0.VX, .int .i32 p0.VY, .int .u8 p0.Health, .int .u8 (IntKind.wrap .u8 (p0.Cool - (min p0.Cool (1 : Int)))), .int .u8 v25], 58, (0, 0)⟩ :: [])))) [4, 9, 11, 12, 13] [11, 12, 13] [0, 0, 2, 0, 15, 0, 0, 64, 0, 511, 223, 2047, 4095, 8191] [0, 1, 2, 3, 5, 6, 7, 8, 4, 10, 9, 11, 12, 13] (by kernel_rfl) (by kernel_rfl) (by kernel_rfl) (kM pI 2 rfl ?_))))))
 refine k_val (v := .int .i32 p0.VX) rfl rfl rfl pI (val_load tt_ok rfl (mTT mH) rfl) rfl (kM pI 3 rfl (k_val (v := .int .i32 p0.VY) rfl rfl rfl pI (val_load tt_ok rfl (mTT mH) rfl) rfl (kM pI 1 rfl ?_)))
 obtain ⟨v39, x39, h⟩ := bsome h
 refine k_cq rfl rfl rfl Tryz.call114 rfl rfl rfl (q_rd (k_step_steer_1 (p2t := 4) x39) pP (fun _ _ => trivial)) rfl pI ?_
 refine kM pI 1 rfl ?_
 obtain ⟨v44, x44, h⟩ := bsome h
 refine k_cq rfl rfl rfl Tryz.call114 rfl rfl rfl (q_rd (k_step_steer_1 (p2t := 4) x44) pP (fun _ _ => trivial)) rfl pI ?_
 refine k_chg0 rfl rfl rfl (chg_store tt_ok rfl (Upd.there (Upd.there Upd.here)) rfl rfl rfl rfl rfl rfl) (.inl rfl) ?_
 rintro _ _ rfl
 refine k_chg rfl rfl rfl (Chg.of_val (v := .pointer (some ⟨b2, 3, none⟩)) (sV rfl)) rfl (.inl rfl) ?_
 rintro _ _ ⟨rfl, rfl⟩
 refine k_chg0 rfl rfl rfl (chg_store tt_ok rfl (Upd.there (Upd.there Upd.here)) rfl rfl rfl rfl rfl rfl) (.inl rfl) ?_
 rintro _ _ rfl
 refine k_end (by kernel_rfl) ?_
 refine wx_then (wc_seq (wSR (wLd rfl mH rfl rfl (wNT ?_))))
 obtain ⟨za, h, hj18⟩ := bsome h
 refine wc_join2 (fun E L => E = [(2, .pointer (some ⟨b2, 0, none⟩)), (4, .pointer (some ⟨b4, 0, none⟩))] ∧ L = (⟨b2, (pl7 za []), 58, (0, 0)⟩ :: (⟨b4, [.int .i32 0, .int .i32 0, .int .i32 0, .int .i32 0, .int .u8 0, .int .u8 0, .int .u8 0], 58, (0, 0)⟩ :: []))) ?_ ?_
 ·replace h := cf rfl h
  refine wc_cond_false rfl ?_
  refine wc_skip ?_
  obtain rfl := sI h
  exact wx_join ⟨rfl, rfl⟩ (ag2 rfl rfl) pI
 rintro _ _ ⟨rfl, rfl⟩
 have h := hj18; clear hj18
 refine wSR (wLd (v := agP za) rfl mH rfl rfl (lSt (Upd.there Upd.here) ?_))
 refine wNT (wc_ret ?_)
 obtain rfl := sI h
 exact wx_pf tt_ok (.inl rfl) Tryz.results90 (Res.cell rfl (mT mH) rfl Res.nil) rfl

theorem k_input_Fire {p0 : Int} {r0 : Bool} (h : m_input_Fire F p0 = some r0) :
    Pf Tryz.prog 91 [.int .u8 p0] (fun w => True) (.bool r0) := by
 unfold m_input_Fire at h
 refine pf_of_wc Tryz.func91 rfl Tryz.ntmps91 rfl rfl (fun w0 hR => ?_)
 refine wSR (wM 1 rfl (wNT (wSR (wM 4 rfl (wNT (wc_ret ?_))))))
 obtain rfl := sI h
 exact pE Tryz.results91 rfl

theorem k_step_shoot {p0 : T_api_Player} {p1 : Int} {r0 : T_api_Shot} (h : m_step_shoot F p0 p1 = some r0) :
    Pf Tryz.prog 92 [agP p0, .int .u8 p1] (fun w => True) (.agg #[.int .i32 r0.X, .int .i32 r0.Y, .int .i32 r0.VX, .int .i32 r0.VY, .int .u8 r0.Owner, .int .u8 r0.Life]) := by
 unfold m_step_shoot at h
 refine pf_of_wc Tryz.func92 rfl Tryz.ntmps92 rfl rfl (fun w0 hR => ?_)
 refine wSR (wl_box rfl rfl rfl (fun b2 => (wl_alloc tt_ok rfl rfl (fun b4 => (wNT (wSR (wM 1 rfl (wLd rfl (mT mH) rfl rfl (wM 2 rfl (wLd rfl (mT mH) rfl rfl (wM 3 rfl (wl_alloc tt_ok rfl rfl (fun b5 => (lSt Upd.here ?_))))))))))))))
 refine wNT (wc_seq (wSR (wM 1 rfl (wLd rfl (mTT mH) rfl rfl (wNT ?_)))))
 obtain ⟨za, h, hj8⟩ := bsome h
 refine wc_join2 (fun E L => E = [(4, .pointer (some ⟨b4, 0, none⟩)), (5, .pointer (some ⟨b5, 0, none⟩))] ∧ L = (⟨b4, [.int .i32 0, .int .i32 0, .int .i32 0, .int .i32 0, .int .u8 0, .int .u8 0], 119, (0, 0)⟩ :: (⟨b5, [.int .i32 za.X, .int .i32 za.Y, .int .i32 za.VX, .int .i32 za.VY, .int .u8 za.Owner, .int .u8 za.Life], 119, (0, 0)⟩ :: []))) ?_ ?_
 ·refine wc_block (wSR ?_)
  refine wM 2 rfl (wNT (wcc h rfl ?_ ?_)) <;> clear h <;> intro h
  ·refine wc_region (wM 1 rfl (lSt Upd.here ?_))
   refine wl_nil (wx_block ?_)
   obtain rfl := sI h
   exact wx_join ⟨rfl, rfl⟩ (ag2 rfl rfl) pI
  refine wSR (wM 2 rfl (wNT (wcc h rfl ?_ ?_))) <;> clear h <;> intro h
  ·refine wc_region (wM 1 rfl (lSt Upd.here ?_))
   refine wl_nil (wx_block ?_)
   obtain rfl := sI h
   exact wx_join ⟨rfl, rfl⟩ (ag2 rfl rfl) pI
  refine wSR (wM 2 rfl (wNT (wcc h rfl ?_ ?_))) <;> clear h <;> intro h
  ·refine wc_region (wM 1 rfl (lSt Upd.here ?_))
   refine wl_nil (wx_block ?_)
   obtain rfl := sI h
   exact wx_join ⟨rfl, rfl⟩ (ag2 rfl rfl) pI
  refine wc_region (wM 1 rfl (lSt Upd.here ?_))
  refine wl_nil (wx_block ?_)
  obtain rfl := sI h
  exact wx_join ⟨rfl, rfl⟩ (ag2 rfl rfl) pI
 rintro _ _ ⟨rfl, rfl⟩
 have h := hj8; clear hj8
 refine wSR (wLd (v := .agg #[.int .i32 za.X, .int .i32 za.Y, .int .i32 za.VX, .int .i32 za.VY, .int .u8 za.Owner, .int .u8 za.Life]) rfl (mT mH) rfl rfl (lSt Upd.here ?_))
 refine wNT (wc_ret ?_)
 obtain rfl := sI h
 exact wx_pf tt_ok (.inl rfl) Tryz.results92 (Res.cell rfl mH rfl Res.nil) rfl

theorem k_geom_Move {p0 : Int} {p1 : Int} {p2 : Int} {p3 : Int} {r0 : Int} {r1 : Int} (h : m_geom_Move F p0 p1 p2 p3 = some (r0, r1)) :
    Pf Tryz.prog 115 [.int .i32 p0, .int .i32 p1, .int .i32 p2, .int .i32 p3] (fun w => True) (.tuple #[.int .i32 r0, .int .i32 r1]) := by
 unfold m_geom_Move at h
 refine pf_of_wc Tryz.func115 rfl Tryz.ntmps115 rfl rfl (fun w0 hR => ?_)
 refine wSR (wM 2 rfl (wNT (wSR (wM 6 rfl (wNT (wc_seq (wSR (wM 4 rfl ?_))))))))
 obtain ⟨v24, h, hg24⟩ := bsome h
 refine wls 19 h rfl ?_ ?_ <;> clear h <;> intro h
 ·refine wM 4 rfl ?_
  obtain rfl := sI h
  have h := hg24; clear hg24
  refine wM 1 rfl (wNT ?_)
  replace h := ct rfl h
  refine wc_cond_true rfl ?_
  refine wSR (wM 3 rfl (wNT (wc_ret (wx_then_ret ?_))))
  obtain ⟨rfl, rfl⟩ := pJ2 h
  exact wx_pf tt_ok (.inl rfl) Tryz.results115 (rs2 rfl rfl) rfl
 refine wM 4 rfl ?_
 obtain rfl := sI h
 have h := hg24; clear hg24
 refine wM 1 rfl (wNT (wcc h rfl ?_ ?_)) <;> clear h <;> intro h
 ·refine wSR (wM 3 rfl (wNT (wc_ret (wx_then_ret ?_))))
  obtain ⟨rfl, rfl⟩ := pJ2 h
  exact wx_pf tt_ok (.inl rfl) Tryz.results115 (rs2 rfl rfl) rfl
 refine wc_skip (wx_then (wc_seq (wSR (wM 4 rfl (wNT (wcc h rfl ?_ ?_)))))) <;> clear h <;> intro h
 ·refine wSR (wM 3 rfl (wNT (wc_ret (wx_then_ret ?_))))
  obtain ⟨rfl, rfl⟩ := pJ2 h
  exact wx_pf tt_ok (.inl rfl) Tryz.results115 (rs2 rfl rfl) rfl
 refine wc_skip (wx_then (wSR (wM 5 rfl (wNT (wc_ret ?_)))))
 obtain ⟨rfl, rfl⟩ := pJ2 h
 exact wx_pf tt_ok (.inl rfl) Tryz.results115 (rs2 rfl rfl) rfl

theorem k_step_moved {p0 : T_api_Player} {r0 : T_api_Player} (h : m_step_moved F p0 = some r0) :
    Pf Tryz.prog 93 [agP p0] (fun w => True) (agP r0) := by
 unfold m_step_moved at h
 refine pf_of_wc Tryz.func93 rfl Tryz.ntmps93 rfl rfl (fun w0 hR => ?_)
 refine wSR (wl_box rfl rfl rfl (fun b1 => (wl_alloc tt_ok rfl rfl (fun b2 => (wNT (wSR (wM 1 rfl (wLd rfl (mT mH) rfl rfl (wM 1 rfl (wLd rfl (mT mH) rfl rfl ?_))))))))))
 replace h := bsome h; obtain ⟨⟨zc, zd⟩, x8, h⟩ := h; try dsimp only at h
 refine wl_cq Tryz.call115 rfl rfl rfl (q_pf (k_geom_Move x8) (fun _ _ => trivial)) rfl ?_
 refine wM 4 rfl (lSt (Upd.there Upd.here) ?_)
 refine wM 1 rfl (lSt (Upd.there Upd.here) ?_)
 refine wNT (wSR (wM 1 rfl (wLd rfl (mT mH) rfl rfl (wM 1 rfl (wLd rfl (mT mH) rfl rfl ?_)))))
 replace h := bsome h; obtain ⟨⟨za, zb⟩, x18, h⟩ := h; try dsimp only at h
 refine wl_cq Tryz.call115 rfl rfl rfl (q_pf (k_geom_Move x18) (fun _ _ => trivial)) rfl ?_
 refine wM 4 rfl (lSt (Upd.there Upd.here) ?_)
 refine wM 1 rfl (lSt (Upd.there Upd.here) ?_)
 refine wNT (wSR (wLd (v := .agg #[.int .i32 zc, .int .i32 za, .int .i32 zd, .int .i32 zb, .int .u8 p0.Health, .int .u8 p0.Cool, .int .u8 p0.Face]) rfl (mT mH) rfl rfl (lSt Upd.here ?_)))
 refine wNT (wc_ret ?_)
 obtain rfl := sI h
 exact wx_pf tt_ok (.inl rfl) Tryz.results93 (Res.cell rfl mH rfl Res.nil) rfl

theorem k_step_box {p0 : T_api_Player} {r0 : T_api_Box} (h : m_step_box F p0 = some r0) :
    Pf Tryz.prog 95 [agP p0] (fun w => True) (.agg #[.int .i32 r0.X, .int .i32 r0.Y, .int .i32 r0.W, .int .i32 r0.H]) := by
 unfold m_step_box at h
 refine pf_of_wc Tryz.func95 rfl Tryz.ntmps95 rfl rfl (fun w0 hR => ?_)
 refine wSR (wl_box rfl rfl rfl (fun b1 => (wl_alloc tt_ok rfl rfl (fun b2 => (wNT (wSR (wM 1 rfl (wLd rfl (mT mH) rfl rfl (wM 1 rfl (wLd rfl (mT mH) rfl rfl (wM 1 rfl (lSt Upd.here ?_))))))))))))
 refine wNT (wc_ret ?_)
 obtain rfl := sI h
 exact wx_pf tt_ok (.inl rfl) Tryz.results95 (Res.cell rfl mH rfl Res.nil) rfl

theorem k_geom_of {p0 : Int} {p1 : Int} {r0 : T_geom_row} (h : m_geom_of F p0 p1 = some r0) :
    Pf Tryz.prog 139 [.int .i32 p0, .int .i32 p1] (fun w => True) (.agg #[.int .i64 r0.from_, .int .i64 r0.to_]) := by
 unfold m_geom_of at h
 refine pf_of_wc Tryz.func139 rfl Tryz.ntmps139 rfl rfl (fun w0 hR => ?_)
 refine wSR (wl_alloc tt_ok rfl rfl (fun b4 => (wNT (wSR (wM 9 rfl (lSt Upd.here ?_))))))
 refine wNT (wc_ret ?_)
 obtain rfl := sI h
 exact wx_pf tt_ok (.inl rfl) Tryz.results139 (Res.cell rfl mH rfl Res.nil) rfl

theorem k_geom_rows {p0 : T_api_Box} {r0 : T_geom_row} {r1 : T_geom_row} (h : m_geom_rows F p0 = some (r0, r1)) :
    Pf Tryz.prog 131 [.agg #[.int .i32 p0.X, .int .i32 p0.Y, .int .i32 p0.W, .int .i32 p0.H]] (fun w => True) (.tuple #[.agg #[.int .i64 r0.from_, .int .i64 r0.to_], .agg #[.int .i64 r1.from_, .int .i64 r1.to_]]) := by
 unfold m_geom_rows at h
 refine pf_of_wc Tryz.func131 rfl Tryz.ntmps131 rfl rfl (fun w0 hR => ?_)
 refine wSR (wl_box rfl rfl rfl (fun b1 => (wl_alloc tt_ok rfl rfl (fun b2 => (wl_alloc tt_ok rfl rfl (fun b3 => (wNT (wc_seq (wc_k2 (Ls := (⟨b3, [.int .i64 0, .int .i64 0], 168, (0, 0)⟩ :: (⟨b2, [.int .i64 0, .int .i64 0], 168, (0, 0)⟩ :: (⟨b1, [.int .i32 p0.X, .int .i32 p0.Y, .int .i32 p0.W, .int .i32 p0.H], 149, (0, 0)⟩ :: [])))) [4, 9, 10, 11] [9, 10, 11] [0, 1, 0, 4, 15, 0, 32, 0, 128, 511, 1023, 2047] [0, 1, 2, 3, 5, 6, 7, 8, 4, 9, 10, 11] (by kernel_rfl) (by kernel_rfl) (by kernel_rfl) (kM pI 1 rfl (k_val (v := .int .i32 p0.X) rfl rfl rfl pI (val_load tt_ok rfl (mTT mH) rfl) rfl ?_)))))))))))
 refine kM pI 1 rfl (k_val (v := .int .i32 p0.W) rfl rfl rfl pI (val_load tt_ok rfl (mTT mH) rfl) rfl (kM pI 1 rfl (k_val (v := .int .i32 p0.Y) rfl rfl rfl pI (val_load tt_ok rfl (mTT mH) rfl) rfl (kM pI 1 rfl (k_val (v := .int .i32 p0.H) rfl rfl rfl pI (val_load tt_ok rfl (mTT mH) rfl) rfl ?_)))))
 obtain ⟨v8, x8, h⟩ := bsome h
 refine k_cq rfl rfl rfl Tryz.call139 rfl rfl rfl (q_pf (k_geom_of x8) (fun _ _ => trivial)) rfl pI ?_
 obtain ⟨v13, x13, h⟩ := bsome h
 refine k_cq rfl rfl rfl Tryz.call139 rfl rfl rfl (q_pf (k_geom_of x13) (fun _ _ => trivial)) rfl pI ?_
 refine k_chg0 rfl rfl rfl (chg_store tt_ok rfl (Upd.there Upd.here) rfl rfl rfl rfl rfl rfl) (.inl rfl) ?_
 rintro _ _ rfl
 refine k_chg0 rfl rfl rfl (chg_store tt_ok rfl Upd.here rfl rfl rfl rfl rfl rfl) (.inl rfl) ?_
 rintro _ _ rfl
 refine k_end (by kernel_rfl) ?_
 refine wx_then (wc_ret ?_)
 obtain ⟨rfl, rfl⟩ := pJ2 h
 exact wx_pf tt_ok (.inl rfl) Tryz.results131 (Res.cell rfl (mT mH) rfl (Res.cell rfl mH rfl Res.nil)) rfl

theorem k_geom_row_over {p0 : T_geom_row} {p1 : T_geom_row} {r0 : Bool} (h : m_geom_row_over F p0 p1 = some r0) :
    Pf Tryz.prog 117 [.agg #[.int .i64 p0.from_, .int .i64 p0.to_], .agg #[.int .i64 p1.from_, .int .i64 p1.to_]] (fun w => True) (.bool r0) := by
 unfold m_geom_row_over at h
 refine pf_of_wc Tryz.func117 rfl Tryz.ntmps117 rfl rfl (fun w0 hR => ?_)
 refine wSR (wl_box rfl rfl rfl (fun b2 => (wl_box rfl rfl rfl (fun b3 => (wM 1 rfl (wNT (wSR (wM 1 rfl (wLd rfl (mT mH) rfl rfl (wM 1 rfl (wLd rfl mH rfl rfl (wM 2 rfl (wLd rfl (mT mH) rfl rfl (wM 1 rfl (wLd rfl mH rfl rfl (wM 3 rfl (wNT (wc_ret ?_))))))))))))))))))
 obtain rfl := sI h
 exact pE Tryz.results117 rfl

theorem k_geom_both_f2_geom_row_over {p0 : T_api_Box} {p1 : T_api_Box} {r0 : Bool} (h : m_geom_both_f2_geom_row_over F p0 p1 = some r0) :
    Pf Tryz.prog 116 [.agg #[.int .i32 p0.X, .int .i32 p0.Y, .int .i32 p0.W, .int .i32 p0.H], .agg #[.int .i32 p1.X, .int .i32 p1.Y, .int .i32 p1.W, .int .i32 p1.H], .func (.func 117) #[] #[]] (fun w => True) (.bool r0) := by
 unfold m_geom_both_f2_geom_row_over at h
 refine pf_of_wc Tryz.func116 rfl Tryz.ntmps116 rfl rfl (fun w0 hR => ?_)
 refine wSR (wl_box rfl rfl rfl (fun b3 => (wl_box rfl rfl rfl (fun b4 => (wM 1 rfl (wNT (wSR (wLd (v := .agg #[.int .i32 p0.X, .int .i32 p0.Y, .int .i32 p0.W, .int .i32 p0.H]) rfl (mT mH) rfl rfl ?_))))))))
 replace h := bsome h; obtain ⟨⟨za, zb⟩, x13, h⟩ := h; try dsimp only at h
 refine wl_cq Tryz.call131 rfl rfl rfl (q_pf (k_geom_rows x13) (fun _ _ => trivial)) rfl ?_
 refine wM 3 rfl (wl_alloc tt_ok rfl rfl (fun b7 => (wl_alloc tt_ok rfl rfl (fun b8 => (lSt (Upd.there Upd.here) ?_)))))
 refine lSt Upd.here ?_
 refine wNT (wSR (wLd (v := .agg #[.int .i32 p1.X, .int .i32 p1.Y, .int .i32 p1.W, .int .i32 p1.H]) rfl (mTT mH) rfl rfl ?_))
 replace h := bsome h; obtain ⟨⟨zc, zd⟩, x18, h⟩ := h; try dsimp only at h
 refine wl_cq Tryz.call131 rfl rfl rfl (q_pf (k_geom_rows x18) (fun _ _ => trivial)) rfl ?_
 refine wM 3 rfl (wl_alloc tt_ok rfl rfl (fun b9 => (wl_alloc tt_ok rfl rfl (fun b10 => (lSt (Upd.there Upd.here) ?_)))))
 refine lSt Upd.here ?_
 refine wNT (wSR (wM 1 rfl (wLd (v := .agg #[.int .i64 za.from_, .int .i64 za.to_]) rfl (mTT (mT mH)) rfl rfl (wLd (v := .agg #[.int .i64 zc.from_, .int .i64 zc.to_]) rfl (mT mH) rfl rfl ?_))))
 obtain ⟨v24, x24, h⟩ := bsome h
 refine wl_cq Tryz.call117 rfl rfl rfl (q_pf (k_geom_row_over x24) (fun _ _ => trivial)) rfl ?_
 refine wM 1 rfl ?_
 obtain ⟨v30, h, hg30⟩ := bsome h
 refine wls 25 h rfl ?_ ?_ <;> clear h <;> intro h
 ·refine wM 1 rfl (wl_run rfl (wLd (v := .agg #[.int .i64 zb.from_, .int .i64 zb.to_]) rfl (mTT mH) rfl rfl (wl_run rfl (wLd (v := .agg #[.int .i64 zd.from_, .int .i64 zd.to_]) rfl mH rfl rfl ?_))))
  obtain ⟨v29, x29, h⟩ := bsome h
  refine wl_run rfl (wl_cq Tryz.call117 rfl rfl rfl (q_pf (k_geom_row_over x29) (fun _ _ => trivial)) rfl ?_)
  obtain rfl := sI h
  have h := hg30; clear hg30
  refine wM 2 rfl (wNT (wc_ret ?_))
  obtain rfl := sI h
  exact pE Tryz.results116 rfl
 refine wM 4 rfl ?_
 obtain rfl := sI h
 have h := hg30; clear hg30
 refine wM 2 rfl (wNT (wc_ret ?_))
 obtain rfl := sI h
 exact pE Tryz.results116 rfl

theorem k_geom_Over {p0 : T_api_Box} {p1 : T_api_Box} {r0 : Bool} (h : m_geom_Over F p0 p1 = some r0) :
    Pf Tryz.prog 94 [.agg #[.int .i32 p0.X, .int .i32 p0.Y, .int .i32 p0.W, .int .i32 p0.H], .agg #[.int .i32 p1.X, .int .i32 p1.Y, .int .i32 p1.W, .int .i32 p1.H]] (fun w => True) (.bool r0) := by
 unfold m_geom_Over at h
 refine pf_of_wc Tryz.func94 rfl Tryz.ntmps94 rfl rfl (fun w0 hR => ?_)
 refine wSR (wl_box rfl rfl rfl (fun b2 => (wl_box rfl rfl rfl (fun b3 => (wM 1 rfl (wNT (wSR (wLd (v := .agg #[.int .i32 p0.X, .int .i32 p0.Y, .int .i32 p0.W, .int .i32 p0.H]) rfl (mT mH) rfl rfl (wLd (v := .agg #[.int .i32 p1.X, .int .i32 p1.Y, .int .i32 p1.W, .int .i32 p1.H]) rfl mH rfl rfl ?_)))))))))
 obtain ⟨v7, x7, h⟩ := bsome h
 refine wl_cq Tryz.call116 rfl rfl rfl (q_pf (k_geom_both_f2_geom_row_over x7) (fun _ _ => trivial)) rfl ?_
 refine wM 1 rfl (wNT (wc_ret ?_))
 obtain rfl := sI h
 exact pE Tryz.results94 rfl

theorem k_step_stopped {p0 : T_api_Player} {r0 : T_api_Player} (h : m_step_stopped F p0 = some r0) :
    Pf Tryz.prog 96 [agP p0] (fun w => True) (agP r0) := by
 unfold m_step_stopped at h
 refine pf_of_wc Tryz.func96 rfl Tryz.ntmps96 rfl rfl (fun w0 hR => ?_)
 refine wSR (wl_box rfl rfl rfl (fun b1 => (wl_alloc tt_ok rfl rfl (fun b2 => (wNT (wSR (wM 1 rfl (lSt (Upd.there Upd.here) ?_))))))))
 refine wM 1 rfl (lSt (Upd.there Upd.here) ?_)
 refine wNT (wSR (wLd (v := .agg #[.int .i32 p0.X, .int .i32 p0.Y, .int .i32 0, .int .i32 0, .int .u8 p0.Health, .int .u8 p0.Cool, .int .u8 p0.Face]) rfl (mT mH) rfl rfl (lSt Upd.here ?_)))
 refine wNT (wc_ret ?_)
 obtain rfl := sI h
 exact wx_pf tt_ok (.inl rfl) Tryz.results96 (Res.cell rfl mH rfl Res.nil) rfl

theorem k_geom_row_inside {p0 : T_geom_row} {p1 : T_geom_row} {r0 : Bool} (h : m_geom_row_inside F p0 p1 = some r0) :
    Pf Tryz.prog 132 [.agg #[.int .i64 p0.from_, .int .i64 p0.to_], .agg #[.int .i64 p1.from_, .int .i64 p1.to_]] (fun w => True) (.bool r0) := by
 unfold m_geom_row_inside at h
 refine pf_of_wc Tryz.func132 rfl Tryz.ntmps132 rfl rfl (fun w0 hR => ?_)
 refine wSR (wl_box rfl rfl rfl (fun b2 => (wl_box rfl rfl rfl (fun b3 => (wM 1 rfl (wNT (wSR (wM 1 rfl (wLd rfl (mT mH) rfl rfl (wM 1 rfl (wLd rfl (mT mH) rfl rfl (wM 2 rfl ?_))))))))))))
 obtain ⟨v16, h, hg16⟩ := bsome h
 refine wls 10 h rfl ?_ ?_ <;> clear h <;> intro h
 ·refine wM 1 rfl (wl_run rfl (wLd rfl (mT mH) rfl rfl (wM 1 rfl (wl_run rfl (wLd rfl mH rfl rfl (wM 1 rfl ?_))))))
  obtain rfl := sI h
  have h := hg16; clear hg16
  refine wM 2 rfl ?_
  obtain ⟨v23, h, hg23⟩ := bsome h
  refine wls 17 h rfl ?_ ?_ <;> clear h <;> intro h
  ·refine wM 1 rfl (wl_run rfl (wLd rfl (mT mH) rfl rfl (wM 1 rfl (wl_run rfl (wLd rfl mH rfl rfl (wM 1 rfl ?_))))))
   obtain rfl := sI h
   have h := hg23; clear hg23
   refine wM 2 rfl (wNT (wc_ret ?_))
   obtain rfl := sI h
   exact pE Tryz.results132 rfl
  refine wM 5 rfl ?_
  obtain rfl := sI h
  have h := hg23; clear hg23
  refine wM 2 rfl (wNT (wc_ret ?_))
  obtain rfl := sI h
  exact pE Tryz.results132 rfl
 refine wM 5 rfl ?_
 obtain rfl := sI h
 have h := hg16; clear hg16
 refine wM 2 rfl ?_
 obtain ⟨v23, h, hg23⟩ := bsome h
 replace h := cf rfl h
 refine wM 5 rfl ?_
 obtain rfl := sI h
 have h := hg23; clear hg23
 refine wM 2 rfl (wNT (wc_ret ?_))
 obtain rfl := sI h
 exact pE Tryz.results132 rfl

theorem k_geom_both_f2_geom_row_inside {p0 : T_api_Box} {p1 : T_api_Box} {r0 : Bool} (h : m_geom_both_f2_geom_row_inside F p0 p1 = some r0) :
    Pf Tryz.prog 116 [.agg #[.int .i32 p0.X, .int .i32 p0.Y, .int .i32 p0.W, .int .i32 p0.H], .agg #[.int .i32 p1.X, .int .i32 p1.Y, .int .i32 p1.W, .int .i32 p1.H], .func (.func 132) #[] #[]] (fun w => True) (.bool r0) := by
 unfold m_geom_both_f2_geom_row_inside at h
 refine pf_of_wc Tryz.func116 rfl Tryz.ntmps116 rfl rfl (fun w0 hR => ?_)
 refine wSR (wl_box rfl rfl rfl (fun b3 => (wl_box rfl rfl rfl (fun b4 => (wM 1 rfl (wNT (wSR (wLd (v := .agg #[.int .i32 p0.X, .int .i32 p0.Y, .int .i32 p0.W, .int .i32 p0.H]) rfl (mT mH) rfl rfl ?_))))))))
 replace h := bsome h; obtain ⟨⟨za, zb⟩, x13, h⟩ := h; try dsimp only at h
 refine wl_cq Tryz.call131 rfl rfl rfl (q_pf (k_geom_rows x13) (fun _ _ => trivial)) rfl ?_
 refine wM 3 rfl (wl_alloc tt_ok rfl rfl (fun b7 => (wl_alloc tt_ok rfl rfl (fun b8 => (lSt (Upd.there Upd.here) ?_)))))
 refine lSt Upd.here ?_
 refine wNT (wSR (wLd (v := .agg #[.int .i32 p1.X, .int .i32 p1.Y, .int .i32 p1.W, .int .i32 p1.H]) rfl (mTT mH) rfl rfl ?_))
 replace h := bsome h; obtain ⟨⟨zc, zd⟩, x18, h⟩ := h; try dsimp only at h
 refine wl_cq Tryz.call131 rfl rfl rfl (q_pf (k_geom_rows x18) (fun _ _ => trivial)) rfl ?_
 refine wM 3 rfl (wl_alloc tt_ok rfl rfl (fun b9 => (wl_alloc tt_ok rfl rfl (fun b10 => (lSt (Upd.there Upd.here) ?_)))))
 refine lSt Upd.here ?_
 refine wNT (wSR (wM 1 rfl (wLd (v := .agg #[.int .i64 za.from_, .int .i64 za.to_]) rfl (mTT (mT mH)) rfl rfl (wLd (v := .agg #[.int .i64 zc.from_, .int .i64 zc.to_]) rfl (mT mH) rfl rfl ?_))))
 obtain ⟨v24, x24, h⟩ := bsome h
 refine wl_cq Tryz.call132 rfl rfl rfl (q_pf (k_geom_row_inside x24) (fun _ _ => trivial)) rfl ?_
 refine wM 1 rfl ?_
 obtain ⟨v30, h, hg30⟩ := bsome h
 refine wls 25 h rfl ?_ ?_ <;> clear h <;> intro h
 ·refine wM 1 rfl (wl_run rfl (wLd (v := .agg #[.int .i64 zb.from_, .int .i64 zb.to_]) rfl (mTT mH) rfl rfl (wl_run rfl (wLd (v := .agg #[.int .i64 zd.from_, .int .i64 zd.to_]) rfl mH rfl rfl ?_))))
  obtain ⟨v29, x29, h⟩ := bsome h
  refine wl_run rfl (wl_cq Tryz.call132 rfl rfl rfl (q_pf (k_geom_row_inside x29) (fun _ _ => trivial)) rfl ?_)
  obtain rfl := sI h
  have h := hg30; clear hg30
  refine wM 2 rfl (wNT (wc_ret ?_))
  obtain rfl := sI h
  exact pE Tryz.results116 rfl
 refine wM 4 rfl ?_
 obtain rfl := sI h
 have h := hg30; clear hg30
 refine wM 2 rfl (wNT (wc_ret ?_))
 obtain rfl := sI h
 exact pE Tryz.results116 rfl

theorem k_geom_Inside {p0 : T_api_Box} {p1 : T_api_Box} {r0 : Bool} (h : m_geom_Inside F p0 p1 = some r0) :
    Pf Tryz.prog 118 [.agg #[.int .i32 p0.X, .int .i32 p0.Y, .int .i32 p0.W, .int .i32 p0.H], .agg #[.int .i32 p1.X, .int .i32 p1.Y, .int .i32 p1.W, .int .i32 p1.H]] (fun w => True) (.bool r0) := by
 unfold m_geom_Inside at h
 refine pf_of_wc Tryz.func118 rfl Tryz.ntmps118 rfl rfl (fun w0 hR => ?_)
 refine wSR (wl_box rfl rfl rfl (fun b2 => (wl_box rfl rfl rfl (fun b3 => (wM 1 rfl (wNT (wSR (wLd (v := .agg #[.int .i32 p0.X, .int .i32 p0.Y, .int .i32 p0.W, .int .i32 p0.H]) rfl (mT mH) rfl rfl (wLd (v := .agg #[.int .i32 p1.X, .int .i32 p1.Y, .int .i32 p1.W, .int .i32 p1.H]) rfl mH rfl rfl ?_)))))))))
 obtain ⟨v7, x7, h⟩ := bsome h
 refine wl_cq Tryz.call116 rfl rfl rfl (q_pf (k_geom_both_f2_geom_row_inside x7) (fun _ _ => trivial)) rfl ?_
 refine wM 1 rfl (wNT (wc_ret ?_))
 obtain rfl := sI h
 exact pE Tryz.results118 rfl

theorem k_step_fly {p0 : T_api_State} {r0 : T_api_State} (p0N0 : p0n0 = p0.Shots.length) (p0V0 : Own 119 6 p0a0 p0n0 p0c0 (flat c_T_api_Shot p0.Shots) p0B0) (h : m_step_fly F p0 = some r0) :
    SpD Tryz.prog 97 [.pointer (some ⟨p0b, 0, none⟩)] (⟨p0b, (st19 p0 p0a0 p0n0 p0c0 []), p0t, (0, 0)⟩ :: (p0B0 ++ [])) (fun w => True) (fun v D => ∃ r0a0 r0n0 r0c0 r0B0, r0n0 = r0.Shots.length ∧ Own 119 6 r0a0 r0n0 r0c0 (flat c_T_api_Shot r0.Shots) r0B0 ∧ v = .tuple #[] ∧ D = fun F => (⟨p0b, (st19 r0 r0a0 r0n0 r0c0 []), p0t, (0, 0)⟩ :: (r0B0 ++ F))) := by
 unfold m_step_fly at h
 refine sp_of_wc Tryz.func97 rfl Tryz.ntmps97 rfl rfl (fun w0 hR => ?_)
 refine wSR (wM 1 rfl (wl_alloc tt_ok rfl rfl (fun b2 => (lSt Upd.here ?_))))
 refine wNT (wSR (wM 1 rfl (wNT (wc_seq (wSR (wM 3 rfl (wLd rfl (mT mH) rfl rfl (wl_val (v := .int .i64 (p0.Shots.length : Int)) (val_len tt_ok rfl rfl p0N0) rfl (wM 1 rfl (wNT (wc_block ?_)))))))))))
 replace h := bsome h; obtain ⟨⟨zm, zk, zl⟩, h, hl9⟩ := h; try dsimp only at hl9
 refine wc_loop (fun m E L => ∃ zb zh za zc zf ze zg zd, m_step_fly_L8 F p0 m zb zh za zc = some (zm, zk, zl) ∧ ze = zb.length ∧ Own 119 6 zf ze zg (flat c_T_api_Shot zb) zd ∧ E = [(0, .pointer (some ⟨p0b, 0, none⟩)), (2, .pointer (some ⟨b2, 0, none⟩)), (3, .slice zf ze zg), (12, .slice p0a0 p0n0 p0c0), (13, .int .i64 (p0.Shots.length : Int)), (14, .int .i64 zh)] ∧ L = (⟨p0b, (.int .u64 p0.Frame :: .int .u64 p0.Seed :: pl14 za [.slice p0a0 p0n0 p0c0, .int .u16 zc.1, .int .u16 zc.2]), p0t, (0, 0)⟩ :: (⟨b2, [.int .i32 0, .int .i32 0, .int .i32 65536, .int .i32 32768], 149, (0, 0)⟩ :: (p0B0 ++ (zd ++ []))))) F ⟨([] : List T_api_Shot), (0 : Int), p0.Players, p0.Score, none, 0, 0, [], h, rfl, Own.zero, rfl, rfl⟩ (ag6 rfl rfl rfl rfl rfl rfl) pI ?_
 clear h
 rintro m9 _ _ ⟨zb, zh, za, zc, zf, ze, zg, zd, h, zi, zj, rfl, rfl⟩
 rcases m9 with _ | m9
 ·rw [m_step_fly_L8.eq_1] at h; cases h
 rw [m_step_fly_L8.eq_2] at h
 refine wSR (wM 1 rfl (wNT (wc_seq (wcc h rfl ?_ ?_)))) <;> clear h <;> intro h
 ·refine wc_skip (wx_then (wc_seq (wc_block (wSR ?_))))
  obtain ⟨v16, x16, h⟩ := bsome h
  refine wl_val (v := .pointer (some ((adOf p0a0).add (zh.toNat * 6 + 0)))) (val_ix (enc := c_T_api_Shot) tt_ok rfl rfl rfl rfl p0N0 (Rds.of_vec p0V0) c_T_api_Shot_len rfl x16) rfl ?_
  refine wl_val (v := .agg #[.int .i32 v16.X, .int .i32 v16.Y, .int .i32 v16.VX, .int .i32 v16.VY, .int .u8 v16.Owner, .int .u8 v16.Life]) (val_le (enc := c_T_api_Shot) (xs := p0.Shots) tt_ok rfl (Rds.of_vec p0V0) ⟨_, (sCC hA')⟩ c_T_api_Shot_len x16 rfl) rfl ?_
  refine wl_alloc tt_ok rfl rfl (fun b5 => ?_)
  refine lSt Upd.here ?_
  refine wNT (wSR (wM 1 rfl (wLd rfl mH rfl rfl (wM 1 rfl (wLd rfl mH rfl rfl (wM 2 rfl (wLd rfl mH rfl rfl (wM 1 rfl (wLd rfl mH rfl rfl (wM 2 rfl (lSt Upd.here ?_)))))))))))
  refine wM 1 rfl (lSt Upd.here ?_)
  refine wNT (wSR (wM 1 rfl (wLd rfl mH rfl rfl (wM 2 rfl (lSt Upd.here ?_)))))
  refine wNT (wSR (wM 1 rfl (wLd rfl mH rfl rfl (wM 1 rfl (wLd rfl mH rfl rfl (wM 1 rfl (wl_alloc tt_ok rfl rfl (fun b6 => (lSt Upd.here ?_)))))))))
  refine wNT (wc_seq (wc_quiet (by kernel_rfl) (by kernel_rfl) (qM 2 rfl (qLd rfl (mT mH) rfl rfl (qM 3 rfl ?_)))))
  rcases Bool.eq_false_or_eq_true ((IntKind.wrap .u8 ((1 : Int) - v16.Owner)) == (0 : Int)) with hx450 | hx450
  ·replace h := ct hx450 h
   refine wq_val (v := .pointer (some ⟨p0b, 2, none⟩)) (val_ia (j := 0) tt_ok rfl rfl rfl rfl (by simpa using hx450) rfl rfl) rfl ?_
   refine qM 1 rfl (wq_nil (wx_then (wc_block (wSR (wLd (v := .agg #[.int .i32 (IntKind.wrap .i32 (v16.X + v16.VX)), .int .i32 (IntKind.wrap .i32 (v16.Y + v16.VY)), .int .i32 512, .int .i32 512]) rfl mH rfl rfl (wLd (v := .agg #[.int .i32 0, .int .i32 0, .int .i32 65536, .int .i32 32768]) rfl (mTT (mT mH)) rfl rfl ?_))))))
   obtain ⟨v49, x49, h⟩ := bsome h
   refine wl_cq Tryz.call118 rfl rfl rfl (q_pf (k_geom_Inside x49) (fun _ _ => trivial)) rfl ?_
   refine wM 2 rfl (wNT (wcc h rfl ?_ ?_)) <;> clear h <;> intro h
   ·refine wc_skip (wx_block (wx_block (wx_then (wc_region (wM 2 rfl (wl_nil ?_))))))
    exact wx_round m9 (Nat.lt_succ_self m9) ⟨zb, (IntKind.wrap .i64 (zh + (1 : Int))), za, zc, zf, ze, zg, zd, h, zi, zj, rfl, rfl⟩ (ag6 rfl rfl rfl rfl rfl rfl) pI
   refine wc_seq (wc_quiet (by kernel_rfl) (by kernel_rfl) (qLd (v := .agg #[.int .i32 (IntKind.wrap .i32 (v16.X + v16.VX)), .int .i32 (IntKind.wrap .i32 (v16.Y + v16.VY)), .int .i32 512, .int .i32 512]) rfl mH rfl rfl (qM 2 rfl (qLd (v := agP za.1) rfl (mTT mH) rfl rfl ?_))))
   obtain ⟨v56, x56, h⟩ := bsome h
   refine wq_cq Tryz.call95 rfl rfl rfl (q_pf (k_step_box x56) (fun _ _ => trivial)) rfl ?_
   obtain ⟨v57, x57, h⟩ := bsome h
   refine wq_cq Tryz.call94 rfl rfl rfl (q_pf (k_geom_Over x57) (fun _ _ => trivial)) rfl ?_
   refine qM 1 rfl (wq_nil (wx_then (wcc h rfl ?_ ?_))) <;> clear h <;> intro h
   ·refine wc_seq (wc_k2 (Ls := (⟨b6, [.int .i32 (IntKind.wrap .i32 (v16.X + v16.VX)), .int .i32 (IntKind.wrap .i32 (v16.Y + v16.VY)), .int .i32 512, .int .i32 512], 149, (0, 0)⟩ :: (⟨b5, [.int .i32 (IntKind.wrap .i32 (v16.X + v16.VX)), .int .i32 (IntKind.wrap .i32 (v16.Y + v16.VY)), .int .i32 v16.VX, .int .i32 v16.VY, .int .u8 v16.Owner, .int .u8 (IntKind.wrap .u8 (v16.Life - (1 : Int)))], 119, (0, 0)⟩ :: (⟨p0b, (.int .u64 p0.Frame :: .int .u64 p0.Seed :: pl14 za [.slice p0a0 p0n0 p0c0, .int .u16 zc.1, .int .u16 zc.2]), p0t, (0, 0)⟩ :: (⟨b2, [.int .i32 0, .int .i32 0, .int .i32 65536, .int .i32 32768], 149, (0, 0)⟩ :: (p0B0 ++ (zd ++ []))))))) [12] [12] [0, 1, 3, 7, 0, 16, 48, 112, 240, 511, 1023, 2047, 4095] [0, 1, 2, 3, 4, 5, 6, 7, 8, 9, 10, 11, 12] (by kernel_rfl) (by kernel_rfl) (by kernel_rfl) ?_)
    refine kM pI 3 rfl (k_val (v := .int .u8 za.1.Health) rfl rfl rfl pI (val_load tt_ok rfl (mTT mH) rfl) rfl (kM pI 3 rfl (k_val (v := .int .u8 za.1.Health) rfl rfl rfl pI (val_load tt_ok rfl (mTT mH) rfl) rfl ?_)))
    refine kM pI 4 rfl (k_chg0 rfl rfl rfl (chg_store tt_ok rfl (Upd.there (Upd.there Upd.here)) rfl rfl rfl rfl rfl rfl) (.inl rfl) ?_)
    rintro _ _ rfl
    refine k_end (by kernel_rfl) ?_
    refine wx_then (wc_k2 (Ls := (⟨b6, [.int .i32 (IntKind.wrap .i32 (v16.X + v16.VX)), .int .i32 (IntKind.wrap .i32 (v16.Y + v16.VY)), .int .i32 512, .int .i32 512], 149, (0, 0)⟩ :: (⟨b5, [.int .i32 (IntKind.wrap .i32 (v16.X + v16.VX)), .int .i32 (IntKind.wrap .i32 (v16.Y + v16.VY)), .int .i32 v16.VX, .int .i32 v16.VY, .int .u8 v16.Owner, .int .u8 (IntKind.wrap .u8 (v16.Life - (1 : Int)))], 119, (0, 0)⟩ :: (⟨p0b, (.int .u64 p0.Frame :: .int .u64 p0.Seed :: .int .i32 za.1.X :: .int .i32 za.1.Y :: .int .i32 za.1.VX :: .int .i32 za.1.VY :: .int .u8 (IntKind.wrap .u8 (za.1.Health - (min za.1.Health (10 : Int)))) :: .int .u8 za.1.Cool :: .int .u8 za.1.Face :: pl7 za.2 [.slice p0a0 p0n0 p0c0, .int .u16 zc.1, .int .u16 zc.2]), p0t, (0, 0)⟩ :: (⟨b2, [.int .i32 0, .int .i32 0, .int .i32 65536, .int .i32 32768], 149, (0, 0)⟩ :: (p0B0 ++ (zd ++ []))))))) [15] [15] [0, 0, 2, 0, 0, 16, 8, 72, 248, 504, 1016, 2040, 1, 4097, 16383, 32767] [0, 1, 2, 3, 4, 5, 6, 7, 8, 9, 10, 11, 12, 13, 14, 15] (by kernel_rfl) (by kernel_rfl) (by kernel_rfl) ?_)
    refine kM pI 2 rfl (k_val (v := .int .u8 v16.Owner) rfl rfl rfl pI (val_load tt_ok rfl (mT mH) rfl) rfl (kM pI 2 rfl (k_val (v := .int .u8 v16.Owner) rfl rfl rfl pI (val_load tt_ok rfl (mT mH) rfl) rfl (kM pI 2 rfl ?_))))
    rcases Bool.eq_false_or_eq_true (v16.Owner == (0 : Int)) with hx780 | hx780
    ·replace h := ct hx780 h
     refine k_val (v := .pointer (some ⟨p0b, 17, none⟩)) rfl rfl rfl pI (val_ia (j := 0) tt_ok rfl rfl rfl rfl (by simpa using hx780) rfl rfl) rfl (k_val (v := .int .u16 zc.1) rfl rfl rfl pI (val_load tt_ok rfl (mTT mH) rfl) rfl (kM pI 4 rfl (k_val (v := .pointer (some ⟨p0b, 17, none⟩)) rfl rfl rfl pI (val_ia (j := 0) tt_ok rfl rfl rfl rfl (by simpa using hx780) rfl rfl) rfl ?_)))
     refine k_chg0 rfl rfl rfl (chg_store tt_ok rfl (Upd.there (Upd.there Upd.here)) rfl rfl rfl rfl rfl rfl) (.inl rfl) ?_
     rintro _ _ rfl
     refine k_end (by kernel_rfl) ?_
     refine wx_block (wx_block (wx_then (wc_region (wM 2 rfl (wl_nil ?_)))))
     exact wx_round m9 (Nat.lt_succ_self m9) ⟨zb, (IntKind.wrap .i64 (zh + (1 : Int))), ((T_api_Player.mk za.1.X za.1.Y za.1.VX za.1.VY (IntKind.wrap .u8 (za.1.Health - (min za.1.Health (10 : Int)))) za.1.Cool za.1.Face), za.2), ((IntKind.wrap .u16 ((min zc.1 (65534 : Int)) + (1 : Int))), zc.2), zf, ze, zg, zd, h, zi, zj, rfl, rfl⟩ (ag6 rfl rfl rfl rfl rfl rfl) pI
    replace h := cf hx780 h
    rcases Bool.eq_false_or_eq_true (v16.Owner == (1 : Int)) with hx781 | hx781
    ·replace h := ct hx781 h
     refine k_val (v := .pointer (some ⟨p0b, 18, none⟩)) rfl rfl rfl pI (val_ia (j := 1) tt_ok rfl rfl rfl rfl (by simpa using hx781) rfl rfl) rfl (k_val (v := .int .u16 zc.2) rfl rfl rfl pI (val_load tt_ok rfl (mTT mH) rfl) rfl (kM pI 4 rfl (k_val (v := .pointer (some ⟨p0b, 18, none⟩)) rfl rfl rfl pI (val_ia (j := 1) tt_ok rfl rfl rfl rfl (by simpa using hx781) rfl rfl) rfl ?_)))
     refine k_chg0 rfl rfl rfl (chg_store tt_ok rfl (Upd.there (Upd.there Upd.here)) rfl rfl rfl rfl rfl rfl) (.inl rfl) ?_
     rintro _ _ rfl
     refine k_end (by kernel_rfl) ?_
     refine wx_block (wx_block (wx_then (wc_region (wM 2 rfl (wl_nil ?_)))))
     exact wx_round m9 (Nat.lt_succ_self m9) ⟨zb, (IntKind.wrap .i64 (zh + (1 : Int))), ((T_api_Player.mk za.1.X za.1.Y za.1.VX za.1.VY (IntKind.wrap .u8 (za.1.Health - (min za.1.Health (10 : Int)))) za.1.Cool za.1.Face), za.2), (zc.1, (IntKind.wrap .u16 ((min zc.2 (65534 : Int)) + (1 : Int)))), zf, ze, zg, zd, h, zi, zj, rfl, rfl⟩ (ag6 rfl rfl rfl rfl rfl rfl) pI
    replace h := cf hx781 h
    cases h
   refine wSR (wM 1 rfl (wLd rfl (mT mH) rfl rfl (wM 2 rfl (wNT (wcc h rfl ?_ ?_))))) <;> clear h <;> intro h
   ·refine wc_region (wM 1 rfl (wLd (v := .agg #[.int .i32 (IntKind.wrap .i32 (v16.X + v16.VX)), .int .i32 (IntKind.wrap .i32 (v16.Y + v16.VY)), .int .i32 v16.VX, .int .i32 v16.VY, .int .u8 v16.Owner, .int .u8 (IntKind.wrap .u8 (v16.Life - (1 : Int)))]) rfl (mT mH) rfl rfl (wl_chg (chg_bsv (enc := c_T_api_Shot) (xs := ([(T_api_Shot.mk (IntKind.wrap .i32 (v16.X + v16.VX)) (IntKind.wrap .i32 (v16.Y + v16.VY)) v16.VX v16.VY v16.Owner (IntKind.wrap .u8 (v16.Life - (1 : Int))))] : List T_api_Shot)) tt_ok rfl rfl rfl rfl rfl rfl rfl rfl c_T_api_Shot_len) rfl ?_)))
    rintro _ _ ⟨a91, n91_, c91, B91, rfl, N91, V91, rfl⟩
    obtain ⟨v92, x92, h⟩ := bsome h
    refine wl_chg (chg_app (enc := c_T_api_Shot) (ys := ([(T_api_Shot.mk (IntKind.wrap .i32 (v16.X + v16.VX)) (IntKind.wrap .i32 (v16.Y + v16.VY)) v16.VX v16.VY v16.Owner (IntKind.wrap .u8 (v16.Life - (1 : Int))))] : List T_api_Shot)) tt_ok rfl rfl rfl rfl rfl rfl zi N91 zj (sA (sCC (sCC (sA hA')))) (Rds.of_vec V91) ⟨_, hA'⟩ c_T_api_Shot_len (fun _ => rfl) rfl x92) rfl ?_
    rintro _ _ ⟨a92, n92_, c92, B92, rfl, N92, V92, rfl⟩
    refine wM 1 rfl (wl_nil (wx_block (wx_block (wx_then (wc_region (wM 2 rfl (wl_nil ?_)))))))
    exact wx_round m9 (Nat.lt_succ_self m9) ⟨v92, (IntKind.wrap .i64 (zh + (1 : Int))), za, zc, a92, n92_, c92, B92, h, N92, V92, rfl, rfl⟩ (ag6 rfl rfl rfl rfl rfl rfl) pI
   refine wc_skip (wx_block (wx_block (wx_then (wc_region (wM 2 rfl (wl_nil ?_))))))
   exact wx_round m9 (Nat.lt_succ_self m9) ⟨zb, (IntKind.wrap .i64 (zh + (1 : Int))), za, zc, zf, ze, zg, zd, h, zi, zj, rfl, rfl⟩ (ag6 rfl rfl rfl rfl rfl rfl) pI
  replace h := cf hx450 h
  rcases Bool.eq_false_or_eq_true ((IntKind.wrap .u8 ((1 : Int) - v16.Owner)) == (1 : Int)) with hx451 | hx451
  ·replace h := ct hx451 h
   refine wq_val (v := .pointer (some ⟨p0b, 9, none⟩)) (val_ia (j := 1) tt_ok rfl rfl rfl rfl (by simpa using hx451) rfl rfl) rfl ?_
   refine qM 1 rfl (wq_nil (wx_then (wc_block (wSR (wLd (v := .agg #[.int .i32 (IntKind.wrap .i32 (v16.X + v16.VX)), .int .i32 (IntKind.wrap .i32 (v16.Y + v16.VY)), .int .i32 512, .int .i32 512]) rfl mH rfl rfl (wLd (v := .agg #[.int .i32 0, .int .i32 0, .int .i32 65536, .int .i32 32768]) rfl (mTT (mT mH)) rfl rfl ?_))))))
   obtain ⟨v49, x49, h⟩ := bsome h
   refine wl_cq Tryz.call118 rfl rfl rfl (q_pf (k_geom_Inside x49) (fun _ _ => trivial)) rfl ?_
   refine wM 2 rfl (wNT (wcc h rfl ?_ ?_)) <;> clear h <;> intro h
   ·refine wc_skip (wx_block (wx_block (wx_then (wc_region (wM 2 rfl (wl_nil ?_))))))
    exact wx_round m9 (Nat.lt_succ_self m9) ⟨zb, (IntKind.wrap .i64 (zh + (1 : Int))), za, zc, zf, ze, zg, zd, h, zi, zj, rfl, rfl⟩ (ag6 rfl rfl rfl rfl rfl rfl) pI
   refine wc_seq (wc_quiet (by kernel_rfl) (by kernel_rfl) (qLd (v := .agg #[.int .i32 (IntKind.wrap .i32 (v16.X + v16.VX)), .int .i32 (IntKind.wrap .i32 (v16.Y + v16.VY)), .int .i32 512, .int .i32 512]) rfl mH rfl rfl (qM 2 rfl (qLd (v := agP za.2) rfl (mTT mH) rfl rfl ?_))))
   obtain ⟨v56, x56, h⟩ := bsome h
   refine wq_cq Tryz.call95 rfl rfl rfl (q_pf (k_step_box x56) (fun _ _ => trivial)) rfl ?_
   obtain ⟨v57, x57, h⟩ := bsome h
   refine wq_cq Tryz.call94 rfl rfl rfl (q_pf (k_geom_Over x57) (fun _ _ => trivial)) rfl ?_
   refine qM 1 rfl (wq_nil (wx_then (wcc h rfl ?_ ?_))) <;> clear h <;> intro h
   ·refine wc_seq (wc_k2 (Ls := (⟨b6, [.int .i32 (IntKind.wrap .i32 (v16.X + v16.VX)), .int .i32 (IntKind.wrap .i32 (v16.Y + v16.VY)), .int .i32 512, .int .i32 512], 149, (0, 0)⟩ :: (⟨b5, [.int .i32 (IntKind.wrap .i32 (v16.X + v16.VX)), .int .i32 (IntKind.wrap .i32 (v16.Y + v16.VY)), .int .i32 v16.VX, .int .i32 v16.VY, .int .u8 v16.Owner, .int .u8 (IntKind.wrap .u8 (v16.Life - (1 : Int)))], 119, (0, 0)⟩ :: (⟨p0b, (.int .u64 p0.Frame :: .int .u64 p0.Seed :: pl14 za [.slice p0a0 p0n0 p0c0, .int .u16 zc.1, .int .u16 zc.2]), p0t, (0, 0)⟩ :: (⟨b2, [.int .i32 0, .int .i32 0, .int .i32 65536, .int .i32 32768], 149, (0, 0)⟩ :: (p0B0 ++ (zd ++ []))))))) [12] [12] [0, 1, 3, 7, 0, 16, 48, 112, 240, 511, 1023, 2047, 4095] [0, 1, 2, 3, 4, 5, 6, 7, 8, 9, 10, 11, 12] (by kernel_rfl) (by kernel_rfl) (by kernel_rfl) ?_)
    refine kM pI 3 rfl (k_val (v := .int .u8 za.2.Health) rfl rfl rfl pI (val_load tt_ok rfl (mTT mH) rfl) rfl (kM pI 3 rfl (k_val (v := .int .u8 za.2.Health) rfl rfl rfl pI (val_load tt_ok rfl (mTT mH) rfl) rfl ?_)))
    refine kM pI 4 rfl (k_chg0 rfl rfl rfl (chg_store tt_ok rfl (Upd.there (Upd.there Upd.here)) rfl rfl rfl rfl rfl rfl) (.inl rfl) ?_)
    rintro _ _ rfl
    refine k_end (by kernel_rfl) ?_
    refine wx_then (wc_k2 (Ls := (⟨b6, [.int .i32 (IntKind.wrap .i32 (v16.X + v16.VX)), .int .i32 (IntKind.wrap .i32 (v16.Y + v16.VY)), .int .i32 512, .int .i32 512], 149, (0, 0)⟩ :: (⟨b5, [.int .i32 (IntKind.wrap .i32 (v16.X + v16.VX)), .int .i32 (IntKind.wrap .i32 (v16.Y + v16.VY)), .int .i32 v16.VX, .int .i32 v16.VY, .int .u8 v16.Owner, .int .u8 (IntKind.wrap .u8 (v16.Life - (1 : Int)))], 119, (0, 0)⟩ :: (⟨p0b, (.int .u64 p0.Frame :: .int .u64 p0.Seed :: pl7 za.1 [.int .i32 za.2.X, .int .i32 za.2.Y, .int .i32 za.2.VX, .int .i32 za.2.VY, .int .u8 (IntKind.wrap .u8 (za.2.Health - (min za.2.Health (10 : Int)))), .int .u8 za.2.Cool, .int .u8 za.2.Face, .slice p0a0 p0n0 p0c0, .int .u16 zc.1, .int .u16 zc.2]), p0t, (0, 0)⟩ :: (⟨b2, [.int .i32 0, .int .i32 0, .int .i32 65536, .int .i32 32768], 149, (0, 0)⟩ :: (p0B0 ++ (zd ++ []))))))) [15] [15] [0, 0, 2, 0, 0, 16, 8, 72, 248, 504, 1016, 2040, 1, 4097, 16383, 32767] [0, 1, 2, 3, 4, 5, 6, 7, 8, 9, 10, 11, 12, 13, 14, 15] (by kernel_rfl) (by kernel_rfl) (by kernel_rfl) ?_)
    refine kM pI 2 rfl (k_val (v := .int .u8 v16.Owner) rfl rfl rfl pI (val_load tt_ok rfl (mT mH) rfl) rfl (kM pI 2 rfl (k_val (v := .int .u8 v16.Owner) rfl rfl rfl pI (val_load tt_ok rfl (mT mH) rfl) rfl (kM pI 2 rfl ?_))))
    rcases Bool.eq_false_or_eq_true (v16.Owner == (0 : Int)) with hx780 | hx780
    ·replace h := ct hx780 h
     refine k_val (v := .pointer (some ⟨p0b, 17, none⟩)) rfl rfl rfl pI (val_ia (j := 0) tt_ok rfl rfl rfl rfl (by simpa using hx780) rfl rfl) rfl (k_val (v := .int .u16 zc.1) rfl rfl rfl pI (val_load tt_ok rfl (mTT mH) rfl) rfl (kM pI 4 rfl (k_val (v := .pointer (some ⟨p0b, 17, none⟩)) rfl rfl rfl pI (val_ia (j := 0) tt_ok rfl rfl rfl rfl (by simpa using hx780) rfl rfl) rfl ?_)))
     refine k_chg0 rfl rfl rfl (chg_store tt_ok rfl (Upd.there (Upd.there Upd.here)) rfl rfl rfl rfl rfl rfl) (.inl rfl) ?_
     rintro _ _ rfl
     refine k_end (by kernel_rfl) ?_
     refine wx_block (wx_block (wx_then (wc_region (wM 2 rfl (wl_nil ?_)))))
     exact wx_round m9 (Nat.lt_succ_self m9) ⟨zb, (IntKind.wrap .i64 (zh + (1 : Int))), (za.1, (T_api_Player.mk za.2.X za.2.Y za.2.VX za.2.VY (IntKind.wrap .u8 (za.2.Health - (min za.2.Health (10 : Int)))) za.2.Cool za.2.Face)), ((IntKind.wrap .u16 ((min zc.1 (65534 : Int)) + (1 : Int))), zc.2), zf, ze, zg, zd, h, zi, zj, rfl, rfl⟩ (ag6 rfl rfl rfl rfl rfl rfl) pI
    replace h := cf hx780 h
    rcases Bool.eq_false_or_eq_true (v16.Owner == (1 : Int)) with hx781 | hx781
    ·replace h := ct hx781 h
     refine k_val (v := .pointer (some ⟨p0b, 18, none⟩)) rfl rfl rfl pI (val_ia (j := 1) tt_ok rfl rfl rfl rfl (by simpa using hx781) rfl rfl) rfl (k_val (v := .int .u16 zc.2) rfl rfl rfl pI (val_load tt_ok rfl (mTT mH) rfl) rfl (kM pI 4 rfl (k_val (v := .pointer (some ⟨p0b, 18, none⟩)) rfl rfl rfl pI (val_ia (j := 1) tt_ok rfl rfl rfl rfl (by simpa using hx781) rfl rfl) rfl ?_)))
     refine k_chg0 rfl rfl rfl (chg_store tt_ok rfl (Upd.there (Upd.there Upd.here)) rfl rfl rfl rfl rfl rfl) (.inl rfl) ?_
     rintro _ _ rfl
     refine k_end (by kernel_rfl) ?_
     refine wx_block (wx_block (wx_then (wc_region (wM 2 rfl (wl_nil ?_)))))
     exact wx_round m9 (Nat.lt_succ_self m9) ⟨zb, (IntKind.wrap .i64 (zh + (1 : Int))), (za.1, (T_api_Player.mk za.2.X za.2.Y za.2.VX za.2.VY (IntKind.wrap .u8 (za.2.Health - (min za.2.Health (10 : Int)))) za.2.Cool za.2.Face)), (zc.1, (IntKind.wrap .u16 ((min zc.2 (65534 : Int)) + (1 : Int)))), zf, ze, zg, zd, h, zi, zj, rfl, rfl⟩ (ag6 rfl rfl rfl rfl rfl rfl) pI
    replace h := cf hx781 h
    cases h
   refine wSR (wM 1 rfl (wLd rfl (mT mH) rfl rfl (wM 2 rfl (wNT (wcc h rfl ?_ ?_))))) <;> clear h <;> intro h
   ·refine wc_region (wM 1 rfl (wLd (v := .agg #[.int .i32 (IntKind.wrap .i32 (v16.X + v16.VX)), .int .i32 (IntKind.wrap .i32 (v16.Y + v16.VY)), .int .i32 v16.VX, .int .i32 v16.VY, .int .u8 v16.Owner, .int .u8 (IntKind.wrap .u8 (v16.Life - (1 : Int)))]) rfl (mT mH) rfl rfl (wl_chg (chg_bsv (enc := c_T_api_Shot) (xs := ([(T_api_Shot.mk (IntKind.wrap .i32 (v16.X + v16.VX)) (IntKind.wrap .i32 (v16.Y + v16.VY)) v16.VX v16.VY v16.Owner (IntKind.wrap .u8 (v16.Life - (1 : Int))))] : List T_api_Shot)) tt_ok rfl rfl rfl rfl rfl rfl rfl rfl c_T_api_Shot_len) rfl ?_)))
    rintro _ _ ⟨a91, n91_, c91, B91, rfl, N91, V91, rfl⟩
    obtain ⟨v92, x92, h⟩ := bsome h
    refine wl_chg (chg_app (enc := c_T_api_Shot) (ys := ([(T_api_Shot.mk (IntKind.wrap .i32 (v16.X + v16.VX)) (IntKind.wrap .i32 (v16.Y + v16.VY)) v16.VX v16.VY v16.Owner (IntKind.wrap .u8 (v16.Life - (1 : Int))))] : List T_api_Shot)) tt_ok rfl rfl rfl rfl rfl rfl zi N91 zj (sA (sCC (sCC (sA hA')))) (Rds.of_vec V91) ⟨_, hA'⟩ c_T_api_Shot_len (fun _ => rfl) rfl x92) rfl ?_
    rintro _ _ ⟨a92, n92_, c92, B92, rfl, N92, V92, rfl⟩
    refine wM 1 rfl (wl_nil (wx_block (wx_block (wx_then (wc_region (wM 2 rfl (wl_nil ?_)))))))
    exact wx_round m9 (Nat.lt_succ_self m9) ⟨v92, (IntKind.wrap .i64 (zh + (1 : Int))), za, zc, a92, n92_, c92, B92, h, N92, V92, rfl, rfl⟩ (ag6 rfl rfl rfl rfl rfl rfl) pI
   refine wc_skip (wx_block (wx_block (wx_then (wc_region (wM 2 rfl (wl_nil ?_))))))
   exact wx_round m9 (Nat.lt_succ_self m9) ⟨zb, (IntKind.wrap .i64 (zh + (1 : Int))), za, zc, zf, ze, zg, zd, h, zi, zj, rfl, rfl⟩ (ag6 rfl rfl rfl rfl rfl rfl) pI
  replace h := cf hx451 h
  cases h
 refine wc_exit (wx_then_exit ?_)
 obtain ⟨rfl, rfl, rfl⟩ := pJ3 h
 have h := hl9; clear hl9; try dsimp only [orE_l, orE_r] at h
 refine wx_then_exit (wx_block_exit (wx_then (wc_region ?_)))
 refine wM 4 rfl (lSt Upd.here ?_)
 refine wl_nil ?_
 obtain rfl := sI h
 exact wx_spD tt_ok (.inr rfl) Tryz.results97 Res.nil ⟨zf, ze, zg, zd, zi, zj, rfl, rfl⟩ (fun F => by simp) pI

theorem k_rng_Source_Skip {p0 : T_rng_Source} {p1 : Int} {r0 : T_rng_Source} (h : m_rng_Source_Skip F p0 p1 = some r0) :
    Pf Tryz.prog 140 [.agg #[.int .u64 p0.S], .int .u64 p1] (fun w => True) (.agg #[.int .u64 r0.S]) := by
 unfold m_rng_Source_Skip at h
 refine pf_of_wc Tryz.func140 rfl Tryz.ntmps140 rfl rfl (fun w0 hR => ?_)
 refine wSR (wl_box rfl rfl rfl (fun b2 => (wl_alloc tt_ok rfl rfl (fun b4 => (wNT (wSR (wM 1 rfl (wLd rfl (mT mH) rfl rfl (wM 4 rfl (lSt Upd.here ?_))))))))))
 refine wNT (wc_ret ?_)
 obtain rfl := sI h
 exact wx_pf tt_ok (.inl rfl) Tryz.results140 (Res.cell rfl mH rfl Res.nil) rfl

theorem k_rng_Mix {p0 : Int} {r0 : Int} (h : m_rng_Mix F p0 = some r0) :
    Pf Tryz.prog 141 [.int .u64 p0] (fun w => True) (.int .u64 r0) := by
 unfold m_rng_Mix at h
 refine pf_of_wc Tryz.func141 rfl Tryz.ntmps141 rfl rfl (fun w0 hR => ?_)
 refine wSR (wM 1 rfl (wNT (wSR (wM 6 rfl (wNT (wSR (wM 6 rfl (wNT (wSR (wM 5 rfl (wNT (wc_ret ?_))))))))))))
 obtain rfl := sI h
 exact pE Tryz.results141 rfl

theorem k_rng_Source_Next {p0 : T_rng_Source} {r0 : Int} {r1 : T_rng_Source} (h : m_rng_Source_Next F p0 = some (r0, r1)) :
    Pf Tryz.prog 133 [.agg #[.int .u64 p0.S]] (fun w => True) (.tuple #[.int .u64 r0, .agg #[.int .u64 r1.S]]) := by
 unfold m_rng_Source_Next at h
 refine pf_of_wc Tryz.func133 rfl Tryz.ntmps133 rfl rfl (fun w0 hR => ?_)
 refine wSR (wl_box rfl rfl rfl (fun b1 => (wM 1 rfl (wl_alloc tt_ok rfl rfl (fun b3 => (wNT (wSR (wLd (v := .agg #[.int .u64 p0.S]) rfl (mT mH) rfl rfl ?_))))))))
 obtain ⟨v5, x5, h⟩ := bsome h
 refine wl_cq Tryz.call140 rfl rfl rfl (q_pf (k_rng_Source_Skip x5) (fun _ _ => trivial)) rfl ?_
 refine lSt (Upd.there Upd.here) ?_
 refine wNT (wc_seq (wc_k2 (Ls := (⟨b3, [.int .u64 0], 170, (0, 0)⟩ :: (⟨b1, [.int .u64 v5.S], 170, (0, 0)⟩ :: []))) [2, 4, 5] [5] [0, 1, 3, 0, 7, 31] [0, 1, 3, 2, 4, 5] (by kernel_rfl) (by kernel_rfl) (by kernel_rfl) (kM pI 1 rfl (k_val (v := .int .u64 v5.S) rfl rfl rfl pI (val_load tt_ok rfl (mT mH) rfl) rfl (k_val (v := .agg #[.int .u64 v5.S]) rfl rfl rfl pI (val_load tt_ok rfl (mT mH) rfl) rfl ?_)))))
 obtain ⟨v8, x8, h⟩ := bsome h
 refine k_cq rfl rfl rfl Tryz.call141 rfl rfl rfl (q_pf (k_rng_Mix x8) (fun _ _ => trivial)) rfl pI ?_
 refine k_chg rfl rfl rfl (Chg.of_val (sV rfl)) rfl (.inr (by rintro _ _ ⟨rfl, rfl⟩; exact pI)) ?_
 rintro _ _ ⟨rfl, rfl⟩
 refine k_chg0 rfl rfl rfl (chg_store tt_ok rfl Upd.here rfl rfl rfl rfl rfl rfl) (.inl rfl) ?_
 rintro _ _ rfl
 refine k_end (by kernel_rfl) ?_
 refine wx_then (wc_ret ?_)
 obtain ⟨rfl, rfl⟩ := pJ2 h
 exact wx_pf tt_ok (.inl rfl) Tryz.results133 (Res.tmp rfl (Res.cell rfl mH rfl Res.nil)) rfl

theorem k_rng_Source_Below {p0 : T_rng_Source} {p1 : Int} {r0 : Int} {r1 : T_rng_Source} (h : m_rng_Source_Below F p0 p1 = some (r0, r1)) :
    Pf Tryz.prog 119 [.agg #[.int .u64 p0.S], .int .i64 p1] (fun w => True) (.tuple #[.int .i64 r0, .agg #[.int .u64 r1.S]]) := by
 unfold m_rng_Source_Below at h
 refine pf_of_wc Tryz.func119 rfl Tryz.ntmps119 rfl rfl (fun w0 hR => ?_)
 refine wSR (wl_box rfl rfl rfl (fun b2 => (wM 1 rfl (wl_alloc tt_ok rfl rfl (fun b5 => (wNT (wc_seq (wSR (wM 2 rfl (wNT (wcc h rfl ?_ ?_))))))))))) <;> clear h <;> intro h
 ·refine wc_seq (wc_k2 (Ls := (⟨b5, [.int .u64 0], 170, (0, 0)⟩ :: (⟨b2, [.int .u64 p0.S], 170, (0, 0)⟩ :: []))) [2] [2] [0, 0, 3] [0, 1, 2] (by kernel_rfl) (by kernel_rfl) (by kernel_rfl) (k_val (v := .agg #[.int .u64 p0.S]) rfl rfl rfl pI (val_load tt_ok rfl (mT mH) rfl) rfl (kM pI 1 rfl (k_chg0 rfl rfl rfl (chg_store tt_ok rfl Upd.here rfl rfl rfl rfl rfl rfl) (.inl rfl) ?_))))
  rintro _ _ rfl
  refine k_end (by kernel_rfl) ?_
  refine wx_then (wc_ret (wx_then_ret ?_))
  obtain ⟨rfl, rfl⟩ := pJ2 h
  exact wx_pf tt_ok (.inl rfl) Tryz.results119 (Res.tmp rfl (Res.cell rfl mH rfl Res.nil)) rfl
 refine wc_skip (wx_then (wSR (wLd (v := .agg #[.int .u64 p0.S]) rfl (mT mH) rfl rfl ?_)))
 replace h := bsome h; obtain ⟨⟨zb, za⟩, x13, h⟩ := h; try dsimp only at h
 refine wl_cq Tryz.call133 rfl rfl rfl (q_pf (k_rng_Source_Next x13) (fun _ _ => trivial)) rfl ?_
 refine wM 3 rfl (wl_alloc tt_ok rfl rfl (fun b7 => (wM 1 rfl (lSt Upd.here ?_))))
 refine wNT (wc_seq (wc_k2 (Ls := (⟨b7, [.int .u64 za.S], 170, (0, 0)⟩ :: (⟨b5, [.int .u64 0], 170, (0, 0)⟩ :: (⟨b2, [.int .u64 p0.S], 170, (0, 0)⟩ :: [])))) [10] [10] [0, 1, 0, 4, 12, 31, 63, 127, 0, 255, 1023] [0, 1, 2, 3, 4, 5, 6, 7, 8, 9, 10] (by kernel_rfl) (by kernel_rfl) (by kernel_rfl) (kM pI 8 rfl (k_val (v := .agg #[.int .u64 za.S]) rfl rfl rfl pI (val_load tt_ok rfl mH rfl) rfl (kM pI 1 rfl (k_chg0 rfl rfl rfl (chg_store tt_ok rfl (Upd.there Upd.here) rfl rfl rfl rfl rfl rfl) (.inl rfl) ?_))))))
 rintro _ _ rfl
 refine k_end (by kernel_rfl) ?_
 refine wx_then (wc_ret ?_)
 obtain ⟨rfl, rfl⟩ := pJ2 h
 exact wx_pf tt_ok (.inl rfl) Tryz.results119 (Res.tmp rfl (Res.cell rfl (mT mH) rfl Res.nil)) rfl

theorem k_step_revive {p0 : T_api_State} {p1 : Int} {r0 : T_api_State} (p0N0 : p0n0 = p0.Shots.length) (p0V0 : Own 119 6 p0a0 p0n0 p0c0 (flat c_T_api_Shot p0.Shots) p0B0) (h : m_step_revive F p0 p1 = some r0) :
    SpD Tryz.prog 98 [.pointer (some ⟨p0b, 0, none⟩), .int .i64 p1] (⟨p0b, (st19 p0 p0a0 p0n0 p0c0 []), p0t, (0, 0)⟩ :: (p0B0 ++ [])) (fun w => True) (fun v D => ∃ r0a0 r0n0 r0c0 r0B0, r0n0 = r0.Shots.length ∧ Own 119 6 r0a0 r0n0 r0c0 (flat c_T_api_Shot r0.Shots) r0B0 ∧ v = .tuple #[] ∧ D = fun F => (⟨p0b, (st19 r0 r0a0 r0n0 r0c0 []), p0t, (0, 0)⟩ :: (r0B0 ++ F))) := by
 unfold m_step_revive at h
 refine sp_of_wc Tryz.func98 rfl Tryz.ntmps98 rfl rfl (fun w0 hR => ?_)
 refine wSR (wM 4 rfl ?_)
 rcases Bool.eq_false_or_eq_true (p1 == (0 : Int)) with hx130 | hx130
 ·replace h := ct hx130 h
  refine wl_val (v := .pointer (some ⟨p0b, 2, none⟩)) (val_ia (j := 0) tt_ok rfl rfl rfl rfl (by simpa using hx130) rfl rfl) rfl ?_
  refine wLd (v := agP p0.Players.1) rfl mH rfl rfl ?_
  obtain ⟨v15, x15, h⟩ := bsome h
  refine wl_cq Tryz.call96 rfl rfl rfl (q_pf (k_step_stopped x15) (fun _ _ => trivial)) rfl ?_
  refine wl_alloc tt_ok rfl rfl (fun b4 => ?_)
  refine lSt Upd.here ?_
  refine wNT (wSR (wM 1 rfl (lSt Upd.here ?_)))
  refine wNT (wSR (wM 3 rfl (wLd rfl (mT mH) rfl rfl (wM 1 rfl (wl_alloc tt_ok rfl rfl (fun b5 => (lSt Upd.here ?_)))))))
  refine wNT (wSR (wLd (v := .agg #[.int .u64 p0.Seed]) rfl mH rfl rfl ?_))
  replace h := bsome h; obtain ⟨⟨zc, ze⟩, x24, h⟩ := h; try dsimp only at h
  refine wl_cq Tryz.call119 rfl rfl rfl (q_pf (k_rng_Source_Below x24) (fun _ _ => trivial)) rfl ?_
  refine wM 4 rfl (lSt Upd.here ?_)
  refine wNT (wSR (wLd (v := .agg #[.int .u64 ze.S]) rfl mH rfl rfl ?_))
  replace h := bsome h; obtain ⟨⟨zd, zb⟩, x29, h⟩ := h; try dsimp only at h
  refine wl_cq Tryz.call119 rfl rfl rfl (q_pf (k_rng_Source_Below x29) (fun _ _ => trivial)) rfl ?_
  refine wM 4 rfl (lSt Upd.here ?_)
  refine wNT (wSR (wM 2 rfl (wLd rfl mH rfl rfl (wM 2 rfl (lSt (Upd.there (Upd.there Upd.here)) ?_)))))
  refine wNT (wSR (wLd (v := .agg #[.int .i32 v15.X, .int .i32 v15.Y, .int .i32 v15.VX, .int .i32 v15.VY, .int .u8 100, .int .u8 v15.Cool, .int .u8 v15.Face]) rfl (mT mH) rfl rfl (wl_alloc tt_ok rfl rfl (fun b8 => (lSt Upd.here ?_)))))
  refine wNT (wSR (wM 5 rfl (lSt Upd.here ?_)))
  refine wM 1 rfl (lSt Upd.here ?_)
  refine wNT (wc_seq (wc_seq (wc_quiet (by kernel_rfl) (by kernel_rfl) (qLd (v := .agg #[.int .i32 (IntKind.wrap .i32 zc), .int .i32 (IntKind.wrap .i32 zd), .int .i32 v15.VX, .int .i32 v15.VY, .int .u8 100, .int .u8 v15.Cool, .int .u8 v15.Face]) rfl mH rfl rfl ?_))))
  obtain ⟨v45, x45, h⟩ := bsome h
  refine wq_cq Tryz.call95 rfl rfl rfl (q_pf (k_step_box x45) (fun _ _ => trivial)) rfl ?_
  refine qM 5 rfl ?_
  rcases Bool.eq_false_or_eq_true ((IntKind.wrap .i64 ((1 : Int) - p1)) == (0 : Int)) with hx510 | hx510
  ·replace h := ct hx510 h
   refine wq_val (v := .pointer (some ⟨p0b, 2, none⟩)) (val_ia (j := 0) tt_ok rfl rfl rfl rfl (by simpa using hx510) rfl rfl) rfl ?_
   refine qLd (v := agP p0.Players.1) rfl (mTT (mT mH)) rfl rfl ?_
   obtain ⟨v53, x53, h⟩ := bsome h
   refine wq_cq Tryz.call95 rfl rfl rfl (q_pf (k_step_box x53) (fun _ _ => trivial)) rfl ?_
   obtain ⟨v54, x54, h⟩ := bsome h
   refine wq_cq Tryz.call94 rfl rfl rfl (q_pf (k_geom_Over x54) (fun _ _ => trivial)) rfl ?_
   refine qM 1 rfl (wq_nil (wx_then ?_))
   obtain ⟨za, h, hj20⟩ := bsome h
   refine wc_join2 (fun E L => E = [(0, .pointer (some ⟨p0b, 0, none⟩)), (1, .int .i64 p1), (4, .pointer (some ⟨b4, 0, none⟩))] ∧ L = (⟨p0b, (.int .u64 p0.Frame :: .int .u64 zb.S :: pl14 p0.Players [.slice p0a0 p0n0 p0c0, .int .u16 p0.Score.1, .int .u16 p0.Score.2]), p0t, (0, 0)⟩ :: (⟨b4, (pl7 za []), 58, (0, 0)⟩ :: (p0B0 ++ [])))) ?_ ?_
   ·refine wcc h rfl ?_ ?_ <;> clear h <;> intro h
    ·refine wc_region (wLd (v := .agg #[.int .i32 (IntKind.wrap .i32 zc), .int .i32 (IntKind.wrap .i32 zd), .int .i32 v15.VX, .int .i32 v15.VY, .int .u8 100, .int .u8 v15.Cool, .int .u8 v15.Face]) rfl mH rfl rfl (lSt (Upd.there (Upd.there Upd.here)) ?_))
     refine wl_nil ?_
     obtain rfl := sI h
     exact wx_join ⟨rfl, rfl⟩ (ag3 rfl rfl rfl) pI
    refine wc_skip ?_
    obtain rfl := sI h
    exact wx_join ⟨rfl, rfl⟩ (ag3 rfl rfl rfl) pI
   rintro _ _ ⟨rfl, rfl⟩
   have h := hj20; clear hj20
   refine wc_k2 (Ls := (⟨p0b, (.int .u64 p0.Frame :: .int .u64 zb.S :: pl14 p0.Players [.slice p0a0 p0n0 p0c0, .int .u16 p0.Score.1, .int .u16 p0.Score.2]), p0t, (0, 0)⟩ :: (⟨b4, (pl7 za []), 58, (0, 0)⟩ :: (p0B0 ++ [])))) [6] [6] [0, 0, 0, 1, 9, 31, 63] [0, 1, 2, 3, 4, 5, 6] (by kernel_rfl) (by kernel_rfl) (by kernel_rfl) ?_
   refine kM pI 2 rfl (k_val (v := agP za) rfl rfl rfl pI (val_load tt_ok rfl (mT mH) rfl) rfl (kM pI 2 rfl (k_val (v := .pointer (some ⟨p0b, 2, none⟩)) rfl rfl rfl pI (val_ia (j := 0) tt_ok rfl rfl rfl rfl (by simpa using hx130) rfl rfl) rfl (k_chg0 rfl rfl rfl (chg_store tt_ok rfl Upd.here rfl rfl rfl rfl rfl rfl) (.inl rfl) ?_))))
   rintro _ _ rfl
   refine k_end (by kernel_rfl) ?_
   obtain rfl := sI h
   exact wx_spD tt_ok (.inr rfl) Tryz.results98 Res.nil ⟨p0a0, p0n0, p0c0, p0B0, p0N0, p0V0, rfl, rfl⟩ (fun F => by simp) pI
  replace h := cf hx510 h
  rcases Bool.eq_false_or_eq_true ((IntKind.wrap .i64 ((1 : Int) - p1)) == (1 : Int)) with hx511 | hx511
  ·replace h := ct hx511 h
   refine wq_val (v := .pointer (some ⟨p0b, 9, none⟩)) (val_ia (j := 1) tt_ok rfl rfl rfl rfl (by simpa using hx511) rfl rfl) rfl ?_
   refine qLd (v := agP p0.Players.2) rfl (mTT (mT mH)) rfl rfl ?_
   obtain ⟨v53, x53, h⟩ := bsome h
   refine wq_cq Tryz.call95 rfl rfl rfl (q_pf (k_step_box x53) (fun _ _ => trivial)) rfl ?_
   obtain ⟨v54, x54, h⟩ := bsome h
   refine wq_cq Tryz.call94 rfl rfl rfl (q_pf (k_geom_Over x54) (fun _ _ => trivial)) rfl ?_
   refine qM 1 rfl (wq_nil (wx_then ?_))
   obtain ⟨za, h, hj20⟩ := bsome h
   refine wc_join2 (fun E L => E = [(0, .pointer (some ⟨p0b, 0, none⟩)), (1, .int .i64 p1), (4, .pointer (some ⟨b4, 0, none⟩))] ∧ L = (⟨p0b, (.int .u64 p0.Frame :: .int .u64 zb.S :: pl14 p0.Players [.slice p0a0 p0n0 p0c0, .int .u16 p0.Score.1, .int .u16 p0.Score.2]), p0t, (0, 0)⟩ :: (⟨b4, (pl7 za []), 58, (0, 0)⟩ :: (p0B0 ++ [])))) ?_ ?_
   ·refine wcc h rfl ?_ ?_ <;> clear h <;> intro h
    ·refine wc_region (wLd (v := .agg #[.int .i32 (IntKind.wrap .i32 zc), .int .i32 (IntKind.wrap .i32 zd), .int .i32 v15.VX, .int .i32 v15.VY, .int .u8 100, .int .u8 v15.Cool, .int .u8 v15.Face]) rfl mH rfl rfl (lSt (Upd.there (Upd.there Upd.here)) ?_))
     refine wl_nil ?_
     obtain rfl := sI h
     exact wx_join ⟨rfl, rfl⟩ (ag3 rfl rfl rfl) pI
    refine wc_skip ?_
    obtain rfl := sI h
    exact wx_join ⟨rfl, rfl⟩ (ag3 rfl rfl rfl) pI
   rintro _ _ ⟨rfl, rfl⟩
   have h := hj20; clear hj20
   refine wc_k2 (Ls := (⟨p0b, (.int .u64 p0.Frame :: .int .u64 zb.S :: pl14 p0.Players [.slice p0a0 p0n0 p0c0, .int .u16 p0.Score.1, .int .u16 p0.Score.2]), p0t, (0, 0)⟩ :: (⟨b4, (pl7 za []), 58, (0, 0)⟩ :: (p0B0 ++ [])))) [6] [6] [0, 0, 0, 1, 9, 31, 63] [0, 1, 2, 3, 4, 5, 6] (by kernel_rfl) (by kernel_rfl) (by kernel_rfl) ?_
   refine kM pI 2 rfl (k_val (v := agP za) rfl rfl rfl pI (val_load tt_ok rfl (mT mH) rfl) rfl (kM pI 2 rfl (k_val (v := .pointer (some ⟨p0b, 2, none⟩)) rfl rfl rfl pI (val_ia (j := 0) tt_ok rfl rfl rfl rfl (by simpa using hx130) rfl rfl) rfl (k_chg0 rfl rfl rfl (chg_store tt_ok rfl Upd.here rfl rfl rfl rfl rfl rfl) (.inl rfl) ?_))))
   rintro _ _ rfl
   refine k_end (by kernel_rfl) ?_
   obtain rfl := sI h
   exact wx_spD tt_ok (.inr rfl) Tryz.results98 Res.nil ⟨p0a0, p0n0, p0c0, p0B0, p0N0, p0V0, rfl, rfl⟩ (fun F => by simp) pI
  replace h := cf hx511 h
  cases h
 replace h := cf hx130 h
 rcases Bool.eq_false_or_eq_true (p1 == (1 : Int)) with hx131 | hx131
 ·replace h := ct hx131 h
  refine wl_val (v := .pointer (some ⟨p0b, 9, none⟩)) (val_ia (j := 1) tt_ok rfl rfl rfl rfl (by simpa using hx131) rfl rfl) rfl ?_
  refine wLd (v := agP p0.Players.2) rfl mH rfl rfl ?_
  obtain ⟨v15, x15, h⟩ := bsome h
  refine wl_cq Tryz.call96 rfl rfl rfl (q_pf (k_step_stopped x15) (fun _ _ => trivial)) rfl ?_
  refine wl_alloc tt_ok rfl rfl (fun b4 => ?_)
  refine lSt Upd.here ?_
  refine wNT (wSR (wM 1 rfl (lSt Upd.here ?_)))
  refine wNT (wSR (wM 3 rfl (wLd rfl (mT mH) rfl rfl (wM 1 rfl (wl_alloc tt_ok rfl rfl (fun b5 => (lSt Upd.here ?_)))))))
  refine wNT (wSR (wLd (v := .agg #[.int .u64 p0.Seed]) rfl mH rfl rfl ?_))
  replace h := bsome h; obtain ⟨⟨zc, ze⟩, x24, h⟩ := h; try dsimp only at h
  refine wl_cq Tryz.call119 rfl rfl rfl (q_pf (k_rng_Source_Below x24) (fun _ _ => trivial)) rfl ?_
  refine wM 4 rfl (lSt Upd.here ?_)
  refine wNT (wSR (wLd (v := .agg #[.int .u64 ze.S]) rfl mH rfl rfl ?_))
  replace h := bsome h; obtain ⟨⟨zd, zb⟩, x29, h⟩ := h; try dsimp only at h
  refine wl_cq Tryz.call119 rfl rfl rfl (q_pf (k_rng_Source_Below x29) (fun _ _ => trivial)) rfl ?_
  refine wM 4 rfl (lSt Upd.here ?_)
  refine wNT (wSR (wM 2 rfl (wLd rfl mH rfl rfl (wM 2 rfl (lSt (Upd.there (Upd.there Upd.here)) ?_)))))
  refine wNT (wSR (wLd (v := .agg #[.int .i32 v15.X, .int .i32 v15.Y, .int .i32 v15.VX, .int .i32 v15.VY, .int .u8 100, .int .u8 v15.Cool, .int .u8 v15.Face]) rfl (mT mH) rfl rfl (wl_alloc tt_ok rfl rfl (fun b8 => (lSt Upd.here ?_)))))
  refine wNT (wSR (wM 5 rfl (lSt Upd.here ?_)))
  refine wM 1 rfl (lSt Upd.here ?_)
  refine wNT (wc_seq (wc_seq (wc_quiet (by kernel_rfl) (by kernel_rfl) (qLd (v := .agg #[.int .i32 (IntKind.wrap .i32 zc), .int .i32 (IntKind.wrap .i32 zd), .int .i32 v15.VX, .int .i32 v15.VY, .int .u8 100, .int .u8 v15.Cool, .int .u8 v15.Face]) rfl mH rfl rfl ?_))))
  obtain ⟨v45, x45, h⟩ := bsome h
  refine wq_cq Tryz.call95 rfl rfl rfl (q_pf (k_step_box x45) (fun _ _ => trivial)) rfl ?_
  refine qM 5 rfl ?_
  rcases Bool.eq_false_or_eq_true ((IntKind.wrap .i64 ((1 : Int) - p1)) == (0 : Int)) with hx510 | hx510
  ·replace h := ct hx510 h
   refine wq_val (v := .pointer (some ⟨p0b, 2, none⟩)) (val_ia (j := 0) tt_ok rfl rfl rfl rfl (by simpa using hx510) rfl rfl) rfl ?_
   refine qLd (v := agP p0.Players.1) rfl (mTT (mT mH)) rfl rfl ?_
   obtain ⟨v53, x53, h⟩ := bsome h
   refine wq_cq Tryz.call95 rfl rfl rfl (q_pf (k_step_box x53) (fun _ _ => trivial)) rfl ?_
   obtain ⟨v54, x54, h⟩ := bsome h
   refine wq_cq Tryz.call94 rfl rfl rfl (q_pf (k_geom_Over x54) (fun _ _ => trivial)) rfl ?_
   refine qM 1 rfl (wq_nil (wx_then ?_))
   obtain ⟨za, h, hj20⟩ := bsome h
   refine wc_join2 (fun E L => E = [(0, .pointer (some ⟨p0b, 0, none⟩)), (1, .int .i64 p1), (4, .pointer (some ⟨b4, 0, none⟩))] ∧ L = (⟨p0b, (.int .u64 p0.Frame :: .int .u64 zb.S :: pl14 p0.Players [.slice p0a0 p0n0 p0c0, .int .u16 p0.Score.1, .int .u16 p0.Score.2]), p0t, (0, 0)⟩ :: (⟨b4, (pl7 za []), 58, (0, 0)⟩ :: (p0B0 ++ [])))) ?_ ?_
   ·refine wcc h rfl ?_ ?_ <;> clear h <;> intro h
    ·refine wc_region (wLd (v := .agg #[.int .i32 (IntKind.wrap .i32 zc), .int .i32 (IntKind.wrap .i32 zd), .int .i32 v15.VX, .int .i32 v15.VY, .int .u8 100, .int .u8 v15.Cool, .int .u8 v15.Face]) rfl mH rfl rfl (lSt (Upd.there (Upd.there Upd.here)) ?_))
     refine wl_nil ?_
     obtain rfl := sI h
     exact wx_join ⟨rfl, rfl⟩ (ag3 rfl rfl rfl) pI
    refine wc_skip ?_
    obtain rfl := sI h
    exact wx_join ⟨rfl, rfl⟩ (ag3 rfl rfl rfl) pI
   rintro _ _ ⟨rfl, rfl⟩
   have h := hj20; clear hj20
   refine wc_k2 (Ls := (⟨p0b, (.int .u64 p0.Frame :: .int .u64 zb.S :: pl14 p0.Players [.slice p0a0 p0n0 p0c0, .int .u16 p0.Score.1, .int .u16 p0.Score.2]), p0t, (0, 0)⟩ :: (⟨b4, (pl7 za []), 58, (0, 0)⟩ :: (p0B0 ++ [])))) [6] [6] [0, 0, 0, 1, 9, 31, 63] [0, 1, 2, 3, 4, 5, 6] (by kernel_rfl) (by kernel_rfl) (by kernel_rfl) ?_
   refine kM pI 2 rfl (k_val (v := agP za) rfl rfl rfl pI (val_load tt_ok rfl (mT mH) rfl) rfl (kM pI 2 rfl (k_val (v := .pointer (some ⟨p0b, 9, none⟩)) rfl rfl rfl pI (val_ia (j := 1) tt_ok rfl rfl rfl rfl (by simpa using hx131) rfl rfl) rfl (k_chg0 rfl rfl rfl (chg_store tt_ok rfl Upd.here rfl rfl rfl rfl rfl rfl) (.inl rfl) ?_))))
   rintro _ _ rfl
   refine k_end (by kernel_rfl) ?_
   obtain rfl := sI h
   exact wx_spD tt_ok (.inr rfl) Tryz.results98 Res.nil ⟨p0a0, p0n0, p0c0, p0B0, p0N0, p0V0, rfl, rfl⟩ (fun F => by simp) pI
  replace h := cf hx510 h
  rcases Bool.eq_false_or_eq_true ((IntKind.wrap .i64 ((1 : Int) - p1)) == (1 : Int)) with hx511 | hx511
  ·replace h := ct hx511 h
   refine wq_val (v := .pointer (some ⟨p0b, 9, none⟩)) (val_ia (j := 1) tt_ok rfl rfl rfl rfl (by simpa using hx511) rfl rfl) rfl ?_
   refine qLd (v := agP p0.Players.2) rfl (mTT (mT mH)) rfl rfl ?_
   obtain ⟨v53, x53, h⟩ := bsome h
   refine wq_cq Tryz.call95 rfl rfl rfl (q_pf (k_step_box x53) (fun _ _ => trivial)) rfl ?_
   obtain ⟨v54, x54, h⟩ := bsome h
   refine wq_cq Tryz.call94 rfl rfl rfl (q_pf (k_geom_Over x54) (fun _ _ => trivial)) rfl ?_
   refine qM 1 rfl (wq_nil (wx_then ?_))
   obtain ⟨za, h, hj20⟩ := bsome h
   refine wc_join2 (fun E L => E = [(0, .pointer (some ⟨p0b, 0, none⟩)), (1, .int .i64 p1), (4, .pointer (some ⟨b4, 0, none⟩))] ∧ L = (⟨p0b, (.int .u64 p0.Frame :: .int .u64 zb.S :: pl14 p0.Players [.slice p0a0 p0n0 p0c0, .int .u16 p0.Score.1, .int .u16 p0.Score.2]), p0t, (0, 0)⟩ :: (⟨b4, (pl7 za []), 58, (0, 0)⟩ :: (p0B0 ++ [])))) ?_ ?_
   ·refine wcc h rfl ?_ ?_ <;> clear h <;> intro h
    ·refine wc_region (wLd (v := .agg #[.int .i32 (IntKind.wrap .i32 zc), .int .i32 (IntKind.wrap .i32 zd), .int .i32 v15.VX, .int .i32 v15.VY, .int .u8 100, .int .u8 v15.Cool, .int .u8 v15.Face]) rfl mH rfl rfl (lSt (Upd.there (Upd.there Upd.here)) ?_))
     refine wl_nil ?_
     obtain rfl := sI h
     exact wx_join ⟨rfl, rfl⟩ (ag3 rfl rfl rfl) pI
    refine wc_skip ?_
    obtain rfl := sI h
    exact wx_join ⟨rfl, rfl⟩ (ag3 rfl rfl rfl) pI
   rintro _ _ ⟨rfl, rfl⟩
   have h := hj20; clear hj20
   refine wc_k2 (Ls := (⟨p0b, (.int .u64 p0.Frame :: .int .u64 zb.S :: pl14 p0.Players [.slice p0a0 p0n0 p0c0, .int .u16 p0.Score.1, .int .u16 p0.Score.2]), p0t, (0, 0)⟩ :: (⟨b4, (pl7 za []), 58, (0, 0)⟩ :: (p0B0 ++ [])))) [6] [6] [0, 0, 0, 1, 9, 31, 63] [0, 1, 2, 3, 4, 5, 6] (by kernel_rfl) (by kernel_rfl) (by kernel_rfl) ?_
   refine kM pI 2 rfl (k_val (v := agP za) rfl rfl rfl pI (val_load tt_ok rfl (mT mH) rfl) rfl (kM pI 2 rfl (k_val (v := .pointer (some ⟨p0b, 9, none⟩)) rfl rfl rfl pI (val_ia (j := 1) tt_ok rfl rfl rfl rfl (by simpa using hx131) rfl rfl) rfl (k_chg0 rfl rfl rfl (chg_store tt_ok rfl Upd.here rfl rfl rfl rfl rfl rfl) (.inl rfl) ?_))))
   rintro _ _ rfl
   refine k_end (by kernel_rfl) ?_
   obtain rfl := sI h
   exact wx_spD tt_ok (.inr rfl) Tryz.results98 Res.nil ⟨p0a0, p0n0, p0c0, p0B0, p0N0, p0V0, rfl, rfl⟩ (fun F => by simp) pI
  replace h := cf hx511 h
  cases h
 replace h := cf hx131 h
 cases h

theorem k_step_Step {p0 : T_api_State} {p1 : (Int × Int)} {r0 : T_api_State} (p0N0 : p0n0 = p0.Shots.length) (p0H0 : p0n0 ≤ p0c0) (h : m_step_Step F p0 p1 = some r0) :
    SpD Tryz.prog 64 [agS p0 p0a0 p0n0 p0c0, .agg #[.int .u8 p1.1, .int .u8 p1.2]] [] (fun w => Rds w (ids []) [] p0a0 (flat c_T_api_Shot p0.Shots) ∧ Rds w (ids []) [] (some ⟨0, 0, none⟩) (flat (fun _ : Unit => gl_state_playerBounds) [()]) ∧ Rds w (ids []) [] (some ⟨1, 0, none⟩) (flat (fun _ : Unit => gl_state_shotBounds) [()])) (fun v D => ∃ r0a0 r0n0 r0c0 r0B0, r0n0 = r0.Shots.length ∧ Own 119 6 r0a0 r0n0 r0c0 (flat c_T_api_Shot r0.Shots) r0B0 ∧ v = agS r0 r0a0 r0n0 r0c0 ∧ D = fun F => (r0B0 ++ F)) := by
 unfold m_step_Step at h
 refine sp_of_wc Tryz.func64 rfl Tryz.ntmps64 rfl rfl (fun w0 hR => ?_)
 obtain ⟨p0S0, G0S, G1S⟩ := hR
 refine wSR (wl_box rfl rfl rfl (fun b2 => (wl_box rfl rfl rfl (fun b3 => (wl_alloc tt_ok rfl rfl (fun b4 => (wNT (wSR (wLd (v := agS p0 p0a0 p0n0 p0c0) rfl (mTT mH) rfl rfl ?_)))))))))
 obtain ⟨v12, x12, h⟩ := bsome h
 refine wl_cs Tryz.call56 rfl rfl rfl (s_sp (k_state_Copy (p0 := p0) p0N0 p0H0 x12) pNil (Rds.call p0S0 pNil rsub_nil)) rfl ?_
 rintro _ _ ⟨_, ⟨v12a0, v12n0, v12c0, v12B0, v12N0, v12V0, rfl, rfl⟩, rfl⟩
 refine lSt (Upd.right (Upd.there (Upd.there Upd.here))) ?_
 refine wNT (wc_seq (wSR (wLd (v := agS v12 v12a0 v12n0 v12c0) rfl (mR (mTT mH)) rfl rfl ?_)))
 obtain ⟨v14, x14, h⟩ := bsome h
 refine wl_cq Tryz.call55 rfl rfl rfl (q_pf (k_state_Check (p0 := v12) v12N0 (vec_cap v12V0) x14) (fun w hI => ⟨(Rds.call (Rds.of_vec v12V0) pNil ⟨_, hA'⟩) w hI, (Rds.call G0S pNil rsub_nil) w hI, (Rds.call G1S pNil rsub_nil) w hI⟩)) rfl ?_
 refine wM 2 rfl ?_
 obtain ⟨v21, h, hg21⟩ := bsome h
 refine wls 16 h rfl ?_ ?_ <;> clear h <;> intro h
 ·refine wM 4 rfl ?_
  obtain rfl := sI h
  have h := hg21; clear hg21
  refine wM 2 rfl ?_
  obtain ⟨v27, h, hg27⟩ := bsome h
  replace h := ct rfl h
  refine wM 4 rfl ?_
  obtain rfl := sI h
  have h := hg27; clear hg27
  refine wM 1 rfl (wNT ?_)
  replace h := ct rfl h
  refine wc_cond_true rfl ?_
  refine wSR (wLd (v := agS v12 v12a0 v12n0 v12c0) rfl (mR (mTT mH)) rfl rfl (lSt (Upd.right Upd.here) ?_))
  refine wNT (wc_ret (wx_then_ret ?_))
  obtain rfl := sI h
  exact wE Tryz.results64 (Res.cell rfl (mR mH) rfl Res.nil) ⟨v12a0, v12n0, v12c0, v12B0, v12N0, v12V0, rfl, rfl⟩ pI
 refine wl_run rfl (wl_val (v := .pointer (some ⟨b3, 0, none⟩)) (val_ia (j := 0) tt_ok rfl rfl rfl rfl rfl rfl rfl) rfl (wl_run rfl (wLd rfl (mR (mT mH)) rfl rfl ?_)))
 obtain ⟨v19, x19, h⟩ := bsome h
 refine wl_run rfl (wl_cq Tryz.call60 rfl rfl rfl (q_pf (k_input_Legal x19) (fun _ _ => trivial)) rfl (wM 1 rfl ?_))
 obtain rfl := sI h
 have h := hg21; clear hg21
 refine wM 2 rfl ?_
 obtain ⟨v27, h, hg27⟩ := bsome h
 refine wls 22 h rfl ?_ ?_ <;> clear h <;> intro h
 ·refine wM 4 rfl ?_
  obtain rfl := sI h
  have h := hg27; clear hg27
  refine wM 1 rfl (wNT ?_)
  replace h := ct rfl h
  refine wc_cond_true rfl ?_
  refine wSR (wLd (v := agS v12 v12a0 v12n0 v12c0) rfl (mR (mTT mH)) rfl rfl (lSt (Upd.right Upd.here) ?_))
  refine wNT (wc_ret (wx_then_ret ?_))
  obtain rfl := sI h
  exact wE Tryz.results64 (Res.cell rfl (mR mH) rfl Res.nil) ⟨v12a0, v12n0, v12c0, v12B0, v12N0, v12V0, rfl, rfl⟩ pI
 refine wl_run rfl (wl_val (v := .pointer (some ⟨b3, 1, none⟩)) (val_ia (j := 1) tt_ok rfl rfl rfl rfl rfl rfl rfl) rfl (wl_run rfl (wLd rfl (mR (mT mH)) rfl rfl ?_)))
 obtain ⟨v25, x25, h⟩ := bsome h
 refine wl_run rfl (wl_cq Tryz.call60 rfl rfl rfl (q_pf (k_input_Legal x25) (fun _ _ => trivial)) rfl (wM 1 rfl ?_))
 obtain rfl := sI h
 have h := hg27; clear hg27
 refine wM 1 rfl (wNT (wcc h rfl ?_ ?_)) <;> clear h <;> intro h
 ·refine wSR (wLd (v := agS v12 v12a0 v12n0 v12c0) rfl (mR (mTT mH)) rfl rfl (lSt (Upd.right Upd.here) ?_))
  refine wNT (wc_ret (wx_then_ret ?_))
  obtain rfl := sI h
  exact wE Tryz.results64 (Res.cell rfl (mR mH) rfl Res.nil) ⟨v12a0, v12n0, v12c0, v12B0, v12N0, v12V0, rfl, rfl⟩ pI
 refine wc_skip (wx_then (wc_seq (wSR (wM 1 rfl (wNT (wc_block ?_))))))
 obtain ⟨zah, h, hl17⟩ := bsome h
 refine wc_loop (fun m E L => ∃ zy zo, m_step_Step_L16 F p1 m zy zo = some zah ∧ E = [(2, .pointer (some ⟨b2, 0, none⟩)), (3, .pointer (some ⟨b3, 0, none⟩)), (4, .pointer (some ⟨b4, 0, none⟩)), (29, .int .i64 zy)] ∧ L = (⟨b2, (.int .u64 v12.Frame :: .int .u64 v12.Seed :: pl14 zo [.slice v12a0 v12n0 v12c0, .int .u16 v12.Score.1, .int .u16 v12.Score.2]), 64, (0, 0)⟩ :: (⟨b3, [.int .u8 p1.1, .int .u8 p1.2], 54, (0, 0)⟩ :: (⟨b4, [.int .u64 0, .int .u64 0, .int .i32 0, .int .i32 0, .int .i32 0, .int .i32 0, .int .u8 0, .int .u8 0, .int .u8 0, .int .i32 0, .int .i32 0, .int .i32 0, .int .i32 0, .int .u8 0, .int .u8 0, .int .u8 0, .slice none 0 0, .int .u16 0, .int .u16 0], 64, (0, 0)⟩ :: (v12B0 ++ []))))) F ⟨(0 : Int), v12.Players, h, rfl, rfl⟩ (ag4 rfl rfl rfl rfl) pI ?_
 clear h
 rintro m17 _ _ ⟨zy, zo, h, rfl, rfl⟩
 rcases m17 with _ | m17
 ·rw [m_step_Step_L16.eq_1] at h; cases h
 rw [m_step_Step_L16.eq_2] at h
 refine wSR (wM 1 rfl (wNT (wc_seq (wcc h rfl ?_ ?_)))) <;> clear h <;> intro h
 ·refine wc_skip (wx_then (wc_seq (wc_block (wSR (wM 2 rfl (wNT (wc_k2 (Ls := (⟨b2, (.int .u64 v12.Frame :: .int .u64 v12.Seed :: pl14 zo [.slice v12a0 v12n0 v12c0, .int .u16 v12.Score.1, .int .u16 v12.Score.2]), 64, (0, 0)⟩ :: (⟨b3, [.int .u8 p1.1, .int .u8 p1.2], 54, (0, 0)⟩ :: (⟨b4, [.int .u64 0, .int .u64 0, .int .i32 0, .int .i32 0, .int .i32 0, .int .i32 0, .int .u8 0, .int .u8 0, .int .u8 0, .int .i32 0, .int .i32 0, .int .i32 0, .int .i32 0, .int .u8 0, .int .u8 0, .int .u8 0, .slice none 0 0, .int .u16 0, .int .u16 0], 64, (0, 0)⟩ :: (v12B0 ++ []))))) [8, 10, 11] [10, 11] [0, 0, 0, 6, 14, 0, 32, 96, 254, 0, 1023, 2047] [0, 1, 2, 3, 4, 5, 6, 7, 9, 8, 10, 11] (by kernel_rfl) (by kernel_rfl) (by kernel_rfl) ?_)))))))
  refine kM pI 3 rfl ?_
  rcases Bool.eq_false_or_eq_true (zy == (0 : Int)) with hx350 | hx350
  ·replace h := ct hx350 h
   refine k_val (v := .pointer (some ⟨b2, 2, none⟩)) rfl rfl rfl pI (val_ia (j := 0) tt_ok rfl rfl rfl rfl (by simpa using hx350) rfl rfl) rfl (k_val (v := agP zo.1) rfl rfl rfl pI (val_load tt_ok rfl mH rfl) rfl (kM pI 1 rfl (k_val (v := .pointer (some ⟨b3, 0, none⟩)) rfl rfl rfl pI (val_ia (j := 0) tt_ok rfl rfl rfl rfl (by simpa using hx350) rfl rfl) rfl ?_)))
   refine k_val (v := .int .u8 p1.1) rfl rfl rfl pI (val_load tt_ok rfl (mT mH) rfl) rfl (kM pI 1 rfl ?_)
   obtain ⟨v40, x40, h⟩ := bsome h
   refine k_cq rfl rfl rfl Tryz.call90 rfl rfl rfl (q_pf (k_step_steer x40) (fun _ _ => trivial)) rfl pI ?_
   refine k_chg rfl rfl rfl (Chg.of_val (v := .pointer (some ⟨b2, 2, none⟩)) (val_ia (j := 0) tt_ok rfl rfl rfl rfl (by simpa using hx350) rfl rfl)) rfl (.inl rfl) ?_
   rintro _ _ ⟨rfl, rfl⟩
   refine k_chg0 rfl rfl rfl (chg_store tt_ok rfl Upd.here rfl rfl rfl rfl rfl rfl) (.inl rfl) ?_
   rintro _ _ rfl
   refine k_end (by kernel_rfl) ?_
   refine wx_block (wx_then (wc_region (wM 2 rfl (wl_nil ?_))))
   exact wx_round m17 (Nat.lt_succ_self m17) ⟨(IntKind.wrap .i64 (zy + (1 : Int))), (v40, zo.2), h, rfl, rfl⟩ (ag4 rfl rfl rfl rfl) pI
  replace h := cf hx350 h
  rcases Bool.eq_false_or_eq_true (zy == (1 : Int)) with hx351 | hx351
  ·replace h := ct hx351 h
   refine k_val (v := .pointer (some ⟨b2, 9, none⟩)) rfl rfl rfl pI (val_ia (j := 1) tt_ok rfl rfl rfl rfl (by simpa using hx351) rfl rfl) rfl (k_val (v := agP zo.2) rfl rfl rfl pI (val_load tt_ok rfl mH rfl) rfl (kM pI 1 rfl (k_val (v := .pointer (some ⟨b3, 1, none⟩)) rfl rfl rfl pI (val_ia (j := 1) tt_ok rfl rfl rfl rfl (by simpa using hx351) rfl rfl) rfl ?_)))
   refine k_val (v := .int .u8 p1.2) rfl rfl rfl pI (val_load tt_ok rfl (mT mH) rfl) rfl (kM pI 1 rfl ?_)
   obtain ⟨v40, x40, h⟩ := bsome h
   refine k_cq rfl rfl rfl Tryz.call90 rfl rfl rfl (q_pf (k_step_steer x40) (fun _ _ => trivial)) rfl pI ?_
   refine k_chg rfl rfl rfl (Chg.of_val (v := .pointer (some ⟨b2, 9, none⟩)) (val_ia (j := 1) tt_ok rfl rfl rfl rfl (by simpa using hx351) rfl rfl)) rfl (.inl rfl) ?_
   rintro _ _ ⟨rfl, rfl⟩
   refine k_chg0 rfl rfl rfl (chg_store tt_ok rfl Upd.here rfl rfl rfl rfl rfl rfl) (.inl rfl) ?_
   rintro _ _ rfl
   refine k_end (by kernel_rfl) ?_
   refine wx_block (wx_then (wc_region (wM 2 rfl (wl_nil ?_))))
   exact wx_round m17 (Nat.lt_succ_self m17) ⟨(IntKind.wrap .i64 (zy + (1 : Int))), (zo.1, v40), h, rfl, rfl⟩ (ag4 rfl rfl rfl rfl) pI
  replace h := cf hx351 h
  cases h
 refine wc_exit (wx_then_exit ?_)
 obtain rfl := sI h
 have h := hl17; clear hl17; try dsimp only [orE_l, orE_r] at h
 refine wx_then_exit (wx_block_exit (wx_then (wc_seq (wSR ?_))))
 refine wM 1 rfl (wNT (wc_block ?_))
 replace h := bsome h; obtain ⟨⟨zai, zaj⟩, h, hl34⟩ := h; try dsimp only at hl34
 refine wc_loop (fun m E L => ∃ zr zc za zf ze zg zi, m_step_Step_L33 F p1 m zr zc za = some (zai, zaj) ∧ ze = za.length ∧ Own 119 6 zf ze zg (flat c_T_api_Shot za) zi ∧ E = [(2, .pointer (some ⟨b2, 0, none⟩)), (3, .pointer (some ⟨b3, 0, none⟩)), (4, .pointer (some ⟨b4, 0, none⟩)), (44, .int .i64 zr)] ∧ L = (⟨b2, (.int .u64 v12.Frame :: .int .u64 v12.Seed :: pl14 zc [.slice zf ze zg, .int .u16 v12.Score.1, .int .u16 v12.Score.2]), 64, (0, 0)⟩ :: (⟨b3, [.int .u8 p1.1, .int .u8 p1.2], 54, (0, 0)⟩ :: (⟨b4, [.int .u64 0, .int .u64 0, .int .i32 0, .int .i32 0, .int .i32 0, .int .i32 0, .int .u8 0, .int .u8 0, .int .u8 0, .int .i32 0, .int .i32 0, .int .i32 0, .int .i32 0, .int .u8 0, .int .u8 0, .int .u8 0, .slice none 0 0, .int .u16 0, .int .u16 0], 64, (0, 0)⟩ :: (zi ++ []))))) F ⟨(0 : Int), zo, v12.Shots, v12a0, v12n0, v12c0, v12B0, h, v12N0, v12V0, rfl, rfl⟩ (ag4 rfl rfl rfl rfl) pI ?_
 clear h
 rintro m34 _ _ ⟨zr, zc, za, zf, ze, zg, zi, h, zj, zk, rfl, rfl⟩
 rcases m34 with _ | m34
 ·rw [m_step_Step_L33.eq_1] at h; cases h
 rw [m_step_Step_L33.eq_2] at h
 refine wSR (wM 1 rfl (wNT (wc_seq (wcc h rfl ?_ ?_)))) <;> clear h <;> intro h
 ·refine wc_skip (wx_then (wc_seq (wc_block (wSR (wM 2 rfl (wNT (wSR (wM 2 rfl ?_))))))))
  rcases Bool.eq_false_or_eq_true (zr == (0 : Int)) with hx490 | hx490
  ·replace h := ct hx490 h
   refine wl_val (v := .pointer (some ⟨b2, 2, none⟩)) (val_ia (j := 0) tt_ok rfl rfl rfl rfl (by simpa using hx490) rfl rfl) rfl ?_
   refine wM 1 rfl (wNT (wSR (wM 1 rfl (wl_val (v := .pointer (some ⟨b3, 0, none⟩)) (val_ia (j := 0) tt_ok rfl rfl rfl rfl (by simpa using hx490) rfl rfl) rfl (wLd rfl (mT mH) rfl rfl ?_)))))
   obtain ⟨v53, x53, h⟩ := bsome h
   refine wl_cq Tryz.call91 rfl rfl rfl (q_pf (k_input_Fire x53) (fun _ _ => trivial)) rfl ?_
   refine wM 1 rfl ?_
   obtain ⟨v60, h, hg60⟩ := bsome h
   refine wls 54 h rfl ?_ ?_ <;> clear h <;> intro h
   ·refine wM 3 rfl (wl_run rfl (wLd rfl mH rfl rfl (wM 1 rfl ?_)))
    obtain rfl := sI h
    have h := hg60; clear hg60
    refine wM 2 rfl ?_
    obtain ⟨v66, h, hg66⟩ := bsome h
    refine wls 61 h rfl ?_ ?_ <;> clear h <;> intro h
    ·refine wM 1 rfl (wl_run rfl (wLd rfl mH rfl rfl (wl_run rfl (wl_val (v := .int .i64 (za.length : Int)) (val_len tt_ok rfl rfl zj) rfl (wM 1 rfl ?_)))))
     obtain rfl := sI h
     have h := hg66; clear hg66
     refine wM 1 rfl (wNT (wcc h rfl ?_ ?_)) <;> clear h <;> intro h
     ·refine wc_seq (wc_k2 (Ls := (⟨b2, (.int .u64 v12.Frame :: .int .u64 v12.Seed :: pl14 zc [.slice zf ze zg, .int .u16 v12.Score.1, .int .u16 v12.Score.2]), 64, (0, 0)⟩ :: (⟨b3, [.int .u8 p1.1, .int .u8 p1.2], 54, (0, 0)⟩ :: (⟨b4, [.int .u64 0, .int .u64 0, .int .i32 0, .int .i32 0, .int .i32 0, .int .i32 0, .int .u8 0, .int .u8 0, .int .u8 0, .int .i32 0, .int .i32 0, .int .i32 0, .int .i32 0, .int .u8 0, .int .u8 0, .int .u8 0, .slice none 0 0, .int .u16 0, .int .u16 0], 64, (0, 0)⟩ :: (zi ++ []))))) [7, 8, 9, 10, 11] [9, 10, 11] [0, 1, 0, 4, 12, 0, 32, 124, 252, 511, 1023, 2047] [0, 1, 2, 3, 4, 5, 6, 7, 8, 9, 10, 11] (by kernel_rfl) (by kernel_rfl) (by kernel_rfl) ?_)
      refine kM pI 1 rfl (k_val (v := .slice zf ze zg) rfl rfl rfl pI (val_load tt_ok rfl mH rfl) rfl (kM pI 2 rfl (k_val (v := agP zc.1) rfl rfl rfl pI (val_load tt_ok rfl mH rfl) rfl (kM pI 2 rfl ?_))))
      obtain ⟨v74, x74, h⟩ := bsome h
      refine k_cq rfl rfl rfl Tryz.call92 rfl rfl rfl (q_pf (k_step_shoot x74) (fun _ _ => trivial)) rfl pI ?_
      refine k_chg rfl rfl rfl (chg_bsv (enc := c_T_api_Shot) (xs := ([v74] : List T_api_Shot)) tt_ok rfl rfl rfl rfl rfl rfl rfl rfl c_T_api_Shot_len) rfl (.inr (by rintro _ _ ⟨_, _, _, _, rfl, _, _, rfl⟩; exact ⟨_, pP⟩)) ?_
      rintro _ _ ⟨a75, n75_, c75, B75, rfl, N75, V75, rfl⟩
      obtain ⟨v76, x76, h⟩ := bsome h
      refine k_chg rfl rfl rfl (chg_app (enc := c_T_api_Shot) (ys := ([v74] : List T_api_Shot)) tt_ok rfl rfl rfl rfl rfl rfl zj N75 zk (sA (sCC (sC hA'))) (Rds.of_vec V75) ⟨_, hA'⟩ c_T_api_Shot_len (fun _ => rfl) rfl x76) rfl (.inl rfl) ?_
      rintro _ _ ⟨a76, n76_, c76, B76, rfl, N76, V76, rfl⟩
      refine k_chg rfl rfl rfl (Chg.of_val (v := .pointer (some ⟨b2, 16, none⟩)) (sV rfl)) rfl (.inl rfl) ?_
      rintro _ _ ⟨rfl, rfl⟩
      refine k_chg0 rfl rfl rfl (chg_store tt_ok rfl (Upd.right (Upd.right Upd.here)) rfl rfl rfl rfl rfl rfl) (.inl rfl) ?_
      rintro _ _ rfl
      refine k_end (by kernel_rfl) ?_
      refine wx_then (wc_region (wM 3 rfl (lSt (Upd.right (Upd.right Upd.here)) ?_)))
      refine wl_nil (wx_block (wx_then (wc_region (wM 2 rfl (wl_nil ?_)))))
      exact wx_round m34 (Nat.lt_succ_self m34) ⟨(IntKind.wrap .i64 (zr + (1 : Int))), ((T_api_Player.mk zc.1.X zc.1.Y zc.1.VX zc.1.VY zc.1.Health (10 : Int) zc.1.Face), zc.2), v76, a76, n76_, c76, B76, h, N76, V76, rfl, rfl⟩ (ag4 rfl rfl rfl rfl) pI
     refine wc_skip (wx_block (wx_then (wc_region (wM 2 rfl (wl_nil ?_)))))
     exact wx_round m34 (Nat.lt_succ_self m34) ⟨(IntKind.wrap .i64 (zr + (1 : Int))), zc, za, zf, ze, zg, zi, h, zj, zk, rfl, rfl⟩ (ag4 rfl rfl rfl rfl) pI
    refine wM 4 rfl ?_
    obtain rfl := sI h
    have h := hg66; clear hg66
    refine wM 1 rfl (wNT ?_)
    replace h := cf rfl h
    refine wc_cond_false rfl ?_
    refine wc_skip (wx_block (wx_then (wc_region (wM 2 rfl (wl_nil ?_)))))
    exact wx_round m34 (Nat.lt_succ_self m34) ⟨(IntKind.wrap .i64 (zr + (1 : Int))), zc, za, zf, ze, zg, zi, h, zj, zk, rfl, rfl⟩ (ag4 rfl rfl rfl rfl) pI
   refine wM 5 rfl ?_
   obtain rfl := sI h
   have h := hg60; clear hg60
   refine wM 2 rfl ?_
   obtain ⟨v66, h, hg66⟩ := bsome h
   replace h := cf rfl h
   refine wM 4 rfl ?_
   obtain rfl := sI h
   have h := hg66; clear hg66
   refine wM 1 rfl (wNT ?_)
   replace h := cf rfl h
   refine wc_cond_false rfl ?_
   refine wc_skip (wx_block (wx_then (wc_region (wM 2 rfl (wl_nil ?_)))))
   exact wx_round m34 (Nat.lt_succ_self m34) ⟨(IntKind.wrap .i64 (zr + (1 : Int))), zc, za, zf, ze, zg, zi, h, zj, zk, rfl, rfl⟩ (ag4 rfl rfl rfl rfl) pI
  replace h := cf hx490 h
  rcases Bool.eq_false_or_eq_true (zr == (1 : Int)) with hx491 | hx491
  ·replace h := ct hx491 h
   refine wl_val (v := .pointer (some ⟨b2, 9, none⟩)) (val_ia (j := 1) tt_ok rfl rfl rfl rfl (by simpa using hx491) rfl rfl) rfl ?_
   refine wM 1 rfl (wNT (wSR (wM 1 rfl (wl_val (v := .pointer (some ⟨b3, 1, none⟩)) (val_ia (j := 1) tt_ok rfl rfl rfl rfl (by simpa using hx491) rfl rfl) rfl (wLd rfl (mT mH) rfl rfl ?_)))))
   obtain ⟨v53, x53, h⟩ := bsome h
   refine wl_cq Tryz.call91 rfl rfl rfl (q_pf (k_input_Fire x53) (fun _ _ => trivial)) rfl ?_
   refine wM 1 rfl ?_
   obtain ⟨v60, h, hg60⟩ := bsome h
   refine wls 54 h rfl ?_ ?_ <;> clear h <;> intro h
   ·refine wM 3 rfl (wl_run rfl (wLd rfl mH rfl rfl (wM 1 rfl ?_)))
    obtain rfl := sI h
    have h := hg60; clear hg60
    refine wM 2 rfl ?_
    obtain ⟨v66, h, hg66⟩ := bsome h
    refine wls 61 h rfl ?_ ?_ <;> clear h <;> intro h
    ·refine wM 1 rfl (wl_run rfl (wLd rfl mH rfl rfl (wl_run rfl (wl_val (v := .int .i64 (za.length : Int)) (val_len tt_ok rfl rfl zj) rfl (wM 1 rfl ?_)))))
     obtain rfl := sI h
     have h := hg66; clear hg66
     refine wM 1 rfl (wNT (wcc h rfl ?_ ?_)) <;> clear h <;> intro h
     ·refine wc_seq (wc_k2 (Ls := (⟨b2, (.int .u64 v12.Frame :: .int .u64 v12.Seed :: pl14 zc [.slice zf ze zg, .int .u16 v12.Score.1, .int .u16 v12.Score.2]), 64, (0, 0)⟩ :: (⟨b3, [.int .u8 p1.1, .int .u8 p1.2], 54, (0, 0)⟩ :: (⟨b4, [.int .u64 0, .int .u64 0, .int .i32 0, .int .i32 0, .int .i32 0, .int .i32 0, .int .u8 0, .int .u8 0, .int .u8 0, .int .i32 0, .int .i32 0, .int .i32 0, .int .i32 0, .int .u8 0, .int .u8 0, .int .u8 0, .slice none 0 0, .int .u16 0, .int .u16 0], 64, (0, 0)⟩ :: (zi ++ []))))) [7, 8, 9, 10, 11] [9, 10, 11] [0, 1, 0, 4, 12, 0, 32, 124, 252, 511, 1023, 2047] [0, 1, 2, 3, 4, 5, 6, 7, 8, 9, 10, 11] (by kernel_rfl) (by kernel_rfl) (by kernel_rfl) ?_)
      refine kM pI 1 rfl (k_val (v := .slice zf ze zg) rfl rfl rfl pI (val_load tt_ok rfl mH rfl) rfl (kM pI 2 rfl (k_val (v := agP zc.2) rfl rfl rfl pI (val_load tt_ok rfl mH rfl) rfl (kM pI 2 rfl ?_))))
      obtain ⟨v74, x74, h⟩ := bsome h
      refine k_cq rfl rfl rfl Tryz.call92 rfl rfl rfl (q_pf (k_step_shoot x74) (fun _ _ => trivial)) rfl pI ?_
      refine k_chg rfl rfl rfl (chg_bsv (enc := c_T_api_Shot) (xs := ([v74] : List T_api_Shot)) tt_ok rfl rfl rfl rfl rfl rfl rfl rfl c_T_api_Shot_len) rfl (.inr (by rintro _ _ ⟨_, _, _, _, rfl, _, _, rfl⟩; exact ⟨_, pP⟩)) ?_
      rintro _ _ ⟨a75, n75_, c75, B75, rfl, N75, V75, rfl⟩
      obtain ⟨v76, x76, h⟩ := bsome h
      refine k_chg rfl rfl rfl (chg_app (enc := c_T_api_Shot) (ys := ([v74] : List T_api_Shot)) tt_ok rfl rfl rfl rfl rfl rfl zj N75 zk (sA (sCC (sC hA'))) (Rds.of_vec V75) ⟨_, hA'⟩ c_T_api_Shot_len (fun _ => rfl) rfl x76) rfl (.inl rfl) ?_
      rintro _ _ ⟨a76, n76_, c76, B76, rfl, N76, V76, rfl⟩
      refine k_chg rfl rfl rfl (Chg.of_val (v := .pointer (some ⟨b2, 16, none⟩)) (sV rfl)) rfl (.inl rfl) ?_
      rintro _ _ ⟨rfl, rfl⟩
      refine k_chg0 rfl rfl rfl (chg_store tt_ok rfl (Upd.right (Upd.right Upd.here)) rfl rfl rfl rfl rfl rfl) (.inl rfl) ?_
      rintro _ _ rfl
      refine k_end (by kernel_rfl) ?_
      refine wx_then (wc_region (wM 3 rfl (lSt (Upd.right (Upd.right Upd.here)) ?_)))
      refine wl_nil (wx_block (wx_then (wc_region (wM 2 rfl (wl_nil ?_)))))
      exact wx_round m34 (Nat.lt_succ_self m34) ⟨(IntKind.wrap .i64 (zr + (1 : Int))), (zc.1, (T_api_Player.mk zc.2.X zc.2.Y zc.2.VX zc.2.VY zc.2.Health (10 : Int) zc.2.Face)), v76, a76, n76_, c76, B76, h, N76, V76, rfl, rfl⟩ (ag4 rfl rfl rfl rfl) pI
     refine wc_skip (wx_block (wx_then (wc_region (wM 2 rfl (wl_nil ?_)))))
     exact wx_round m34 (Nat.lt_succ_self m34) ⟨(IntKind.wrap .i64 (zr + (1 : Int))), zc, za, zf, ze, zg, zi, h, zj, zk, rfl, rfl⟩ (ag4 rfl rfl rfl rfl) pI
    refine wM 4 rfl ?_
    obtain rfl := sI h
    have h := hg66; clear hg66
    refine wM 1 rfl (wNT ?_)
    replace h := cf rfl h
    refine wc_cond_false rfl ?_
    refine wc_skip (wx_block (wx_then (wc_region (wM 2 rfl (wl_nil ?_)))))
    exact wx_round m34 (Nat.lt_succ_self m34) ⟨(IntKind.wrap .i64 (zr + (1 : Int))), zc, za, zf, ze, zg, zi, h, zj, zk, rfl, rfl⟩ (ag4 rfl rfl rfl rfl) pI
   refine wM 5 rfl ?_
   obtain rfl := sI h
   have h := hg60; clear hg60
   refine wM 2 rfl ?_
   obtain ⟨v66, h, hg66⟩ := bsome h
   replace h := cf rfl h
   refine wM 4 rfl ?_
   obtain rfl := sI h
   have h := hg66; clear hg66
   refine wM 1 rfl (wNT ?_)
   replace h := cf rfl h
   refine wc_cond_false rfl ?_
   refine wc_skip (wx_block (wx_then (wc_region (wM 2 rfl (wl_nil ?_)))))
   exact wx_round m34 (Nat.lt_succ_self m34) ⟨(IntKind.wrap .i64 (zr + (1 : Int))), zc, za, zf, ze, zg, zi, h, zj, zk, rfl, rfl⟩ (ag4 rfl rfl rfl rfl) pI
  replace h := cf hx491 h
  cases h
 refine wc_exit (wx_then_exit ?_)
 obtain ⟨rfl, rfl⟩ := pJ2 h
 have h := hl34; clear hl34; try dsimp only [orE_l, orE_r] at h
 refine wx_then_exit (wx_block_exit (wx_then (wc_seq ?_)))
 obtain ⟨v85, x85, h⟩ := bsome h
 obtain ⟨v89, x89, h⟩ := bsome h
 refine wc_join2 (fun E L => ∃ b8 b9, E = [(2, .pointer (some ⟨b2, 0, none⟩)), (4, .pointer (some ⟨b4, 0, none⟩)), (8, .pointer (some ⟨b8, 0, none⟩)), (9, .pointer (some ⟨b9, 0, none⟩))] ∧ L = (⟨b2, (.int .u64 v12.Frame :: .int .u64 v12.Seed :: pl14 zc [.slice zf ze zg, .int .u16 v12.Score.1, .int .u16 v12.Score.2]), 64, (0, 0)⟩ :: (⟨b4, [.int .u64 0, .int .u64 0, .int .i32 0, .int .i32 0, .int .i32 0, .int .i32 0, .int .u8 0, .int .u8 0, .int .u8 0, .int .i32 0, .int .i32 0, .int .i32 0, .int .i32 0, .int .u8 0, .int .u8 0, .int .u8 0, .slice none 0 0, .int .u16 0, .int .u16 0], 64, (0, 0)⟩ :: (⟨b8, (pl7 v85 []), 58, (0, 0)⟩ :: (⟨b9, (pl7 v89 []), 58, (0, 0)⟩ :: (zi ++ [])))))) ?_ ?_
 ·refine wc_k2 (Ls := (⟨b2, (.int .u64 v12.Frame :: .int .u64 v12.Seed :: pl14 zc [.slice zf ze zg, .int .u16 v12.Score.1, .int .u16 v12.Score.2]), 64, (0, 0)⟩ :: (⟨b3, [.int .u8 p1.1, .int .u8 p1.2], 54, (0, 0)⟩ :: (⟨b4, [.int .u64 0, .int .u64 0, .int .i32 0, .int .i32 0, .int .i32 0, .int .i32 0, .int .u8 0, .int .u8 0, .int .u8 0, .int .i32 0, .int .i32 0, .int .i32 0, .int .i32 0, .int .u8 0, .int .u8 0, .int .u8 0, .slice none 0 0, .int .u16 0, .int .u16 0], 64, (0, 0)⟩ :: (zi ++ []))))) [3, 7, 8, 9, 10, 11] [7, 10, 11] [0, 1, 3, 7, 0, 16, 48, 127, 0, 0, 1023, 2047] [0, 1, 2, 4, 5, 6] (by kernel_rfl) (by kernel_rfl) (by kernel_rfl) ?_
  refine kM pI 1 rfl (k_val (v := .pointer (some ⟨b2, 2, none⟩)) rfl rfl rfl pI (val_ia (j := 0) tt_ok rfl rfl rfl rfl rfl rfl rfl) rfl (k_val (v := agP zc.1) rfl rfl rfl pI (val_load tt_ok rfl mH rfl) rfl (kM pI 1 rfl (k_val (v := .pointer (some ⟨b2, 9, none⟩)) rfl rfl rfl pI (val_ia (j := 1) tt_ok rfl rfl rfl rfl rfl rfl rfl) rfl ?_))))
  refine k_val (v := agP zc.2) rfl rfl rfl pI (val_load tt_ok rfl mH rfl) rfl (k_three (i := 3) (j := 8) (k := 9) (t1 := []) (t2 := []) (t3 := []) (by kernel_rfl) (by kernel_rfl) (by kernel_rfl) (by kernel_rfl) (by kernel_rfl) ?_ ?_ ?_)
  ·refine k_cqf rfl rfl Tryz.call93 rfl rfl rfl (q_pf (k_step_moved x85) (fun _ _ => trivial)) rfl pI ?_
   refine k_three (i := 7) (j := 8) (k := 9) (t1 := []) (t2 := []) (t3 := []) (by kernel_rfl) (by kernel_rfl) (by kernel_rfl) (by kernel_rfl) (by kernel_rfl) ?_ ?_ ?_
   ·refine k_cqf rfl rfl Tryz.call93 rfl rfl rfl (q_pf (k_step_moved x89) (fun _ _ => trivial)) rfl pI ?_
    refine k_two (i := 8) (j := 9) (t1 := [9, 10, 11]) (t2 := [8, 10, 11]) (by kernel_rfl) (by kernel_rfl) (by kernel_rfl) (by kernel_rfl) ?_ ?_
    ·refine k_chgf rfl rfl (chg_alloc tt_ok rfl) rfl (.inr (by rintro _ _ ⟨_, rfl, rfl⟩; exact ⟨_, pP⟩)) ?_
     rintro _ _ ⟨b8, rfl, rfl⟩
     refine k_chg rfl rfl rfl (chg_alloc tt_ok rfl) rfl (.inr (by rintro _ _ ⟨_, rfl, rfl⟩; exact ⟨_, pP⟩)) ?_
     rintro _ _ ⟨b9, rfl, rfl⟩
     refine k_chg0 rfl rfl rfl (chg_store tt_ok rfl (Upd.there Upd.here) rfl rfl rfl rfl rfl rfl) (.inl rfl) ?_
     rintro _ _ rfl
     refine k_chg0 rfl rfl rfl (chg_store tt_ok rfl Upd.here rfl rfl rfl rfl rfl rfl) (.inl rfl) ?_
     rintro _ _ rfl
     refine k_end (by kernel_rfl) ?_
     exact wx_join ⟨b8, b9, rfl, rfl⟩ (ag4 rfl rfl rfl rfl) pI
    refine k_chgf rfl rfl (chg_alloc tt_ok rfl) rfl (.inr (by rintro _ _ ⟨_, rfl, rfl⟩; exact ⟨_, pP⟩)) ?_
    rintro _ _ ⟨b9, rfl, rfl⟩
    refine k_chg rfl rfl rfl (chg_alloc tt_ok rfl) rfl (.inr (by rintro _ _ ⟨_, rfl, rfl⟩; exact ⟨_, pP⟩)) ?_
    rintro _ _ ⟨b8, rfl, rfl⟩
    refine k_chg0 rfl rfl rfl (chg_store tt_ok rfl Upd.here rfl rfl rfl rfl rfl rfl) (.inl rfl) ?_
    rintro _ _ rfl
    refine k_chg0 rfl rfl rfl (chg_store tt_ok rfl (Upd.there Upd.here) rfl rfl rfl rfl rfl rfl) (.inl rfl) ?_
    rintro _ _ rfl
    refine k_end (by kernel_rfl) ?_
    exact wx_join ⟨b8, b9, rfl, rfl⟩ (ag4 rfl rfl rfl rfl) pI
   ·refine k_chgf rfl rfl (chg_alloc tt_ok rfl) rfl (.inr (by rintro _ _ ⟨_, rfl, rfl⟩; exact ⟨_, pP⟩)) ?_
    rintro _ _ ⟨b8, rfl, rfl⟩
    refine k_two (i := 7) (j := 9) (t1 := [9, 10, 11]) (t2 := [7, 10, 11]) (by kernel_rfl) (by kernel_rfl) (by kernel_rfl) (by kernel_rfl) ?_ ?_
    ·refine k_cqf rfl rfl Tryz.call93 rfl rfl rfl (q_pf (k_step_moved x89) (fun _ _ => trivial)) rfl pI ?_
     refine k_chg rfl rfl rfl (chg_alloc tt_ok rfl) rfl (.inr (by rintro _ _ ⟨_, rfl, rfl⟩; exact ⟨_, pP⟩)) ?_
     rintro _ _ ⟨b9, rfl, rfl⟩
     refine k_chg0 rfl rfl rfl (chg_store tt_ok rfl (Upd.there Upd.here) rfl rfl rfl rfl rfl rfl) (.inl rfl) ?_
     rintro _ _ rfl
     refine k_chg0 rfl rfl rfl (chg_store tt_ok rfl Upd.here rfl rfl rfl rfl rfl rfl) (.inl rfl) ?_
     rintro _ _ rfl
     refine k_end (by kernel_rfl) ?_
     exact wx_join ⟨b8, b9, rfl, rfl⟩ (ag4 rfl rfl rfl rfl) pI
    refine k_chgf rfl rfl (chg_alloc tt_ok rfl) rfl (.inr (by rintro _ _ ⟨_, rfl, rfl⟩; exact ⟨_, pP⟩)) ?_
    rintro _ _ ⟨b9, rfl, rfl⟩
    refine k_cq rfl rfl rfl Tryz.call93 rfl rfl rfl (q_pf (k_step_moved x89) (fun _ _ => trivial)) rfl pI ?_
    refine k_chg0 rfl rfl rfl (chg_store tt_ok rfl (Upd.there Upd.here) rfl rfl rfl rfl rfl rfl) (.inl rfl) ?_
    rintro _ _ rfl
    refine k_chg0 rfl rfl rfl (chg_store tt_ok rfl Upd.here rfl rfl rfl rfl rfl rfl) (.inl rfl) ?_
    rintro _ _ rfl
    refine k_end (by kernel_rfl) ?_
    exact wx_join ⟨b8, b9, rfl, rfl⟩ (ag4 rfl rfl rfl rfl) pI
   refine k_chgf rfl rfl (chg_alloc tt_ok rfl) rfl (.inr (by rintro _ _ ⟨_, rfl, rfl⟩; exact ⟨_, pP⟩)) ?_
   rintro _ _ ⟨b9, rfl, rfl⟩
   refine k_two (i := 7) (j := 8) (t1 := [8, 10, 11]) (t2 := [7, 10, 11]) (by kernel_rfl) (by kernel_rfl) (by kernel_rfl) (by kernel_rfl) ?_ ?_
   ·refine k_cqf rfl rfl Tryz.call93 rfl rfl rfl (q_pf (k_step_moved x89) (fun _ _ => trivial)) rfl pI ?_
    refine k_chg rfl rfl rfl (chg_alloc tt_ok rfl) rfl (.inr (by rintro _ _ ⟨_, rfl, rfl⟩; exact ⟨_, pP⟩)) ?_
    rintro _ _ ⟨b8, rfl, rfl⟩
    refine k_chg0 rfl rfl rfl (chg_store tt_ok rfl Upd.here rfl rfl rfl rfl rfl rfl) (.inl rfl) ?_
    rintro _ _ rfl
    refine k_chg0 rfl rfl rfl (chg_store tt_ok rfl (Upd.there Upd.here) rfl rfl rfl rfl rfl rfl) (.inl rfl) ?_
    rintro _ _ rfl
    refine k_end (by kernel_rfl) ?_
    exact wx_join ⟨b8, b9, rfl, rfl⟩ (ag4 rfl rfl rfl rfl) pI
   refine k_chgf rfl rfl (chg_alloc tt_ok rfl) rfl (.inr (by rintro _ _ ⟨_, rfl, rfl⟩; exact ⟨_, pP⟩)) ?_
   rintro _ _ ⟨b8, rfl, rfl⟩
   refine k_cq rfl rfl rfl Tryz.call93 rfl rfl rfl (q_pf (k_step_moved x89) (fun _ _ => trivial)) rfl pI ?_
   refine k_chg0 rfl rfl rfl (chg_store tt_ok rfl Upd.here rfl rfl rfl rfl rfl rfl) (.inl rfl) ?_
   rintro _ _ rfl
   refine k_chg0 rfl rfl rfl (chg_store tt_ok rfl (Upd.there Upd.here) rfl rfl rfl rfl rfl rfl) (.inl rfl) ?_
   rintro _ _ rfl
   refine k_end (by kernel_rfl) ?_
   exact wx_join ⟨b8, b9, rfl, rfl⟩ (ag4 rfl rfl rfl rfl) pI
  ·refine k_chgf rfl rfl (chg_alloc tt_ok rfl) rfl (.inr (by rintro _ _ ⟨_, rfl, rfl⟩; exact ⟨_, pP⟩)) ?_
   rintro _ _ ⟨b8, rfl, rfl⟩
   refine k_two (i := 3) (j := 9) (t1 := []) (t2 := [3, 7, 10, 11]) (by kernel_rfl) (by kernel_rfl) (by kernel_rfl) (by kernel_rfl) ?_ ?_
   ·refine k_cqf rfl rfl Tryz.call93 rfl rfl rfl (q_pf (k_step_moved x85) (fun _ _ => trivial)) rfl pI ?_
    refine k_two (i := 7) (j := 9) (t1 := [9, 10, 11]) (t2 := [7, 10, 11]) (by kernel_rfl) (by kernel_rfl) (by kernel_rfl) (by kernel_rfl) ?_ ?_
    ·refine k_cqf rfl rfl Tryz.call93 rfl rfl rfl (q_pf (k_step_moved x89) (fun _ _ => trivial)) rfl pI ?_
     refine k_chg rfl rfl rfl (chg_alloc tt_ok rfl) rfl (.inr (by rintro _ _ ⟨_, rfl, rfl⟩; exact ⟨_, pP⟩)) ?_
     rintro _ _ ⟨b9, rfl, rfl⟩
     refine k_chg0 rfl rfl rfl (chg_store tt_ok rfl (Upd.there Upd.here) rfl rfl rfl rfl rfl rfl) (.inl rfl) ?_
     rintro _ _ rfl
     refine k_chg0 rfl rfl rfl (chg_store tt_ok rfl Upd.here rfl rfl rfl rfl rfl rfl) (.inl rfl) ?_
     rintro _ _ rfl
     refine k_end (by kernel_rfl) ?_
     exact wx_join ⟨b8, b9, rfl, rfl⟩ (ag4 rfl rfl rfl rfl) pI
    refine k_chgf rfl rfl (chg_alloc tt_ok rfl) rfl (.inr (by rintro _ _ ⟨_, rfl, rfl⟩; exact ⟨_, pP⟩)) ?_
    rintro _ _ ⟨b9, rfl, rfl⟩
    refine k_cq rfl rfl rfl Tryz.call93 rfl rfl rfl (q_pf (k_step_moved x89) (fun _ _ => trivial)) rfl pI ?_
    refine k_chg0 rfl rfl rfl (chg_store tt_ok rfl (Upd.there Upd.here) rfl rfl rfl rfl rfl rfl) (.inl rfl) ?_
    rintro _ _ rfl
    refine k_chg0 rfl rfl rfl (chg_store tt_ok rfl Upd.here rfl rfl rfl rfl rfl rfl) (.inl rfl) ?_
    rintro _ _ rfl
    refine k_end (by kernel_rfl) ?_
    exact wx_join ⟨b8, b9, rfl, rfl⟩ (ag4 rfl rfl rfl rfl) pI
   refine k_chgf rfl rfl (chg_alloc tt_ok rfl) rfl (.inr (by rintro _ _ ⟨_, rfl, rfl⟩; exact ⟨_, pP⟩)) ?_
   rintro _ _ ⟨b9, rfl, rfl⟩
   refine k_cq rfl rfl rfl Tryz.call93 rfl rfl rfl (q_pf (k_step_moved x85) (fun _ _ => trivial)) rfl pI ?_
   refine k_cq rfl rfl rfl Tryz.call93 rfl rfl rfl (q_pf (k_step_moved x89) (fun _ _ => trivial)) rfl pI ?_
   refine k_chg0 rfl rfl rfl (chg_store tt_ok rfl (Upd.there Upd.here) rfl rfl rfl rfl rfl rfl) (.inl rfl) ?_
   rintro _ _ rfl
   refine k_chg0 rfl rfl rfl (chg_store tt_ok rfl Upd.here rfl rfl rfl rfl rfl rfl) (.inl rfl) ?_
   rintro _ _ rfl
   refine k_end (by kernel_rfl) ?_
   exact wx_join ⟨b8, b9, rfl, rfl⟩ (ag4 rfl rfl rfl rfl) pI
  refine k_chgf rfl rfl (chg_alloc tt_ok rfl) rfl (.inr (by rintro _ _ ⟨_, rfl, rfl⟩; exact ⟨_, pP⟩)) ?_
  rintro _ _ ⟨b9, rfl, rfl⟩
  refine k_two (i := 3) (j := 8) (t1 := []) (t2 := [3, 7, 10, 11]) (by kernel_rfl) (by kernel_rfl) (by kernel_rfl) (by kernel_rfl) ?_ ?_
  ·refine k_cqf rfl rfl Tryz.call93 rfl rfl rfl (q_pf (k_step_moved x85) (fun _ _ => trivial)) rfl pI ?_
   refine k_two (i := 7) (j := 8) (t1 := [8, 10, 11]) (t2 := [7, 10, 11]) (by kernel_rfl) (by kernel_rfl) (by kernel_rfl) (by kernel_rfl) ?_ ?_
   ·refine k_cqf rfl rfl Tryz.call93 rfl rfl rfl (q_pf (k_step_moved x89) (fun _ _ => trivial)) rfl pI ?_
    refine k_chg rfl rfl rfl (chg_alloc tt_ok rfl) rfl (.inr (by rintro _ _ ⟨_, rfl, rfl⟩; exact ⟨_, pP⟩)) ?_
    rintro _ _ ⟨b8, rfl, rfl⟩
    refine k_chg0 rfl rfl rfl (chg_store tt_ok rfl Upd.here rfl rfl rfl rfl rfl rfl) (.inl rfl) ?_
    rintro _ _ rfl
    refine k_chg0 rfl rfl rfl (chg_store tt_ok rfl (Upd.there Upd.here) rfl rfl rfl rfl rfl rfl) (.inl rfl) ?_
    rintro _ _ rfl
    refine k_end (by kernel_rfl) ?_
    exact wx_join ⟨b8, b9, rfl, rfl⟩ (ag4 rfl rfl rfl rfl) pI
   refine k_chgf rfl rfl (chg_alloc tt_ok rfl) rfl (.inr (by rintro _ _ ⟨_, rfl, rfl⟩; exact ⟨_, pP⟩)) ?_
   rintro _ _ ⟨b8, rfl, rfl⟩
   refine k_cq rfl rfl rfl Tryz.call93 rfl rfl rfl (q_pf (k_step_moved x89) (fun _ _ => trivial)) rfl pI ?_
   refine k_chg0 rfl rfl rfl (chg_store tt_ok rfl Upd.here rfl rfl rfl rfl rfl rfl) (.inl rfl) ?_
   rintro _ _ rfl
   refine k_chg0 rfl rfl rfl (chg_store tt_ok rfl (Upd.there Upd.here) rfl rfl rfl rfl rfl rfl) (.inl rfl) ?_
   rintro _ _ rfl
   refine k_end (by kernel_rfl) ?_
   exact wx_join ⟨b8, b9, rfl, rfl⟩ (ag4 rfl rfl rfl rfl) pI
  refine k_chgf rfl rfl (chg_alloc tt_ok rfl) rfl (.inr (by rintro _ _ ⟨_, rfl, rfl⟩; exact ⟨_, pP⟩)) ?_
  rintro _ _ ⟨b8, rfl, rfl⟩
  refine k_cq rfl rfl rfl Tryz.call93 rfl rfl rfl (q_pf (k_step_moved x85) (fun _ _ => trivial)) rfl pI ?_
  refine k_cq rfl rfl rfl Tryz.call93 rfl rfl rfl (q_pf (k_step_moved x89) (fun _ _ => trivial)) rfl pI ?_
  refine k_chg0 rfl rfl rfl (chg_store tt_ok rfl Upd.here rfl rfl rfl rfl rfl rfl) (.inl rfl) ?_
  rintro _ _ rfl
  refine k_chg0 rfl rfl rfl (chg_store tt_ok rfl (Upd.there Upd.here) rfl rfl rfl rfl rfl rfl) (.inl rfl) ?_
  rintro _ _ rfl
  refine k_end (by kernel_rfl) ?_
  exact wx_join ⟨b8, b9, rfl, rfl⟩ (ag4 rfl rfl rfl rfl) pI
 rintro _ _ ⟨b8, b9, rfl, rfl⟩
 refine wc_seq (wc_seq (wc_quiet (by kernel_rfl) (by kernel_rfl) (qLd (v := agP v85) rfl (mTT mH) rfl rfl ?_)))
 obtain ⟨v91, x91, h⟩ := bsome h
 refine wq_cq Tryz.call95 rfl rfl rfl (q_pf (k_step_box x91) (fun _ _ => trivial)) rfl ?_
 refine qLd (v := agP v89) rfl (mTT (mT mH)) rfl rfl ?_
 obtain ⟨v93, x93, h⟩ := bsome h
 refine wq_cq Tryz.call95 rfl rfl rfl (q_pf (k_step_box x93) (fun _ _ => trivial)) rfl ?_
 obtain ⟨v94, x94, h⟩ := bsome h
 refine wq_cq Tryz.call94 rfl rfl rfl (q_pf (k_geom_Over x94) (fun _ _ => trivial)) rfl ?_
 refine wq_nil (wx_then ?_)
 replace h := bsome h; obtain ⟨⟨zaf, zag⟩, h, hj60⟩ := h; try dsimp only at hj60
 refine wc_join2 (fun E L => E = [(2, .pointer (some ⟨b2, 0, none⟩)), (4, .pointer (some ⟨b4, 0, none⟩)), (8, .pointer (some ⟨b8, 0, none⟩)), (9, .pointer (some ⟨b9, 0, none⟩))] ∧ L = (⟨b2, (.int .u64 v12.Frame :: .int .u64 v12.Seed :: pl14 zc [.slice zf ze zg, .int .u16 v12.Score.1, .int .u16 v12.Score.2]), 64, (0, 0)⟩ :: (⟨b4, [.int .u64 0, .int .u64 0, .int .i32 0, .int .i32 0, .int .i32 0, .int .i32 0, .int .u8 0, .int .u8 0, .int .u8 0, .int .i32 0, .int .i32 0, .int .i32 0, .int .i32 0, .int .u8 0, .int .u8 0, .int .u8 0, .slice none 0 0, .int .u16 0, .int .u16 0], 64, (0, 0)⟩ :: (⟨b8, (pl7 zaf []), 58, (0, 0)⟩ :: (⟨b9, (pl7 zag []), 58, (0, 0)⟩ :: (zi ++ [])))))) ?_ ?_
 ·refine wcc h rfl ?_ ?_ <;> clear h <;> intro h
  ·refine wc_k2 (Ls := (⟨b2, (.int .u64 v12.Frame :: .int .u64 v12.Seed :: pl14 zc [.slice zf ze zg, .int .u16 v12.Score.1, .int .u16 v12.Score.2]), 64, (0, 0)⟩ :: (⟨b4, [.int .u64 0, .int .u64 0, .int .i32 0, .int .i32 0, .int .i32 0, .int .i32 0, .int .u8 0, .int .u8 0, .int .u8 0, .int .i32 0, .int .i32 0, .int .i32 0, .int .i32 0, .int .u8 0, .int .u8 0, .int .u8 0, .slice none 0 0, .int .u16 0, .int .u16 0], 64, (0, 0)⟩ :: (⟨b8, (pl7 v85 []), 58, (0, 0)⟩ :: (⟨b9, (pl7 v89 []), 58, (0, 0)⟩ :: (zi ++ [])))))) [3, 7, 8, 9] [7, 8, 9] [0, 1, 3, 7, 0, 16, 48, 127, 255, 511] [0, 1, 2, 4, 5, 6, 3, 7, 8, 9] (by kernel_rfl) (by kernel_rfl) (by kernel_rfl) ?_
   refine kM pI 1 rfl (k_val (v := .pointer (some ⟨b2, 2, none⟩)) rfl rfl rfl pI (val_ia (j := 0) tt_ok rfl rfl rfl rfl rfl rfl rfl) rfl (k_val (v := agP zc.1) rfl rfl rfl pI (val_load tt_ok rfl mH rfl) rfl (kM pI 1 rfl ?_)))
   refine k_val (v := .pointer (some ⟨b2, 9, none⟩)) rfl rfl rfl pI (val_ia (j := 1) tt_ok rfl rfl rfl rfl rfl rfl rfl) rfl (k_val (v := agP zc.2) rfl rfl rfl pI (val_load tt_ok rfl mH rfl) rfl ?_)
   obtain ⟨v98, x98, h⟩ := bsome h
   refine k_cq rfl rfl rfl Tryz.call96 rfl rfl rfl (q_pf (k_step_stopped x98) (fun _ _ => trivial)) rfl pI ?_
   obtain ⟨v102, x102, h⟩ := bsome h
   refine k_cq rfl rfl rfl Tryz.call96 rfl rfl rfl (q_pf (k_step_stopped x102) (fun _ _ => trivial)) rfl pI ?_
   refine k_chg0 rfl rfl rfl (chg_store tt_ok rfl (Upd.there (Upd.there Upd.here)) rfl rfl rfl rfl rfl rfl) (.inl rfl) ?_
   rintro _ _ rfl
   refine k_chg0 rfl rfl rfl (chg_store tt_ok rfl (Upd.there (Upd.there (Upd.there Upd.here))) rfl rfl rfl rfl rfl rfl) (.inl rfl) ?_
   rintro _ _ rfl
   refine k_end (by kernel_rfl) ?_
   obtain ⟨rfl, rfl⟩ := pJ2 h
   exact wx_join ⟨rfl, rfl⟩ (ag4 rfl rfl rfl rfl) pI
  refine wc_skip ?_
  obtain ⟨rfl, rfl⟩ := pJ2 h
  exact wx_join ⟨rfl, rfl⟩ (ag4 rfl rfl rfl rfl) pI
 rintro _ _ ⟨rfl, rfl⟩
 have h := hj60; clear hj60
 refine wSR (wLd (v := agP zaf) rfl (mTT mH) rfl rfl (wLd (v := agP zag) rfl (mTT (mT mH)) rfl rfl (wM 2 rfl (lSt Upd.here ?_))))
 refine wNT (wSR ?_)
 obtain ⟨zl, x107, h⟩ := bsome h
 refine wl_cs Tryz.call97 rfl rfl rfl (s_sp (k_step_fly (p0 := (T_api_State.mk v12.Frame v12.Seed (zaf, zag) za v12.Score)) (p0t := 64) zj zk x107) pP (fun _ _ => trivial)) rfl ?_
 rintro _ _ ⟨_, ⟨zas, zau, zat, zap, zaq, zar, rfl, rfl⟩, rfl⟩
 refine wNT (wc_seq (wSR (wM 1 rfl (wNT (wc_block ?_)))))
 replace h := bsome h; obtain ⟨⟨zak, zal, zam, zan, zao⟩, h, hl71⟩ := h; try dsimp only at hl71
 refine wc_loop (fun m E L => ∃ zv zs zt zh zb zn zp zm zq zu, m_step_Step_L70 F m zv zs zt zh zb zn = some (zak, zal, zam, zan, zao) ∧ zm = zb.length ∧ Own 119 6 zp zm zq (flat c_T_api_Shot zb) zu ∧ E = [(2, .pointer (some ⟨b2, 0, none⟩)), (4, .pointer (some ⟨b4, 0, none⟩)), (108, .int .i64 zv)] ∧ L = (⟨b2, (.int .u64 zs :: .int .u64 zt :: pl14 zh [.slice zp zm zq, .int .u16 zn.1, .int .u16 zn.2]), 64, (0, 0)⟩ :: (⟨b4, [.int .u64 0, .int .u64 0, .int .i32 0, .int .i32 0, .int .i32 0, .int .i32 0, .int .u8 0, .int .u8 0, .int .u8 0, .int .i32 0, .int .i32 0, .int .i32 0, .int .i32 0, .int .u8 0, .int .u8 0, .int .u8 0, .slice none 0 0, .int .u16 0, .int .u16 0], 64, (0, 0)⟩ :: (zu ++ [])))) F ⟨(0 : Int), zl.Frame, zl.Seed, zl.Players, zl.Shots, zl.Score, zas, zau, zat, zap, h, zaq, zar, rfl, rfl⟩ (ag3 rfl rfl rfl) pI ?_
 clear h
 rintro m71 _ _ ⟨zv, zs, zt, zh, zb, zn, zp, zm, zq, zu, h, zw, zx, rfl, rfl⟩
 rcases m71 with _ | m71
 ·rw [m_step_Step_L70.eq_1] at h; cases h
 rw [m_step_Step_L70.eq_2] at h
 refine wSR (wM 1 rfl (wNT (wc_seq (wcc h rfl ?_ ?_)))) <;> clear h <;> intro h
 ·refine wc_skip (wx_then (wc_seq (wc_block (wSR (wM 2 rfl (wNT (wSR (wM 2 rfl ?_))))))))
  rcases Bool.eq_false_or_eq_true (zv == (0 : Int)) with hx1130 | hx1130
  ·replace h := ct hx1130 h
   refine wl_val (v := .pointer (some ⟨b2, 2, none⟩)) (val_ia (j := 0) tt_ok rfl rfl rfl rfl (by simpa using hx1130) rfl rfl) rfl ?_
   refine wM 1 rfl (wLd rfl mH rfl rfl (wM 1 rfl (wNT (wcc h rfl ?_ ?_)))) <;> clear h <;> intro h
   ·refine wc_region (wM 1 rfl ?_)
    obtain ⟨zd, x118, h⟩ := bsome h
    refine wl_cs Tryz.call98 rfl rfl rfl (s_sp (k_step_revive (p0 := (T_api_State.mk zs zt zh zb zn)) (p0t := 64) zw zx x118) pP (fun _ _ => trivial)) rfl ?_
    rintro _ _ ⟨_, ⟨zac, zae, zad, zz, zaa, zab, rfl, rfl⟩, rfl⟩
    refine wl_nil (wx_block (wx_then (wc_region (wM 2 rfl (wl_nil ?_)))))
    exact wx_round m71 (Nat.lt_succ_self m71) ⟨(IntKind.wrap .i64 (zv + (1 : Int))), zd.Frame, zd.Seed, zd.Players, zd.Shots, zd.Score, zac, zae, zad, zz, h, zaa, zab, rfl, rfl⟩ (ag3 rfl rfl rfl) pI
   refine wc_skip (wx_block (wx_then (wc_region (wM 2 rfl (wl_nil ?_)))))
   exact wx_round m71 (Nat.lt_succ_self m71) ⟨(IntKind.wrap .i64 (zv + (1 : Int))), zs, zt, zh, zb, zn, zp, zm, zq, zu, h, zw, zx, rfl, rfl⟩ (ag3 rfl rfl rfl) pI
  replace h := cf hx1130 h
  rcases Bool.eq_false_or_eq_true (zv == (1 : Int)) with hx1131 | hx1131
  ·replace h := ct hx1131 h
   refine wl_val (v := .pointer (some ⟨b2, 9, none⟩)) (val_ia (j := 1) tt_ok rfl rfl rfl rfl (by simpa using hx1131) rfl rfl) rfl ?_
   refine wM 1 rfl (wLd rfl mH rfl rfl (wM 1 rfl (wNT (wcc h rfl ?_ ?_)))) <;> clear h <;> intro h
   ·refine wc_region (wM 1 rfl ?_)
    obtain ⟨zd, x118, h⟩ := bsome h
    refine wl_cs Tryz.call98 rfl rfl rfl (s_sp (k_step_revive (p0 := (T_api_State.mk zs zt zh zb zn)) (p0t := 64) zw zx x118) pP (fun _ _ => trivial)) rfl ?_
    rintro _ _ ⟨_, ⟨zac, zae, zad, zz, zaa, zab, rfl, rfl⟩, rfl⟩
    refine wl_nil (wx_block (wx_then (wc_region (wM 2 rfl (wl_nil ?_)))))
    exact wx_round m71 (Nat.lt_succ_self m71) ⟨(IntKind.wrap .i64 (zv + (1 : Int))), zd.Frame, zd.Seed, zd.Players, zd.Shots, zd.Score, zac, zae, zad, zz, h, zaa, zab, rfl, rfl⟩ (ag3 rfl rfl rfl) pI
   refine wc_skip (wx_block (wx_then (wc_region (wM 2 rfl (wl_nil ?_)))))
   exact wx_round m71 (Nat.lt_succ_self m71) ⟨(IntKind.wrap .i64 (zv + (1 : Int))), zs, zt, zh, zb, zn, zp, zm, zq, zu, h, zw, zx, rfl, rfl⟩ (ag3 rfl rfl rfl) pI
  replace h := cf hx1131 h
  cases h
 refine wc_exit (wx_then_exit ?_)
 obtain ⟨rfl, rfl, rfl, rfl, rfl⟩ := pJ5 h
 have h := hl71; clear hl71; try dsimp only [orE_l, orE_r] at h
 refine wx_then_exit (wx_block_exit (wx_then (wSR ?_)))
 refine wM 1 rfl (wLd rfl mH rfl rfl (wM 2 rfl (lSt Upd.here ?_)))
 refine wNT (wSR (wLd (v := .agg #[.int .u64 (IntKind.wrap .u64 (zs + (1 : Int))), .int .u64 zt, .int .i32 zh.1.X, .int .i32 zh.1.Y, .int .i32 zh.1.VX, .int .i32 zh.1.VY, .int .u8 zh.1.Health, .int .u8 zh.1.Cool, .int .u8 zh.1.Face, .int .i32 zh.2.X, .int .i32 zh.2.Y, .int .i32 zh.2.VX, .int .i32 zh.2.VY, .int .u8 zh.2.Health, .int .u8 zh.2.Cool, .int .u8 zh.2.Face, .slice zp zm zq, .int .u16 zn.1, .int .u16 zn.2]) rfl mH rfl rfl (lSt (Upd.there Upd.here) ?_)))
 refine wNT (wc_ret ?_)
 obtain rfl := sI h
 exact wE Tryz.results64 (Res.cell rfl (mT mH) rfl Res.nil) ⟨zp, zm, zq, zu, zw, zx, rfl, rfl⟩ pI

theorem k_slices_Clone___api_Input_api_Input {p0 : (List Int)} {r0 : (List Int)} (p0N0 : p0n0 = p0.length) (p0H0 : p0n0 ≤ p0c0) (h : m_slices_Clone___api_Input_api_Input F p0 = some r0) :
    SpD Tryz.prog 65 [.slice p0a0 p0n0 p0c0] [] (fun w => Rds w (ids []) [] p0a0 (flat (e1 .u8) p0)) (fun v D => ∃ r0a0 r0n0 r0c0 r0B0, r0n0 = r0.length ∧ Own 52 1 r0a0 r0n0 r0c0 (flat (e1 .u8) r0) r0B0 ∧ v = .slice r0a0 r0n0 r0c0 ∧ D = fun F => (r0B0 ++ F)) := by
 unfold m_slices_Clone___api_Input_api_Input at h
 refine sp_of_wc Tryz.func65 rfl Tryz.ntmps65 rfl rfl (fun w0 hR => ?_)
 have p0S0 := hR
 refine wSR (wM 1 rfl (wNT (wc_seq (wSR (wM 1 rfl ?_)))))
 rcases p0a0 with _ | dp0a0
 ·obtain rfl : p0 = [] := rds_none p0S0 (e1_len _) (by decide)
  refine wM 1 rfl (wNT (wc_cond_true rfl (wSR (wM 1 rfl (wNT (wc_ret (wx_then_ret ?_)))))))
  simp [appI] at h
  obtain rfl := h
  exact wE Tryz.results65 (rs1 rfl) ⟨none, 0, 0, [], rfl, Own.zero, rfl, rfl⟩ pI
 refine wM 1 rfl (wNT (wc_cond_false rfl (wc_skip (wx_then (wSR (wl_chg (chg_bsv (enc := (e1 .u8)) (xs := ([] : List Int)) tt_ok rfl rfl rfl rfl rfl rfl rfl rfl (e1_len _)) rfl ?_))))))
 rintro _ _ ⟨a5, n5_, c5, B5, rfl, N5, V5, rfl⟩
 refine wM 1 rfl ?_
 obtain ⟨v7, x7, h⟩ := bsome h
 refine wl_chg (chg_app (enc := (e1 .u8)) (ys := p0) tt_ok rfl rfl rfl rfl rfl rfl N5 p0N0 V5 hA' p0S0 rsub_nil (e1_len _) (fun _ => rfl) rfl x7) rfl ?_
 rintro _ _ ⟨a7, n7_, c7, B7, rfl, N7, V7, rfl⟩
 refine wM 1 rfl (wNT (wc_ret ?_))
 obtain rfl := sI h
 exact wE Tryz.results65 (rs1 rfl) ⟨a7, n7_, c7, B7, N7, V7, rfl, rfl⟩ pI

end Go.Proofs.YtkdbpenjkcjimaaGreatDoor
