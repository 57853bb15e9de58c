/-
  Each function computes what its model says. Printed by a program of this claim's own.
-/
import Derived.Test.YtkekgagekgadmaaGreatDoorTab
import Derived.Test.YtkekgagekgadmaaGreatDoorMod
namespace Go.Proofs.YtkekgagekgadmaaGreatDoor
open Go.Proofs.YtkekgagekgadmaaGreatDoor.Eng
set_option linter.unusedVariables false
set_option linter.unusedSimpArgs false
set_option maxHeartbeats 4000000
set_option maxRecDepth 20000

theorem k_state_Start {F : Nat} {p0 : Int} {r0 : T_api_State} (h : m_state_Start F p0 = some r0) :
    SpD Tryz.prog 15 [.int .u64 p0] [] (fun w => True) (fun v D => ∃ (r0a0 : Option Addr) (r0n0 r0c0 : Nat) (r0B0 : List Blk), r0n0 = r0.Shots.length ∧ Own 93 6 r0a0 r0n0 r0c0 (flat c_T_api_Shot r0.Shots) r0B0 ∧ v = agS r0 r0a0 r0n0 r0c0 ∧ D = fun F => (r0B0 ++ F)) := by
 unfold m_state_Start at h
 refine sp_of_wc Tryz.func15 rfl Tryz.ntmps15 rfl rfl (fun w0 hR => ?_)
 refine wSR (wl_alloc tt_ok rfl rfl (fun b2 => (wNT (wSR (wP rfl rfl (wP (v := .agg #[.int .u64 (0 : Int), .int .u64 p0, .int .i32 (0 : Int), .int .i32 (0 : Int), .int .i32 (0 : Int), .int .i32 (0 : Int), .int .u8 (0 : Int), .int .u8 (0 : Int), .int .u8 (0 : Int), .int .i32 (0 : Int), .int .i32 (0 : Int), .int .i32 (0 : Int), .int .i32 (0 : Int), .int .u8 (0 : Int), .int .u8 (0 : Int), .int .u8 (0 : Int), .slice none 0 0, .int .u16 (0 : Int), .int .u16 (0 : Int)]) rfl rfl (wl_alloc tt_ok rfl rfl (fun b3 => ?_))))))))
 apply wl_store tt_ok; rfl; exact Upd.here; rfl; rfl; rfl; rfl; rfl; rfl
 refine wNT (wc_seq (wSR (wP rfl rfl (wNT (wc_block ?_)))))
 obtain ⟨zc, h, hl9⟩ := bsome h
 refine wc_loop (fun m E L => ∃ (zb : Int) (za : (T_api_Player × T_api_Player)), m_state_Start_L8 F m zb za = some zc ∧ E = [(2, .pointer (some ⟨b2, 0, none⟩)), (3, .pointer (some ⟨b3, 0, none⟩)), (7, .int .i64 zb)] ∧ L = (⟨b2, [.int .u64 (0 : Int), .int .u64 (0 : Int), .int .i32 (0 : Int), .int .i32 (0 : Int), .int .i32 (0 : Int), .int .i32 (0 : Int), .int .u8 (0 : Int), .int .u8 (0 : Int), .int .u8 (0 : Int), .int .i32 (0 : Int), .int .i32 (0 : Int), .int .i32 (0 : Int), .int .i32 (0 : Int), .int .u8 (0 : Int), .int .u8 (0 : Int), .int .u8 (0 : Int), .slice none 0 0, .int .u16 (0 : Int), .int .u16 (0 : Int)], 30, (0, 0)⟩ :: (⟨b3, (.int .u64 (0 : Int) :: .int .u64 p0 :: pl14 za [.slice none 0 0, .int .u16 (0 : Int), .int .u16 (0 : Int)]), 30, (0, 0)⟩ :: []))) F ⟨(0 : Int), ((T_api_Player.mk (0 : Int) (0 : Int) (0 : Int) (0 : Int) (0 : Int) (0 : Int) (0 : Int)), (T_api_Player.mk (0 : Int) (0 : Int) (0 : Int) (0 : Int) (0 : Int) (0 : Int) (0 : Int))), h, rfl, rfl⟩ (agree_cons rfl (agree_cons rfl (agree_cons rfl agree_nil))) (pSub (pS (pH pNil))) ?_
 clear h
 rintro m9 _ _ ⟨zb, za, h, rfl, rfl⟩
 rcases m9 with _ | m9
 ·rw [m_state_Start_L8.eq_1] at h; cases h
 rw [m_state_Start_L8.eq_2] at h
 refine wSR (wP (v := .bool (decide (zb < (2 : Int)))) rfl rfl (wNT (wc_seq (wc_cond rfl (fun hc => ?_) (fun hc => ?_)))))
 ·replace h := ct hc h
  refine wc_skip (wx_then (wc_seq (wc_block (wSR ?_))))
  iterate 2 refine wP rfl rfl ?_
  refine wNT (wc_region ?_)
  iterate 2 refine wP rfl rfl ?_
  refine wP (v := .int .i32 (IntKind.wrap .i32 zb)) rfl rfl (wP (v := .int .i32 (IntKind.wrap .i32 ((IntKind.wrap .i32 zb) * (45056 : Int)))) rfl rfl (wP (v := .int .i32 (IntKind.wrap .i32 ((8192 : Int) + (IntKind.wrap .i32 ((IntKind.wrap .i32 zb) * (45056 : Int)))))) rfl rfl (wP rfl rfl (wP (v := .int .u8 (IntKind.wrap .u8 zb)) rfl rfl (wP (v := .agg #[.int .i32 (IntKind.wrap .i32 ((8192 : Int) + (IntKind.wrap .i32 ((IntKind.wrap .i32 zb) * (45056 : Int))))), .int .i32 (14336 : Int), .int .i32 (0 : Int), .int .i32 (0 : Int), .int .u8 (100 : Int), .int .u8 (0 : Int), .int .u8 (IntKind.wrap .u8 zb)]) rfl rfl (wP (v := .pointer (some ⟨b3, 2, none⟩)) rfl rfl ?_))))))
  rcases Bool.eq_false_or_eq_true (zb == (0 : Int)) with hx190 | hx190
  ·replace h := ct hx190 h
   refine wl_val (v := .pointer (some ⟨b3, 2, none⟩)) (val_ia (j := 0) tt_ok rfl rfl rfl rfl (by simpa using hx190) rfl rfl) rfl ?_
   apply wl_store tt_ok; rfl; exact (Upd.there Upd.here); rfl; rfl; rfl; rfl; rfl; rfl
   refine wl_nil (wx_block (wx_then (wc_region (wP (v := .int .i64 (IntKind.wrap .i64 (zb + (1 : Int)))) rfl rfl (wP rfl rfl (wl_nil ?_))))))
   exact wx_round m9 (Nat.lt_succ_self m9) ⟨(IntKind.wrap .i64 (zb + (1 : Int))), ((T_api_Player.mk (IntKind.wrap .i32 ((8192 : Int) + (IntKind.wrap .i32 ((IntKind.wrap .i32 zb) * (45056 : Int))))) (14336 : Int) (0 : Int) (0 : Int) (100 : Int) (0 : Int) (IntKind.wrap .u8 zb)), za.2), h, rfl, rfl⟩ (agree_cons rfl (agree_cons rfl (agree_cons rfl agree_nil))) (pSub (pHH pNil))
  replace h := cf hx190 h
  rcases Bool.eq_false_or_eq_true (zb == (1 : Int)) with hx191 | hx191
  ·replace h := ct hx191 h
   refine wl_val (v := .pointer (some ⟨b3, 9, none⟩)) (val_ia (j := 1) tt_ok rfl rfl rfl rfl (by simpa using hx191) rfl rfl) rfl ?_
   apply wl_store tt_ok; rfl; exact (Upd.there Upd.here); rfl; rfl; rfl; rfl; rfl; rfl
   refine wl_nil (wx_block (wx_then (wc_region (wP (v := .int .i64 (IntKind.wrap .i64 (zb + (1 : Int)))) rfl rfl (wP rfl rfl (wl_nil ?_))))))
   exact wx_round m9 (Nat.lt_succ_self m9) ⟨(IntKind.wrap .i64 (zb + (1 : Int))), (za.1, (T_api_Player.mk (IntKind.wrap .i32 ((8192 : Int) + (IntKind.wrap .i32 ((IntKind.wrap .i32 zb) * (45056 : Int))))) (14336 : Int) (0 : Int) (0 : Int) (100 : Int) (0 : Int) (IntKind.wrap .u8 zb))), h, rfl, rfl⟩ (agree_cons rfl (agree_cons rfl (agree_cons rfl agree_nil))) (pSub (pHH pNil))
  replace h := cf hx191 h
  cases h
 replace h := cf hc h
 refine wc_exit (wx_then_exit ?_)
 obtain rfl := sI h
 have h := hl9; clear hl9; try dsimp only [orE_l, orE_r] at h
 refine wx_then_exit (wx_block_exit (wx_then (wSR ?_)))
 refine wl_val (v := .agg #[.int .u64 (0 : Int), .int .u64 p0, .int .i32 za.1.X, .int .i32 za.1.Y, .int .i32 za.1.VX, .int .i32 za.1.VY, .int .u8 za.1.Health, .int .u8 za.1.Cool, .int .u8 za.1.Face, .int .i32 za.2.X, .int .i32 za.2.Y, .int .i32 za.2.VX, .int .i32 za.2.VY, .int .u8 za.2.Health, .int .u8 za.2.Cool, .int .u8 za.2.Face, .slice none 0 0, .int .u16 (0 : Int), .int .u16 (0 : Int)]) (val_load tt_ok rfl (mT mH) rfl) rfl ?_
 apply wl_store tt_ok; rfl; exact Upd.here; rfl; rfl; rfl; rfl; rfl; rfl
 refine wNT (wc_ret ?_)
 obtain rfl := sI h
 exact wx_spD tt_ok (.inl rfl) Tryz.results15 (Res.cell rfl mH rfl Res.nil) ⟨none, 0, 0, [], rfl, Own.zero, rfl, rfl⟩ (fun F => by simp) (pSub (pNo pNil))

theorem k_state_ofPlayer {F : Nat} {p0 : T_api_Player} {r0 : (List Int)} (h : m_state_ofPlayer F p0 = some r0) :
    SpD Tryz.prog 51 [agP p0] [] (fun w => True) (fun v D => ∃ (r0a0 : Option Addr) (r0n0 r0c0 : Nat) (r0B0 : List Blk), r0n0 = r0.length ∧ Own 21 1 r0a0 r0n0 r0c0 (flat (e1 .i32) r0) r0B0 ∧ v = .slice r0a0 r0n0 r0c0 ∧ D = fun F => (r0B0 ++ F)) := by
 unfold m_state_ofPlayer at h
 refine sp_of_wc Tryz.func51 rfl Tryz.ntmps51 rfl rfl (fun w0 hR => ?_)
 refine wSR (wl_box rfl rfl rfl (fun b1 => (wP rfl rfl (wNT (wSR (wP (v := .pointer (some ⟨b1, 0, none⟩)) rfl rfl (wl_val (v := .int .i32 p0.X) (val_load tt_ok rfl mH rfl) rfl (wP (v := .pointer (some ⟨b1, 1, none⟩)) rfl rfl (wl_val (v := .int .i32 p0.Y) (val_load tt_ok rfl mH rfl) rfl (wP (v := .pointer (some ⟨b1, 2, none⟩)) rfl rfl (wl_val (v := .int .i32 p0.VX) (val_load tt_ok rfl mH rfl) rfl (wP (v := .pointer (some ⟨b1, 3, none⟩)) rfl rfl (wl_val (v := .int .i32 p0.VY) (val_load tt_ok rfl mH rfl) rfl (wP (v := .pointer (some ⟨b1, 4, none⟩)) rfl rfl ?_))))))))))))))
 refine wl_val (v := .int .u8 p0.Health) (val_load tt_ok rfl mH rfl) rfl ?_
 refine wP (v := .int .i32 (IntKind.wrap .i32 p0.Health)) rfl rfl (wP (v := .pointer (some ⟨b1, 5, none⟩)) rfl rfl (wl_val (v := .int .u8 p0.Cool) (val_load tt_ok rfl mH rfl) rfl (wP (v := .int .i32 (IntKind.wrap .i32 p0.Cool)) rfl rfl (wP (v := .pointer (some ⟨b1, 6, none⟩)) rfl rfl (wl_val (v := .int .u8 p0.Face) (val_load tt_ok rfl mH rfl) rfl (wP (v := .int .i32 (IntKind.wrap .i32 p0.Face)) rfl rfl (wl_chg (chg_bsv (enc := (e1 .i32)) (xs := ([p0.X, p0.Y, p0.VX, p0.VY, (IntKind.wrap .i32 p0.Health), (IntKind.wrap .i32 p0.Cool), (IntKind.wrap .i32 p0.Face)] : List Int)) tt_ok rfl rfl rfl rfl rfl rfl rfl rfl (e1_len _)) rfl ?_)))))))
 rintro _ _ ⟨a20, n20_, c20, B20, rfl, N20, V20, rfl⟩
 refine wP rfl rfl (wNT (wc_ret ?_))
 obtain rfl := sI h
 exact wx_spD tt_ok (.inl rfl) Tryz.results51 (Res.tmp rfl Res.nil) ⟨a20, n20_, c20, B20, N20, V20, rfl, rfl⟩ (fun F => by simp) (pSub (pA pNil))

theorem k_state_within {F : Nat} {p0 : (List Int)} {p0a0 : Option Addr} {p0n0 p0c0 : Nat} {p1 : (List (Int × Int))} {p1a0 : Option Addr} {p1n0 p1c0 : Nat} {r0 : Bool} (p0N0 : p0n0 = p0.length) (p0H0 : p0n0 ≤ p0c0) (p1N0 : p1n0 = p1.length) (p1H0 : p1n0 ≤ p1c0) (h : m_state_within F p0 p1 = some r0) :
    Pf Tryz.prog 50 [.slice p0a0 p0n0 p0c0, .slice p1a0 p1n0 p1c0] (fun w => Rds w [] [] p0a0 (flat (e1 .i32) p0) ∧ Rds w [] [] p1a0 (flat (e2 .i32) p1)) (.bool r0) := by
 unfold m_state_within at h
 refine pf_of_wc Tryz.func50 rfl Tryz.ntmps50 rfl rfl (fun w0 hR => ?_)
 obtain ⟨p0S0, p1S0⟩ := hR
 refine wSR (wP rfl rfl (wNT (wc_seq (wSR (wP rfl rfl (wl_val (v := .int .i64 (p0.length : Int)) (val_len tt_ok rfl rfl p0N0) rfl (wP rfl rfl (wNT (wc_block ?_)))))))))
 obtain ⟨o7, h, hl7⟩ := bsome h
 refine wc_loop (fun m E L => ∃ (za : Int), m_state_within_L6 F p0 p1 m za = some o7 ∧ E = [(0, .slice p0a0 p0n0 p0c0), (1, .slice p1a0 p1n0 p1c0), (4, .bool false), (7, .int .i64 (p0.length : Int)), (8, .int .i64 za)] ∧ L = []) F ⟨(0 : Int), h, rfl, rfl⟩ (agree_cons rfl (agree_cons rfl (agree_cons rfl (agree_cons rfl (agree_cons rfl agree_nil))))) (pSub pNil) ?_
 clear h
 rintro m7 _ _ ⟨za, h, rfl, rfl⟩
 rcases m7 with _ | m7
 ·rw [m_state_within_L6.eq_1] at h; cases h
 rw [m_state_within_L6.eq_2] at h
 refine wSR (wP (v := .bool (decide (za < (p0.length : Int)))) rfl rfl (wNT (wc_seq (wc_cond rfl (fun hc => ?_) (fun hc => ?_)))))
 ·replace h := ct hc h
  refine wc_skip (wx_then (wc_seq (wc_block (wSR ?_))))
  iterate 2 refine wP rfl rfl ?_
  refine wNT (wc_seq (wc_quiet (by kernel_rfl) (by kernel_rfl) ?_))
  iterate 2 refine qP rfl rfl ?_
  obtain ⟨v13, x13, h⟩ := bsome h
  refine wq_val (v := .pointer (some ((adOf p0a0).add (za.toNat * 1 + 0)))) (val_ix (enc := (e1 .i32)) tt_ok rfl rfl rfl rfl p0N0 p0S0 (e1_len _) rfl x13) rfl ?_
  refine wq_val (v := .int .i32 v13) (val_le (enc := (e1 .i32)) (xs := p0) tt_ok rfl p0S0 rsub_nil (e1_len _) x13 rfl) rfl ?_
  iterate 2 refine qP rfl rfl ?_
  obtain ⟨v17, x17, h⟩ := bsome h
  refine wq_val (v := .pointer (some ((adOf p1a0).add (za.toNat * 2 + 0)))) (val_ix (enc := (e2 .i32)) tt_ok rfl rfl rfl rfl p1N0 p1S0 (e2_len _) rfl x17) rfl ?_
  refine wq_val (v := .pointer (some ((adOf p1a0).add (za.toNat * 2 + 0)))) (val_fia (j := 0) tt_ok rfl rfl rfl rfl rfl rfl rfl) rfl ?_
  refine wq_val (v := .int .i32 v17.1) (val_le (enc := (e2 .i32)) (xs := p1) tt_ok rfl p1S0 rsub_nil (e2_len _) x17 rfl) rfl ?_
  refine qP (v := .bool (decide (v13 < v17.1))) rfl rfl (qP rfl rfl ?_)
  obtain ⟨v32, h, hg32⟩ := bsome h
  refine wq_split (t := 21) rfl (fun hc => ?_) (fun hc => ?_)
  ·replace h := ct hc h
   refine wq_skip rfl rfl (wq_skip rfl rfl (wq_skip rfl rfl (wq_skip rfl rfl (wq_skip rfl rfl (wq_skip rfl rfl (wq_skip rfl rfl (wq_skip rfl rfl (wq_skip rfl rfl (wq_skip rfl rfl ?_)))))))))
   obtain rfl := sI h
   have h := hg32; clear hg32
   refine qP (v := .bool true) rfl rfl (wq_nil (wx_then ?_))
   replace h := ct rfl h
   refine wc_cond_true rfl ?_
   refine wSR (wP rfl rfl (wNT (wc_ret (wx_block_ret (wx_then_ret ?_)))))
   obtain rfl := Option.some.inj h
   have h := hl7; clear hl7; try dsimp only [orE_l, orE_r] at h
   refine wx_then_ret (wx_block_ret (wx_then_ret ?_))
   obtain rfl := sI h
   exact wx_pf tt_ok (.inl rfl) Tryz.results50 (Res.tmp rfl Res.nil) rfl
  replace h := cf hc h
  refine wq_run rfl (qP rfl rfl (wq_run rfl (qP rfl rfl ?_)))
  obtain ⟨v24, x24, h⟩ := bsome h
  refine wq_run rfl (wq_val (v := .pointer (some ((adOf p0a0).add (za.toNat * 1 + 0)))) (val_ix (enc := (e1 .i32)) tt_ok rfl rfl rfl rfl p0N0 p0S0 (e1_len _) rfl x24) rfl (wq_run rfl (wq_val (v := .int .i32 v24) (val_le (enc := (e1 .i32)) (xs := p0) tt_ok rfl p0S0 rsub_nil (e1_len _) x24 rfl) rfl (wq_run rfl (qP rfl rfl (wq_run rfl (qP rfl rfl ?_)))))))
  obtain ⟨v28, x28, h⟩ := bsome h
  refine wq_run rfl (wq_val (v := .pointer (some ((adOf p1a0).add (za.toNat * 2 + 0)))) (val_ix (enc := (e2 .i32)) tt_ok rfl rfl rfl rfl p1N0 p1S0 (e2_len _) rfl x28) rfl (wq_run rfl (wq_val (v := .pointer (some ((adOf p1a0).add (za.toNat * 2 + 1)))) (val_fia (j := 1) tt_ok rfl rfl rfl rfl rfl rfl rfl) rfl (wq_run rfl (wq_val (v := .int .i32 v28.2) (val_le (enc := (e2 .i32)) (xs := p1) tt_ok rfl p1S0 rsub_nil (e2_len _) x28 rfl) rfl (wq_run rfl (qP (v := .bool (decide (v28.2 < v24))) rfl rfl ?_)))))))
  obtain rfl := sI h
  have h := hg32; clear hg32
  refine qP (v := .bool (decide (v28.2 < v24))) rfl rfl (wq_nil (wx_then (wc_cond rfl (fun hc => ?_) (fun hc => ?_))))
  ·replace h := ct hc h
   refine wSR (wP rfl rfl (wNT (wc_ret (wx_block_ret (wx_then_ret ?_)))))
   obtain rfl := Option.some.inj h
   have h := hl7; clear hl7; try dsimp only [orE_l, orE_r] at h
   refine wx_then_ret (wx_block_ret (wx_then_ret ?_))
   obtain rfl := sI h
   exact wx_pf tt_ok (.inl rfl) Tryz.results50 (Res.tmp rfl Res.nil) rfl
  replace h := cf hc h
  refine wc_skip (wx_block (wx_then (wc_region (wP (v := .int .i64 (IntKind.wrap .i64 (za + (1 : Int)))) rfl rfl (wP rfl rfl (wl_nil ?_))))))
  exact wx_round m7 (Nat.lt_succ_self m7) ⟨(IntKind.wrap .i64 (za + (1 : Int))), h, rfl, rfl⟩ (agree_cons rfl (agree_cons rfl (agree_cons rfl (agree_cons rfl (agree_cons rfl agree_nil))))) (pSub pNil)
 replace h := cf hc h
 refine wc_exit (wx_then_exit ?_)
 obtain rfl := Option.some.inj h
 have h := hl7; clear hl7; try dsimp only [orE_l, orE_r] at h
 refine wx_then_exit (wx_block_exit (wx_then (wSR ?_)))
 refine wP rfl rfl (wNT (wc_ret ?_))
 obtain rfl := sI h
 exact wx_pf tt_ok (.inl rfl) Tryz.results50 (Res.tmp rfl Res.nil) rfl

theorem k_state_ofShot {F : Nat} {p0 : T_api_Shot} {r0 : (List Int)} (h : m_state_ofShot F p0 = some r0) :
    SpD Tryz.prog 54 [.agg #[.int .i32 p0.X, .int .i32 p0.Y, .int .i32 p0.VX, .int .i32 p0.VY, .int .u8 p0.Owner, .int .u8 p0.Life]] [] (fun w => True) (fun v D => ∃ (r0a0 : Option Addr) (r0n0 r0c0 : Nat) (r0B0 : List Blk), r0n0 = r0.length ∧ Own 21 1 r0a0 r0n0 r0c0 (flat (e1 .i32) r0) r0B0 ∧ v = .slice r0a0 r0n0 r0c0 ∧ D = fun F => (r0B0 ++ F)) := by
 unfold m_state_ofShot at h
 refine sp_of_wc Tryz.func54 rfl Tryz.ntmps54 rfl rfl (fun w0 hR => ?_)
 refine wSR (wl_box rfl rfl rfl (fun b1 => (wP rfl rfl (wNT (wSR (wP (v := .pointer (some ⟨b1, 0, none⟩)) rfl rfl (wl_val (v := .int .i32 p0.X) (val_load tt_ok rfl mH rfl) rfl (wP (v := .pointer (some ⟨b1, 1, none⟩)) rfl rfl (wl_val (v := .int .i32 p0.Y) (val_load tt_ok rfl mH rfl) rfl (wP (v := .pointer (some ⟨b1, 2, none⟩)) rfl rfl (wl_val (v := .int .i32 p0.VX) (val_load tt_ok rfl mH rfl) rfl (wP (v := .pointer (some ⟨b1, 3, none⟩)) rfl rfl (wl_val (v := .int .i32 p0.VY) (val_load tt_ok rfl mH rfl) rfl (wP (v := .pointer (some ⟨b1, 4, none⟩)) rfl rfl ?_))))))))))))))
 refine wl_val (v := .int .u8 p0.Owner) (val_load tt_ok rfl mH rfl) rfl ?_
 refine wP (v := .int .i32 (IntKind.wrap .i32 p0.Owner)) rfl rfl (wP (v := .pointer (some ⟨b1, 5, none⟩)) rfl rfl (wl_val (v := .int .u8 p0.Life) (val_load tt_ok rfl mH rfl) rfl (wP (v := .int .i32 (IntKind.wrap .i32 p0.Life)) rfl rfl (wl_chg (chg_bsv (enc := (e1 .i32)) (xs := ([p0.X, p0.Y, p0.VX, p0.VY, (IntKind.wrap .i32 p0.Owner), (IntKind.wrap .i32 p0.Life)] : List Int)) tt_ok rfl rfl rfl rfl rfl rfl rfl rfl (e1_len _)) rfl ?_))))
 rintro _ _ ⟨a17, n17_, c17, B17, rfl, N17, V17, rfl⟩
 refine wP rfl rfl (wNT (wc_ret ?_))
 obtain rfl := sI h
 exact wx_spD tt_ok (.inl rfl) Tryz.results54 (Res.tmp rfl Res.nil) ⟨a17, n17_, c17, B17, N17, V17, rfl, rfl⟩ (fun F => by simp) (pSub (pA pNil))

theorem k_state_Check_1 {F : Nat} {p0 : T_api_Shot} {p1 : (Arr (Int × Int) 6)} {p1b p1t : Nat} {r0 : Bool} (h : m_state_Check_1 F p0 p1 = some r0) :
    Rd2 Tryz.prog 53 [.agg #[.int .i32 p0.X, .int .i32 p0.Y, .int .i32 p0.VX, .int .i32 p0.VY, .int .u8 p0.Owner, .int .u8 p0.Life], .pointer (some ⟨p1b, 0, none⟩)] (⟨p1b, flat (e2 .i32) p1.1, p1t, (0, 0)⟩ :: []) (fun w => True) (.bool r0) := by
 unfold m_state_Check_1 at h
 refine sp_of_wc Tryz.func53 rfl Tryz.ntmps53 rfl rfl (fun w0 hR => ?_)
 refine wSR (wl_box rfl rfl rfl (fun b2 => (wP rfl rfl (wNT (wc_seq (wc_k2 (Ls := (⟨b2, [.int .i32 p0.X, .int .i32 p0.Y, .int .i32 p0.VX, .int .i32 p0.VY, .int .u8 p0.Owner, .int .u8 p0.Life], 93, (0, 0)⟩ :: (⟨p1b, flat (e2 .i32) p1.1, p1t, (0, 0)⟩ :: []))) [1, 3, 4, 5] [3, 4, 5] [0, 1, 0, 7, 15, 31] [0, 2, 1, 3, 4, 5] (by kernel_rfl) (by kernel_rfl) (by kernel_rfl) (k_val (v := .agg #[.int .i32 p0.X, .int .i32 p0.Y, .int .i32 p0.VX, .int .i32 p0.VY, .int .u8 p0.Owner, .int .u8 p0.Life]) rfl rfl rfl (pSub (pHH pNil)) (val_load tt_ok rfl mH rfl) rfl (k_val (v := .slice (some ⟨p1b, 0, none⟩) 6 6) rfl rfl rfl (pSub (pHH pNil)) (val_sla tt_ok rfl rfl rfl rfl) rfl ?_))))))))
 obtain ⟨v5, x5, h⟩ := bsome h
 refine k_cs rfl rfl rfl Tryz.call54 rfl rfl rfl (s_sp (k_state_ofShot x5) pNil (fun _ _ => trivial)) rfl (.inr (by rintro _ _ ⟨_, ⟨_, _, _, _, _, _, rfl, rfl⟩, rfl⟩; exact ⟨_, (pCons (sA hC) (pCons (sA hC) pNil))⟩)) ?_
 rintro _ _ ⟨_, ⟨v5a0, v5n0, v5c0, v5B0, v5N0, v5V0, rfl, rfl⟩, rfl⟩
 obtain ⟨v7, x7, h⟩ := bsome h
 refine k_cq rfl rfl rfl Tryz.call50 rfl rfl rfl (q_pf (k_state_within (p0 := v5) (p1 := p1.1) v5N0 (vec_cap v5V0) (p1.2).symm (Nat.le_refl _) x7) (fun w hI => ⟨(Rds.call (Rds.of_vec v5V0) pNil ⟨_, hA'⟩) w hI, (Rds.call (Rds.of_blk (t := p1t) (fz := (0, 0))) pNil ⟨_, (sAC hC)⟩) w hI⟩)) rfl (pSub (pCons (sA hC) (pCons (sA hC) pNil))) ?_
 refine k_chg rfl rfl rfl (Chg.of_val (v := .bool (!v7)) (sV rfl)) rfl (.inl rfl) ?_
 rintro _ _ ⟨rfl, rfl⟩
 refine k_chg rfl rfl rfl (Chg.of_val (sV rfl)) rfl (.inl rfl) ?_
 rintro _ _ ⟨rfl, rfl⟩
 refine k_end (by kernel_rfl) ?_
 refine wx_then (wc_ret ?_)
 obtain rfl := sI h
 exact wx_rd tt_ok (.inl rfl) Tryz.results53 (Res.tmp rfl Res.nil) (pSub (pCons (sAC hC) pNil)) rfl

theorem k_slices_IndexFunc___api_Shot_api_Shot_f1_state_Check_1 {F : Nat} {p0 : (List T_api_Shot)} {p0a0 : Option Addr} {p0n0 p0c0 : Nat} {p1c0 : (Arr (Int × Int) 6)} {p1c0b p1c0t : Nat} {r0 : Int} (p0N0 : p0n0 = p0.length) (p0H0 : p0n0 ≤ p0c0) (h : m_slices_IndexFunc___api_Shot_api_Shot_f1_state_Check_1 F p0 p1c0 = some r0) :
    Rd2 Tryz.prog 81 [.slice p0a0 p0n0 p0c0, .func (.func 53) #[] #[.pointer (some ⟨p1c0b, 0, none⟩)]] (⟨p1c0b, flat (e2 .i32) p1c0.1, p1c0t, (0, 0)⟩ :: []) (fun w => Rds w (ids (⟨p1c0b, flat (e2 .i32) p1c0.1, p1c0t, (0, 0)⟩ :: [])) [] p0a0 (flat c_T_api_Shot p0)) (.int .i64 r0) := by
 unfold m_slices_IndexFunc___api_Shot_api_Shot_f1_state_Check_1 at h
 refine sp_of_wc Tryz.func81 rfl Tryz.ntmps81 rfl rfl (fun w0 hR => ?_)
 have p0S0 := hR
 refine wSR (wP rfl rfl (wNT (wc_seq (wSR (wP rfl rfl (wl_val (v := .int .i64 (p0.length : Int)) (val_len tt_ok rfl rfl p0N0) rfl (wP rfl rfl (wNT (wc_block ?_)))))))))
 obtain ⟨o7, h, hl7⟩ := bsome h
 refine wc_loop (fun m E L => ∃ (za : Int), m_slices_IndexFunc___api_Shot_api_Shot_f1_state_Check_1_L6 F p0 p1c0 m za = some o7 ∧ E = [(0, .slice p0a0 p0n0 p0c0), (1, .func (.func 53) #[] #[.pointer (some ⟨p1c0b, 0, none⟩)]), (4, .int .i64 (0 : Int)), (7, .int .i64 (p0.length : Int)), (8, .int .i64 za)] ∧ L = (⟨p1c0b, flat (e2 .i32) p1c0.1, p1c0t, (0, 0)⟩ :: [])) F ⟨(0 : Int), h, rfl, rfl⟩ (agree_cons rfl (agree_cons rfl (agree_cons rfl (agree_cons rfl (agree_cons rfl agree_nil))))) (pSub (pH pNil)) ?_
 clear h
 rintro m7 _ _ ⟨za, h, rfl, rfl⟩
 rcases m7 with _ | m7
 ·rw [m_slices_IndexFunc___api_Shot_api_Shot_f1_state_Check_1_L6.eq_1] at h; cases h
 rw [m_slices_IndexFunc___api_Shot_api_Shot_f1_state_Check_1_L6.eq_2] at h
 refine wSR (wP (v := .bool (decide (za < (p0.length : Int)))) rfl rfl (wNT (wc_seq (wc_cond rfl (fun hc => ?_) (fun hc => ?_)))))
 ·replace h := ct hc h
  refine wc_skip (wx_then (wc_seq (wc_block (wSR ?_))))
  iterate 2 refine wP rfl rfl ?_
  refine wNT (wSR ?_)
  iterate 3 refine wP rfl rfl ?_
  obtain ⟨v14, x14, h⟩ := bsome h
  refine wl_val (v := .pointer (some ((adOf p0a0).add (za.toNat * 6 + 0)))) (val_ix (enc := c_T_api_Shot) tt_ok rfl rfl rfl rfl p0N0 p0S0 c_T_api_Shot_len rfl x14) rfl ?_
  refine wl_val (v := .agg #[.int .i32 v14.X, .int .i32 v14.Y, .int .i32 v14.VX, .int .i32 v14.VY, .int .u8 v14.Owner, .int .u8 v14.Life]) (val_le (enc := c_T_api_Shot) (xs := p0) tt_ok rfl p0S0 rsub_nil c_T_api_Shot_len x14 rfl) rfl ?_
  obtain ⟨v16, x16, h⟩ := bsome h
  refine wl_cq Tryz.call53 rfl rfl rfl (q_rd (k_state_Check_1 x16) (pH pNil) (fun _ _ => trivial)) rfl ?_
  refine wNT (wc_cond rfl (fun hc => ?_) (fun hc => ?_))
  ·replace h := ct hc h
   refine wSR ?_
   iterate 2 refine wP rfl rfl ?_
   refine wNT (wc_ret (wx_block_ret (wx_then_ret ?_)))
   obtain rfl := Option.some.inj h
   have h := hl7; clear hl7; try dsimp only [orE_l, orE_r] at h
   refine wx_then_ret (wx_block_ret (wx_then_ret ?_))
   obtain rfl := sI h
   exact wx_rd tt_ok (.inl rfl) Tryz.results81 (Res.tmp rfl Res.nil) (pSub (pH pNil)) rfl
  replace h := cf hc h
  refine wc_skip (wx_block (wx_then (wc_region (wP (v := .int .i64 (IntKind.wrap .i64 (za + (1 : Int)))) rfl rfl (wP rfl rfl (wl_nil ?_))))))
  exact wx_round m7 (Nat.lt_succ_self m7) ⟨(IntKind.wrap .i64 (za + (1 : Int))), h, rfl, rfl⟩ (agree_cons rfl (agree_cons rfl (agree_cons rfl (agree_cons rfl (agree_cons rfl agree_nil))))) (pSub (pH pNil))
 replace h := cf hc h
 refine wc_exit (wx_then_exit ?_)
 obtain rfl := Option.some.inj h
 have h := hl7; clear hl7; try dsimp only [orE_l, orE_r] at h
 refine wx_then_exit (wx_block_exit (wx_then (wSR ?_)))
 refine wP rfl rfl (wNT (wc_ret ?_))
 obtain rfl := sI h
 exact wx_rd tt_ok (.inl rfl) Tryz.results81 (Res.tmp rfl Res.nil) (pSub (pH pNil)) rfl

theorem k_slices_ContainsFunc___api_Shot_api_Shot_f1_state_Check_1 {F : Nat} {p0 : (List T_api_Shot)} {p0a0 : Option Addr} {p0n0 p0c0 : Nat} {p1c0 : (Arr (Int × Int) 6)} {p1c0b p1c0t : Nat} {r0 : Bool} (p0N0 : p0n0 = p0.length) (p0H0 : p0n0 ≤ p0c0) (h : m_slices_ContainsFunc___api_Shot_api_Shot_f1_state_Check_1 F p0 p1c0 = some r0) :
    Rd2 Tryz.prog 52 [.slice p0a0 p0n0 p0c0, .func (.func 53) #[] #[.pointer (some ⟨p1c0b, 0, none⟩)]] (⟨p1c0b, flat (e2 .i32) p1c0.1, p1c0t, (0, 0)⟩ :: []) (fun w => Rds w (ids (⟨p1c0b, flat (e2 .i32) p1c0.1, p1c0t, (0, 0)⟩ :: [])) [] p0a0 (flat c_T_api_Shot p0)) (.bool r0) := by
 unfold m_slices_ContainsFunc___api_Shot_api_Shot_f1_state_Check_1 at h
 refine sp_of_wc Tryz.func52 rfl Tryz.ntmps52 rfl rfl (fun w0 hR => ?_)
 have p0S0 := hR
 refine wSR (wP rfl rfl (wNT (wSR ?_)))
 iterate 2 refine wP rfl rfl ?_
 obtain ⟨v7, x7, h⟩ := bsome h
 refine wl_cq Tryz.call81 rfl rfl rfl (q_rd (k_slices_IndexFunc___api_Shot_api_Shot_f1_state_Check_1 (p0 := p0) p0N0 p0H0 x7) (pH pNil) (Rds.call p0S0 (pH pNil) rsub_nil)) rfl ?_
 refine wP (v := .bool (decide ((0 : Int) ≤ v7))) rfl rfl (wP rfl rfl (wNT (wc_ret ?_)))
 obtain rfl := sI h
 exact wx_rd tt_ok (.inl rfl) Tryz.results52 (Res.tmp rfl Res.nil) (pSub (pH pNil)) rfl

theorem k_state_Check {F : Nat} {p0 : T_api_State} {p0a0 : Option Addr} {p0n0 p0c0 : Nat} {r0 : Int} (p0N0 : p0n0 = p0.Shots.length) (p0H0 : p0n0 ≤ p0c0) (h : m_state_Check F p0 = some r0) :
    Pf Tryz.prog 19 [agS p0 p0a0 p0n0 p0c0] (fun w => Rds w [] [] p0a0 (flat c_T_api_Shot p0.Shots) ∧ Rds w [] [] (some ⟨0, 0, none⟩) (flat (fun _ : Unit => gl_state_playerBounds) [()]) ∧ Rds w [] [] (some ⟨1, 0, none⟩) (flat (fun _ : Unit => gl_state_shotBounds) [()])) (.int .i64 r0) := by
 unfold m_state_Check at h
 refine pf_of_wc Tryz.func19 rfl Tryz.ntmps19 rfl rfl (fun w0 hR => ?_)
 obtain ⟨p0S0, G0S, G1S⟩ := hR
 refine wSR (wl_box rfl rfl rfl (fun b1 => (wP rfl rfl (wNT (wSR (wl_val (v := .agg #[.int .i32 (0 : Int), .int .i32 (61440 : Int), .int .i32 (0 : Int), .int .i32 (28672 : Int), .int .i32 ((-1024) : Int), .int .i32 (1024 : Int), .int .i32 ((-1024) : Int), .int .i32 (1024 : Int), .int .i32 (1 : Int), .int .i32 (100 : Int), .int .i32 (0 : Int), .int .i32 (30 : Int), .int .i32 (0 : Int), .int .i32 (3 : Int)]) (val_le (enc := fun _ : Unit => gl_state_playerBounds) (xs := [()]) (v := 0) (o := 0) (size := 14) tt_ok rfl G0S rsub_nil (fun _ => rfl) rfl rfl) rfl (wl_val (v := .agg #[.int .i32 (0 : Int), .int .i32 (65024 : Int), .int .i32 (0 : Int), .int .i32 (32256 : Int), .int .i32 ((-2048) : Int), .int .i32 (2048 : Int), .int .i32 ((-2048) : Int), .int .i32 (2048 : Int), .int .i32 (0 : Int), .int .i32 (1 : Int), .int .i32 (1 : Int), .int .i32 (40 : Int)]) (val_le (enc := fun _ : Unit => gl_state_shotBounds) (xs := [()]) (v := 0) (o := 0) (size := 12) tt_ok rfl G1S rsub_nil (fun _ => rfl) rfl rfl) rfl ?_)))))))
 refine wl_alloc tt_ok rfl rfl (fun b3 => ?_)
 refine wl_alloc tt_ok rfl rfl (fun b4 => ?_)
 apply wl_store tt_ok; rfl; exact (Upd.there Upd.here); rfl; rfl; rfl; rfl; rfl; rfl
 apply wl_store tt_ok; rfl; exact Upd.here; rfl; rfl; rfl; rfl; rfl; rfl
 refine wNT (wSR (wP (v := .pointer (some ⟨b1, 16, none⟩)) rfl rfl (wl_val (v := .slice p0a0 p0n0 p0c0) (val_load tt_ok rfl (mTT mH) rfl) rfl (wl_val (v := .int .i64 (p0.Shots.length : Int)) (val_len tt_ok rfl rfl p0N0) rfl (wP (v := .bool (decide ((p0.Shots.length : Int) ≤ (8 : Int)))) rfl rfl (wP rfl rfl (wNT (wc_seq (wSR (wP (v := .pointer (some ⟨b1, 2, none⟩)) rfl rfl (wl_val (v := .agg #[.int .i32 p0.Players.1.X, .int .i32 p0.Players.1.Y, .int .i32 p0.Players.1.VX, .int .i32 p0.Players.1.VY, .int .u8 p0.Players.1.Health, .int .u8 p0.Players.1.Cool, .int .u8 p0.Players.1.Face, .int .i32 p0.Players.2.X, .int .i32 p0.Players.2.Y, .int .i32 p0.Players.2.VX, .int .i32 p0.Players.2.VY, .int .u8 p0.Players.2.Health, .int .u8 p0.Players.2.Cool, .int .u8 p0.Players.2.Face]) (val_load tt_ok rfl (mTT mH) rfl) rfl ?_)))))))))))
 refine wP rfl rfl (wNT (wc_block ?_))
 obtain ⟨zc, h, hl11⟩ := bsome h
 refine wc_loop (fun m E L => ∃ (zb : Bool) (za : Int), m_state_Check_L10 F p0 m zb za = some zc ∧ E = [(1, .pointer (some ⟨b1, 0, none⟩)), (2, .int .i64 (0 : Int)), (3, .pointer (some ⟨b3, 0, none⟩)), (4, .pointer (some ⟨b4, 0, none⟩)), (5, .bool zb), (15, .agg #[.int .i32 p0.Players.1.X, .int .i32 p0.Players.1.Y, .int .i32 p0.Players.1.VX, .int .i32 p0.Players.1.VY, .int .u8 p0.Players.1.Health, .int .u8 p0.Players.1.Cool, .int .u8 p0.Players.1.Face, .int .i32 p0.Players.2.X, .int .i32 p0.Players.2.Y, .int .i32 p0.Players.2.VX, .int .i32 p0.Players.2.VY, .int .u8 p0.Players.2.Health, .int .u8 p0.Players.2.Cool, .int .u8 p0.Players.2.Face]), (16, .int .i64 za)] ∧ L = (⟨b1, (st19 p0 p0a0 p0n0 p0c0 []), 30, (0, 0)⟩ :: (⟨b3, [.int .i32 (0 : Int), .int .i32 (61440 : Int), .int .i32 (0 : Int), .int .i32 (28672 : Int), .int .i32 ((-1024) : Int), .int .i32 (1024 : Int), .int .i32 ((-1024) : Int), .int .i32 (1024 : Int), .int .i32 (1 : Int), .int .i32 (100 : Int), .int .i32 (0 : Int), .int .i32 (30 : Int), .int .i32 (0 : Int), .int .i32 (3 : Int)], 85, (0, 0)⟩ :: (⟨b4, [.int .i32 (0 : Int), .int .i32 (65024 : Int), .int .i32 (0 : Int), .int .i32 (32256 : Int), .int .i32 ((-2048) : Int), .int .i32 (2048 : Int), .int .i32 ((-2048) : Int), .int .i32 (2048 : Int), .int .i32 (0 : Int), .int .i32 (1 : Int), .int .i32 (1 : Int), .int .i32 (40 : Int)], 86, (0, 0)⟩ :: [])))) F ⟨(decide ((p0.Shots.length : Int) ≤ (8 : Int))), (0 : Int), h, rfl, rfl⟩ (agree_cons rfl (agree_cons rfl (agree_cons rfl (agree_cons rfl (agree_cons rfl (agree_cons rfl (agree_cons rfl agree_nil))))))) (pSub (pCons (sCC hC) (pS (pH pNil)))) ?_
 clear h
 rintro m11 _ _ ⟨zb, za, h, rfl, rfl⟩
 rcases m11 with _ | m11
 ·rw [m_state_Check_L10.eq_1] at h; cases h
 rw [m_state_Check_L10.eq_2] at h
 refine wSR (wP (v := .bool (decide (za < (2 : Int)))) rfl rfl (wNT (wc_seq (wc_cond rfl (fun hc => ?_) (fun hc => ?_)))))
 ·replace h := ct hc h
  refine wc_skip (wx_then (wc_seq (wc_block (wSR ?_))))
  rcases Bool.eq_false_or_eq_true (za == (0 : Int)) with hx180 | hx180
  ·replace h := ct hx180 h
   refine wl_val (v := agP p0.Players.1) (val_iv (j := 0) tt_ok rfl rfl rfl rfl (by simpa using hx180) rfl rfl) rfl ?_
   refine wl_alloc tt_ok rfl rfl (fun b7 => ?_)
   apply wl_store tt_ok; rfl; exact Upd.here; rfl; rfl; rfl; rfl; rfl; rfl
   refine wNT (wc_k2 (Ls := (⟨b7, (pl7 p0.Players.1 []), 24, (0, 0)⟩ :: (⟨b1, (st19 p0 p0a0 p0n0 p0c0 []), 30, (0, 0)⟩ :: (⟨b3, [.int .i32 (0 : Int), .int .i32 (61440 : Int), .int .i32 (0 : Int), .int .i32 (28672 : Int), .int .i32 ((-1024) : Int), .int .i32 (1024 : Int), .int .i32 ((-1024) : Int), .int .i32 (1024 : Int), .int .i32 (1 : Int), .int .i32 (100 : Int), .int .i32 (0 : Int), .int .i32 (30 : Int), .int .i32 (0 : Int), .int .i32 (3 : Int)], 85, (0, 0)⟩ :: (⟨b4, [.int .i32 (0 : Int), .int .i32 (65024 : Int), .int .i32 (0 : Int), .int .i32 (32256 : Int), .int .i32 ((-2048) : Int), .int .i32 (2048 : Int), .int .i32 ((-2048) : Int), .int .i32 (2048 : Int), .int .i32 (0 : Int), .int .i32 (1 : Int), .int .i32 (1 : Int), .int .i32 (40 : Int)], 86, (0, 0)⟩ :: []))))) [3, 5] [] [0, 1, 3, 7, 3, 31, 63, 127] [0, 1, 2, 4, 3, 5, 6, 7] (by kernel_rfl) (by kernel_rfl) (by kernel_rfl) ?_)
   iterate 2 refine k_val rfl rfl rfl (pSub (pH4 pNil)) (sV rfl) rfl ?_
   obtain ⟨v25, h, hg25⟩ := bsome h
   refine k_split (t := 20) rfl (fun hc => ?_) (fun hc => ?_)
   ·replace h := ct hc h
    refine k_val (v := agP p0.Players.1) rfl rfl rfl (pSub (pH4 pNil)) (val_load tt_ok rfl mH rfl) rfl (k_val (v := .slice (some ⟨b3, 0, none⟩) 7 7) rfl rfl rfl (pSub (pH4 pNil)) (val_sla tt_ok rfl rfl rfl rfl) rfl ?_)
    obtain ⟨v22, x22, h⟩ := bsome h
    refine k_cs rfl rfl rfl Tryz.call51 rfl rfl rfl (s_sp (k_state_ofPlayer x22) pNil (fun _ _ => trivial)) rfl (.inr (by rintro _ _ ⟨_, ⟨_, _, _, _, _, _, rfl, rfl⟩, rfl⟩; exact ⟨_, (pCons (sA hC) (pCons (sA hC) (pCons (sA hC) (pCons (sA hC) pNil))))⟩)) ?_
    rintro _ _ ⟨_, ⟨v22a0, v22n0, v22c0, v22B0, v22N0, v22V0, rfl, rfl⟩, rfl⟩
    obtain ⟨v24, x24, h⟩ := bsome h
    refine k_cq rfl rfl rfl Tryz.call50 rfl rfl rfl (q_pf (k_state_within (p0 := v22) (p1 := ([((0 : Int), (61440 : Int)), ((0 : Int), (28672 : Int)), (((-1024) : Int), (1024 : Int)), (((-1024) : Int), (1024 : Int)), ((1 : Int), (100 : Int)), ((0 : Int), (30 : Int)), ((0 : Int), (3 : Int))] : List (Int × Int))) v22N0 (vec_cap v22V0) rfl (Nat.le_refl _) x24) (fun w hI => ⟨(Rds.call (Rds.of_vec v22V0) pNil ⟨_, hA'⟩) w hI, (Rds.call (Rds.of_blk (t := 85) (fz := (0, 0))) pNil ⟨_, (sA (sCC hC))⟩) w hI⟩)) rfl (pSub (pCons (sA hC) (pCons (sA hC) (pCons (sA hC) (pCons (sA hC) pNil))))) ?_
    obtain rfl := sI h
    have h := hg25; clear hg25
    refine k_val (v := .bool v24) rfl rfl rfl (pSub (pCons (sA hC) (pCons (sA hC) (pCons (sA hC) (pCons (sA hC) pNil))))) (sV rfl) rfl (k_val rfl rfl rfl (pSub (pCons (sA hC) (pCons (sA hC) (pCons (sA hC) (pCons (sA hC) pNil))))) (sV rfl) rfl (k_end (by kernel_rfl) (wx_block (wx_then (wc_region (wP (v := .int .i64 (IntKind.wrap .i64 (za + (1 : Int)))) rfl rfl (wP rfl rfl (wl_nil ?_))))))))
    exact wx_round m11 (Nat.lt_succ_self m11) ⟨v24, (IntKind.wrap .i64 (za + (1 : Int))), h, rfl, rfl⟩ (agree_cons rfl (agree_cons rfl (agree_cons rfl (agree_cons rfl (agree_cons rfl (agree_cons rfl (agree_cons rfl agree_nil))))))) (pSub (pCons (sAC hC) (pCons (sAC hC) (pCons (sAC hC) pNil))))
   replace h := cf hc h
   iterate 4 refine k_skip rfl rfl (pSub (pH4 pNil)) rfl ?_
   obtain rfl := sI h
   have h := hg25; clear hg25
   refine k_val (v := .bool false) rfl rfl rfl (pSub (pH4 pNil)) (sV rfl) rfl (k_val rfl rfl rfl (pSub (pH4 pNil)) (sV rfl) rfl (k_end (by kernel_rfl) (wx_block (wx_then (wc_region (wP (v := .int .i64 (IntKind.wrap .i64 (za + (1 : Int)))) rfl rfl (wP rfl rfl (wl_nil ?_))))))))
   exact wx_round m11 (Nat.lt_succ_self m11) ⟨false, (IntKind.wrap .i64 (za + (1 : Int))), h, rfl, rfl⟩ (agree_cons rfl (agree_cons rfl (agree_cons rfl (agree_cons rfl (agree_cons rfl (agree_cons rfl (agree_cons rfl agree_nil))))))) (pSub (pS (pS (pS pNil))))
  replace h := cf hx180 h
  rcases Bool.eq_false_or_eq_true (za == (1 : Int)) with hx181 | hx181
  ·replace h := ct hx181 h
   refine wl_val (v := agP p0.Players.2) (val_iv (j := 1) tt_ok rfl rfl rfl rfl (by simpa using hx181) rfl rfl) rfl ?_
   refine wl_alloc tt_ok rfl rfl (fun b7 => ?_)
   apply wl_store tt_ok; rfl; exact Upd.here; rfl; rfl; rfl; rfl; rfl; rfl
   refine wNT (wc_k2 (Ls := (⟨b7, (pl7 p0.Players.2 []), 24, (0, 0)⟩ :: (⟨b1, (st19 p0 p0a0 p0n0 p0c0 []), 30, (0, 0)⟩ :: (⟨b3, [.int .i32 (0 : Int), .int .i32 (61440 : Int), .int .i32 (0 : Int), .int .i32 (28672 : Int), .int .i32 ((-1024) : Int), .int .i32 (1024 : Int), .int .i32 ((-1024) : Int), .int .i32 (1024 : Int), .int .i32 (1 : Int), .int .i32 (100 : Int), .int .i32 (0 : Int), .int .i32 (30 : Int), .int .i32 (0 : Int), .int .i32 (3 : Int)], 85, (0, 0)⟩ :: (⟨b4, [.int .i32 (0 : Int), .int .i32 (65024 : Int), .int .i32 (0 : Int), .int .i32 (32256 : Int), .int .i32 ((-2048) : Int), .int .i32 (2048 : Int), .int .i32 ((-2048) : Int), .int .i32 (2048 : Int), .int .i32 (0 : Int), .int .i32 (1 : Int), .int .i32 (1 : Int), .int .i32 (40 : Int)], 86, (0, 0)⟩ :: []))))) [3, 5] [] [0, 1, 3, 7, 3, 31, 63, 127] [0, 1, 2, 4, 3, 5, 6, 7] (by kernel_rfl) (by kernel_rfl) (by kernel_rfl) ?_)
   iterate 2 refine k_val rfl rfl rfl (pSub (pH4 pNil)) (sV rfl) rfl ?_
   obtain ⟨v25, h, hg25⟩ := bsome h
   refine k_split (t := 20) rfl (fun hc => ?_) (fun hc => ?_)
   ·replace h := ct hc h
    refine k_val (v := agP p0.Players.2) rfl rfl rfl (pSub (pH4 pNil)) (val_load tt_ok rfl mH rfl) rfl (k_val (v := .slice (some ⟨b3, 0, none⟩) 7 7) rfl rfl rfl (pSub (pH4 pNil)) (val_sla tt_ok rfl rfl rfl rfl) rfl ?_)
    obtain ⟨v22, x22, h⟩ := bsome h
    refine k_cs rfl rfl rfl Tryz.call51 rfl rfl rfl (s_sp (k_state_ofPlayer x22) pNil (fun _ _ => trivial)) rfl (.inr (by rintro _ _ ⟨_, ⟨_, _, _, _, _, _, rfl, rfl⟩, rfl⟩; exact ⟨_, (pCons (sA hC) (pCons (sA hC) (pCons (sA hC) (pCons (sA hC) pNil))))⟩)) ?_
    rintro _ _ ⟨_, ⟨v22a0, v22n0, v22c0, v22B0, v22N0, v22V0, rfl, rfl⟩, rfl⟩
    obtain ⟨v24, x24, h⟩ := bsome h
    refine k_cq rfl rfl rfl Tryz.call50 rfl rfl rfl (q_pf (k_state_within (p0 := v22) (p1 := ([((0 : Int), (61440 : Int)), ((0 : Int), (28672 : Int)), (((-1024) : Int), (1024 : Int)), (((-1024) : Int), (1024 : Int)), ((1 : Int), (100 : Int)), ((0 : Int), (30 : Int)), ((0 : Int), (3 : Int))] : List (Int × Int))) v22N0 (vec_cap v22V0) rfl (Nat.le_refl _) x24) (fun w hI => ⟨(Rds.call (Rds.of_vec v22V0) pNil ⟨_, hA'⟩) w hI, (Rds.call (Rds.of_blk (t := 85) (fz := (0, 0))) pNil ⟨_, (sA (sCC hC))⟩) w hI⟩)) rfl (pSub (pCons (sA hC) (pCons (sA hC) (pCons (sA hC) (pCons (sA hC) pNil))))) ?_
    obtain rfl := sI h
    have h := hg25; clear hg25
    refine k_val (v := .bool v24) rfl rfl rfl (pSub (pCons (sA hC) (pCons (sA hC) (pCons (sA hC) (pCons (sA hC) pNil))))) (sV rfl) rfl (k_val rfl rfl rfl (pSub (pCons (sA hC) (pCons (sA hC) (pCons (sA hC) (pCons (sA hC) pNil))))) (sV rfl) rfl (k_end (by kernel_rfl) (wx_block (wx_then (wc_region (wP (v := .int .i64 (IntKind.wrap .i64 (za + (1 : Int)))) rfl rfl (wP rfl rfl (wl_nil ?_))))))))
    exact wx_round m11 (Nat.lt_succ_self m11) ⟨v24, (IntKind.wrap .i64 (za + (1 : Int))), h, rfl, rfl⟩ (agree_cons rfl (agree_cons rfl (agree_cons rfl (agree_cons rfl (agree_cons rfl (agree_cons rfl (agree_cons rfl agree_nil))))))) (pSub (pCons (sAC hC) (pCons (sAC hC) (pCons (sAC hC) pNil))))
   replace h := cf hc h
   iterate 4 refine k_skip rfl rfl (pSub (pH4 pNil)) rfl ?_
   obtain rfl := sI h
   have h := hg25; clear hg25
   refine k_val (v := .bool false) rfl rfl rfl (pSub (pH4 pNil)) (sV rfl) rfl (k_val rfl rfl rfl (pSub (pH4 pNil)) (sV rfl) rfl (k_end (by kernel_rfl) (wx_block (wx_then (wc_region (wP (v := .int .i64 (IntKind.wrap .i64 (za + (1 : Int)))) rfl rfl (wP rfl rfl (wl_nil ?_))))))))
   exact wx_round m11 (Nat.lt_succ_self m11) ⟨false, (IntKind.wrap .i64 (za + (1 : Int))), h, rfl, rfl⟩ (agree_cons rfl (agree_cons rfl (agree_cons rfl (agree_cons rfl (agree_cons rfl (agree_cons rfl (agree_cons rfl agree_nil))))))) (pSub (pS (pS (pS pNil))))
  replace h := cf hx181 h
  cases h
 replace h := cf hc h
 refine wc_exit (wx_then_exit ?_)
 obtain rfl := sI h
 have h := hl11; clear hl11; try dsimp only [orE_l, orE_r] at h
 refine wx_then_exit (wx_block_exit (wx_then (wc_seq (wSR ?_))))
 refine wP rfl rfl (wP (v := .bool (!zb)) rfl rfl (wP rfl rfl ?_))
 obtain ⟨v34, h, hg34⟩ := bsome h
 refine wl_split (t := 29) rfl (fun hc => ?_) (fun hc => ?_)
 ·replace h := ct hc h
  iterate 4 refine wl_skip rfl rfl ?_
  obtain rfl := sI h
  have h := hg34; clear hg34
  refine wP (v := .bool true) rfl rfl (wNT ?_)
  replace h := ct rfl h
  refine wc_cond_true rfl ?_
  refine wSR (wP rfl rfl (wNT (wc_ret (wx_then_ret ?_))))
  obtain rfl := sI h
  exact wx_pf tt_ok (.inl rfl) Tryz.results19 (Res.tmp rfl Res.nil) rfl
 replace h := cf hc h
 refine wl_run rfl (wP (v := .pointer (some ⟨b1, 16, none⟩)) rfl rfl (wl_run rfl (wl_val (v := .slice p0a0 p0n0 p0c0) (val_load tt_ok rfl mH rfl) rfl (wl_run rfl (wP rfl rfl ?_)))))
 obtain ⟨v33, x33, h⟩ := bsome h
 refine wl_run rfl (wl_cq Tryz.call52 rfl rfl rfl (q_rd (k_slices_ContainsFunc___api_Shot_api_Shot_f1_state_Check_1 (p0 := p0.Shots) p0N0 p0H0 x33) (pCons (sCC hC) pNil) (Rds.call p0S0 (pCons (sCC hC) pNil) rsub_nil)) rfl ?_)
 obtain rfl := sI h
 have h := hg34; clear hg34
 refine wP (v := .bool v33) rfl rfl (wNT (wc_cond rfl (fun hc => ?_) (fun hc => ?_)))
 ·replace h := ct hc h
  refine wSR (wP rfl rfl (wNT (wc_ret (wx_then_ret ?_))))
  obtain rfl := sI h
  exact wx_pf tt_ok (.inl rfl) Tryz.results19 (Res.tmp rfl Res.nil) rfl
 replace h := cf hc h
 refine wc_skip (wx_then (wSR (wP rfl rfl (wNT (wc_ret ?_)))))
 obtain rfl := sI h
 exact wx_pf tt_ok (.inl rfl) Tryz.results19 (Res.tmp rfl Res.nil) rfl

theorem k_slices_Clone___api_Shot_api_Shot {F : Nat} {p0 : (List T_api_Shot)} {p0a0 : Option Addr} {p0n0 p0c0 : Nat} {r0 : (List T_api_Shot)} (p0N0 : p0n0 = p0.length) (p0H0 : p0n0 ≤ p0c0) (h : m_slices_Clone___api_Shot_api_Shot F p0 = some r0) :
    SpD Tryz.prog 55 [.slice p0a0 p0n0 p0c0] [] (fun w => Rds w (ids []) [] p0a0 (flat c_T_api_Shot p0)) (fun v D => ∃ (r0a0 : Option Addr) (r0n0 r0c0 : Nat) (r0B0 : List Blk), r0n0 = r0.length ∧ Own 93 6 r0a0 r0n0 r0c0 (flat c_T_api_Shot r0) r0B0 ∧ v = .slice r0a0 r0n0 r0c0 ∧ D = fun F => (r0B0 ++ F)) := by
 unfold m_slices_Clone___api_Shot_api_Shot at h
 refine sp_of_wc Tryz.func55 rfl Tryz.ntmps55 rfl rfl (fun w0 hR => ?_)
 have p0S0 := hR
 refine wSR (wP rfl rfl (wNT (wc_seq (wSR (wP rfl rfl ?_)))))
 rcases p0a0 with _ | dp0a0
 ·obtain rfl : p0 = [] := rds_none p0S0 c_T_api_Shot_len (by decide)
  refine wP (v := .bool true) rfl rfl (wNT (wc_cond_true rfl (wSR (wP rfl rfl (wNT (wc_ret (wx_then_ret ?_)))))))
  simp [appI] at h
  obtain rfl := h
  exact wx_spD tt_ok (.inl rfl) Tryz.results55 (Res.tmp rfl Res.nil) ⟨none, 0, 0, [], rfl, Own.zero, rfl, rfl⟩ (fun F => by simp) (pSub (pNo pNil))
 refine wP (v := .bool false) rfl rfl (wNT (wc_cond_false rfl (wc_skip (wx_then (wSR (wl_chg (chg_bsv (enc := c_T_api_Shot) (xs := ([] : List T_api_Shot)) tt_ok rfl rfl rfl rfl rfl rfl rfl rfl c_T_api_Shot_len) rfl ?_))))))
 rintro _ _ ⟨a5, n5_, c5, B5, rfl, N5, V5, rfl⟩
 refine wP rfl rfl ?_
 obtain ⟨v7, x7, h⟩ := bsome h
 refine wl_chg (chg_app (enc := c_T_api_Shot) (ys := p0) tt_ok rfl rfl rfl rfl rfl rfl N5 p0N0 V5 hA' p0S0 rsub_nil c_T_api_Shot_len (fun _ => rfl) rfl x7) rfl ?_
 rintro _ _ ⟨a7, n7_, c7, B7, rfl, N7, V7, rfl⟩
 refine wP rfl rfl (wNT (wc_ret ?_))
 obtain rfl := sI h
 exact wx_spD tt_ok (.inl rfl) Tryz.results55 (Res.tmp rfl Res.nil) ⟨a7, n7_, c7, B7, N7, V7, rfl, rfl⟩ (fun F => by simp) (pSub (pA pNil))

theorem k_state_Copy {F : Nat} {p0 : T_api_State} {p0a0 : Option Addr} {p0n0 p0c0 : Nat} {r0 : T_api_State} (p0N0 : p0n0 = p0.Shots.length) (p0H0 : p0n0 ≤ p0c0) (h : m_state_Copy F p0 = some r0) :
    SpD Tryz.prog 20 [agS p0 p0a0 p0n0 p0c0] [] (fun w => Rds w (ids []) [] p0a0 (flat c_T_api_Shot p0.Shots)) (fun v D => ∃ (r0a0 : Option Addr) (r0n0 r0c0 : Nat) (r0B0 : List Blk), r0n0 = r0.Shots.length ∧ Own 93 6 r0a0 r0n0 r0c0 (flat c_T_api_Shot r0.Shots) r0B0 ∧ v = agS r0 r0a0 r0n0 r0c0 ∧ D = fun F => (r0B0 ++ F)) := by
 unfold m_state_Copy at h
 refine sp_of_wc Tryz.func20 rfl Tryz.ntmps20 rfl rfl (fun w0 hR => ?_)
 have p0S0 := hR
 refine wSR (wl_box rfl rfl rfl (fun b1 => (wl_alloc tt_ok rfl rfl (fun b2 => (wNT (wSR (wP (v := .pointer (some ⟨b1, 16, none⟩)) rfl rfl (wl_val (v := .slice p0a0 p0n0 p0c0) (val_load tt_ok rfl (mT mH) rfl) rfl ?_))))))))
 obtain ⟨v5, x5, h⟩ := bsome h
 refine wl_cs Tryz.call55 rfl rfl rfl (s_sp (k_slices_Clone___api_Shot_api_Shot (p0 := p0.Shots) p0N0 p0H0 x5) pNil (Rds.call p0S0 pNil rsub_nil)) rfl ?_
 rintro _ _ ⟨_, ⟨v5a0, v5n0, v5c0, v5B0, v5N0, v5V0, rfl, rfl⟩, rfl⟩
 refine wP (v := .pointer (some ⟨b1, 16, none⟩)) rfl rfl ?_
 apply wl_store tt_ok; rfl; exact (Upd.right (Upd.there Upd.here)); rfl; rfl; rfl; rfl; rfl; rfl
 refine wNT (wSR (wl_val (v := agS p0 v5a0 v5n0 v5c0) (val_load tt_ok rfl (mR (mT mH)) rfl) rfl ?_))
 apply wl_store tt_ok; rfl; exact (Upd.right Upd.here); rfl; rfl; rfl; rfl; rfl; rfl
 refine wNT (wc_ret ?_)
 obtain rfl := sI h
 exact wx_spD tt_ok (.inl rfl) Tryz.results20 (Res.cell rfl (mR mH) rfl Res.nil) ⟨v5a0, v5n0, v5c0, v5B0, v5N0, v5V0, rfl, rfl⟩ (fun F => by simp) (pSub (pA pNil))

theorem k_queue_New {F : Nat} {p0 : Int} {r0 : T_queue_Queue} (h : m_queue_New F p0 = some r0) :
    SpD Tryz.prog 21 [.int .u64 p0] [] (fun w => True) (fun v D => ∃ (r0b : Nat) (r0a0 : Option Addr) (r0n0 r0c0 : Nat) (r0B0 : List Blk), r0n0 = r0.l.length ∧ Own 40 1 r0a0 r0n0 r0c0 (flat (e1 .u8) r0.l) r0B0 ∧ v = .pointer (some ⟨r0b, 0, none⟩) ∧ D = fun F => (⟨r0b, [.int .u64 r0.first_, .slice r0a0 r0n0 r0c0, .int .u8 r0.last], 98, (0, 0)⟩ :: (r0B0 ++ F))) := by
 unfold m_queue_New at h
 refine sp_of_wc Tryz.func21 rfl Tryz.ntmps21 rfl rfl (fun w0 hR => ?_)
 refine wSR (wP rfl rfl (wNT (wSR (wP rfl rfl (wP (v := .agg #[.int .u64 p0, .slice none 0 0, .int .u8 (0 : Int)]) rfl rfl (wl_box rfl rfl rfl (fun b5 => (wP rfl rfl (wNT (wc_ret ?_))))))))))
 obtain rfl := sI h
 exact wx_spD tt_ok (.inl rfl) Tryz.results21 (Res.tmp rfl Res.nil) ⟨b5, none, 0, 0, [], rfl, Own.zero, rfl, rfl⟩ (fun F => by simp) (pSub (pH (pNo pNil)))

theorem k_ring_New {F : Nat} {p0 : Int} {r0 : T_ring_Ring} (h : m_ring_New F p0 = some (some r0)) :
    SpD Tryz.prog 22 [.int .i64 p0] [] (fun w => True) (fun v D => ∃ (r0b : Nat) (r0g0 : List (T_ring_place × G)) (r0P0 : List Blk), r0.places.1 = unG r0g0 ∧ AllP sh_T_ring_place c_T_api_Shot r0P0 r0g0 ∧ v = .pointer (some ⟨r0b, 0, none⟩) ∧ D = fun F => (⟨r0b, ([.int .i64 r0.size] ++ flat cg_T_ring_place r0g0), 103, (0, 0)⟩ :: (r0P0 ++ F))) := by
 unfold m_ring_New at h
 refine sp_of_wc Tryz.func22 rfl Tryz.ntmps22 rfl rfl (fun w0 hR => ?_)
 refine wSR (wP rfl rfl (wNT (wc_seq (wSR (wP rfl rfl (wP (v := .bool (decide (p0 < (1 : Int)))) rfl rfl (wP rfl rfl ?_)))))))
 obtain ⟨v8, h, hg8⟩ := bsome h
 refine wl_split (t := 5) rfl (fun hc => ?_) (fun hc => ?_)
 ·replace h := ct hc h
  iterate 2 refine wl_skip rfl rfl ?_
  simp only [Option.some.injEq, Prod.mk.injEq] at h
  obtain rfl := h
  have h := hg8; clear hg8
  refine wP (v := .bool true) rfl rfl (wNT ?_)
  replace h := ct rfl h
  refine wc_cond_true rfl ?_
  refine wSR (wP rfl rfl (wNT (wc_ret (wx_then_ret ?_))))
  first | (cases h; done) | simp at h
 replace h := cf hc h
 refine wl_run rfl (wP rfl rfl (wl_run rfl (wP (v := .bool (decide ((14 : Int) < p0))) rfl rfl ?_)))
 simp only [Option.some.injEq, Prod.mk.injEq] at h
 obtain rfl := h
 have h := hg8; clear hg8
 refine wP (v := .bool (decide ((14 : Int) < p0))) rfl rfl (wNT (wc_cond rfl (fun hc => ?_) (fun hc => ?_)))
 ·replace h := ct hc h
  refine wSR (wP rfl rfl (wNT (wc_ret (wx_then_ret ?_))))
  first | (cases h; done) | simp at h
 replace h := cf hc h
 refine wc_skip (wx_then (wSR (wP rfl rfl (wP (v := .agg (([.int .i64 p0] ++ flat cg_T_ring_place (List.replicate 14 ((T_ring_place.mk (T_api_State.mk (0 : Int) (0 : Int) ((T_api_Player.mk (0 : Int) (0 : Int) (0 : Int) (0 : Int) (0 : Int) (0 : Int) (0 : Int)), (T_api_Player.mk (0 : Int) (0 : Int) (0 : Int) (0 : Int) (0 : Int) (0 : Int) (0 : Int))) ([] : List T_api_Shot) ((0 : Int), (0 : Int))) false), ((none, 0, 0) : G)))) : List Value).toArray) rfl rfl (wl_box rfl rfl rfl (fun b11 => (wP rfl rfl (wNT (wc_ret ?_)))))))))
 simp only [Option.some.injEq] at h
 obtain rfl := h
 exact wx_spD tt_ok (.inl rfl) Tryz.results22 (Res.tmp rfl Res.nil) ⟨b11, (List.replicate 14 ((T_ring_place.mk (T_api_State.mk (0 : Int) (0 : Int) ((T_api_Player.mk (0 : Int) (0 : Int) (0 : Int) (0 : Int) (0 : Int) (0 : Int) (0 : Int)), (T_api_Player.mk (0 : Int) (0 : Int) (0 : Int) (0 : Int) (0 : Int) (0 : Int) (0 : Int))) ([] : List T_api_Shot) ((0 : Int), (0 : Int))) false), ((none, 0, 0) : G))), [], (unG_rep 14), (fun _ _ => allrd_rep 14 rfl), rfl, rfl⟩ (fun F => by simp) (pSub (pH (pNo pNil)))

theorem k_ring_New_none {F : Nat} {p0 : Int} (h : m_ring_New F p0 = some none) :
    SpD Tryz.prog 22 [.int .i64 p0] [] (fun w => True) (fun v D => v = .pointer none ∧ D = fun F => F) := by
 unfold m_ring_New at h
 refine sp_of_wc Tryz.func22 rfl Tryz.ntmps22 rfl rfl (fun w0 hR => ?_)
 refine wSR (wP rfl rfl (wNT (wc_seq (wSR (wP rfl rfl (wP (v := .bool (decide (p0 < (1 : Int)))) rfl rfl (wP rfl rfl ?_)))))))
 obtain ⟨v8, h, hg8⟩ := bsome h
 refine wl_split (t := 5) rfl (fun hc => ?_) (fun hc => ?_)
 ·replace h := ct hc h
  iterate 2 refine wl_skip rfl rfl ?_
  simp only [Option.some.injEq, Prod.mk.injEq] at h
  obtain rfl := h
  have h := hg8; clear hg8
  refine wP (v := .bool true) rfl rfl (wNT ?_)
  replace h := ct rfl h
  refine wc_cond_true rfl ?_
  refine wSR (wP rfl rfl (wNT (wc_ret (wx_then_ret ?_))))
  simp only [Option.some.injEq] at h
  exact wx_spD tt_ok (.inl rfl) Tryz.results22 (Res.tmp rfl Res.nil) ⟨rfl, rfl⟩ (fun F => by simp) (pSub pNil)
 replace h := cf hc h
 refine wl_run rfl (wP rfl rfl (wl_run rfl (wP (v := .bool (decide ((14 : Int) < p0))) rfl rfl ?_)))
 simp only [Option.some.injEq, Prod.mk.injEq] at h
 obtain rfl := h
 have h := hg8; clear hg8
 refine wP (v := .bool (decide ((14 : Int) < p0))) rfl rfl (wNT (wc_cond rfl (fun hc => ?_) (fun hc => ?_)))
 ·replace h := ct hc h
  refine wSR (wP rfl rfl (wNT (wc_ret (wx_then_ret ?_))))
  simp only [Option.some.injEq] at h
  exact wx_spD tt_ok (.inl rfl) Tryz.results22 (Res.tmp rfl Res.nil) ⟨rfl, rfl⟩ (fun F => by simp) (pSub pNil)
 replace h := cf hc h
 refine wc_skip (wx_then (wSR (wP rfl rfl (wP (v := .agg (([.int .i64 p0] ++ flat cg_T_ring_place (List.replicate 14 ((T_ring_place.mk (T_api_State.mk (0 : Int) (0 : Int) ((T_api_Player.mk (0 : Int) (0 : Int) (0 : Int) (0 : Int) (0 : Int) (0 : Int) (0 : Int)), (T_api_Player.mk (0 : Int) (0 : Int) (0 : Int) (0 : Int) (0 : Int) (0 : Int) (0 : Int))) ([] : List T_api_Shot) ((0 : Int), (0 : Int))) false), ((none, 0, 0) : G)))) : List Value).toArray) rfl rfl (wl_box rfl rfl rfl (fun b11 => (wP rfl rfl (wNT (wc_ret ?_)))))))))
 first | (cases h; done) | simp at h

theorem k_ring_Ring_is_nil0 {F : Nat} {r0 : Bool} (h : m_ring_Ring_is_nil0 F = some r0) :
    Pf Tryz.prog 56 [.pointer none] (fun w => True) (.bool r0) := by
 unfold m_ring_Ring_is_nil0 at h
 refine pf_of_wc Tryz.func56 rfl Tryz.ntmps56 rfl rfl (fun w0 hR => ?_)
 refine wSR (wP rfl rfl (wNT (wSR (wP rfl rfl (wP (v := .bool false) rfl rfl (wP rfl rfl ?_))))))
 iterate 5 refine wl_skip rfl rfl ?_
 refine wP (v := .bool false) rfl rfl (wP rfl rfl (wNT (wc_ret ?_)))
 obtain rfl := sI h
 exact wx_pf tt_ok (.inl rfl) Tryz.results56 (Res.tmp rfl Res.nil) rfl

theorem k_ring_Ring_Put_nil0 {F : Nat} {p1 : T_api_State} {p1a0 : Option Addr} {p1n0 p1c0 : Nat} {r0 : Bool} (p1N0 : p1n0 = p1.Shots.length) (p1H0 : p1n0 ≤ p1c0) (h : m_ring_Ring_Put_nil0 F p1 = some r0) :
    Pf Tryz.prog 23 [.pointer none, agS p1 p1a0 p1n0 p1c0] (fun w => Rds w [] [] p1a0 (flat c_T_api_Shot p1.Shots) ∧ Rds w [] [] (some ⟨0, 0, none⟩) (flat (fun _ : Unit => gl_state_playerBounds) [()]) ∧ Rds w [] [] (some ⟨1, 0, none⟩) (flat (fun _ : Unit => gl_state_shotBounds) [()])) (.bool r0) := by
 unfold m_ring_Ring_Put_nil0 at h
 refine pf_of_wc Tryz.func23 rfl Tryz.ntmps23 rfl rfl (fun w0 hR => ?_)
 obtain ⟨p1S0, G0S, G1S⟩ := hR
 refine wSR (wl_box rfl rfl rfl (fun b3 => (wP rfl rfl (wNT (wc_seq (wSR (wP rfl rfl ?_)))))))
 obtain ⟨v7, x7, h⟩ := bsome h
 refine wl_cq Tryz.call56 rfl rfl rfl (q_pf (k_ring_Ring_is_nil0 x7) (fun _ _ => trivial)) rfl ?_
 refine wP (v := .bool (!v7)) rfl rfl (wP rfl rfl ?_)
 obtain ⟨v13, h, hg13⟩ := bsome h
 refine wl_split (t := 9) rfl (fun hc => ?_) (fun hc => ?_)
 ·replace h := ct hc h
  iterate 3 refine wl_skip rfl rfl ?_
  obtain rfl := sI h
  have h := hg13; clear hg13
  refine wP (v := .bool true) rfl rfl (wNT ?_)
  replace h := ct rfl h
  refine wc_cond_true rfl ?_
  refine wSR (wP rfl rfl (wNT (wc_ret (wx_then_ret ?_))))
  obtain rfl := sI h
  exact wx_pf tt_ok (.inl rfl) Tryz.results23 (Res.tmp rfl Res.nil) rfl
 replace h := cf hc h
 refine wl_run rfl (wl_val (v := agS p1 p1a0 p1n0 p1c0) (val_load tt_ok rfl mH rfl) rfl ?_)
 obtain ⟨v11, x11, h⟩ := bsome h
 refine wl_run rfl (wl_cq Tryz.call19 rfl rfl rfl (q_pf (k_state_Check (p0 := p1) p1N0 p1H0 x11) (fun w hI => ⟨(Rds.call p1S0 pNil rsub_nil) w hI, (Rds.call G0S pNil rsub_nil) w hI, (Rds.call G1S pNil rsub_nil) w hI⟩)) rfl (wl_run rfl (wP (v := .bool (v11 != (0 : Int))) rfl rfl ?_)))
 obtain rfl := sI h
 have h := hg13; clear hg13
 refine wP (v := .bool (v11 != (0 : Int))) rfl rfl (wNT (wc_cond rfl (fun hc => ?_) (fun hc => ?_)))
 ·replace h := ct hc h
  refine wSR (wP rfl rfl (wNT (wc_ret (wx_then_ret ?_))))
  obtain rfl := sI h
  exact wx_pf tt_ok (.inl rfl) Tryz.results23 (Res.tmp rfl Res.nil) rfl
 replace h := cf hc h
 refine wc_skip (wx_then (wSR (wP rfl rfl (wP (v := .pointer (some ⟨b3, 0, none⟩)) rfl rfl (wl_val (v := .int .u64 p1.Frame) (val_load tt_ok rfl mH rfl) rfl (wl_inl Tryz.call57 rfl rfl rfl Tryz.func57 rfl Tryz.ntmps57 rfl rfl rfl (wSR (wP rfl rfl (wNT (wc_seq (wc_quiet (by kernel_rfl) (by kernel_rfl) ?_)))))))))))
 iterate 3 refine qP rfl rfl ?_
 cases h

theorem k_ring_Ring_is {F : Nat} {p0 : T_ring_Ring} {p0b p0t : Nat} {p0g0 : List (T_ring_place × G)} {p0P0 : List Blk} {r0 : Bool} (p0G0 : p0.places.1 = unG p0g0) (p0A0 : AllP sh_T_ring_place c_T_api_Shot p0P0 p0g0) (h : m_ring_Ring_is F p0 = some r0) :
    Rd2 Tryz.prog 56 [.pointer (some ⟨p0b, 0, none⟩)] (⟨p0b, ([.int .i64 p0.size] ++ flat cg_T_ring_place p0g0), p0t, (0, 0)⟩ :: (p0P0 ++ [])) (fun w => True) (.bool r0) := by
 unfold m_ring_Ring_is at h
 refine sp_of_wc Tryz.func56 rfl Tryz.ntmps56 rfl rfl (fun w0 hR => ?_)
 refine wSR (wP rfl rfl (wNT (wSR (wP rfl rfl (wP (v := .bool true) rfl rfl (wP rfl rfl (wl_run rfl (wP rfl rfl (wl_run rfl (wP rfl rfl (wl_run rfl (wP (v := .pointer (some ⟨p0b, 0, none⟩)) rfl rfl (wl_run rfl (wl_val (v := .int .i64 p0.size) (val_load tt_ok rfl mH rfl) rfl (wl_run rfl (wP (v := .bool (decide ((0 : Int) < p0.size))) rfl rfl (wP (v := .bool (decide ((0 : Int) < p0.size))) rfl rfl (wP rfl rfl ?_))))))))))))))))))
 refine wNT (wc_ret ?_)
 obtain rfl := sI h
 exact wx_rd tt_ok (.inl rfl) Tryz.results56 (Res.tmp rfl Res.nil) (pSub (pH (pA pNil))) rfl

theorem k_ring_told {F : Nat} {p0 : T_api_State} {p0a0 : Option Addr} {p0n0 p0c0 : Nat} {r0 : T_api_State} (p0N0 : p0n0 = p0.Shots.length) (p0H0 : p0n0 ≤ p0c0) (p0Z0 : p0a0 = none → p0c0 = 0) (h : m_ring_told F p0 = some r0) :
    SpD Tryz.prog 58 [agS p0 p0a0 p0n0 p0c0] [] (fun w => Rds w (ids []) [] p0a0 (flat c_T_api_Shot p0.Shots)) (fun v D => ∃ (r0a0 : Option Addr) (r0n0 r0c0 : Nat) (r0B0 : List Blk), r0n0 = r0.Shots.length ∧ Own 93 6 r0a0 r0n0 r0c0 (flat c_T_api_Shot r0.Shots) r0B0 ∧ v = agS r0 r0a0 r0n0 r0c0 ∧ D = fun F => (r0B0 ++ F)) := by
 unfold m_ring_told at h
 refine sp_of_wc Tryz.func58 rfl Tryz.ntmps58 rfl rfl (fun w0 hR => ?_)
 have p0S0 := hR
 refine wSR (wl_box rfl rfl rfl (fun b1 => (wl_alloc tt_ok rfl rfl (fun b2 => (wNT (wc_seq (wSR (wP (v := .pointer (some ⟨b1, 16, none⟩)) rfl rfl (wl_val (v := .slice p0a0 p0n0 p0c0) (val_load tt_ok rfl (mT mH) rfl) rfl ?_)))))))))
 rcases p0a0 with _ | dp0a0
 ·have hz_ : p0.Shots = [] := rds_none p0S0 c_T_api_Shot_len (by decide)
  obtain rfl : p0n0 = 0 := by rw [p0N0, hz_]; rfl
  obtain rfl : p0c0 = 0 := p0Z0 rfl
  refine wP (v := .bool false) rfl rfl (wNT (wc_cond_false rfl (wc_skip (wx_then (wSR (wl_val (v := agS p0 none 0 0) (val_load tt_ok rfl (mT mH) rfl) rfl ?_))))))
  apply wl_store tt_ok; rfl; exact Upd.here; rfl; rfl; rfl; rfl; rfl; rfl
  refine wNT (wc_ret ?_)
  simp [hz_, appI, mkI, copyL] at h
  obtain rfl := h
  exact wx_spD tt_ok (.inl rfl) Tryz.results58 (Res.cell rfl mH rfl Res.nil) ⟨none, 0, 0, [], rfl, Own.zero, rfl, rfl⟩ (fun F => by simp) (pSub (pNo pNil))
 refine wP (v := .bool true) rfl rfl (wNT (wc_cond_true rfl (wSR (wP (v := .pointer (some ⟨b1, 16, none⟩)) rfl rfl (wl_val (v := .slice (some dp0a0) p0n0 p0c0) (val_load tt_ok rfl (mT mH) rfl) rfl (wl_val (v := .int .i64 (p0.Shots.length : Int)) (val_len tt_ok rfl rfl p0N0) rfl ?_))))))
 obtain ⟨v10, x10, h⟩ := bsome h
 refine wl_chg (chg_make (enc := c_T_api_Shot) tt_ok rfl rfl rfl rfl rfl rfl c_T_api_Shot_len rfl x10) rfl ?_
 rintro _ _ ⟨a10, n10_, c10, B10, rfl, N10, V10, rfl⟩
 refine wP rfl rfl (wNT (wSR (wP rfl rfl (wP (v := .pointer (some ⟨b1, 16, none⟩)) rfl rfl (wl_val (v := .slice (some dp0a0) p0n0 p0c0) (val_load tt_ok rfl (mR (mT mH)) rfl) rfl (wl_chg (chg_copy (enc := c_T_api_Shot) (ys := p0.Shots) tt_ok rfl rfl rfl rfl N10 p0N0 V10 hA' p0S0 rsub_nil c_T_api_Shot_len (fun _ => rfl)) rfl ?_))))))
 rintro _ _ ⟨Bk10_3, rfl, Nk10_3, Vk10_3, rfl⟩
 refine wNT (wc_region (wP rfl rfl (wP (v := .pointer (some ⟨b1, 16, none⟩)) rfl rfl ?_)))
 apply wl_store tt_ok; rfl; exact (Upd.right (Upd.there Upd.here)); rfl; rfl; rfl; rfl; rfl; rfl
 refine wNT (wSR (wl_val (v := agS p0 a10 n10_ c10) (val_load tt_ok rfl (mR (mT mH)) rfl) rfl ?_))
 apply wl_store tt_ok; rfl; exact (Upd.right Upd.here); rfl; rfl; rfl; rfl; rfl; rfl
 refine wNT (wc_ret ?_)
 obtain rfl := sI h
 exact wx_spD tt_ok (.inl rfl) Tryz.results58 (Res.cell rfl (mR mH) rfl Res.nil) ⟨a10, n10_, c10, Bk10_3, Nk10_3, Vk10_3, rfl, rfl⟩ (fun F => by simp) (pSub (pA pNil))

theorem k_ring_Ring_Put {F : Nat} {p0 : T_ring_Ring} {p0b p0t : Nat} {p0g0 : List (T_ring_place × G)} {p0P0 : List Blk} {p1 : T_api_State} {p1a0 : Option Addr} {p1n0 p1c0 : Nat} {r0 : T_ring_Ring} {r1 : Bool} (p0G0 : p0.places.1 = unG p0g0) (p0A0 : AllP sh_T_ring_place c_T_api_Shot p0P0 p0g0) (p1N0 : p1n0 = p1.Shots.length) (p1H0 : p1n0 ≤ p1c0) (p1Z0 : p1a0 = none → p1c0 = 0) (h : m_ring_Ring_Put F p0 p1 = some (r0, r1)) :
    SpD Tryz.prog 23 [.pointer (some ⟨p0b, 0, none⟩), agS p1 p1a0 p1n0 p1c0] (⟨p0b, ([.int .i64 p0.size] ++ flat cg_T_ring_place p0g0), p0t, (0, 0)⟩ :: (p0P0 ++ [])) (fun w => Rds w (ids (⟨p0b, ([.int .i64 p0.size] ++ flat cg_T_ring_place p0g0), p0t, (0, 0)⟩ :: (p0P0 ++ []))) [] p1a0 (flat c_T_api_Shot p1.Shots) ∧ Rds w (ids (⟨p0b, ([.int .i64 p0.size] ++ flat cg_T_ring_place p0g0), p0t, (0, 0)⟩ :: (p0P0 ++ []))) [] (some ⟨0, 0, none⟩) (flat (fun _ : Unit => gl_state_playerBounds) [()]) ∧ Rds w (ids (⟨p0b, ([.int .i64 p0.size] ++ flat cg_T_ring_place p0g0), p0t, (0, 0)⟩ :: (p0P0 ++ []))) [] (some ⟨1, 0, none⟩) (flat (fun _ : Unit => gl_state_shotBounds) [()])) (fun v D => ∃ (r0g0 : List (T_ring_place × G)) (r0P0 : List Blk), r0.places.1 = unG r0g0 ∧ AllP sh_T_ring_place c_T_api_Shot r0P0 r0g0 ∧ v = .bool r1 ∧ D = fun F => (⟨p0b, ([.int .i64 r0.size] ++ flat cg_T_ring_place r0g0), p0t, (0, 0)⟩ :: (r0P0 ++ F))) := by
 unfold m_ring_Ring_Put at h
 refine sp_of_wc Tryz.func23 rfl Tryz.ntmps23 rfl rfl (fun w0 hR => ?_)
 obtain ⟨p1S0, G0S, G1S⟩ := hR
 refine wSR (wl_box rfl rfl rfl (fun b3 => (wP rfl rfl (wNT (wc_seq (wSR (wP rfl rfl ?_)))))))
 obtain ⟨v7, x7, h⟩ := bsome h
 refine wl_cq Tryz.call56 rfl rfl rfl (q_rd (k_ring_Ring_is (p0 := p0) p0G0 p0A0 x7) (pS (qS pNil)) (fun _ _ => trivial)) rfl ?_
 refine wP (v := .bool (!v7)) rfl rfl (wP rfl rfl ?_)
 obtain ⟨v13, h, hg13⟩ := bsome h
 refine wl_split (t := 9) rfl (fun hc => ?_) (fun hc => ?_)
 ·replace h := ct hc h
  iterate 3 refine wl_skip rfl rfl ?_
  obtain rfl := sI h
  have h := hg13; clear hg13
  refine wP (v := .bool true) rfl rfl (wNT ?_)
  replace h := ct rfl h
  refine wc_cond_true rfl ?_
  refine wSR (wP rfl rfl (wNT (wc_ret (wx_then_ret ?_))))
  obtain ⟨rfl, rfl⟩ := pJ2 h
  exact wx_spD tt_ok (.inl rfl) Tryz.results23 (Res.tmp rfl Res.nil) ⟨p0g0, p0P0, p0G0, p0A0, rfl, rfl⟩ (fun F => by simp) (pSub (pS (qS pNil)))
 replace h := cf hc h
 refine wl_run rfl (wl_val (v := agS p1 p1a0 p1n0 p1c0) (val_load tt_ok rfl mH rfl) rfl ?_)
 obtain ⟨v11, x11, h⟩ := bsome h
 refine wl_run rfl (wl_cq Tryz.call19 rfl rfl rfl (q_pf (k_state_Check (p0 := p1) p1N0 p1H0 x11) (fun w hI => ⟨(Rds.call p1S0 pNil rsub_nil) w hI, (Rds.call G0S pNil rsub_nil) w hI, (Rds.call G1S pNil rsub_nil) w hI⟩)) rfl (wl_run rfl (wP (v := .bool (v11 != (0 : Int))) rfl rfl ?_)))
 obtain rfl := sI h
 have h := hg13; clear hg13
 refine wP (v := .bool (v11 != (0 : Int))) rfl rfl (wNT (wc_cond rfl (fun hc => ?_) (fun hc => ?_)))
 ·replace h := ct hc h
  refine wSR (wP rfl rfl (wNT (wc_ret (wx_then_ret ?_))))
  obtain ⟨rfl, rfl⟩ := pJ2 h
  exact wx_spD tt_ok (.inl rfl) Tryz.results23 (Res.tmp rfl Res.nil) ⟨p0g0, p0P0, p0G0, p0A0, rfl, rfl⟩ (fun F => by simp) (pSub (pS (qS pNil)))
 replace h := cf hc h
 refine wc_skip (wx_then (wSR (wP rfl rfl (wP (v := .pointer (some ⟨b3, 0, none⟩)) rfl rfl (wl_val (v := .int .u64 p1.Frame) (val_load tt_ok rfl mH rfl) rfl (wl_inl Tryz.call57 rfl rfl rfl Tryz.func57 rfl Tryz.ntmps57 rfl rfl rfl (wSR (wP rfl rfl (wNT (wc_seq (wc_quiet (by kernel_rfl) (by kernel_rfl) ?_)))))))))))
 iterate 4 refine qP rfl rfl ?_
 refine qP (v := .pointer (some ⟨p0b, 0, none⟩)) rfl rfl (wq_val (v := .int .i64 p0.size) (val_load tt_ok rfl (mT mH) rfl) rfl (qP (v := .int .u64 (IntKind.wrap .u64 p0.size)) rfl rfl ?_))
 obtain ⟨v100012, x100012, h⟩ := bsome h
 refine wq_val (v := .int .u64 v100012) (val_rem rfl rfl x100012) rfl ?_
 refine qP rfl rfl (qP (v := .pointer (some ⟨p0b, 1, none⟩)) rfl rfl ?_)
 obtain ⟨v100015, x100015, h⟩ := bsome h
 obtain ⟨G100015, y100015⟩ := getI_g p0G0 x100015
 refine wq_val (v := .pointer (some ⟨p0b, 1 + v100012.toNat * 20 + 0, none⟩)) (val_xa (a := p0.places) tt_ok rfl rfl rfl rfl x100015) rfl ?_
 refine qP rfl rfl (wq_nil (wx_then (wc_ret (wx_inl (v := .pointer (some ⟨p0b, 1 + v100012.toNat * 20 + 0, none⟩)) tt_ok (.inl rfl) Tryz.results57 (Res.tmp rfl Res.nil) rfl (wP rfl rfl (wNT (wc_seq (wc_seq (wc_quiet (by kernel_rfl) (by kernel_rfl) ?_)))))))))
 iterate 2 refine qP rfl rfl ?_
 refine qP (v := .pointer (some ⟨p0b, 1 + v100012.toNat * 20 + 19, none⟩)) rfl rfl (wq_val (v := .bool v100015.is_) (val_xl (enc := cg_T_ring_place) (pre := [.int .i64 p0.size]) (post := []) (xs := p0g0) tt_ok rfl (mT mH) c_np rfl cg_T_ring_place_len y100015 rfl) rfl (qP rfl rfl ?_))
 obtain ⟨v31, h, hg31⟩ := bsome h
 refine wq_split (t := 22) rfl (fun hc => ?_) (fun hc => ?_)
 ·replace h := ct hc h
  refine wq_run rfl (qP rfl rfl (wq_run rfl (qP rfl rfl (wq_run rfl (qP (v := .pointer (some ⟨p0b, 1 + v100012.toNat * 20 + 0, none⟩)) rfl rfl (wq_run rfl (qP (v := .pointer (some ⟨p0b, 1 + v100012.toNat * 20 + 0, none⟩)) rfl rfl (wq_run rfl (wq_val (v := .int .u64 v100015.s.Frame) (val_xl (enc := cg_T_ring_place) (pre := [.int .i64 p0.size]) (post := []) (xs := p0g0) tt_ok rfl (mT mH) c_np rfl cg_T_ring_place_len y100015 rfl) rfl (wq_run rfl (qP (v := .pointer (some ⟨b3, 0, none⟩)) rfl rfl (wq_run rfl (wq_val (v := .int .u64 p1.Frame) (val_load tt_ok rfl mH rfl) rfl (wq_run rfl (qP (v := .bool (decide (p1.Frame < v100015.s.Frame))) rfl rfl ?_)))))))))))))))
  obtain rfl := sI h
  have h := hg31; clear hg31
  refine qP (v := .bool (decide (p1.Frame < v100015.s.Frame))) rfl rfl (wq_nil (wx_then (wc_cond rfl (fun hc => ?_) (fun hc => ?_))))
  ·replace h := ct hc h
   refine wSR (wP rfl rfl (wNT (wc_ret (wx_then_ret ?_))))
   obtain ⟨rfl, rfl⟩ := pJ2 h
   exact wx_spD tt_ok (.inl rfl) Tryz.results23 (Res.tmp rfl Res.nil) ⟨p0g0, p0P0, p0G0, p0A0, rfl, rfl⟩ (fun F => by simp) (pSub (pS (qS pNil)))
  replace h := cf hc h
  refine wc_skip (wx_then (wSR (wP rfl rfl (wl_val (v := agS p1 p1a0 p1n0 p1c0) (val_load tt_ok rfl mH rfl) rfl ?_))))
  obtain ⟨v34, x34, h⟩ := bsome h
  refine wl_cs Tryz.call58 rfl rfl rfl (s_sp (k_ring_told (p0 := p1) p1N0 p1H0 p1Z0 x34) pNil (Rds.call p1S0 pNil rsub_nil)) rfl ?_
  rintro _ _ ⟨_, ⟨v34a0, v34n0, v34c0, v34B0, v34N0, v34V0, rfl, rfl⟩, rfl⟩
  refine wP (v := .agg #[.int .u64 v34.Frame, .int .u64 v34.Seed, .int .i32 v34.Players.1.X, .int .i32 v34.Players.1.Y, .int .i32 v34.Players.1.VX, .int .i32 v34.Players.1.VY, .int .u8 v34.Players.1.Health, .int .u8 v34.Players.1.Cool, .int .u8 v34.Players.1.Face, .int .i32 v34.Players.2.X, .int .i32 v34.Players.2.Y, .int .i32 v34.Players.2.VX, .int .i32 v34.Players.2.VY, .int .u8 v34.Players.2.Health, .int .u8 v34.Players.2.Cool, .int .u8 v34.Players.2.Face, .slice v34a0 v34n0 v34c0, .int .u16 v34.Score.1, .int .u16 v34.Score.2, .bool true]) rfl rfl (wP rfl rfl (wl_sub (L' := ((p0P0 ++ v34B0) ++ (⟨b3, (st19 p1 p1a0 p1n0 p1c0 []), 30, (0, 0)⟩ :: (⟨p0b, ([.int .i64 p0.size] ++ flat cg_T_ring_place p0g0), p0t, (0, 0)⟩ :: [])))) (pMerge (sA (sCC hA')) hA') ?_))
  refine wl_chg0 (chg_stx (enc := cg_T_ring_place) (pre := [.int .i64 p0.size]) (post := []) (xs := p0g0) (y' := ((T_ring_place.mk v34 true), (v34a0, v34n0, v34c0))) (c' := ([.int .i64 p0.size] ++ flat cg_T_ring_place (setI p0g0 v100012 ((T_ring_place.mk v34 true), (v34a0, v34n0, v34c0))))) tt_ok rfl rfl rfl rfl rfl rfl (Upd.right (Upd.there Upd.here)) c_np c_np rfl cg_T_ring_place_len y100015 rfl (by intro h; cases h)) ?_
  rintro _ _ rfl
  refine wNT (wSR (wP rfl rfl (wNT (wc_ret ?_))))
  obtain ⟨rfl, rfl⟩ := pJ2 h
  exact wx_spD tt_ok (.inl rfl) Tryz.results23 (Res.tmp rfl Res.nil) ⟨(setI p0g0 v100012 ((T_ring_place.mk v34 true), (v34a0, v34n0, v34c0))), (p0P0 ++ v34B0), (setI_g p0G0 v100012 ((T_ring_place.mk v34 true), (v34a0, v34n0, v34c0))), (fun w A => allrd_set (allrd_left (p0A0 w A)) (allrd_one (sh := sh_T_ring_place) (x := (T_ring_place.mk v34 true)) (s := v34.Shots) rfl v34N0 (vec_cap v34V0) (Rds.right (Rds.of_vec v34V0)) (own_Z v34V0))), rfl, rfl⟩ (fun F => by simp) (pSub (pCons (sAC hC) (pA pNil)))
 replace h := cf hc h
 refine wq_skip rfl rfl (wq_skip rfl rfl (wq_skip rfl rfl (wq_skip rfl rfl (wq_skip rfl rfl (wq_skip rfl rfl (wq_skip rfl rfl (wq_skip rfl rfl ?_)))))))
 obtain rfl := sI h
 have h := hg31; clear hg31
 refine qP (v := .bool false) rfl rfl (wq_nil (wx_then ?_))
 replace h := cf rfl h
 refine wc_cond_false rfl ?_
 refine wc_skip (wx_then (wSR (wP rfl rfl (wl_val (v := agS p1 p1a0 p1n0 p1c0) (val_load tt_ok rfl mH rfl) rfl ?_))))
 obtain ⟨v34, x34, h⟩ := bsome h
 refine wl_cs Tryz.call58 rfl rfl rfl (s_sp (k_ring_told (p0 := p1) p1N0 p1H0 p1Z0 x34) pNil (Rds.call p1S0 pNil rsub_nil)) rfl ?_
 rintro _ _ ⟨_, ⟨v34a0, v34n0, v34c0, v34B0, v34N0, v34V0, rfl, rfl⟩, rfl⟩
 refine wP (v := .agg #[.int .u64 v34.Frame, .int .u64 v34.Seed, .int .i32 v34.Players.1.X, .int .i32 v34.Players.1.Y, .int .i32 v34.Players.1.VX, .int .i32 v34.Players.1.VY, .int .u8 v34.Players.1.Health, .int .u8 v34.Players.1.Cool, .int .u8 v34.Players.1.Face, .int .i32 v34.Players.2.X, .int .i32 v34.Players.2.Y, .int .i32 v34.Players.2.VX, .int .i32 v34.Players.2.VY, .int .u8 v34.Players.2.Health, .int .u8 v34.Players.2.Cool, .int .u8 v34.Players.2.Face, .slice v34a0 v34n0 v34c0, .int .u16 v34.Score.1, .int .u16 v34.Score.2, .bool true]) rfl rfl (wP rfl rfl (wl_sub (L' := ((p0P0 ++ v34B0) ++ (⟨b3, (st19 p1 p1a0 p1n0 p1c0 []), 30, (0, 0)⟩ :: (⟨p0b, ([.int .i64 p0.size] ++ flat cg_T_ring_place p0g0), p0t, (0, 0)⟩ :: [])))) (pMerge (sA (sCC hA')) hA') ?_))
 refine wl_chg0 (chg_stx (enc := cg_T_ring_place) (pre := [.int .i64 p0.size]) (post := []) (xs := p0g0) (y' := ((T_ring_place.mk v34 true), (v34a0, v34n0, v34c0))) (c' := ([.int .i64 p0.size] ++ flat cg_T_ring_place (setI p0g0 v100012 ((T_ring_place.mk v34 true), (v34a0, v34n0, v34c0))))) tt_ok rfl rfl rfl rfl rfl rfl (Upd.right (Upd.there Upd.here)) c_np c_np rfl cg_T_ring_place_len y100015 rfl (by intro h; cases h)) ?_
 rintro _ _ rfl
 refine wNT (wSR (wP rfl rfl (wNT (wc_ret ?_))))
 obtain ⟨rfl, rfl⟩ := pJ2 h
 exact wx_spD tt_ok (.inl rfl) Tryz.results23 (Res.tmp rfl Res.nil) ⟨(setI p0g0 v100012 ((T_ring_place.mk v34 true), (v34a0, v34n0, v34c0))), (p0P0 ++ v34B0), (setI_g p0G0 v100012 ((T_ring_place.mk v34 true), (v34a0, v34n0, v34c0))), (fun w A => allrd_set (allrd_left (p0A0 w A)) (allrd_one (sh := sh_T_ring_place) (x := (T_ring_place.mk v34 true)) (s := v34.Shots) rfl v34N0 (vec_cap v34V0) (Rds.right (Rds.of_vec v34V0)) (own_Z v34V0))), rfl, rfl⟩ (fun F => by simp) (pSub (pCons (sAC hC) (pA pNil)))

theorem k_rollback_New {F : Nat} {p0 : T_api_State} {p0a0 : Option Addr} {p0n0 p0c0 : Nat} {p1 : Int} {p2 : Int} {r0 : (T_rollback_Engine × T_queue_Queue × T_ring_Ring)} (p0N0 : p0n0 = p0.Shots.length) (p0H0 : p0n0 ≤ p0c0) (p0Z0 : p0a0 = none → p0c0 = 0) (h : m_rollback_New F p0 p1 p2 = some (some r0)) :
    SpD Tryz.prog 5 [agS p0 p0a0 p0n0 p0c0, .int .u8 p1, .int .i64 p2] [] (fun w => Rds w (ids []) [] p0a0 (flat c_T_api_Shot p0.Shots) ∧ Rds w (ids []) [] (some ⟨0, 0, none⟩) (flat (fun _ : Unit => gl_state_playerBounds) [()]) ∧ Rds w (ids []) [] (some ⟨1, 0, none⟩) (flat (fun _ : Unit => gl_state_shotBounds) [()])) (fun v D => ∃ (r0b r0b_4 : Nat) (r0b_5 : Nat) (r0a0 : Option Addr) (r0n0 r0c0 : Nat) (r0B0 : List Blk) (r0a1 : Option Addr) (r0n1 r0c1 : Nat) (r0B1 : List Blk) (r0_4a0 : Option Addr) (r0_4n0 r0_4c0 : Nat) (r0_4B0 : List Blk) (r0_5g0 : List (T_ring_place × G)) (r0_5P0 : List Blk), r0n0 = r0.1.sure.Shots.length ∧ Own 93 6 r0a0 r0n0 r0c0 (flat c_T_api_Shot r0.1.sure.Shots) r0B0 ∧ r0n1 = r0.1.own.length ∧ Own 40 1 r0a1 r0n1 r0c1 (flat (e1 .u8) r0.1.own) r0B1 ∧ r0_4n0 = r0.2.1.l.length ∧ Own 40 1 r0_4a0 r0_4n0 r0_4c0 (flat (e1 .u8) r0.2.1.l) r0_4B0 ∧ r0.2.2.places.1 = unG r0_5g0 ∧ AllP sh_T_ring_place c_T_api_Shot r0_5P0 r0_5g0 ∧ v = .pointer (some ⟨r0b, 0, none⟩) ∧ D = fun F => (⟨r0b, (.int .u8 r0.1.player :: .int .i64 r0.1.window :: st19 r0.1.sure r0a0 r0n0 r0c0 [.slice r0a1 r0n1 r0c1, .pointer (some ⟨r0b_4, 0, none⟩), .pointer (some ⟨r0b_5, 0, none⟩)]), 64, (0, 0)⟩ :: (r0B0 ++ (r0B1 ++ (⟨r0b_4, [.int .u64 r0.2.1.first_, .slice r0_4a0 r0_4n0 r0_4c0, .int .u8 r0.2.1.last], 98, (0, 0)⟩ :: (r0_4B0 ++ (⟨r0b_5, ([.int .i64 r0.2.2.size] ++ flat cg_T_ring_place r0_5g0), 103, (0, 0)⟩ :: (r0_5P0 ++ F)))))))) := by
 unfold m_rollback_New at h
 refine sp_of_wc Tryz.func5 rfl Tryz.ntmps5 rfl rfl (fun w0 hR => ?_)
 obtain ⟨p0S0, G0S, G1S⟩ := hR
 refine wSR (wl_box rfl rfl rfl (fun b3 => (wP rfl rfl (wNT (wc_seq (wSR (wl_val (v := agS p0 p0a0 p0n0 p0c0) (val_load tt_ok rfl mH rfl) rfl ?_)))))))
 obtain ⟨v9, x9, h⟩ := bsome h
 refine wl_cq Tryz.call19 rfl rfl rfl (q_pf (k_state_Check (p0 := p0) p0N0 p0H0 x9) (fun w hI => ⟨(Rds.call p0S0 pNil rsub_nil) w hI, (Rds.call G0S pNil rsub_nil) w hI, (Rds.call G1S pNil rsub_nil) w hI⟩)) rfl ?_
 refine wP (v := .bool (v9 != (0 : Int))) rfl rfl (wP rfl rfl ?_)
 obtain ⟨v15, h, hg15⟩ := bsome h
 refine wl_split (t := 11) rfl (fun hc => ?_) (fun hc => ?_)
 ·replace h := ct hc h
  iterate 3 refine wl_skip rfl rfl ?_
  simp only [Option.some.injEq, Prod.mk.injEq] at h
  obtain rfl := h
  have h := hg15; clear hg15
  refine wP (v := .bool true) rfl rfl (wP rfl rfl ?_)
  obtain ⟨v19, h, hg19⟩ := bsome h
  replace h := ct rfl h
  iterate 2 refine wl_skip rfl rfl ?_
  simp only [Option.some.injEq, Prod.mk.injEq] at h
  obtain rfl := h
  have h := hg19; clear hg19
  refine wP (v := .bool true) rfl rfl (wP rfl rfl ?_)
  obtain ⟨v23, h, hg23⟩ := bsome h
  replace h := ct rfl h
  iterate 2 refine wl_skip rfl rfl ?_
  simp only [Option.some.injEq, Prod.mk.injEq] at h
  obtain rfl := h
  have h := hg23; clear hg23
  refine wP (v := .bool true) rfl rfl (wP rfl rfl ?_)
  obtain ⟨v27, h, hg27⟩ := bsome h
  replace h := ct rfl h
  iterate 2 refine wl_skip rfl rfl ?_
  simp only [Option.some.injEq, Prod.mk.injEq] at h
  obtain rfl := h
  have h := hg27; clear hg27
  refine wP (v := .bool true) rfl rfl (wNT ?_)
  replace h := ct rfl h
  refine wc_cond_true rfl ?_
  refine wSR (wP rfl rfl (wNT (wc_ret (wx_then_ret ?_))))
  first | (cases h; done) | simp at h
 replace h := cf hc h
 refine wl_run rfl (wP (v := .pointer (some ⟨b3, 0, none⟩)) rfl rfl (wl_run rfl (wl_val (v := .int .u64 p0.Frame) (val_load tt_ok rfl mH rfl) rfl (wl_run rfl (wP (v := .bool (decide ((9223372036854775808 : Int) < p0.Frame))) rfl rfl ?_)))))
 simp only [Option.some.injEq, Prod.mk.injEq] at h
 obtain rfl := h
 have h := hg15; clear hg15
 refine wP (v := .bool (decide ((9223372036854775808 : Int) < p0.Frame))) rfl rfl (wP rfl rfl ?_)
 obtain ⟨v19, h, hg19⟩ := bsome h
 refine wl_split (t := 16) rfl (fun hc => ?_) (fun hc => ?_)
 ·replace h := ct hc h
  iterate 2 refine wl_skip rfl rfl ?_
  simp only [Option.some.injEq, Prod.mk.injEq] at h
  obtain rfl := h
  have h := hg19; clear hg19
  refine wP (v := .bool true) rfl rfl (wP rfl rfl ?_)
  obtain ⟨v23, h, hg23⟩ := bsome h
  replace h := ct rfl h
  iterate 2 refine wl_skip rfl rfl ?_
  simp only [Option.some.injEq, Prod.mk.injEq] at h
  obtain rfl := h
  have h := hg23; clear hg23
  refine wP (v := .bool true) rfl rfl (wP rfl rfl ?_)
  obtain ⟨v27, h, hg27⟩ := bsome h
  replace h := ct rfl h
  iterate 2 refine wl_skip rfl rfl ?_
  simp only [Option.some.injEq, Prod.mk.injEq] at h
  obtain rfl := h
  have h := hg27; clear hg27
  refine wP (v := .bool true) rfl rfl (wNT ?_)
  replace h := ct rfl h
  refine wc_cond_true rfl ?_
  refine wSR (wP rfl rfl (wNT (wc_ret (wx_then_ret ?_))))
  first | (cases h; done) | simp at h
 replace h := cf hc h
 refine wl_run rfl (wP rfl rfl (wl_run rfl (wP (v := .bool (decide ((1 : Int) < p1))) rfl rfl ?_)))
 simp only [Option.some.injEq, Prod.mk.injEq] at h
 obtain rfl := h
 have h := hg19; clear hg19
 refine wP (v := .bool (decide ((1 : Int) < p1))) rfl rfl (wP rfl rfl ?_)
 obtain ⟨v23, h, hg23⟩ := bsome h
 refine wl_split (t := 20) rfl (fun hc => ?_) (fun hc => ?_)
 ·replace h := ct hc h
  iterate 2 refine wl_skip rfl rfl ?_
  simp only [Option.some.injEq, Prod.mk.injEq] at h
  obtain rfl := h
  have h := hg23; clear hg23
  refine wP (v := .bool true) rfl rfl (wP rfl rfl ?_)
  obtain ⟨v27, h, hg27⟩ := bsome h
  replace h := ct rfl h
  iterate 2 refine wl_skip rfl rfl ?_
  simp only [Option.some.injEq, Prod.mk.injEq] at h
  obtain rfl := h
  have h := hg27; clear hg27
  refine wP (v := .bool true) rfl rfl (wNT ?_)
  replace h := ct rfl h
  refine wc_cond_true rfl ?_
  refine wSR (wP rfl rfl (wNT (wc_ret (wx_then_ret ?_))))
  first | (cases h; done) | simp at h
 replace h := cf hc h
 refine wl_run rfl (wP rfl rfl (wl_run rfl (wP (v := .bool (decide (p2 < (1 : Int)))) rfl rfl ?_)))
 simp only [Option.some.injEq, Prod.mk.injEq] at h
 obtain rfl := h
 have h := hg23; clear hg23
 refine wP (v := .bool (decide (p2 < (1 : Int)))) rfl rfl (wP rfl rfl ?_)
 obtain ⟨v27, h, hg27⟩ := bsome h
 refine wl_split (t := 24) rfl (fun hc => ?_) (fun hc => ?_)
 ·replace h := ct hc h
  iterate 2 refine wl_skip rfl rfl ?_
  simp only [Option.some.injEq, Prod.mk.injEq] at h
  obtain rfl := h
  have h := hg27; clear hg27
  refine wP (v := .bool true) rfl rfl (wNT ?_)
  replace h := ct rfl h
  refine wc_cond_true rfl ?_
  refine wSR (wP rfl rfl (wNT (wc_ret (wx_then_ret ?_))))
  first | (cases h; done) | simp at h
 replace h := cf hc h
 refine wl_run rfl (wP rfl rfl (wl_run rfl (wP (v := .bool (decide ((12 : Int) < p2))) rfl rfl ?_)))
 simp only [Option.some.injEq, Prod.mk.injEq] at h
 obtain rfl := h
 have h := hg27; clear hg27
 refine wP (v := .bool (decide ((12 : Int) < p2))) rfl rfl (wNT (wc_cond rfl (fun hc => ?_) (fun hc => ?_)))
 ·replace h := ct hc h
  refine wSR (wP rfl rfl (wNT (wc_ret (wx_then_ret ?_))))
  first | (cases h; done) | simp at h
 replace h := cf hc h
 refine wc_skip (wx_then (wc_seq (wc_k2 (Ls := (⟨b3, (st19 p0 p0a0 p0n0 p0c0 []), 30, (0, 0)⟩ :: [])) [3, 6, 9, 10, 11, 12] [10, 11, 12] [0, 0, 0, 4, 0, 16, 60, 0, 128, 508, 1023, 2047, 4095] [0, 1, 2, 4, 5, 7, 8, 3, 6, 9, 10, 11, 12] (by kernel_rfl) (by kernel_rfl) (by kernel_rfl) ?_)))
 iterate 2 refine k_val rfl rfl rfl (pSub (pH pNil)) (sV rfl) rfl ?_
 refine k_val (v := agS p0 p0a0 p0n0 p0c0) rfl rfl rfl (pSub (pH pNil)) (val_load tt_ok rfl mH rfl) rfl (k_val (v := .pointer (some ⟨b3, 0, none⟩)) rfl rfl rfl (pSub (pH pNil)) (sV rfl) rfl ?_)
 refine k_val (v := .int .u64 p0.Frame) rfl rfl rfl (pSub (pH pNil)) (val_load tt_ok rfl mH rfl) rfl (k_val rfl rfl rfl (pSub (pH pNil)) (sV rfl) rfl (k_val (v := .int .i64 (IntKind.wrap .i64 (p2 + (2 : Int)))) rfl rfl rfl (pSub (pH pNil)) (sV rfl) rfl ?_))
 obtain ⟨v31, x31, h⟩ := bsome h
 refine k_cs rfl rfl rfl Tryz.call20 rfl rfl rfl (s_sp (k_state_Copy (p0 := p0) p0N0 p0H0 x31) pNil (Rds.call p0S0 pNil rsub_nil)) rfl (.inr (by rintro _ _ ⟨_, ⟨_, _, _, _, _, _, rfl, rfl⟩, rfl⟩; exact ⟨_, (pCons (sA hC) pNil)⟩)) ?_
 rintro _ _ ⟨_, ⟨v31a0, v31n0, v31c0, v31B0, v31N0, v31V0, rfl, rfl⟩, rfl⟩
 obtain ⟨v34, x34, h⟩ := bsome h
 refine k_cs rfl rfl rfl Tryz.call21 rfl rfl rfl (s_sp (k_queue_New x34) pNil (fun _ _ => trivial)) rfl (.inr (by rintro _ _ ⟨_, ⟨_, _, _, _, _, _, _, rfl, rfl⟩, rfl⟩; exact ⟨_, (pCons (sC (sAA hC)) pNil)⟩)) ?_
 rintro _ _ ⟨_, ⟨zb, v34a0, v34n0, v34c0, v34B0, v34N0, v34V0, rfl, rfl⟩, rfl⟩
 obtain ⟨v37, x37, h⟩ := bsome h
 rcases v37 with _ | v37s
 ·replace h := poN h
  refine k_cs rfl rfl rfl Tryz.call22 rfl rfl rfl (s_sp (k_ring_New_none x37) pNil (fun _ _ => trivial)) rfl (.inr (by rintro _ _ ⟨_, ⟨rfl, rfl⟩, rfl⟩; exact ⟨_, (pCons (sC (sAA hC)) pNil)⟩)) ?_
  rintro _ _ ⟨_, ⟨rfl, rfl⟩, rfl⟩
  refine k_chg rfl rfl rfl (Chg.of_val (v := .agg #[.int .u8 p1, .int .i64 p2, .int .u64 v31.Frame, .int .u64 v31.Seed, .int .i32 v31.Players.1.X, .int .i32 v31.Players.1.Y, .int .i32 v31.Players.1.VX, .int .i32 v31.Players.1.VY, .int .u8 v31.Players.1.Health, .int .u8 v31.Players.1.Cool, .int .u8 v31.Players.1.Face, .int .i32 v31.Players.2.X, .int .i32 v31.Players.2.Y, .int .i32 v31.Players.2.VX, .int .i32 v31.Players.2.VY, .int .u8 v31.Players.2.Health, .int .u8 v31.Players.2.Cool, .int .u8 v31.Players.2.Face, .slice v31a0 v31n0 v31c0, .int .u16 v31.Score.1, .int .u16 v31.Score.2, .slice none 0 0, .pointer (some ⟨zb, 0, none⟩), .pointer none]) (sV rfl)) rfl (.inl rfl) ?_
  rintro _ _ ⟨rfl, rfl⟩
  refine k_chg rfl rfl rfl (chg_box rfl rfl) rfl (.inl rfl) ?_
  rintro _ _ ⟨b39, rfl, rfl⟩
  refine k_chg rfl rfl rfl (Chg.of_val (sV rfl)) rfl (.inl rfl) ?_
  rintro _ _ ⟨rfl, rfl⟩
  refine k_end (by kernel_rfl) ?_
  refine wx_then (wc_seq (wc_quiet (by kernel_rfl) (by kernel_rfl) ?_))
  iterate 2 refine qP rfl rfl ?_
  refine qP (v := .pointer (some ⟨b39, 23, none⟩)) rfl rfl (wq_val (v := .pointer none) (val_load tt_ok rfl mH rfl) rfl (wq_val (v := agS p0 p0a0 p0n0 p0c0) (val_load tt_ok rfl (mTT (mR (mR mH))) rfl) rfl ?_))
  obtain ⟨v45, x45, h⟩ := bsome h
  refine wq_cq Tryz.call23 rfl rfl rfl (q_pf (k_ring_Ring_Put_nil0 (p1 := p0) p0N0 p0H0 x45) (fun w hI => ⟨(Rds.call p0S0 pNil rsub_nil) w hI, (Rds.call G0S pNil rsub_nil) w hI, (Rds.call G1S pNil rsub_nil) w hI⟩)) rfl ?_
  refine wq_nil (wx_then (wSR ?_))
  iterate 2 refine wP rfl rfl ?_
  refine wNT (wc_ret ?_)
  cases h
 replace h := poS h
 refine k_cs rfl rfl rfl Tryz.call22 rfl rfl rfl (s_sp (k_ring_New x37) pNil (fun _ _ => trivial)) rfl (.inr (by rintro _ _ ⟨_, ⟨_, _, _, _, _, rfl, rfl⟩, rfl⟩; exact ⟨_, (pCons (sCA (sC (sAA hC))) pNil)⟩)) ?_
 rintro _ _ ⟨_, ⟨zc, v37sg0, v37sP0, v37sG0, v37sA0, rfl, rfl⟩, rfl⟩
 refine k_chg rfl rfl rfl (Chg.of_val (v := .agg #[.int .u8 p1, .int .i64 p2, .int .u64 v31.Frame, .int .u64 v31.Seed, .int .i32 v31.Players.1.X, .int .i32 v31.Players.1.Y, .int .i32 v31.Players.1.VX, .int .i32 v31.Players.1.VY, .int .u8 v31.Players.1.Health, .int .u8 v31.Players.1.Cool, .int .u8 v31.Players.1.Face, .int .i32 v31.Players.2.X, .int .i32 v31.Players.2.Y, .int .i32 v31.Players.2.VX, .int .i32 v31.Players.2.VY, .int .u8 v31.Players.2.Health, .int .u8 v31.Players.2.Cool, .int .u8 v31.Players.2.Face, .slice v31a0 v31n0 v31c0, .int .u16 v31.Score.1, .int .u16 v31.Score.2, .slice none 0 0, .pointer (some ⟨zb, 0, none⟩), .pointer (some ⟨zc, 0, none⟩)]) (sV rfl)) rfl (.inl rfl) ?_
 rintro _ _ ⟨rfl, rfl⟩
 refine k_chg rfl rfl rfl (chg_box rfl rfl) rfl (.inl rfl) ?_
 rintro _ _ ⟨b39, rfl, rfl⟩
 refine k_chg rfl rfl rfl (Chg.of_val (sV rfl)) rfl (.inl rfl) ?_
 rintro _ _ ⟨rfl, rfl⟩
 refine k_end (by kernel_rfl) ?_
 refine wx_then (wc_seq (wc_k2 (Ls := (⟨b39, (.int .u8 p1 :: .int .i64 p2 :: st19 v31 v31a0 v31n0 v31c0 [.slice none 0 0, .pointer (some ⟨zb, 0, none⟩), .pointer (some ⟨zc, 0, none⟩)]), 64, (0, 0)⟩ :: (⟨zc, ([.int .i64 v37s.size] ++ flat cg_T_ring_place v37sg0), 103, (0, 0)⟩ :: (v37sP0 ++ (⟨zb, [.int .u64 v34.first_, .slice v34a0 v34n0 v34c0, .int .u8 v34.last], 98, (0, 0)⟩ :: (v34B0 ++ (v31B0 ++ (⟨b3, (st19 p0 p0a0 p0n0 p0c0 []), 30, (0, 0)⟩ :: [])))))))) [5] [5] [0, 1, 3, 7, 0, 31] [0, 1, 2, 3, 4, 5] (by kernel_rfl) (by kernel_rfl) (by kernel_rfl) ?_))
 iterate 2 refine k_val rfl rfl rfl (pSub (pHH (pA (pH (pAA (pH pNil)))))) (sV rfl) rfl ?_
 refine k_val (v := .pointer (some ⟨b39, 23, none⟩)) rfl rfl rfl (pSub (pHH (pA (pH (pAA (pH pNil)))))) (sV rfl) rfl (k_val (v := .pointer (some ⟨zc, 0, none⟩)) rfl rfl rfl (pSub (pHH (pA (pH (pAA (pH pNil)))))) (val_load tt_ok rfl mH rfl) rfl (k_val (v := agS p0 p0a0 p0n0 p0c0) rfl rfl rfl (pSub (pHH (pA (pH (pAA (pH pNil)))))) (val_load tt_ok rfl (mTT (mR (mT (mR (mR mH))))) rfl) rfl ?_))
 replace h := bsome h; obtain ⟨⟨za, v45⟩, x45, h⟩ := h; try dsimp only at h
 refine k_cs rfl rfl rfl Tryz.call23 rfl rfl rfl (s_sp (k_ring_Ring_Put (p0 := v37s) (p1 := p0) v37sG0 v37sA0 p0N0 p0H0 p0Z0 x45) (pS (qS pNil)) (fun w hI => ⟨(Rds.call p0S0 (pS (qS pNil)) rsub_nil) w hI, (Rds.call G0S (pS (qS pNil)) rsub_nil) w hI, (Rds.call G1S (pS (qS pNil)) rsub_nil) w hI⟩)) rfl (.inl rfl) ?_
 rintro _ _ ⟨_, ⟨zg, zf, ze, zd, rfl, rfl⟩, rfl⟩
 refine k_end (by kernel_rfl) ?_
 refine wx_then (wSR ?_)
 iterate 2 refine wP rfl rfl ?_
 refine wNT (wc_ret ?_)
 simp only [Option.some.injEq] at h
 obtain rfl := h
 exact wx_spD tt_ok (.inl rfl) Tryz.results5 (Res.tmp rfl Res.nil) ⟨b39, zb, zc, v31a0, v31n0, v31c0, v31B0, none, 0, 0, [], v34a0, v34n0, v34c0, v34B0, zg, zf, v31N0, v31V0, rfl, Own.zero, v34N0, v34V0, ze, zd, rfl, rfl⟩ (fun F => by simp) (pSub (pCons (sCA hC) (pApp (sCA (sCA hA')) (pNo (pCons (sCA hC) (pApp (sCA hA') (pH (pA pNil))))))))

theorem k_rollback_New_none {F : Nat} {p0 : T_api_State} {p0a0 : Option Addr} {p0n0 p0c0 : Nat} {p1 : Int} {p2 : Int} (p0N0 : p0n0 = p0.Shots.length) (p0H0 : p0n0 ≤ p0c0) (p0Z0 : p0a0 = none → p0c0 = 0) (h : m_rollback_New F p0 p1 p2 = some none) :
    SpD Tryz.prog 5 [agS p0 p0a0 p0n0 p0c0, .int .u8 p1, .int .i64 p2] [] (fun w => Rds w (ids []) [] p0a0 (flat c_T_api_Shot p0.Shots) ∧ Rds w (ids []) [] (some ⟨0, 0, none⟩) (flat (fun _ : Unit => gl_state_playerBounds) [()]) ∧ Rds w (ids []) [] (some ⟨1, 0, none⟩) (flat (fun _ : Unit => gl_state_shotBounds) [()])) (fun v D => v = .pointer none ∧ D = fun F => F) := by
 unfold m_rollback_New at h
 refine sp_of_wc Tryz.func5 rfl Tryz.ntmps5 rfl rfl (fun w0 hR => ?_)
 obtain ⟨p0S0, G0S, G1S⟩ := hR
 refine wSR (wl_box rfl rfl rfl (fun b3 => (wP rfl rfl (wNT (wc_seq (wSR (wl_val (v := agS p0 p0a0 p0n0 p0c0) (val_load tt_ok rfl mH rfl) rfl ?_)))))))
 obtain ⟨v9, x9, h⟩ := bsome h
 refine wl_cq Tryz.call19 rfl rfl rfl (q_pf (k_state_Check (p0 := p0) p0N0 p0H0 x9) (fun w hI => ⟨(Rds.call p0S0 pNil rsub_nil) w hI, (Rds.call G0S pNil rsub_nil) w hI, (Rds.call G1S pNil rsub_nil) w hI⟩)) rfl ?_
 refine wP (v := .bool (v9 != (0 : Int))) rfl rfl (wP rfl rfl ?_)
 obtain ⟨v15, h, hg15⟩ := bsome h
 refine wl_split (t := 11) rfl (fun hc => ?_) (fun hc => ?_)
 ·replace h := ct hc h
  iterate 3 refine wl_skip rfl rfl ?_
  simp only [Option.some.injEq, Prod.mk.injEq] at h
  obtain rfl := h
  have h := hg15; clear hg15
  refine wP (v := .bool true) rfl rfl (wP rfl rfl ?_)
  obtain ⟨v19, h, hg19⟩ := bsome h
  replace h := ct rfl h
  iterate 2 refine wl_skip rfl rfl ?_
  simp only [Option.some.injEq, Prod.mk.injEq] at h
  obtain rfl := h
  have h := hg19; clear hg19
  refine wP (v := .bool true) rfl rfl (wP rfl rfl ?_)
  obtain ⟨v23, h, hg23⟩ := bsome h
  replace h := ct rfl h
  iterate 2 refine wl_skip rfl rfl ?_
  simp only [Option.some.injEq, Prod.mk.injEq] at h
  obtain rfl := h
  have h := hg23; clear hg23
  refine wP (v := .bool true) rfl rfl (wP rfl rfl ?_)
  obtain ⟨v27, h, hg27⟩ := bsome h
  replace h := ct rfl h
  iterate 2 refine wl_skip rfl rfl ?_
  simp only [Option.some.injEq, Prod.mk.injEq] at h
  obtain rfl := h
  have h := hg27; clear hg27
  refine wP (v := .bool true) rfl rfl (wNT ?_)
  replace h := ct rfl h
  refine wc_cond_true rfl ?_
  refine wSR (wP rfl rfl (wNT (wc_ret (wx_then_ret ?_))))
  simp only [Option.some.injEq] at h
  exact wx_spD tt_ok (.inl rfl) Tryz.results5 (Res.tmp rfl Res.nil) ⟨rfl, rfl⟩ (fun F => by simp) (pSub pNil)
 replace h := cf hc h
 refine wl_run rfl (wP (v := .pointer (some ⟨b3, 0, none⟩)) rfl rfl (wl_run rfl (wl_val (v := .int .u64 p0.Frame) (val_load tt_ok rfl mH rfl) rfl (wl_run rfl (wP (v := .bool (decide ((9223372036854775808 : Int) < p0.Frame))) rfl rfl ?_)))))
 simp only [Option.some.injEq, Prod.mk.injEq] at h
 obtain rfl := h
 have h := hg15; clear hg15
 refine wP (v := .bool (decide ((9223372036854775808 : Int) < p0.Frame))) rfl rfl (wP rfl rfl ?_)
 obtain ⟨v19, h, hg19⟩ := bsome h
 refine wl_split (t := 16) rfl (fun hc => ?_) (fun hc => ?_)
 ·replace h := ct hc h
  iterate 2 refine wl_skip rfl rfl ?_
  simp only [Option.some.injEq, Prod.mk.injEq] at h
  obtain rfl := h
  have h := hg19; clear hg19
  refine wP (v := .bool true) rfl rfl (wP rfl rfl ?_)
  obtain ⟨v23, h, hg23⟩ := bsome h
  replace h := ct rfl h
  iterate 2 refine wl_skip rfl rfl ?_
  simp only [Option.some.injEq, Prod.mk.injEq] at h
  obtain rfl := h
  have h := hg23; clear hg23
  refine wP (v := .bool true) rfl rfl (wP rfl rfl ?_)
  obtain ⟨v27, h, hg27⟩ := bsome h
  replace h := ct rfl h
  iterate 2 refine wl_skip rfl rfl ?_
  simp only [Option.some.injEq, Prod.mk.injEq] at h
  obtain rfl := h
  have h := hg27; clear hg27
  refine wP (v := .bool true) rfl rfl (wNT ?_)
  replace h := ct rfl h
  refine wc_cond_true rfl ?_
  refine wSR (wP rfl rfl (wNT (wc_ret (wx_then_ret ?_))))
  simp only [Option.some.injEq] at h
  exact wx_spD tt_ok (.inl rfl) Tryz.results5 (Res.tmp rfl Res.nil) ⟨rfl, rfl⟩ (fun F => by simp) (pSub pNil)
 replace h := cf hc h
 refine wl_run rfl (wP rfl rfl (wl_run rfl (wP (v := .bool (decide ((1 : Int) < p1))) rfl rfl ?_)))
 simp only [Option.some.injEq, Prod.mk.injEq] at h
 obtain rfl := h
 have h := hg19; clear hg19
 refine wP (v := .bool (decide ((1 : Int) < p1))) rfl rfl (wP rfl rfl ?_)
 obtain ⟨v23, h, hg23⟩ := bsome h
 refine wl_split (t := 20) rfl (fun hc => ?_) (fun hc => ?_)
 ·replace h := ct hc h
  iterate 2 refine wl_skip rfl rfl ?_
  simp only [Option.some.injEq, Prod.mk.injEq] at h
  obtain rfl := h
  have h := hg23; clear hg23
  refine wP (v := .bool true) rfl rfl (wP rfl rfl ?_)
  obtain ⟨v27, h, hg27⟩ := bsome h
  replace h := ct rfl h
  iterate 2 refine wl_skip rfl rfl ?_
  simp only [Option.some.injEq, Prod.mk.injEq] at h
  obtain rfl := h
  have h := hg27; clear hg27
  refine wP (v := .bool true) rfl rfl (wNT ?_)
  replace h := ct rfl h
  refine wc_cond_true rfl ?_
  refine wSR (wP rfl rfl (wNT (wc_ret (wx_then_ret ?_))))
  simp only [Option.some.injEq] at h
  exact wx_spD tt_ok (.inl rfl) Tryz.results5 (Res.tmp rfl Res.nil) ⟨rfl, rfl⟩ (fun F => by simp) (pSub pNil)
 replace h := cf hc h
 refine wl_run rfl (wP rfl rfl (wl_run rfl (wP (v := .bool (decide (p2 < (1 : Int)))) rfl rfl ?_)))
 simp only [Option.some.injEq, Prod.mk.injEq] at h
 obtain rfl := h
 have h := hg23; clear hg23
 refine wP (v := .bool (decide (p2 < (1 : Int)))) rfl rfl (wP rfl rfl ?_)
 obtain ⟨v27, h, hg27⟩ := bsome h
 refine wl_split (t := 24) rfl (fun hc => ?_) (fun hc => ?_)
 ·replace h := ct hc h
  iterate 2 refine wl_skip rfl rfl ?_
  simp only [Option.some.injEq, Prod.mk.injEq] at h
  obtain rfl := h
  have h := hg27; clear hg27
  refine wP (v := .bool true) rfl rfl (wNT ?_)
  replace h := ct rfl h
  refine wc_cond_true rfl ?_
  refine wSR (wP rfl rfl (wNT (wc_ret (wx_then_ret ?_))))
  simp only [Option.some.injEq] at h
  exact wx_spD tt_ok (.inl rfl) Tryz.results5 (Res.tmp rfl Res.nil) ⟨rfl, rfl⟩ (fun F => by simp) (pSub pNil)
 replace h := cf hc h
 refine wl_run rfl (wP rfl rfl (wl_run rfl (wP (v := .bool (decide ((12 : Int) < p2))) rfl rfl ?_)))
 simp only [Option.some.injEq, Prod.mk.injEq] at h
 obtain rfl := h
 have h := hg27; clear hg27
 refine wP (v := .bool (decide ((12 : Int) < p2))) rfl rfl (wNT (wc_cond rfl (fun hc => ?_) (fun hc => ?_)))
 ·replace h := ct hc h
  refine wSR (wP rfl rfl (wNT (wc_ret (wx_then_ret ?_))))
  simp only [Option.some.injEq] at h
  exact wx_spD tt_ok (.inl rfl) Tryz.results5 (Res.tmp rfl Res.nil) ⟨rfl, rfl⟩ (fun F => by simp) (pSub pNil)
 replace h := cf hc h
 refine wc_skip (wx_then (wc_seq (wc_k2 (Ls := (⟨b3, (st19 p0 p0a0 p0n0 p0c0 []), 30, (0, 0)⟩ :: [])) [3, 6, 9, 10, 11, 12] [10, 11, 12] [0, 0, 0, 4, 0, 16, 60, 0, 128, 508, 1023, 2047, 4095] [0, 1, 2, 4, 5, 7, 8, 3, 6, 9, 10, 11, 12] (by kernel_rfl) (by kernel_rfl) (by kernel_rfl) ?_)))
 iterate 2 refine k_val rfl rfl rfl (pSub (pH pNil)) (sV rfl) rfl ?_
 refine k_val (v := agS p0 p0a0 p0n0 p0c0) rfl rfl rfl (pSub (pH pNil)) (val_load tt_ok rfl mH rfl) rfl (k_val (v := .pointer (some ⟨b3, 0, none⟩)) rfl rfl rfl (pSub (pH pNil)) (sV rfl) rfl ?_)
 refine k_val (v := .int .u64 p0.Frame) rfl rfl rfl (pSub (pH pNil)) (val_load tt_ok rfl mH rfl) rfl (k_val rfl rfl rfl (pSub (pH pNil)) (sV rfl) rfl (k_val (v := .int .i64 (IntKind.wrap .i64 (p2 + (2 : Int)))) rfl rfl rfl (pSub (pH pNil)) (sV rfl) rfl ?_))
 obtain ⟨v31, x31, h⟩ := bsome h
 refine k_cs rfl rfl rfl Tryz.call20 rfl rfl rfl (s_sp (k_state_Copy (p0 := p0) p0N0 p0H0 x31) pNil (Rds.call p0S0 pNil rsub_nil)) rfl (.inr (by rintro _ _ ⟨_, ⟨_, _, _, _, _, _, rfl, rfl⟩, rfl⟩; exact ⟨_, (pCons (sA hC) pNil)⟩)) ?_
 rintro _ _ ⟨_, ⟨v31a0, v31n0, v31c0, v31B0, v31N0, v31V0, rfl, rfl⟩, rfl⟩
 obtain ⟨v34, x34, h⟩ := bsome h
 refine k_cs rfl rfl rfl Tryz.call21 rfl rfl rfl (s_sp (k_queue_New x34) pNil (fun _ _ => trivial)) rfl (.inr (by rintro _ _ ⟨_, ⟨_, _, _, _, _, _, _, rfl, rfl⟩, rfl⟩; exact ⟨_, (pCons (sC (sAA hC)) pNil)⟩)) ?_
 rintro _ _ ⟨_, ⟨za, v34a0, v34n0, v34c0, v34B0, v34N0, v34V0, rfl, rfl⟩, rfl⟩
 obtain ⟨v37, x37, h⟩ := bsome h
 rcases v37 with _ | v37s
 ·replace h := poN h
  refine k_cs rfl rfl rfl Tryz.call22 rfl rfl rfl (s_sp (k_ring_New_none x37) pNil (fun _ _ => trivial)) rfl (.inr (by rintro _ _ ⟨_, ⟨rfl, rfl⟩, rfl⟩; exact ⟨_, (pCons (sC (sAA hC)) pNil)⟩)) ?_
  rintro _ _ ⟨_, ⟨rfl, rfl⟩, rfl⟩
  refine k_chg rfl rfl rfl (Chg.of_val (v := .agg #[.int .u8 p1, .int .i64 p2, .int .u64 v31.Frame, .int .u64 v31.Seed, .int .i32 v31.Players.1.X, .int .i32 v31.Players.1.Y, .int .i32 v31.Players.1.VX, .int .i32 v31.Players.1.VY, .int .u8 v31.Players.1.Health, .int .u8 v31.Players.1.Cool, .int .u8 v31.Players.1.Face, .int .i32 v31.Players.2.X, .int .i32 v31.Players.2.Y, .int .i32 v31.Players.2.VX, .int .i32 v31.Players.2.VY, .int .u8 v31.Players.2.Health, .int .u8 v31.Players.2.Cool, .int .u8 v31.Players.2.Face, .slice v31a0 v31n0 v31c0, .int .u16 v31.Score.1, .int .u16 v31.Score.2, .slice none 0 0, .pointer (some ⟨za, 0, none⟩), .pointer none]) (sV rfl)) rfl (.inl rfl) ?_
  rintro _ _ ⟨rfl, rfl⟩
  refine k_chg rfl rfl rfl (chg_box rfl rfl) rfl (.inl rfl) ?_
  rintro _ _ ⟨b39, rfl, rfl⟩
  refine k_chg rfl rfl rfl (Chg.of_val (sV rfl)) rfl (.inl rfl) ?_
  rintro _ _ ⟨rfl, rfl⟩
  refine k_end (by kernel_rfl) ?_
  refine wx_then (wc_seq (wc_quiet (by kernel_rfl) (by kernel_rfl) ?_))
  iterate 2 refine qP rfl rfl ?_
  refine qP (v := .pointer (some ⟨b39, 23, none⟩)) rfl rfl (wq_val (v := .pointer none) (val_load tt_ok rfl mH rfl) rfl (wq_val (v := agS p0 p0a0 p0n0 p0c0) (val_load tt_ok rfl (mTT (mR (mR mH))) rfl) rfl ?_))
  obtain ⟨v45, x45, h⟩ := bsome h
  refine wq_cq Tryz.call23 rfl rfl rfl (q_pf (k_ring_Ring_Put_nil0 (p1 := p0) p0N0 p0H0 x45) (fun w hI => ⟨(Rds.call p0S0 pNil rsub_nil) w hI, (Rds.call G0S pNil rsub_nil) w hI, (Rds.call G1S pNil rsub_nil) w hI⟩)) rfl ?_
  refine wq_nil (wx_then (wSR ?_))
  iterate 2 refine wP rfl rfl ?_
  refine wNT (wc_ret ?_)
  cases h
 replace h := poS h
 refine k_cs rfl rfl rfl Tryz.call22 rfl rfl rfl (s_sp (k_ring_New x37) pNil (fun _ _ => trivial)) rfl (.inr (by rintro _ _ ⟨_, ⟨_, _, _, _, _, rfl, rfl⟩, rfl⟩; exact ⟨_, (pCons (sCA (sC (sAA hC))) pNil)⟩)) ?_
 rintro _ _ ⟨_, ⟨zb, v37sg0, v37sP0, v37sG0, v37sA0, rfl, rfl⟩, rfl⟩
 refine k_chg rfl rfl rfl (Chg.of_val (v := .agg #[.int .u8 p1, .int .i64 p2, .int .u64 v31.Frame, .int .u64 v31.Seed, .int .i32 v31.Players.1.X, .int .i32 v31.Players.1.Y, .int .i32 v31.Players.1.VX, .int .i32 v31.Players.1.VY, .int .u8 v31.Players.1.Health, .int .u8 v31.Players.1.Cool, .int .u8 v31.Players.1.Face, .int .i32 v31.Players.2.X, .int .i32 v31.Players.2.Y, .int .i32 v31.Players.2.VX, .int .i32 v31.Players.2.VY, .int .u8 v31.Players.2.Health, .int .u8 v31.Players.2.Cool, .int .u8 v31.Players.2.Face, .slice v31a0 v31n0 v31c0, .int .u16 v31.Score.1, .int .u16 v31.Score.2, .slice none 0 0, .pointer (some ⟨za, 0, none⟩), .pointer (some ⟨zb, 0, none⟩)]) (sV rfl)) rfl (.inl rfl) ?_
 rintro _ _ ⟨rfl, rfl⟩
 refine k_chg rfl rfl rfl (chg_box rfl rfl) rfl (.inl rfl) ?_
 rintro _ _ ⟨b39, rfl, rfl⟩
 refine k_chg rfl rfl rfl (Chg.of_val (sV rfl)) rfl (.inl rfl) ?_
 rintro _ _ ⟨rfl, rfl⟩
 refine k_end (by kernel_rfl) ?_
 refine wx_then (wc_seq (wc_k2 (Ls := (⟨b39, (.int .u8 p1 :: .int .i64 p2 :: st19 v31 v31a0 v31n0 v31c0 [.slice none 0 0, .pointer (some ⟨za, 0, none⟩), .pointer (some ⟨zb, 0, none⟩)]), 64, (0, 0)⟩ :: (⟨zb, ([.int .i64 v37s.size] ++ flat cg_T_ring_place v37sg0), 103, (0, 0)⟩ :: (v37sP0 ++ (⟨za, [.int .u64 v34.first_, .slice v34a0 v34n0 v34c0, .int .u8 v34.last], 98, (0, 0)⟩ :: (v34B0 ++ (v31B0 ++ (⟨b3, (st19 p0 p0a0 p0n0 p0c0 []), 30, (0, 0)⟩ :: [])))))))) [5] [5] [0, 1, 3, 7, 0, 31] [0, 1, 2, 3, 4, 5] (by kernel_rfl) (by kernel_rfl) (by kernel_rfl) ?_))
 iterate 2 refine k_val rfl rfl rfl (pSub (pHH (pA (pH (pAA (pH pNil)))))) (sV rfl) rfl ?_
 refine k_val (v := .pointer (some ⟨b39, 23, none⟩)) rfl rfl rfl (pSub (pHH (pA (pH (pAA (pH pNil)))))) (sV rfl) rfl (k_val (v := .pointer (some ⟨zb, 0, none⟩)) rfl rfl rfl (pSub (pHH (pA (pH (pAA (pH pNil)))))) (val_load tt_ok rfl mH rfl) rfl (k_val (v := agS p0 p0a0 p0n0 p0c0) rfl rfl rfl (pSub (pHH (pA (pH (pAA (pH pNil)))))) (val_load tt_ok rfl (mTT (mR (mT (mR (mR mH))))) rfl) rfl ?_))
 replace h := bsome h; obtain ⟨⟨zc, v45⟩, x45, h⟩ := h; try dsimp only at h
 refine k_cs rfl rfl rfl Tryz.call23 rfl rfl rfl (s_sp (k_ring_Ring_Put (p0 := v37s) (p1 := p0) v37sG0 v37sA0 p0N0 p0H0 p0Z0 x45) (pS (qS pNil)) (fun w hI => ⟨(Rds.call p0S0 (pS (qS pNil)) rsub_nil) w hI, (Rds.call G0S (pS (qS pNil)) rsub_nil) w hI, (Rds.call G1S (pS (qS pNil)) rsub_nil) w hI⟩)) rfl (.inl rfl) ?_
 rintro _ _ ⟨_, ⟨zg, zf, ze, zd, rfl, rfl⟩, rfl⟩
 refine k_end (by kernel_rfl) ?_
 refine wx_then (wSR ?_)
 iterate 2 refine wP rfl rfl ?_
 refine wNT (wc_ret ?_)
 first | (cases h; done) | simp at h

theorem k_rollback_Engine_is_nil0 {F : Nat} {r0 : Bool} (h : m_rollback_Engine_is_nil0 F = some r0) :
    Pf Tryz.prog 26 [.pointer none] (fun w => True) (.bool r0) := by
 unfold m_rollback_Engine_is_nil0 at h
 refine pf_of_wc Tryz.func26 rfl Tryz.ntmps26 rfl rfl (fun w0 hR => ?_)
 refine wSR (wP rfl rfl (wNT (wSR (wP rfl rfl (wP (v := .bool false) rfl rfl (wP rfl rfl ?_))))))
 iterate 5 refine wl_skip rfl rfl ?_
 refine wP (v := .bool false) rfl rfl (wP rfl rfl (wNT (wc_ret ?_)))
 obtain rfl := sI h
 exact wx_pf tt_ok (.inl rfl) Tryz.results26 (Res.tmp rfl Res.nil) rfl

theorem k_input_Legal {F : Nat} {p0 : Int} {r0 : Bool} (h : m_input_Legal F p0 = some r0) :
    Pf Tryz.prog 27 [.int .u8 p0] (fun w => True) (.bool r0) := by
 unfold m_input_Legal at h
 refine pf_of_wc Tryz.func27 rfl Tryz.ntmps27 rfl rfl (fun w0 hR => ?_)
 refine wSR (wP rfl rfl (wNT (wSR (wP rfl rfl (wP (v := .bool (decide (p0 < (64 : Int)))) rfl rfl (wP rfl rfl (wNT (wc_ret ?_))))))))
 obtain rfl := sI h
 exact wx_pf tt_ok (.inl rfl) Tryz.results27 (Res.tmp rfl Res.nil) rfl

theorem k_rollback_Engine_Local_nil0 {F : Nat} {p1 : Int} {r0 : Int} (h : m_rollback_Engine_Local_nil0 F p1 = some r0) :
    Pf Tryz.prog 8 [.pointer none, .int .u8 p1] (fun w => True) (.int .i64 r0) := by
 unfold m_rollback_Engine_Local_nil0 at h
 refine pf_of_wc Tryz.func8 rfl Tryz.ntmps8 rfl rfl (fun w0 hR => ?_)
 refine wSR (wP rfl rfl (wNT (wc_seq (wc_block (wSR (wP rfl rfl ?_))))))
 obtain ⟨v7, x7, h⟩ := bsome h
 refine wl_cq Tryz.call26 rfl rfl rfl (q_pf (k_rollback_Engine_is_nil0 x7) (fun _ _ => trivial)) rfl ?_
 refine wP (v := .bool (!v7)) rfl rfl (wP rfl rfl (wNT (wc_cond rfl (fun hc => ?_) (fun hc => ?_))))
 ·replace h := ct hc h
  refine wSR (wP rfl rfl (wNT (wc_ret (wx_block_ret (wx_then_ret ?_)))))
  obtain rfl := sI h
  exact wx_pf tt_ok (.inl rfl) Tryz.results8 (Res.tmp rfl Res.nil) rfl
 replace h := cf hc h
 refine wSR (wP rfl rfl ?_)
 obtain ⟨v11, x11, h⟩ := bsome h
 refine wl_cq Tryz.call27 rfl rfl rfl (q_pf (k_input_Legal x11) (fun _ _ => trivial)) rfl ?_
 refine wP (v := .bool (!v11)) rfl rfl (wP rfl rfl (wNT (wc_cond rfl (fun hc => ?_) (fun hc => ?_))))
 ·replace h := ct hc h
  refine wSR (wP rfl rfl (wNT (wc_ret (wx_block_ret (wx_then_ret ?_)))))
  obtain rfl := sI h
  exact wx_pf tt_ok (.inl rfl) Tryz.results8 (Res.tmp rfl Res.nil) rfl
 replace h := cf hc h
 refine wc_seq (wc_quiet (by kernel_rfl) (by kernel_rfl) (qP rfl rfl ?_))
 cases h

theorem k_ring_Ring_Newest {F : Nat} {p0 : T_ring_Ring} {p0b p0t : Nat} {p0g0 : List (T_ring_place × G)} {p0P0 : List Blk} {r0 : T_api_State} {r1 : Bool} (p0G0 : p0.places.1 = unG p0g0) (p0A0 : AllP sh_T_ring_place c_T_api_Shot p0P0 p0g0) (h : m_ring_Ring_Newest F p0 = some (r0, r1)) :
    SpD Tryz.prog 48 [.pointer (some ⟨p0b, 0, none⟩)] (⟨p0b, ([.int .i64 p0.size] ++ flat cg_T_ring_place p0g0), p0t, (0, 0)⟩ :: (p0P0 ++ [])) (fun w => True) (fun v D => ∃ (r0a0 : Option Addr) (r0n0 r0c0 : Nat) (r0B0 : List Blk), r0n0 = r0.Shots.length ∧ Own 93 6 r0a0 r0n0 r0c0 (flat c_T_api_Shot r0.Shots) r0B0 ∧ v = .tuple #[agS r0 r0a0 r0n0 r0c0, .bool r1] ∧ D = fun F => (⟨p0b, ([.int .i64 p0.size] ++ flat cg_T_ring_place p0g0), p0t, (0, 0)⟩ :: (p0P0 ++ (r0B0 ++ F)))) := by
 unfold m_ring_Ring_Newest at h
 refine sp_of_wc Tryz.func48 rfl Tryz.ntmps48 rfl rfl (fun w0 hR => ?_)
 refine wSR (wl_alloc tt_ok rfl rfl (fun b2 => (wP rfl rfl (wNT (wSR (wl_alloc tt_ok rfl rfl (fun b4 => (wNT (wc_seq (wSR (wP rfl rfl ?_)))))))))))
 obtain ⟨v8, x8, h⟩ := bsome h
 refine wl_cq Tryz.call56 rfl rfl rfl (q_rd (k_ring_Ring_is (p0 := p0) p0G0 p0A0 x8) (pCons (sCC hC) (pApp (sCC hA') pNil)) (fun _ _ => trivial)) rfl ?_
 refine wNT ?_
 replace h := bsome h; obtain ⟨⟨zu, zv, zc, zb, zl, zw⟩, h, hj8⟩ := h; try dsimp only at hj8
 refine wc_join2 (fun E L => ∃ (zi : Option Addr) (zk zj : Nat), zk = zb.length ∧ zk ≤ zj ∧ Rds w0 (ids (⟨p0b, ([.int .i64 p0.size] ++ flat cg_T_ring_place p0g0), p0t, (0, 0)⟩ :: (p0P0 ++ []))) p0P0 zi (flat c_T_api_Shot zb) ∧ (zi = none → zj = 0) ∧ E = [(2, .pointer (some ⟨b2, 0, none⟩)), (3, .bool false), (4, .pointer (some ⟨b4, 0, none⟩))] ∧ L = (⟨b2, [.int .u64 (0 : Int), .int .u64 (0 : Int), .int .i32 (0 : Int), .int .i32 (0 : Int), .int .i32 (0 : Int), .int .i32 (0 : Int), .int .u8 (0 : Int), .int .u8 (0 : Int), .int .u8 (0 : Int), .int .i32 (0 : Int), .int .i32 (0 : Int), .int .i32 (0 : Int), .int .i32 (0 : Int), .int .u8 (0 : Int), .int .u8 (0 : Int), .int .u8 (0 : Int), .slice none 0 0, .int .u16 (0 : Int), .int .u16 (0 : Int)], 30, (0, 0)⟩ :: (⟨b4, (.int .u64 zu :: .int .u64 zv :: pl14 zc [.slice zi zk zj, .int .u16 zl.1, .int .u16 zl.2, .bool zw]), 100, (0, 0)⟩ :: (⟨p0b, ([.int .i64 p0.size] ++ flat cg_T_ring_place p0g0), p0t, (0, 0)⟩ :: (p0P0 ++ []))))) ?_ ?_
 ·refine wc_cond rfl (fun hc => ?_) (fun hc => ?_)
  ·replace h := ct hc h
   refine wc_seq (wc_quiet (by kernel_rfl) (by kernel_rfl) ?_)
   iterate 2 refine qP rfl rfl ?_
   refine qP (v := .pointer (some ⟨p0b, 1, none⟩)) rfl rfl ?_
   iterate 2 refine qP rfl rfl ?_
   refine qP (v := .pointer (some ⟨p0b, 0, none⟩)) rfl rfl (wq_val (v := .int .i64 p0.size) (val_load tt_ok rfl (mTT mH) rfl) rfl ?_)
   obtain ⟨v16, x16, h⟩ := bsome h
   obtain ⟨g16, y16, hG16⟩ := cut_g p0G0 x16
   refine wq_val (v := .slice (some ⟨p0b, 1, none⟩) ((p0.size).toNat) 14) (val_slh (j := (p0.size).toNat) tt_ok rfl rfl rfl rfl (cut_v x16) (cut_len p0G0 y16 p0.places.2) rfl) rfl ?_
   refine wq_val (v := .int .i64 (v16.length : Int)) (val_len tt_ok rfl rfl (cut_n p0.places.1 x16)) rfl ?_
   refine qP rfl rfl (wq_nil (wx_then (wc_block ?_)))
   replace h := bsome h; obtain ⟨⟨zab, zac, zad, zae, zaf, zag⟩, h, hl12⟩ := h; try dsimp only at hl12
   refine wc_loop (fun m E L => ∃ (zh : Int) (zd : Int) (zo : Int) (zp : (T_api_Player × T_api_Player)) (za : (List T_api_Shot)) (zm : (Int × Int)) (zn : Bool) (ze : Option Addr) (zg zf : Nat), m_ring_Ring_Newest_L11 F v16 m zh zd zo zp za zm zn = some (zab, zac, zad, zae, zaf, zag) ∧ zg = za.length ∧ zg ≤ zf ∧ Rds w0 (ids (⟨p0b, ([.int .i64 p0.size] ++ flat cg_T_ring_place p0g0), p0t, (0, 0)⟩ :: (p0P0 ++ []))) p0P0 ze (flat c_T_api_Shot za) ∧ (ze = none → zf = 0) ∧ E = [(2, .pointer (some ⟨b2, 0, none⟩)), (3, .bool false), (4, .pointer (some ⟨b4, 0, none⟩)), (16, .slice (some ⟨p0b, 1, none⟩) ((p0.size).toNat) 14), (17, .int .i64 (v16.length : Int)), (18, .int .i64 zh)] ∧ L = (⟨b2, [.int .u64 (0 : Int), .int .u64 (0 : Int), .int .i32 (0 : Int), .int .i32 (0 : Int), .int .i32 (0 : Int), .int .i32 (0 : Int), .int .u8 (0 : Int), .int .u8 (0 : Int), .int .u8 (0 : Int), .int .i32 (0 : Int), .int .i32 (0 : Int), .int .i32 (0 : Int), .int .i32 (0 : Int), .int .u8 (0 : Int), .int .u8 (0 : Int), .int .u8 (0 : Int), .slice none 0 0, .int .u16 (0 : Int), .int .u16 (0 : Int)], 30, (0, 0)⟩ :: (⟨b4, (.int .u64 zd :: .int .u64 zo :: pl14 zp [.slice ze zg zf, .int .u16 zm.1, .int .u16 zm.2, .bool zn]), 100, (0, 0)⟩ :: (⟨p0b, ([.int .i64 p0.size] ++ flat cg_T_ring_place p0g0), p0t, (0, 0)⟩ :: (p0P0 ++ []))))) F ⟨(0 : Int), (0 : Int), (0 : Int), ((T_api_Player.mk (0 : Int) (0 : Int) (0 : Int) (0 : Int) (0 : Int) (0 : Int) (0 : Int)), (T_api_Player.mk (0 : Int) (0 : Int) (0 : Int) (0 : Int) (0 : Int) (0 : Int) (0 : Int))), ([] : List T_api_Shot), ((0 : Int), (0 : Int)), false, none, 0, 0, h, rfl, (Nat.le_refl _), Rds.nil, (fun _ => rfl), rfl, rfl⟩ (agree_cons rfl (agree_cons rfl (agree_cons rfl (agree_cons rfl (agree_cons rfl (agree_cons rfl agree_nil)))))) (pSub (pS (pHH (pA pNil)))) ?_
   clear h
   rintro m12 _ _ ⟨zh, zd, zo, zp, za, zm, zn, ze, zg, zf, h, zr, zq, zs, zt, rfl, rfl⟩
   rcases m12 with _ | m12
   ·rw [m_ring_Ring_Newest_L11.eq_1] at h; cases h
   rw [m_ring_Ring_Newest_L11.eq_2] at h
   refine wSR (wP (v := .bool (decide (zh < (v16.length : Int)))) rfl rfl (wNT (wc_seq (wc_cond rfl (fun hc => ?_) (fun hc => ?_)))))
   ·replace h := ct hc h
    refine wc_skip (wx_then (wc_seq (wc_block (wSR ?_))))
    obtain ⟨v20, x20, h⟩ := bsome h
    obtain ⟨G20, y20⟩ := getI_g hG16 x20
    refine wl_val (v := .pointer (some ((adOf (some ⟨p0b, 1, none⟩)).add (zh.toNat * 20 + 0)))) (val_ix (enc := cg_T_ring_place) tt_ok rfl rfl rfl rfl (len_g (cut_n p0.places.1 x16) hG16) (rds_arr (t := p0t) (fz := (0, 0)) (pre := [.int .i64 p0.size]) (post := []) c_np rfl y16) cg_T_ring_place_len rfl y20) rfl ?_
    refine wl_val (v := .agg #[.int .u64 v20.s.Frame, .int .u64 v20.s.Seed, .int .i32 v20.s.Players.1.X, .int .i32 v20.s.Players.1.Y, .int .i32 v20.s.Players.1.VX, .int .i32 v20.s.Players.1.VY, .int .u8 v20.s.Players.1.Health, .int .u8 v20.s.Players.1.Cool, .int .u8 v20.s.Players.1.Face, .int .i32 v20.s.Players.2.X, .int .i32 v20.s.Players.2.Y, .int .i32 v20.s.Players.2.VX, .int .i32 v20.s.Players.2.VY, .int .u8 v20.s.Players.2.Health, .int .u8 v20.s.Players.2.Cool, .int .u8 v20.s.Players.2.Face, .slice G20.1 G20.2.1 G20.2.2, .int .u16 v20.s.Score.1, .int .u16 v20.s.Score.2, .bool v20.is_]) (val_le (enc := cg_T_ring_place) (xs := g16) tt_ok rfl (rds_arr (t := p0t) (fz := (0, 0)) (pre := [.int .i64 p0.size]) (post := []) c_np rfl y16) ⟨_, (sCC hC)⟩ cg_T_ring_place_len y20 rfl) rfl ?_
    refine wl_alloc tt_ok rfl rfl (fun b6 => ?_)
    apply wl_store tt_ok; rfl; exact Upd.here; rfl; rfl; rfl; rfl; rfl; rfl
    refine wNT (wSR (wP (v := .pointer (some ⟨b6, 19, none⟩)) rfl rfl (wl_val (v := .bool v20.is_) (val_load tt_ok rfl mH rfl) rfl (wP rfl rfl ?_))))
    obtain ⟨v37, h, hg37⟩ := bsome h
    refine wl_split (t := 24) rfl (fun hc => ?_) (fun hc => ?_)
    ·replace h := ct hc h
     refine wl_run rfl (wP (v := .pointer (some ⟨b4, 19, none⟩)) rfl rfl (wl_run rfl (wl_val (v := .bool zn) (val_load tt_ok rfl (mTT mH) rfl) rfl (wl_run rfl (wP (v := .bool (!zn)) rfl rfl (wl_run rfl (wP rfl rfl ?_)))))))
     obtain ⟨v36, h, hg36⟩ := bsome h
     refine wl_split (t := 28) rfl (fun hc => ?_) (fun hc => ?_)
     ·replace h := ct hc h
      iterate 7 refine wl_skip rfl rfl ?_
      obtain rfl := sI h
      have h := hg36; clear hg36
      refine wl_run rfl (wP (v := .bool true) rfl rfl ?_)
      obtain rfl := sI h
      have h := hg37; clear hg37
      refine wP (v := .bool true) rfl rfl (wNT ?_)
      replace h := ct rfl h
      refine wc_cond_true rfl ?_
      refine wc_region (wl_val (v := .agg #[.int .u64 v20.s.Frame, .int .u64 v20.s.Seed, .int .i32 v20.s.Players.1.X, .int .i32 v20.s.Players.1.Y, .int .i32 v20.s.Players.1.VX, .int .i32 v20.s.Players.1.VY, .int .u8 v20.s.Players.1.Health, .int .u8 v20.s.Players.1.Cool, .int .u8 v20.s.Players.1.Face, .int .i32 v20.s.Players.2.X, .int .i32 v20.s.Players.2.Y, .int .i32 v20.s.Players.2.VX, .int .i32 v20.s.Players.2.VY, .int .u8 v20.s.Players.2.Health, .int .u8 v20.s.Players.2.Cool, .int .u8 v20.s.Players.2.Face, .slice G20.1 G20.2.1 G20.2.2, .int .u16 v20.s.Score.1, .int .u16 v20.s.Score.2, .bool v20.is_]) (val_load tt_ok rfl mH rfl) rfl ?_)
      apply wl_store tt_ok; rfl; exact (Upd.there (Upd.there Upd.here)); rfl; rfl; rfl; rfl; rfl; rfl
      refine wl_nil (wx_block (wx_then (wc_region (wP (v := .int .i64 (IntKind.wrap .i64 (zh + (1 : Int)))) rfl rfl (wP rfl rfl (wl_nil ?_))))))
      exact wx_round m12 (Nat.lt_succ_self m12) ⟨(IntKind.wrap .i64 (zh + (1 : Int))), v20.s.Frame, v20.s.Seed, v20.s.Players, v20.s.Shots, v20.s.Score, v20.is_, G20.1, G20.2.1, G20.2.2, h, (allrd_get (allrd_cut (p0A0 w0 (ids (⟨p0b, ([.int .i64 p0.size] ++ flat cg_T_ring_place p0g0), p0t, (0, 0)⟩ :: (p0P0 ++ [])))) y16) y20).1, (allrd_get (allrd_cut (p0A0 w0 (ids (⟨p0b, ([.int .i64 p0.size] ++ flat cg_T_ring_place p0g0), p0t, (0, 0)⟩ :: (p0P0 ++ [])))) y16) y20).2.1, (allrd_get (allrd_cut (p0A0 w0 (ids (⟨p0b, ([.int .i64 p0.size] ++ flat cg_T_ring_place p0g0), p0t, (0, 0)⟩ :: (p0P0 ++ [])))) y16) y20).2.2.1, (allrd_get (allrd_cut (p0A0 w0 (ids (⟨p0b, ([.int .i64 p0.size] ++ flat cg_T_ring_place p0g0), p0t, (0, 0)⟩ :: (p0P0 ++ [])))) y16) y20).2.2.2, rfl, rfl⟩ (agree_cons rfl (agree_cons rfl (agree_cons rfl (agree_cons rfl (agree_cons rfl (agree_cons rfl agree_nil)))))) (pSub (pS (pS (pS (qS pNil)))))
     replace h := cf hc h
     refine wl_run rfl (wP (v := .pointer (some ⟨b6, 0, none⟩)) rfl rfl (wl_run rfl (wP (v := .pointer (some ⟨b6, 0, none⟩)) rfl rfl (wl_run rfl (wl_val (v := .int .u64 v20.s.Frame) (val_load tt_ok rfl mH rfl) rfl (wl_run rfl (wP (v := .pointer (some ⟨b4, 0, none⟩)) rfl rfl (wl_run rfl (wP (v := .pointer (some ⟨b4, 0, none⟩)) rfl rfl (wl_run rfl (wl_val (v := .int .u64 zd) (val_load tt_ok rfl (mTT mH) rfl) rfl (wl_run rfl (wP (v := .bool (decide (zd < v20.s.Frame))) rfl rfl ?_)))))))))))))
     obtain rfl := sI h
     have h := hg36; clear hg36
     refine wl_run rfl (wP (v := .bool (decide (zd < v20.s.Frame))) rfl rfl ?_)
     obtain rfl := sI h
     have h := hg37; clear hg37
     refine wP (v := .bool (decide (zd < v20.s.Frame))) rfl rfl (wNT (wc_cond rfl (fun hc => ?_) (fun hc => ?_)))
     ·replace h := ct hc h
      refine wc_region (wl_val (v := .agg #[.int .u64 v20.s.Frame, .int .u64 v20.s.Seed, .int .i32 v20.s.Players.1.X, .int .i32 v20.s.Players.1.Y, .int .i32 v20.s.Players.1.VX, .int .i32 v20.s.Players.1.VY, .int .u8 v20.s.Players.1.Health, .int .u8 v20.s.Players.1.Cool, .int .u8 v20.s.Players.1.Face, .int .i32 v20.s.Players.2.X, .int .i32 v20.s.Players.2.Y, .int .i32 v20.s.Players.2.VX, .int .i32 v20.s.Players.2.VY, .int .u8 v20.s.Players.2.Health, .int .u8 v20.s.Players.2.Cool, .int .u8 v20.s.Players.2.Face, .slice G20.1 G20.2.1 G20.2.2, .int .u16 v20.s.Score.1, .int .u16 v20.s.Score.2, .bool v20.is_]) (val_load tt_ok rfl mH rfl) rfl ?_)
      apply wl_store tt_ok; rfl; exact (Upd.there (Upd.there Upd.here)); rfl; rfl; rfl; rfl; rfl; rfl
      refine wl_nil (wx_block (wx_then (wc_region (wP (v := .int .i64 (IntKind.wrap .i64 (zh + (1 : Int)))) rfl rfl (wP rfl rfl (wl_nil ?_))))))
      exact wx_round m12 (Nat.lt_succ_self m12) ⟨(IntKind.wrap .i64 (zh + (1 : Int))), v20.s.Frame, v20.s.Seed, v20.s.Players, v20.s.Shots, v20.s.Score, v20.is_, G20.1, G20.2.1, G20.2.2, h, (allrd_get (allrd_cut (p0A0 w0 (ids (⟨p0b, ([.int .i64 p0.size] ++ flat cg_T_ring_place p0g0), p0t, (0, 0)⟩ :: (p0P0 ++ [])))) y16) y20).1, (allrd_get (allrd_cut (p0A0 w0 (ids (⟨p0b, ([.int .i64 p0.size] ++ flat cg_T_ring_place p0g0), p0t, (0, 0)⟩ :: (p0P0 ++ [])))) y16) y20).2.1, (allrd_get (allrd_cut (p0A0 w0 (ids (⟨p0b, ([.int .i64 p0.size] ++ flat cg_T_ring_place p0g0), p0t, (0, 0)⟩ :: (p0P0 ++ [])))) y16) y20).2.2.1, (allrd_get (allrd_cut (p0A0 w0 (ids (⟨p0b, ([.int .i64 p0.size] ++ flat cg_T_ring_place p0g0), p0t, (0, 0)⟩ :: (p0P0 ++ [])))) y16) y20).2.2.2, rfl, rfl⟩ (agree_cons rfl (agree_cons rfl (agree_cons rfl (agree_cons rfl (agree_cons rfl (agree_cons rfl agree_nil)))))) (pSub (pS (pS (pS (qS pNil)))))
     replace h := cf hc h
     refine wc_skip (wx_block (wx_then (wc_region (wP (v := .int .i64 (IntKind.wrap .i64 (zh + (1 : Int)))) rfl rfl (wP rfl rfl (wl_nil ?_))))))
     exact wx_round m12 (Nat.lt_succ_self m12) ⟨(IntKind.wrap .i64 (zh + (1 : Int))), zd, zo, zp, za, zm, zn, ze, zg, zf, h, zr, zq, zs, zt, rfl, rfl⟩ (agree_cons rfl (agree_cons rfl (agree_cons rfl (agree_cons rfl (agree_cons rfl (agree_cons rfl agree_nil)))))) (pSub (pS (pS (pS (qS pNil)))))
    replace h := cf hc h
    iterate 12 refine wl_skip rfl rfl ?_
    obtain rfl := sI h
    have h := hg37; clear hg37
    refine wP (v := .bool false) rfl rfl (wNT ?_)
    replace h := cf rfl h
    refine wc_cond_false rfl ?_
    refine wc_skip (wx_block (wx_then (wc_region (wP (v := .int .i64 (IntKind.wrap .i64 (zh + (1 : Int)))) rfl rfl (wP rfl rfl (wl_nil ?_))))))
    exact wx_round m12 (Nat.lt_succ_self m12) ⟨(IntKind.wrap .i64 (zh + (1 : Int))), zd, zo, zp, za, zm, zn, ze, zg, zf, h, zr, zq, zs, zt, rfl, rfl⟩ (agree_cons rfl (agree_cons rfl (agree_cons rfl (agree_cons rfl (agree_cons rfl (agree_cons rfl agree_nil)))))) (pSub (pS (pS (pS (qS pNil)))))
   replace h := cf hc h
   refine wc_exit (wx_then_exit ?_)
   obtain ⟨rfl, rfl, rfl, rfl, rfl, rfl⟩ := pJ6 h
   have h := hl12; clear hl12; try dsimp only [orE_l, orE_r] at h
   refine wx_then_exit (wx_block_exit ?_)
   obtain ⟨rfl, rfl, rfl, rfl, rfl, rfl⟩ := pJ6 h
   exact wx_join ⟨ze, zg, zf, zr, zq, zs, zt, rfl, rfl⟩ (agree_cons rfl (agree_cons rfl (agree_cons rfl agree_nil))) (pSub (pHH (pH (pA pNil))))
  replace h := cf hc h
  refine wc_skip ?_
  obtain ⟨rfl, rfl, rfl, rfl, rfl, rfl⟩ := pJ6 h
  exact wx_join ⟨none, 0, 0, rfl, (Nat.le_refl _), Rds.nil, (fun _ => rfl), rfl, rfl⟩ (agree_cons rfl (agree_cons rfl (agree_cons rfl agree_nil))) (pSub (pS (pHH (pA pNil))))
 rintro _ _ ⟨zi, zk, zj, zy, zx, zz, zaa, rfl, rfl⟩
 have h := hj8; clear hj8
 refine wc_seq (wc_k2 (Ls := (⟨b4, (.int .u64 zu :: .int .u64 zv :: pl14 zc [.slice zi zk zj, .int .u16 zl.1, .int .u16 zl.2, .bool zw]), 100, (0, 0)⟩ :: (⟨p0b, ([.int .i64 p0.size] ++ flat cg_T_ring_place p0g0), p0t, (0, 0)⟩ :: (p0P0 ++ [])))) [2, 5, 6] [6] [0, 1, 3, 0, 8, 7, 63] [0, 1, 3, 4, 2, 5, 6] (by kernel_rfl) (by kernel_rfl) (by kernel_rfl) ?_)
 refine k_val (v := .pointer (some ⟨b4, 0, none⟩)) rfl rfl rfl (pSub (pS (pS (qS pNil)))) (sV rfl) rfl (k_val (v := .agg #[.int .u64 zu, .int .u64 zv, .int .i32 zc.1.X, .int .i32 zc.1.Y, .int .i32 zc.1.VX, .int .i32 zc.1.VY, .int .u8 zc.1.Health, .int .u8 zc.1.Cool, .int .u8 zc.1.Face, .int .i32 zc.2.X, .int .i32 zc.2.Y, .int .i32 zc.2.VX, .int .i32 zc.2.VY, .int .u8 zc.2.Health, .int .u8 zc.2.Cool, .int .u8 zc.2.Face, .slice zi zk zj, .int .u16 zl.1, .int .u16 zl.2]) rfl rfl rfl (pSub (pS (pS (qS pNil)))) (val_load tt_ok rfl mH rfl) rfl ?_)
 refine k_val (v := .pointer (some ⟨b4, 19, none⟩)) rfl rfl rfl (pSub (pS (pS (qS pNil)))) (sV rfl) rfl (k_val (v := .bool zw) rfl rfl rfl (pSub (pS (pS (qS pNil)))) (val_load tt_ok rfl mH rfl) rfl ?_)
 obtain ⟨v42, x42, h⟩ := bsome h
 refine k_cs rfl rfl rfl Tryz.call58 rfl rfl rfl (s_sp (k_ring_told (p0 := (T_api_State.mk zu zv zc zb zl)) zy zx zaa x42) pNil (Rds.call zz pNil ⟨_, (sCC (sC hA'))⟩)) rfl (.inr (by rintro _ _ ⟨_, ⟨_, _, _, _, _, _, rfl, rfl⟩, rfl⟩; exact ⟨_, (pCons (sAC hC) (pCons (sAC hC) (pApp (sAC hA') pNil)))⟩)) ?_
 rintro _ _ ⟨_, ⟨v42a0, v42n0, v42c0, v42B0, v42N0, v42V0, rfl, rfl⟩, rfl⟩
 refine k_chg0 rfl rfl rfl (chg_store tt_ok rfl (Upd.right Upd.here) rfl rfl rfl rfl rfl rfl) (.inr (by rintro _ _ rfl; exact ⟨_, (pCons (sAC hC) (pCons (sAC hC) (pApp (sAC hA') pNil)))⟩)) ?_
 rintro _ _ rfl
 refine k_chg rfl rfl rfl (Chg.of_val (sV rfl)) rfl (.inl rfl) ?_
 rintro _ _ ⟨rfl, rfl⟩
 refine k_end (by kernel_rfl) ?_
 refine wx_then (wc_ret ?_)
 obtain ⟨rfl, rfl⟩ := pJ2 h
 exact wx_spD tt_ok (.inl rfl) Tryz.results48 (Res.cell rfl (mR mH) rfl (Res.tmp rfl Res.nil)) ⟨v42a0, v42n0, v42c0, v42B0, v42N0, v42V0, rfl, rfl⟩ (fun F => by simp) (pSub (pCons (sA (sCC hC)) (pApp (sA (sCC hA')) (pA pNil))))

theorem k_rollback_Engine_Shown_nil0 {F : Nat} {r0 : T_api_State} (h : m_rollback_Engine_Shown_nil0 F = some r0) :
    SpD Tryz.prog 16 [.pointer none] [] (fun w => True) (fun v D => ∃ (r0a0 : Option Addr) (r0n0 r0c0 : Nat) (r0B0 : List Blk), r0n0 = r0.Shots.length ∧ Own 93 6 r0a0 r0n0 r0c0 (flat c_T_api_Shot r0.Shots) r0B0 ∧ v = agS r0 r0a0 r0n0 r0c0 ∧ D = fun F => (r0B0 ++ F)) := by
 unfold m_rollback_Engine_Shown_nil0 at h
 refine sp_of_wc Tryz.func16 rfl Tryz.ntmps16 rfl rfl (fun w0 hR => ?_)
 refine wSR (wl_alloc tt_ok rfl rfl (fun b2 => (wNT (wc_seq (wSR (wP rfl rfl ?_))))))
 obtain ⟨v7, x7, h⟩ := bsome h
 refine wl_cq Tryz.call26 rfl rfl rfl (q_pf (k_rollback_Engine_is_nil0 x7) (fun _ _ => trivial)) rfl ?_
 refine wP (v := .bool (!v7)) rfl rfl (wNT (wc_cond rfl (fun hc => ?_) (fun hc => ?_)))
 ·replace h := ct hc h
  refine wSR (wP (v := .agg #[.int .u64 (0 : Int), .int .u64 (0 : Int), .int .i32 (0 : Int), .int .i32 (0 : Int), .int .i32 (0 : Int), .int .i32 (0 : Int), .int .u8 (0 : Int), .int .u8 (0 : Int), .int .u8 (0 : Int), .int .i32 (0 : Int), .int .i32 (0 : Int), .int .i32 (0 : Int), .int .i32 (0 : Int), .int .u8 (0 : Int), .int .u8 (0 : Int), .int .u8 (0 : Int), .slice none 0 0, .int .u16 (0 : Int), .int .u16 (0 : Int)]) rfl rfl ?_)
  apply wl_store tt_ok; rfl; exact Upd.here; rfl; rfl; rfl; rfl; rfl; rfl
  refine wNT (wc_ret (wx_then_ret ?_))
  obtain rfl := sI h
  exact wx_spD tt_ok (.inl rfl) Tryz.results16 (Res.cell rfl mH rfl Res.nil) ⟨none, 0, 0, [], rfl, Own.zero, rfl, rfl⟩ (fun F => by simp) (pSub (pNo pNil))
 replace h := cf hc h
 refine wc_skip (wx_then (wSR (wP rfl rfl ?_)))
 cases h

theorem k_queue_Queue_Known {F : Nat} {p0 : T_queue_Queue} {p0b p0t : Nat} {p0a0 : Option Addr} {p0n0 p0c0 : Nat} {p0B0 : List Blk} {r0 : Int} (p0N0 : p0n0 = p0.l.length) (p0V0 : Own 40 1 p0a0 p0n0 p0c0 (flat (e1 .u8) p0.l) p0B0) (h : m_queue_Queue_Known F p0 = some r0) :
    Rd2 Tryz.prog 28 [.pointer (some ⟨p0b, 0, none⟩)] (⟨p0b, [.int .u64 p0.first_, .slice p0a0 p0n0 p0c0, .int .u8 p0.last], p0t, (0, 0)⟩ :: (p0B0 ++ [])) (fun w => True) (.int .u64 r0) := by
 unfold m_queue_Queue_Known at h
 refine sp_of_wc Tryz.func28 rfl Tryz.ntmps28 rfl rfl (fun w0 hR => ?_)
 refine wSR (wP rfl rfl (wNT (wc_seq (wSR (wP rfl rfl (wP (v := .bool false) rfl rfl (wNT (wc_cond_false rfl (wc_skip (wx_then (wc_seq (wc_quiet (by kernel_rfl) (by kernel_rfl) ?_))))))))))))
 iterate 2 refine qP rfl rfl ?_
 refine qP (v := .pointer (some ⟨p0b, 0, none⟩)) rfl rfl (wq_val (v := .int .u64 p0.first_) (val_load tt_ok rfl mH rfl) rfl ?_)
 iterate 2 refine qP rfl rfl ?_
 refine qP (v := .pointer (some ⟨p0b, 1, none⟩)) rfl rfl (wq_val (v := .slice p0a0 p0n0 p0c0) (val_load tt_ok rfl mH rfl) rfl (wq_val (v := .int .i64 (p0.l.length : Int)) (val_len tt_ok rfl rfl p0N0) rfl (qP (v := .int .u64 (IntKind.wrap .u64 (p0.l.length : Int))) rfl rfl (qP (v := .int .u64 (IntKind.wrap .u64 (p0.first_ + (IntKind.wrap .u64 (p0.l.length : Int))))) rfl rfl (qP rfl rfl (wq_nil (wx_then (wc_ret ?_))))))))
 obtain rfl := sI h
 exact wx_rd tt_ok (.inl rfl) Tryz.results28 (Res.tmp rfl Res.nil) (pSub (pH (pA pNil))) rfl

theorem k_queue_Queue_from {F : Nat} {p0 : T_queue_Queue} {p0b p0t : Nat} {p0a0 : Option Addr} {p0n0 p0c0 : Nat} {p0B0 : List Blk} {p1 : Int} {r0 : (List Int)} (p0N0 : p0n0 = p0.l.length) (p0V0 : Own 40 1 p0a0 p0n0 p0c0 (flat (e1 .u8) p0.l) p0B0) (h : m_queue_Queue_from F p0 p1 = some r0) :
    SpD Tryz.prog 83 [.pointer (some ⟨p0b, 0, none⟩), .int .u64 p1] (⟨p0b, [.int .u64 p0.first_, .slice p0a0 p0n0 p0c0, .int .u8 p0.last], p0t, (0, 0)⟩ :: (p0B0 ++ [])) (fun w => True) (fun v D => ∃ (r0a : Option Addr) (r0n r0c : Nat), r0n = r0.length ∧ r0n ≤ r0c ∧ (∀ w A B, Rds w A B p0a0 (flat (e1 .u8) p0.l) → Rds w A B r0a (flat (e1 .u8) r0)) ∧ v = .slice r0a r0n r0c ∧ D = fun F => (⟨p0b, [.int .u64 p0.first_, .slice p0a0 p0n0 p0c0, .int .u8 p0.last], p0t, (0, 0)⟩ :: (p0B0 ++ F))) := by
 unfold m_queue_Queue_from at h
 refine sp_of_wc Tryz.func83 rfl Tryz.ntmps83 rfl rfl (fun w0 hR => ?_)
 refine wSR (wP rfl rfl (wNT (wc_seq (wSR (wP rfl rfl (wP (v := .bool false) rfl rfl (wP rfl rfl (wl_run rfl (wP rfl rfl (wl_run rfl (wP rfl rfl (wl_run rfl (wP rfl rfl (wl_run rfl (wP (v := .pointer (some ⟨p0b, 0, none⟩)) rfl rfl (wl_run rfl (wl_val (v := .int .u64 p0.first_) (val_load tt_ok rfl mH rfl) rfl (wl_run rfl (wP (v := .bool (decide (p1 < p0.first_))) rfl rfl (wP (v := .bool (decide (p1 < p0.first_))) rfl rfl ?_))))))))))))))))))))
 refine wP rfl rfl ?_
 obtain ⟨v20, h, hg20⟩ := bsome h
 refine wl_split (t := 15) rfl (fun hc => ?_) (fun hc => ?_)
 ·replace h := ct hc h
  iterate 4 refine wl_skip rfl rfl ?_
  obtain rfl := sI h
  have h := hg20; clear hg20
  refine wP (v := .bool true) rfl rfl (wNT ?_)
  replace h := ct rfl h
  refine wc_cond_true rfl ?_
  refine wSR (wP rfl rfl (wNT (wc_ret (wx_then_ret ?_))))
  obtain rfl := sI h
  exact wx_spD tt_ok (.inl rfl) Tryz.results83 (Res.tmp rfl Res.nil) ⟨none, 0, 0, rfl, (Nat.le_refl _), (fun _ _ _ _ => Rds.nil), rfl, rfl⟩ (fun F => by simp) (pSub (pH (pA pNil)))
 replace h := cf hc h
 refine wl_run rfl (wP rfl rfl (wl_run rfl (wP rfl rfl ?_)))
 obtain ⟨v18, x18, h⟩ := bsome h
 refine wl_run rfl (wl_cq Tryz.call28 rfl rfl rfl (q_rd (k_queue_Queue_Known (p0 := p0) p0N0 p0V0 x18) (pH (pA pNil)) (fun _ _ => trivial)) rfl (wl_run rfl (wP (v := .bool (decide (v18 ≤ p1))) rfl rfl ?_)))
 obtain rfl := sI h
 have h := hg20; clear hg20
 refine wP (v := .bool (decide (v18 ≤ p1))) rfl rfl (wNT (wc_cond rfl (fun hc => ?_) (fun hc => ?_)))
 ·replace h := ct hc h
  refine wSR (wP rfl rfl (wNT (wc_ret (wx_then_ret ?_))))
  obtain rfl := sI h
  exact wx_spD tt_ok (.inl rfl) Tryz.results83 (Res.tmp rfl Res.nil) ⟨none, 0, 0, rfl, (Nat.le_refl _), (fun _ _ _ _ => Rds.nil), rfl, rfl⟩ (fun F => by simp) (pSub (pH (pA pNil)))
 replace h := cf hc h
 refine wc_skip (wx_then (wc_seq (wc_quiet (by kernel_rfl) (by kernel_rfl) ?_)))
 iterate 2 refine qP rfl rfl ?_
 refine qP (v := .pointer (some ⟨p0b, 1, none⟩)) rfl rfl (wq_val (v := .slice p0a0 p0n0 p0c0) (val_load tt_ok rfl mH rfl) rfl ?_)
 iterate 3 refine qP rfl rfl ?_
 refine qP (v := .pointer (some ⟨p0b, 0, none⟩)) rfl rfl (wq_val (v := .int .u64 p0.first_) (val_load tt_ok rfl mH rfl) rfl (qP (v := .int .u64 (IntKind.wrap .u64 (p1 - p0.first_))) rfl rfl ?_))
 iterate 2 refine qP rfl rfl ?_
 refine qP (v := .pointer (some ⟨p0b, 1, none⟩)) rfl rfl (wq_val (v := .slice p0a0 p0n0 p0c0) (val_load tt_ok rfl mH rfl) rfl (wq_val (v := .int .i64 (p0.l.length : Int)) (val_len tt_ok rfl rfl p0N0) rfl ?_))
 iterate 2 refine qP rfl rfl ?_
 refine qP (v := .pointer (some ⟨p0b, 1, none⟩)) rfl rfl (wq_val (v := .slice p0a0 p0n0 p0c0) (val_load tt_ok rfl mH rfl) rfl (wq_val (v := .int .i64 (p0.l.length : Int)) (val_len tt_ok rfl rfl p0N0) rfl ?_))
 obtain ⟨v41, x41, h⟩ := bsome h
 refine wq_cut (enc := (e1 .u8)) tt_ok rfl rfl rfl p0N0 (vec_some p0V0) (e1_len _) (vec_cap p0V0) (.inr ⟨_, _, rfl, rfl⟩) (.inr ⟨_, _, rfl, rfl⟩) (.inr ⟨_, _, rfl, rfl⟩) (by intro h; first | rfl | cases h) (cut3b x41 p0N0 (vec_cap p0V0)) (cut3a x41) rfl ?_
 intro a41 n41_ c41 N41 H41 I41 O41 Z41
 refine qP rfl rfl (wq_nil (wx_then (wc_ret ?_)))
 obtain rfl := sI h
 exact wx_spD tt_ok (.inl rfl) Tryz.results83 (Res.tmp rfl Res.nil) ⟨a41, n41_, c41, N41, H41, (fun w A B h => I41 w A B ((fun _ _ _ h => h) w A B h)), rfl, rfl⟩ (fun F => by simp) (pSub (pH (pA pNil)))

theorem k_queue_Queue_At {F : Nat} {p0 : T_queue_Queue} {p0b p0t : Nat} {p0a0 : Option Addr} {p0n0 p0c0 : Nat} {p0B0 : List Blk} {p1 : Int} {r0 : Int} {r1 : Bool} (p0N0 : p0n0 = p0.l.length) (p0V0 : Own 40 1 p0a0 p0n0 p0c0 (flat (e1 .u8) p0.l) p0B0) (h : m_queue_Queue_At F p0 p1 = some (r0, r1)) :
    Rd2 Tryz.prog 61 [.pointer (some ⟨p0b, 0, none⟩), .int .u64 p1] (⟨p0b, [.int .u64 p0.first_, .slice p0a0 p0n0 p0c0, .int .u8 p0.last], p0t, (0, 0)⟩ :: (p0B0 ++ [])) (fun w => True) (.tuple #[.int .u8 r0, .bool r1]) := by
 unfold m_queue_Queue_At at h
 refine sp_of_wc Tryz.func61 rfl Tryz.ntmps61 rfl rfl (fun w0 hR => ?_)
 refine wSR ?_
 iterate 2 refine wP rfl rfl ?_
 refine wNT (wc_seq (wSR ?_))
 iterate 2 refine wP rfl rfl ?_
 obtain ⟨v9, x9, h⟩ := bsome h
 refine wl_cs Tryz.call83 rfl rfl rfl (s_sp (k_queue_Queue_from (p0 := p0) p0N0 p0V0 x9) (pH (pA pNil)) (fun _ _ => trivial)) rfl ?_
 rintro _ _ ⟨_, ⟨v9a, v9n, v9c, Nv9, Hv9, Iv9, rfl, rfl⟩, rfl⟩
 refine wP rfl rfl (wNT (wSR (wP rfl rfl (wl_val (v := .int .i64 (v9.length : Int)) (val_len tt_ok rfl rfl Nv9) rfl (wP (v := .bool (decide ((0 : Int) < (v9.length : Int)))) rfl rfl (wNT (wc_cond rfl (fun hc => ?_) (fun hc => ?_))))))))
 ·replace h := ct hc h
  refine wSR (wP rfl rfl ?_)
  obtain ⟨v14, x14, h⟩ := bsome h
  refine wl_val (v := .pointer (some ((adOf v9a).add ((0 : Int).toNat * 1 + 0)))) (val_ix (enc := (e1 .u8)) tt_ok rfl rfl rfl rfl Nv9 (Iv9 _ _ _ (Rds.of_vec p0V0)) (e1_len _) rfl x14) rfl ?_
  refine wl_val (v := .int .u8 v14) (val_le (enc := (e1 .u8)) (xs := v9) tt_ok rfl (Iv9 _ _ _ (Rds.of_vec p0V0)) ⟨_, (sC hA')⟩ (e1_len _) x14 rfl) rfl ?_
  iterate 2 refine wP rfl rfl ?_
  refine wNT (wc_ret (wx_then_ret ?_))
  obtain ⟨rfl, rfl⟩ := pJ2 h
  exact wx_rd tt_ok (.inl rfl) Tryz.results61 (Res.tmp rfl (Res.tmp rfl Res.nil)) (pSub (pH (pA pNil))) rfl
 replace h := cf hc h
 refine wc_skip (wx_then (wSR ?_))
 iterate 2 refine wP rfl rfl ?_
 refine wNT (wc_ret ?_)
 obtain ⟨rfl, rfl⟩ := pJ2 h
 exact wx_rd tt_ok (.inl rfl) Tryz.results61 (Res.tmp rfl (Res.tmp rfl Res.nil)) (pSub (pH (pA pNil))) rfl

theorem k_queue_Queue_Guess {F : Nat} {p0 : T_queue_Queue} {p0b p0t : Nat} {p0a0 : Option Addr} {p0n0 p0c0 : Nat} {p0B0 : List Blk} {p1 : Int} {r0 : Int} (p0N0 : p0n0 = p0.l.length) (p0V0 : Own 40 1 p0a0 p0n0 p0c0 (flat (e1 .u8) p0.l) p0B0) (h : m_queue_Queue_Guess F p0 p1 = some r0) :
    Rd2 Tryz.prog 29 [.pointer (some ⟨p0b, 0, none⟩), .int .u64 p1] (⟨p0b, [.int .u64 p0.first_, .slice p0a0 p0n0 p0c0, .int .u8 p0.last], p0t, (0, 0)⟩ :: (p0B0 ++ [])) (fun w => True) (.int .u8 r0) := by
 unfold m_queue_Queue_Guess at h
 refine sp_of_wc Tryz.func29 rfl Tryz.ntmps29 rfl rfl (fun w0 hR => ?_)
 refine wSR (wP rfl rfl (wNT (wc_seq (wSR ?_))))
 iterate 2 refine wP rfl rfl ?_
 replace h := bsome h; obtain ⟨⟨za, zb⟩, x10, h⟩ := h; try dsimp only at h
 refine wl_cq Tryz.call61 rfl rfl rfl (q_rd (k_queue_Queue_At (p0 := p0) p0N0 p0V0 x10) (pH (pA pNil)) (fun _ _ => trivial)) rfl ?_
 iterate 5 refine wP rfl rfl ?_
 refine wNT (wSR ?_)
 iterate 2 refine wP rfl rfl ?_
 obtain ⟨v17, h, hg17⟩ := bsome h
 refine wl_split (t := 14) rfl (fun hc => ?_) (fun hc => ?_)
 ·replace h := ct hc h
  iterate 2 refine wl_skip rfl rfl ?_
  obtain rfl := sI h
  have h := hg17; clear hg17
  refine wP (v := .bool true) rfl rfl (wNT ?_)
  replace h := ct rfl h
  refine wc_cond_true rfl ?_
  refine wSR ?_
  iterate 2 refine wP rfl rfl ?_
  refine wNT (wc_ret (wx_then_ret ?_))
  obtain rfl := sI h
  exact wx_rd tt_ok (.inl rfl) Tryz.results29 (Res.tmp rfl Res.nil) (pSub (pH (pA pNil))) rfl
 replace h := cf hc h
 refine wl_run rfl (wP rfl rfl (wl_run rfl (wP (v := .bool false) rfl rfl ?_)))
 obtain rfl := sI h
 have h := hg17; clear hg17
 refine wP (v := .bool false) rfl rfl (wNT ?_)
 replace h := cf rfl h
 refine wc_cond_false rfl ?_
 refine wc_skip (wx_then (wSR ?_))
 iterate 2 refine wP rfl rfl ?_
 refine wP (v := .pointer (some ⟨p0b, 2, none⟩)) rfl rfl (wl_val (v := .int .u8 p0.last) (val_load tt_ok rfl mH rfl) rfl (wP rfl rfl (wNT (wc_ret ?_))))
 obtain rfl := sI h
 exact wx_rd tt_ok (.inl rfl) Tryz.results29 (Res.tmp rfl Res.nil) (pSub (pH (pA pNil))) rfl

theorem k_rollback_Engine_Remote_nil0 {F : Nat} {p1 : Int} {p2 : Int} {r0 : Int} (h : m_rollback_Engine_Remote_nil0 F p1 p2 = some r0) :
    Pf Tryz.prog 10 [.pointer none, .int .u64 p1, .int .u8 p2] (fun w => True) (.int .i64 r0) := by
 unfold m_rollback_Engine_Remote_nil0 at h
 refine pf_of_wc Tryz.func10 rfl Tryz.ntmps10 rfl rfl (fun w0 hR => ?_)
 refine wSR (wP rfl rfl (wNT (wc_seq (wSR (wP rfl rfl ?_)))))
 obtain ⟨v11, x11, h⟩ := bsome h
 refine wl_cq Tryz.call26 rfl rfl rfl (q_pf (k_rollback_Engine_is_nil0 x11) (fun _ _ => trivial)) rfl ?_
 refine wP (v := .bool (!v11)) rfl rfl (wNT (wc_cond rfl (fun hc => ?_) (fun hc => ?_)))
 ·replace h := ct hc h
  refine wSR (wP rfl rfl (wNT (wc_ret (wx_then_ret ?_))))
  obtain rfl := sI h
  exact wx_pf tt_ok (.inl rfl) Tryz.results10 (Res.tmp rfl Res.nil) rfl
 replace h := cf hc h
 refine wc_skip (wx_then (wc_seq (wc_quiet (by kernel_rfl) (by kernel_rfl) (qP rfl rfl ?_))))
 cases h

theorem k_rollback_Engine_is {F : Nat} {p0 : T_rollback_Engine} {p0b p0t : Nat} {p0a0 : Option Addr} {p0n0 p0c0 : Nat} {p0B0 : List Blk} {p0a1 : Option Addr} {p0n1 p0c1 : Nat} {p0B1 : List Blk} {p0_4 : T_queue_Queue} {p0_4b p0_4t : Nat} {p0_4a0 : Option Addr} {p0_4n0 p0_4c0 : Nat} {p0_4B0 : List Blk} {p0_5 : T_ring_Ring} {p0_5b p0_5t : Nat} {p0_5g0 : List (T_ring_place × G)} {p0_5P0 : List Blk} {r0 : Bool} (p0N0 : p0n0 = p0.sure.Shots.length) (p0V0 : Own 93 6 p0a0 p0n0 p0c0 (flat c_T_api_Shot p0.sure.Shots) p0B0) (p0N1 : p0n1 = p0.own.length) (p0V1 : Own 40 1 p0a1 p0n1 p0c1 (flat (e1 .u8) p0.own) p0B1) (p0_4N0 : p0_4n0 = p0_4.l.length) (p0_4V0 : Own 40 1 p0_4a0 p0_4n0 p0_4c0 (flat (e1 .u8) p0_4.l) p0_4B0) (p0_5G0 : p0_5.places.1 = unG p0_5g0) (p0_5A0 : AllP sh_T_ring_place c_T_api_Shot p0_5P0 p0_5g0) (h : m_rollback_Engine_is F p0 p0_4 p0_5 = some r0) :
    Rd2 Tryz.prog 26 [.pointer (some ⟨p0b, 0, none⟩)] (⟨p0b, (.int .u8 p0.player :: .int .i64 p0.window :: st19 p0.sure p0a0 p0n0 p0c0 [.slice p0a1 p0n1 p0c1, .pointer (some ⟨p0_4b, 0, none⟩), .pointer (some ⟨p0_5b, 0, none⟩)]), p0t, (0, 0)⟩ :: (p0B0 ++ (p0B1 ++ (⟨p0_4b, [.int .u64 p0_4.first_, .slice p0_4a0 p0_4n0 p0_4c0, .int .u8 p0_4.last], p0_4t, (0, 0)⟩ :: (p0_4B0 ++ (⟨p0_5b, ([.int .i64 p0_5.size] ++ flat cg_T_ring_place p0_5g0), p0_5t, (0, 0)⟩ :: (p0_5P0 ++ []))))))) (fun w => True) (.bool r0) := by
 unfold m_rollback_Engine_is at h
 refine sp_of_wc Tryz.func26 rfl Tryz.ntmps26 rfl rfl (fun w0 hR => ?_)
 refine wSR (wP rfl rfl (wNT (wSR (wP rfl rfl (wP (v := .bool true) rfl rfl (wP rfl rfl (wl_run rfl (wP rfl rfl (wl_run rfl (wP rfl rfl (wl_run rfl (wP (v := .pointer (some ⟨p0b, 22, none⟩)) rfl rfl (wl_run rfl (wl_val (v := .pointer (some ⟨p0_4b, 0, none⟩)) (val_load tt_ok rfl mH rfl) rfl (wl_run rfl (wP (v := .bool true) rfl rfl (wP (v := .bool true) rfl rfl (wP rfl rfl ?_))))))))))))))))))
 refine wNT (wc_ret ?_)
 obtain rfl := sI h
 exact wx_rd tt_ok (.inl rfl) Tryz.results26 (Res.tmp rfl Res.nil) (pSub (pH (pAA (pH (pA (pH (pA pNil))))))) rfl

theorem k_rollback_Engine_Local {F : Nat} {p0 : T_rollback_Engine} {p0b p0t : Nat} {p0a0 : Option Addr} {p0n0 p0c0 : Nat} {p0B0 : List Blk} {p0a1 : Option Addr} {p0n1 p0c1 : Nat} {p0B1 : List Blk} {p0_4 : T_queue_Queue} {p0_4b p0_4t : Nat} {p0_4a0 : Option Addr} {p0_4n0 p0_4c0 : Nat} {p0_4B0 : List Blk} {p0_5 : T_ring_Ring} {p0_5b p0_5t : Nat} {p0_5g0 : List (T_ring_place × G)} {p0_5P0 : List Blk} {p1 : Int} {r0 : T_rollback_Engine} {r1 : Int} (p0N0 : p0n0 = p0.sure.Shots.length) (p0V0 : Own 93 6 p0a0 p0n0 p0c0 (flat c_T_api_Shot p0.sure.Shots) p0B0) (p0N1 : p0n1 = p0.own.length) (p0V1 : Own 40 1 p0a1 p0n1 p0c1 (flat (e1 .u8) p0.own) p0B1) (p0_4N0 : p0_4n0 = p0_4.l.length) (p0_4V0 : Own 40 1 p0_4a0 p0_4n0 p0_4c0 (flat (e1 .u8) p0_4.l) p0_4B0) (p0_5G0 : p0_5.places.1 = unG p0_5g0) (p0_5A0 : AllP sh_T_ring_place c_T_api_Shot p0_5P0 p0_5g0) (h : m_rollback_Engine_Local F p0 p0_4 p0_5 p1 = some (r0, r1)) :
    SpD Tryz.prog 8 [.pointer (some ⟨p0b, 0, none⟩), .int .u8 p1] (⟨p0b, (.int .u8 p0.player :: .int .i64 p0.window :: st19 p0.sure p0a0 p0n0 p0c0 [.slice p0a1 p0n1 p0c1, .pointer (some ⟨p0_4b, 0, none⟩), .pointer (some ⟨p0_5b, 0, none⟩)]), p0t, (0, 0)⟩ :: (p0B0 ++ (p0B1 ++ (⟨p0_4b, [.int .u64 p0_4.first_, .slice p0_4a0 p0_4n0 p0_4c0, .int .u8 p0_4.last], p0_4t, (0, 0)⟩ :: (p0_4B0 ++ (⟨p0_5b, ([.int .i64 p0_5.size] ++ flat cg_T_ring_place p0_5g0), p0_5t, (0, 0)⟩ :: (p0_5P0 ++ []))))))) (fun w => True) (fun v D => ∃ (r0a0 : Option Addr) (r0n0 r0c0 : Nat) (r0B0 : List Blk) (r0a1 : Option Addr) (r0n1 r0c1 : Nat) (r0B1 : List Blk), r0n0 = r0.sure.Shots.length ∧ Own 93 6 r0a0 r0n0 r0c0 (flat c_T_api_Shot r0.sure.Shots) r0B0 ∧ r0n1 = r0.own.length ∧ Own 40 1 r0a1 r0n1 r0c1 (flat (e1 .u8) r0.own) r0B1 ∧ v = .int .i64 r1 ∧ D = fun F => (⟨p0b, (.int .u8 r0.player :: .int .i64 r0.window :: st19 r0.sure r0a0 r0n0 r0c0 [.slice r0a1 r0n1 r0c1, .pointer (some ⟨p0_4b, 0, none⟩), .pointer (some ⟨p0_5b, 0, none⟩)]), p0t, (0, 0)⟩ :: (r0B0 ++ (r0B1 ++ (⟨p0_4b, [.int .u64 p0_4.first_, .slice p0_4a0 p0_4n0 p0_4c0, .int .u8 p0_4.last], p0_4t, (0, 0)⟩ :: (p0_4B0 ++ (⟨p0_5b, ([.int .i64 p0_5.size] ++ flat cg_T_ring_place p0_5g0), p0_5t, (0, 0)⟩ :: (p0_5P0 ++ F)))))))) := by
 unfold m_rollback_Engine_Local at h
 refine sp_of_wc Tryz.func8 rfl Tryz.ntmps8 rfl rfl (fun w0 hR => ?_)
 refine wSR (wP rfl rfl (wNT (wc_seq (wc_block (wSR (wP rfl rfl ?_))))))
 obtain ⟨v7, x7, h⟩ := bsome h
 refine wl_cq Tryz.call26 rfl rfl rfl (q_rd (k_rollback_Engine_is (p0 := p0) (p0_4 := p0_4) (p0_5 := p0_5) p0N0 p0V0 p0N1 p0V1 p0_4N0 p0_4V0 p0_5G0 p0_5A0 x7) (pH (pAA (pH (pA (pH (pA pNil)))))) (fun _ _ => trivial)) rfl ?_
 refine wP (v := .bool (!v7)) rfl rfl (wP rfl rfl (wNT (wc_cond rfl (fun hc => ?_) (fun hc => ?_))))
 ·replace h := ct hc h
  refine wSR (wP rfl rfl (wNT (wc_ret (wx_block_ret (wx_then_ret ?_)))))
  obtain ⟨rfl, rfl⟩ := pJ2 h
  exact wx_spD tt_ok (.inl rfl) Tryz.results8 (Res.tmp rfl Res.nil) ⟨p0a0, p0n0, p0c0, p0B0, p0a1, p0n1, p0c1, p0B1, p0N0, p0V0, p0N1, p0V1, rfl, rfl⟩ (fun F => by simp) (pSub (pH (pAA (pH (pA (pH (pA pNil)))))))
 replace h := cf hc h
 refine wSR (wP rfl rfl ?_)
 obtain ⟨v11, x11, h⟩ := bsome h
 refine wl_cq Tryz.call27 rfl rfl rfl (q_pf (k_input_Legal x11) (fun _ _ => trivial)) rfl ?_
 refine wP (v := .bool (!v11)) rfl rfl (wP rfl rfl (wNT (wc_cond rfl (fun hc => ?_) (fun hc => ?_))))
 ·replace h := ct hc h
  refine wSR (wP rfl rfl (wNT (wc_ret (wx_block_ret (wx_then_ret ?_)))))
  obtain ⟨rfl, rfl⟩ := pJ2 h
  exact wx_spD tt_ok (.inl rfl) Tryz.results8 (Res.tmp rfl Res.nil) ⟨p0a0, p0n0, p0c0, p0B0, p0a1, p0n1, p0c1, p0B1, p0N0, p0V0, p0N1, p0V1, rfl, rfl⟩ (fun F => by simp) (pSub (pH (pAA (pH (pA (pH (pA pNil)))))))
 replace h := cf hc h
 refine wc_seq (wc_quiet (by kernel_rfl) (by kernel_rfl) ?_)
 iterate 2 refine qP rfl rfl ?_
 refine qP (v := .pointer (some ⟨p0b, 21, none⟩)) rfl rfl (wq_val (v := .slice p0a1 p0n1 p0c1) (val_load tt_ok rfl mH rfl) rfl (wq_val (v := .int .i64 (p0.own.length : Int)) (val_len tt_ok rfl rfl p0N1) rfl ?_))
 iterate 2 refine qP rfl rfl ?_
 refine qP (v := .pointer (some ⟨p0b, 1, none⟩)) rfl rfl (wq_val (v := .int .i64 p0.window) (val_load tt_ok rfl mH rfl) rfl (qP (v := .bool (decide (p0.window ≤ (p0.own.length : Int)))) rfl rfl (qP rfl rfl (wq_nil (wx_then (wc_cond rfl (fun hc => ?_) (fun hc => ?_)))))))
 ·replace h := ct hc h
  refine wSR (wP rfl rfl (wNT (wc_ret (wx_block_ret (wx_then_ret ?_)))))
  obtain ⟨rfl, rfl⟩ := pJ2 h
  exact wx_spD tt_ok (.inl rfl) Tryz.results8 (Res.tmp rfl Res.nil) ⟨p0a0, p0n0, p0c0, p0B0, p0a1, p0n1, p0c1, p0B1, p0N0, p0V0, p0N1, p0V1, rfl, rfl⟩ (fun F => by simp) (pSub (pH (pAA (pH (pA (pH (pA pNil)))))))
 replace h := cf hc h
 refine wc_skip (wx_block (wx_then (wSR ?_)))
 iterate 3 refine wP rfl rfl ?_
 refine wP (v := .pointer (some ⟨p0b, 21, none⟩)) rfl rfl (wl_val (v := .slice p0a1 p0n1 p0c1) (val_load tt_ok rfl mH rfl) rfl (wP rfl rfl (wl_chg (chg_bsv (enc := (e1 .u8)) (xs := ([p1] : List Int)) tt_ok rfl rfl rfl rfl rfl rfl rfl rfl (e1_len _)) rfl ?_)))
 rintro _ _ ⟨a30, n30_, c30, B30, rfl, N30, V30, rfl⟩
 obtain ⟨v31, x31, h⟩ := bsome h
 refine wl_chg (chg_app (enc := (e1 .u8)) (ys := ([p1] : List Int)) tt_ok rfl rfl rfl rfl rfl rfl p0N1 N30 p0V1 (sA (sCA hA')) (Rds.of_vec V30) ⟨_, hA'⟩ (e1_len _) (fun _ => rfl) rfl x31) rfl ?_
 rintro _ _ ⟨a31, n31_, c31, B31, rfl, N31, V31, rfl⟩
 refine wP rfl rfl (wP (v := .pointer (some ⟨p0b, 21, none⟩)) rfl rfl ?_)
 apply wl_store tt_ok; rfl; exact (Upd.right (Upd.right Upd.here)); rfl; rfl; rfl; rfl; rfl; rfl
 refine wNT (wSR (wP rfl rfl (wNT (wc_ret ?_))))
 obtain ⟨rfl, rfl⟩ := pJ2 h
 exact wx_spD tt_ok (.inl rfl) Tryz.results8 (Res.tmp rfl Res.nil) ⟨p0a0, p0n0, p0c0, p0B0, a31, n31_, c31, B31, p0N0, p0V0, N31, V31, rfl, rfl⟩ (fun F => by simp) (pSub (pCons (sAA hC) (pApp (sAA hA') (pA (pCons (sA hC) (pApp (sA hA') (pCons (sA hC) (pApp (sA hA') pNil))))))))

theorem k_rollback_Engine_C {F : Nat} {p0 : T_rollback_Engine} {p0b p0t : Nat} {p0a0 : Option Addr} {p0n0 p0c0 : Nat} {p0B0 : List Blk} {p0a1 : Option Addr} {p0n1 p0c1 : Nat} {p0B1 : List Blk} {p0_4 : T_queue_Queue} {p0_4b p0_4t : Nat} {p0_4a0 : Option Addr} {p0_4n0 p0_4c0 : Nat} {p0_4B0 : List Blk} {p0_5 : T_ring_Ring} {p0_5b p0_5t : Nat} {p0_5g0 : List (T_ring_place × G)} {p0_5P0 : List Blk} {r0 : Int} (p0N0 : p0n0 = p0.sure.Shots.length) (p0V0 : Own 93 6 p0a0 p0n0 p0c0 (flat c_T_api_Shot p0.sure.Shots) p0B0) (p0N1 : p0n1 = p0.own.length) (p0V1 : Own 40 1 p0a1 p0n1 p0c1 (flat (e1 .u8) p0.own) p0B1) (p0_4N0 : p0_4n0 = p0_4.l.length) (p0_4V0 : Own 40 1 p0_4a0 p0_4n0 p0_4c0 (flat (e1 .u8) p0_4.l) p0_4B0) (p0_5G0 : p0_5.places.1 = unG p0_5g0) (p0_5A0 : AllP sh_T_ring_place c_T_api_Shot p0_5P0 p0_5g0) (h : m_rollback_Engine_C F p0 p0_4 p0_5 = some r0) :
    Rd2 Tryz.prog 17 [.pointer (some ⟨p0b, 0, none⟩)] (⟨p0b, (.int .u8 p0.player :: .int .i64 p0.window :: st19 p0.sure p0a0 p0n0 p0c0 [.slice p0a1 p0n1 p0c1, .pointer (some ⟨p0_4b, 0, none⟩), .pointer (some ⟨p0_5b, 0, none⟩)]), p0t, (0, 0)⟩ :: (p0B0 ++ (p0B1 ++ (⟨p0_4b, [.int .u64 p0_4.first_, .slice p0_4a0 p0_4n0 p0_4c0, .int .u8 p0_4.last], p0_4t, (0, 0)⟩ :: (p0_4B0 ++ (⟨p0_5b, ([.int .i64 p0_5.size] ++ flat cg_T_ring_place p0_5g0), p0_5t, (0, 0)⟩ :: (p0_5P0 ++ []))))))) (fun w => True) (.int .u64 r0) := by
 unfold m_rollback_Engine_C at h
 refine sp_of_wc Tryz.func17 rfl Tryz.ntmps17 rfl rfl (fun w0 hR => ?_)
 refine wSR (wP rfl rfl (wNT (wc_seq (wSR (wP rfl rfl ?_)))))
 obtain ⟨v4, x4, h⟩ := bsome h
 refine wl_cq Tryz.call26 rfl rfl rfl (q_rd (k_rollback_Engine_is (p0 := p0) (p0_4 := p0_4) (p0_5 := p0_5) p0N0 p0V0 p0N1 p0V1 p0_4N0 p0_4V0 p0_5G0 p0_5A0 x4) (pH (pAA (pH (pA (pH (pA pNil)))))) (fun _ _ => trivial)) rfl ?_
 refine wP (v := .bool (!v4)) rfl rfl (wNT (wc_cond rfl (fun hc => ?_) (fun hc => ?_)))
 ·replace h := ct hc h
  refine wSR (wP rfl rfl (wNT (wc_ret (wx_then_ret ?_))))
  obtain rfl := sI h
  exact wx_rd tt_ok (.inl rfl) Tryz.results17 (Res.tmp rfl Res.nil) (pSub (pH (pAA (pH (pA (pH (pA pNil))))))) rfl
 replace h := cf hc h
 refine wc_skip (wx_then (wSR ?_))
 iterate 2 refine wP rfl rfl ?_
 refine wP (v := .pointer (some ⟨p0b, 2, none⟩)) rfl rfl (wP (v := .pointer (some ⟨p0b, 2, none⟩)) rfl rfl (wl_val (v := .int .u64 p0.sure.Frame) (val_load tt_ok rfl mH rfl) rfl (wP rfl rfl (wNT (wc_ret ?_)))))
 obtain rfl := sI h
 exact wx_rd tt_ok (.inl rfl) Tryz.results17 (Res.tmp rfl Res.nil) (pSub (pH (pAA (pH (pA (pH (pA pNil))))))) rfl

theorem k_slices_Clone___api_Input_api_Input {F : Nat} {p0 : (List Int)} {p0a0 : Option Addr} {p0n0 p0c0 : Nat} {r0 : (List Int)} (p0N0 : p0n0 = p0.length) (p0H0 : p0n0 ≤ p0c0) (h : m_slices_Clone___api_Input_api_Input F p0 = some r0) :
    SpD Tryz.prog 35 [.slice p0a0 p0n0 p0c0] [] (fun w => Rds w (ids []) [] p0a0 (flat (e1 .u8) p0)) (fun v D => ∃ (r0a0 : Option Addr) (r0n0 r0c0 : Nat) (r0B0 : List Blk), r0n0 = r0.length ∧ Own 40 1 r0a0 r0n0 r0c0 (flat (e1 .u8) r0) r0B0 ∧ v = .slice r0a0 r0n0 r0c0 ∧ D = fun F => (r0B0 ++ F)) := by
 unfold m_slices_Clone___api_Input_api_Input at h
 refine sp_of_wc Tryz.func35 rfl Tryz.ntmps35 rfl rfl (fun w0 hR => ?_)
 have p0S0 := hR
 refine wSR (wP rfl rfl (wNT (wc_seq (wSR (wP rfl rfl ?_)))))
 rcases p0a0 with _ | dp0a0
 ·obtain rfl : p0 = [] := rds_none p0S0 (e1_len _) (by decide)
  refine wP (v := .bool true) rfl rfl (wNT (wc_cond_true rfl (wSR (wP rfl rfl (wNT (wc_ret (wx_then_ret ?_)))))))
  simp [appI] at h
  obtain rfl := h
  exact wx_spD tt_ok (.inl rfl) Tryz.results35 (Res.tmp rfl Res.nil) ⟨none, 0, 0, [], rfl, Own.zero, rfl, rfl⟩ (fun F => by simp) (pSub (pNo pNil))
 refine wP (v := .bool false) rfl rfl (wNT (wc_cond_false rfl (wc_skip (wx_then (wSR (wl_chg (chg_bsv (enc := (e1 .u8)) (xs := ([] : List Int)) tt_ok rfl rfl rfl rfl rfl rfl rfl rfl (e1_len _)) rfl ?_))))))
 rintro _ _ ⟨a5, n5_, c5, B5, rfl, N5, V5, rfl⟩
 refine wP rfl rfl ?_
 obtain ⟨v7, x7, h⟩ := bsome h
 refine wl_chg (chg_app (enc := (e1 .u8)) (ys := p0) tt_ok rfl rfl rfl rfl rfl rfl N5 p0N0 V5 hA' p0S0 rsub_nil (e1_len _) (fun _ => rfl) rfl x7) rfl ?_
 rintro _ _ ⟨a7, n7_, c7, B7, rfl, N7, V7, rfl⟩
 refine wP rfl rfl (wNT (wc_ret ?_))
 obtain rfl := sI h
 exact wx_spD tt_ok (.inl rfl) Tryz.results35 (Res.tmp rfl Res.nil) ⟨a7, n7_, c7, B7, N7, V7, rfl, rfl⟩ (fun F => by simp) (pSub (pA pNil))

theorem k_rollback_Engine_Own {F : Nat} {p0 : T_rollback_Engine} {p0b p0t : Nat} {p0a0 : Option Addr} {p0n0 p0c0 : Nat} {p0B0 : List Blk} {p0a1 : Option Addr} {p0n1 p0c1 : Nat} {p0B1 : List Blk} {p0_4 : T_queue_Queue} {p0_4b p0_4t : Nat} {p0_4a0 : Option Addr} {p0_4n0 p0_4c0 : Nat} {p0_4B0 : List Blk} {p0_5 : T_ring_Ring} {p0_5b p0_5t : Nat} {p0_5g0 : List (T_ring_place × G)} {p0_5P0 : List Blk} {r0 : (List Int)} (p0N0 : p0n0 = p0.sure.Shots.length) (p0V0 : Own 93 6 p0a0 p0n0 p0c0 (flat c_T_api_Shot p0.sure.Shots) p0B0) (p0N1 : p0n1 = p0.own.length) (p0V1 : Own 40 1 p0a1 p0n1 p0c1 (flat (e1 .u8) p0.own) p0B1) (p0_4N0 : p0_4n0 = p0_4.l.length) (p0_4V0 : Own 40 1 p0_4a0 p0_4n0 p0_4c0 (flat (e1 .u8) p0_4.l) p0_4B0) (p0_5G0 : p0_5.places.1 = unG p0_5g0) (p0_5A0 : AllP sh_T_ring_place c_T_api_Shot p0_5P0 p0_5g0) (h : m_rollback_Engine_Own F p0 p0_4 p0_5 = some r0) :
    SpD Tryz.prog 44 [.pointer (some ⟨p0b, 0, none⟩)] (⟨p0b, (.int .u8 p0.player :: .int .i64 p0.window :: st19 p0.sure p0a0 p0n0 p0c0 [.slice p0a1 p0n1 p0c1, .pointer (some ⟨p0_4b, 0, none⟩), .pointer (some ⟨p0_5b, 0, none⟩)]), p0t, (0, 0)⟩ :: (p0B0 ++ (p0B1 ++ (⟨p0_4b, [.int .u64 p0_4.first_, .slice p0_4a0 p0_4n0 p0_4c0, .int .u8 p0_4.last], p0_4t, (0, 0)⟩ :: (p0_4B0 ++ (⟨p0_5b, ([.int .i64 p0_5.size] ++ flat cg_T_ring_place p0_5g0), p0_5t, (0, 0)⟩ :: (p0_5P0 ++ []))))))) (fun w => True) (fun v D => ∃ (r0a0 : Option Addr) (r0n0 r0c0 : Nat) (r0B0 : List Blk), r0n0 = r0.length ∧ Own 40 1 r0a0 r0n0 r0c0 (flat (e1 .u8) r0) r0B0 ∧ v = .slice r0a0 r0n0 r0c0 ∧ D = fun F => (⟨p0b, (.int .u8 p0.player :: .int .i64 p0.window :: st19 p0.sure p0a0 p0n0 p0c0 [.slice p0a1 p0n1 p0c1, .pointer (some ⟨p0_4b, 0, none⟩), .pointer (some ⟨p0_5b, 0, none⟩)]), p0t, (0, 0)⟩ :: (p0B0 ++ (p0B1 ++ (⟨p0_4b, [.int .u64 p0_4.first_, .slice p0_4a0 p0_4n0 p0_4c0, .int .u8 p0_4.last], p0_4t, (0, 0)⟩ :: (p0_4B0 ++ (⟨p0_5b, ([.int .i64 p0_5.size] ++ flat cg_T_ring_place p0_5g0), p0_5t, (0, 0)⟩ :: (p0_5P0 ++ (r0B0 ++ F))))))))) := by
 unfold m_rollback_Engine_Own at h
 refine sp_of_wc Tryz.func44 rfl Tryz.ntmps44 rfl rfl (fun w0 hR => ?_)
 refine wSR (wP rfl rfl (wNT (wc_seq (wSR (wP rfl rfl ?_)))))
 obtain ⟨v4, x4, h⟩ := bsome h
 refine wl_cq Tryz.call26 rfl rfl rfl (q_rd (k_rollback_Engine_is (p0 := p0) (p0_4 := p0_4) (p0_5 := p0_5) p0N0 p0V0 p0N1 p0V1 p0_4N0 p0_4V0 p0_5G0 p0_5A0 x4) (pH (pAA (pH (pA (pH (pA pNil)))))) (fun _ _ => trivial)) rfl ?_
 refine wP (v := .bool (!v4)) rfl rfl (wNT (wc_cond rfl (fun hc => ?_) (fun hc => ?_)))
 ·replace h := ct hc h
  refine wSR (wP rfl rfl (wNT (wc_ret (wx_then_ret ?_))))
  obtain rfl := sI h
  exact wx_spD tt_ok (.inl rfl) Tryz.results44 (Res.tmp rfl Res.nil) ⟨none, 0, 0, [], rfl, Own.zero, rfl, rfl⟩ (fun F => by simp) (pSub (pH (pAA (pH (pA (pH (pA (pNo pNil))))))))
 replace h := cf hc h
 refine wc_skip (wx_then (wSR ?_))
 iterate 2 refine wP rfl rfl ?_
 refine wP (v := .pointer (some ⟨p0b, 21, none⟩)) rfl rfl (wl_val (v := .slice p0a1 p0n1 p0c1) (val_load tt_ok rfl mH rfl) rfl ?_)
 obtain ⟨v10, x10, h⟩ := bsome h
 refine wl_cs Tryz.call35 rfl rfl rfl (s_sp (k_slices_Clone___api_Input_api_Input (p0 := p0.own) p0N1 (vec_cap p0V1) x10) pNil (Rds.call (Rds.of_vec p0V1) pNil ⟨_, (sCA hA')⟩)) rfl ?_
 rintro _ _ ⟨_, ⟨v10a0, v10n0, v10c0, v10B0, v10N0, v10V0, rfl, rfl⟩, rfl⟩
 refine wP rfl rfl (wNT (wc_ret ?_))
 obtain rfl := sI h
 exact wx_spD tt_ok (.inl rfl) Tryz.results44 (Res.tmp rfl Res.nil) ⟨v10a0, v10n0, v10c0, v10B0, v10N0, v10V0, rfl, rfl⟩ (fun F => by simp) (pSub (pCons (sA hC) (pApp (sA hA') (pApp (sA hA') (pCons (sA hC) (pApp (sA hA') (pCons (sA hC) (pApp (sA hA') (pA pNil)))))))))

theorem k_rollback_Engine_T {F : Nat} {p0 : T_rollback_Engine} {p0b p0t : Nat} {p0a0 : Option Addr} {p0n0 p0c0 : Nat} {p0B0 : List Blk} {p0a1 : Option Addr} {p0n1 p0c1 : Nat} {p0B1 : List Blk} {p0_4 : T_queue_Queue} {p0_4b p0_4t : Nat} {p0_4a0 : Option Addr} {p0_4n0 p0_4c0 : Nat} {p0_4B0 : List Blk} {p0_5 : T_ring_Ring} {p0_5b p0_5t : Nat} {p0_5g0 : List (T_ring_place × G)} {p0_5P0 : List Blk} {r0 : Int} (p0N0 : p0n0 = p0.sure.Shots.length) (p0V0 : Own 93 6 p0a0 p0n0 p0c0 (flat c_T_api_Shot p0.sure.Shots) p0B0) (p0N1 : p0n1 = p0.own.length) (p0V1 : Own 40 1 p0a1 p0n1 p0c1 (flat (e1 .u8) p0.own) p0B1) (p0_4N0 : p0_4n0 = p0_4.l.length) (p0_4V0 : Own 40 1 p0_4a0 p0_4n0 p0_4c0 (flat (e1 .u8) p0_4.l) p0_4B0) (p0_5G0 : p0_5.places.1 = unG p0_5g0) (p0_5A0 : AllP sh_T_ring_place c_T_api_Shot p0_5P0 p0_5g0) (h : m_rollback_Engine_T F p0 p0_4 p0_5 = some r0) :
    Rd2 Tryz.prog 18 [.pointer (some ⟨p0b, 0, none⟩)] (⟨p0b, (.int .u8 p0.player :: .int .i64 p0.window :: st19 p0.sure p0a0 p0n0 p0c0 [.slice p0a1 p0n1 p0c1, .pointer (some ⟨p0_4b, 0, none⟩), .pointer (some ⟨p0_5b, 0, none⟩)]), p0t, (0, 0)⟩ :: (p0B0 ++ (p0B1 ++ (⟨p0_4b, [.int .u64 p0_4.first_, .slice p0_4a0 p0_4n0 p0_4c0, .int .u8 p0_4.last], p0_4t, (0, 0)⟩ :: (p0_4B0 ++ (⟨p0_5b, ([.int .i64 p0_5.size] ++ flat cg_T_ring_place p0_5g0), p0_5t, (0, 0)⟩ :: (p0_5P0 ++ []))))))) (fun w => True) (.int .u64 r0) := by
 unfold m_rollback_Engine_T at h
 refine sp_of_wc Tryz.func18 rfl Tryz.ntmps18 rfl rfl (fun w0 hR => ?_)
 refine wSR (wP rfl rfl (wNT (wSR (wP rfl rfl ?_))))
 obtain ⟨v4, x4, h⟩ := bsome h
 refine wl_cq Tryz.call17 rfl rfl rfl (q_rd (k_rollback_Engine_C (p0 := p0) (p0_4 := p0_4) (p0_5 := p0_5) p0N0 p0V0 p0N1 p0V1 p0_4N0 p0_4V0 p0_5G0 p0_5A0 x4) (pH (pAA (pH (pA (pH (pA pNil)))))) (fun _ _ => trivial)) rfl ?_
 refine wP rfl rfl ?_
 obtain ⟨v6, x6, h⟩ := bsome h
 refine wl_cs Tryz.call44 rfl rfl rfl (s_sp (k_rollback_Engine_Own (p0 := p0) (p0_4 := p0_4) (p0_5 := p0_5) p0N0 p0V0 p0N1 p0V1 p0_4N0 p0_4V0 p0_5G0 p0_5A0 x6) (pH (pAA (pH (pA (pH (pA pNil)))))) (fun _ _ => trivial)) rfl ?_
 rintro _ _ ⟨_, ⟨v6a0, v6n0, v6c0, v6B0, v6N0, v6V0, rfl, rfl⟩, rfl⟩
 refine wl_val (v := .int .i64 (v6.length : Int)) (val_len tt_ok rfl rfl v6N0) rfl ?_
 refine wP (v := .int .u64 (IntKind.wrap .u64 (v6.length : Int))) rfl rfl (wP (v := .int .u64 (IntKind.wrap .u64 (v4 + (IntKind.wrap .u64 (v6.length : Int))))) rfl rfl (wP rfl rfl (wNT (wc_ret ?_))))
 obtain rfl := sI h
 exact wx_rd tt_ok (.inl rfl) Tryz.results18 (Res.tmp rfl Res.nil) (pSub (pH (pAA (pH (pA (pH (pA pNil))))))) rfl

theorem k_rollback_Engine_pair {F : Nat} {p0 : T_rollback_Engine} {p0b p0t : Nat} {p0a0 : Option Addr} {p0n0 p0c0 : Nat} {p0B0 : List Blk} {p0a1 : Option Addr} {p0n1 p0c1 : Nat} {p0B1 : List Blk} {p0_4 : T_queue_Queue} {p0_4b p0_4t : Nat} {p0_4a0 : Option Addr} {p0_4n0 p0_4c0 : Nat} {p0_4B0 : List Blk} {p0_5 : T_ring_Ring} {p0_5b p0_5t : Nat} {p0_5g0 : List (T_ring_place × G)} {p0_5P0 : List Blk} {p1 : Int} {r0 : (Int × Int)} (p0N0 : p0n0 = p0.sure.Shots.length) (p0V0 : Own 93 6 p0a0 p0n0 p0c0 (flat c_T_api_Shot p0.sure.Shots) p0B0) (p0N1 : p0n1 = p0.own.length) (p0V1 : Own 40 1 p0a1 p0n1 p0c1 (flat (e1 .u8) p0.own) p0B1) (p0_4N0 : p0_4n0 = p0_4.l.length) (p0_4V0 : Own 40 1 p0_4a0 p0_4n0 p0_4c0 (flat (e1 .u8) p0_4.l) p0_4B0) (p0_5G0 : p0_5.places.1 = unG p0_5g0) (p0_5A0 : AllP sh_T_ring_place c_T_api_Shot p0_5P0 p0_5g0) (h : m_rollback_Engine_pair F p0 p0_4 p0_5 p1 = some r0) :
    Rd2 Tryz.prog 63 [.pointer (some ⟨p0b, 0, none⟩), .int .u64 p1] (⟨p0b, (.int .u8 p0.player :: .int .i64 p0.window :: st19 p0.sure p0a0 p0n0 p0c0 [.slice p0a1 p0n1 p0c1, .pointer (some ⟨p0_4b, 0, none⟩), .pointer (some ⟨p0_5b, 0, none⟩)]), p0t, (0, 0)⟩ :: (p0B0 ++ (p0B1 ++ (⟨p0_4b, [.int .u64 p0_4.first_, .slice p0_4a0 p0_4n0 p0_4c0, .int .u8 p0_4.last], p0_4t, (0, 0)⟩ :: (p0_4B0 ++ (⟨p0_5b, ([.int .i64 p0_5.size] ++ flat cg_T_ring_place p0_5g0), p0_5t, (0, 0)⟩ :: (p0_5P0 ++ []))))))) (fun w => True) (.agg #[.int .u8 r0.1, .int .u8 r0.2]) := by
 unfold m_rollback_Engine_pair at h
 refine sp_of_wc Tryz.func63 rfl Tryz.ntmps63 rfl rfl (fun w0 hR => ?_)
 refine wSR (wl_alloc tt_ok rfl rfl (fun b4 => (wNT (wc_seq (wc_k2 (Ls := (⟨b4, [.int .u8 (0 : Int), .int .u8 (0 : Int)], 49, (0, 0)⟩ :: (⟨p0b, (.int .u8 p0.player :: .int .i64 p0.window :: st19 p0.sure p0a0 p0n0 p0c0 [.slice p0a1 p0n1 p0c1, .pointer (some ⟨p0_4b, 0, none⟩), .pointer (some ⟨p0_5b, 0, none⟩)]), p0t, (0, 0)⟩ :: (p0B0 ++ (p0B1 ++ (⟨p0_4b, [.int .u64 p0_4.first_, .slice p0_4a0 p0_4n0 p0_4c0, .int .u8 p0_4.last], p0_4t, (0, 0)⟩ :: (p0_4B0 ++ (⟨p0_5b, ([.int .i64 p0_5.size] ++ flat cg_T_ring_place p0_5g0), p0_5t, (0, 0)⟩ :: (p0_5P0 ++ []))))))))) [18] [18] [0, 1, 3, 7, 0, 16, 48, 112, 0, 0, 512, 1536, 3584, 7680, 16128, 32752, 65520, 131071, 262143] [0, 1, 2, 3, 4, 5, 6, 7, 8, 9, 10, 11, 12, 13, 14, 15, 16, 17, 18] (by kernel_rfl) (by kernel_rfl) (by kernel_rfl) ?_)))))
 iterate 2 refine k_val rfl rfl rfl (pSub (pHH (pAA (pH (pA (pH (pA pNil))))))) (sV rfl) rfl ?_
 refine k_val (v := .pointer (some ⟨p0b, 0, none⟩)) rfl rfl rfl (pSub (pHH (pAA (pH (pA (pH (pA pNil))))))) (sV rfl) rfl (k_val (v := .int .u8 p0.player) rfl rfl rfl (pSub (pHH (pAA (pH (pA (pH (pA pNil))))))) (val_load tt_ok rfl (mT mH) rfl) rfl ?_)
 iterate 2 refine k_val rfl rfl rfl (pSub (pHH (pAA (pH (pA (pH (pA pNil))))))) (sV rfl) rfl ?_
 refine k_val (v := .pointer (some ⟨p0b, 21, none⟩)) rfl rfl rfl (pSub (pHH (pAA (pH (pA (pH (pA pNil))))))) (sV rfl) rfl (k_val (v := .slice p0a1 p0n1 p0c1) rfl rfl rfl (pSub (pHH (pAA (pH (pA (pH (pA pNil))))))) (val_load tt_ok rfl (mT mH) rfl) rfl ?_)
 iterate 3 refine k_val rfl rfl rfl (pSub (pHH (pAA (pH (pA (pH (pA pNil))))))) (sV rfl) rfl ?_
 iterate 2 refine k_val (v := .pointer (some ⟨p0b, 2, none⟩)) rfl rfl rfl (pSub (pHH (pAA (pH (pA (pH (pA pNil))))))) (sV rfl) rfl ?_
 refine k_val (v := .int .u64 p0.sure.Frame) rfl rfl rfl (pSub (pHH (pAA (pH (pA (pH (pA pNil))))))) (val_load tt_ok rfl (mT mH) rfl) rfl (k_val (v := .int .u64 (IntKind.wrap .u64 (p1 - p0.sure.Frame))) rfl rfl rfl (pSub (pHH (pAA (pH (pA (pH (pA pNil))))))) (sV rfl) rfl ?_)
 obtain ⟨v20, x20, h⟩ := bsome h
 refine k_val (v := .pointer (some ((adOf p0a1).add ((IntKind.wrap .u64 (p1 - p0.sure.Frame)).toNat * 1 + 0)))) rfl rfl rfl (pSub (pHH (pAA (pH (pA (pH (pA pNil))))))) (val_ix (enc := (e1 .u8)) tt_ok rfl rfl rfl rfl p0N1 (Rds.of_vec p0V1) (e1_len _) rfl x20) rfl (k_val (v := .int .u8 v20) rfl rfl rfl (pSub (pHH (pAA (pH (pA (pH (pA pNil))))))) (val_le (enc := (e1 .u8)) (xs := p0.own) tt_ok rfl (Rds.of_vec p0V1) ⟨_, (sCC (sA hA'))⟩ (e1_len _) x20 rfl) rfl ?_)
 rcases Bool.eq_false_or_eq_true (p0.player == (0 : Int)) with hx220 | hx220
 ·replace h := ct hx220 h
  refine k_val (v := .pointer (some ⟨b4, 0, none⟩)) rfl rfl rfl (pSub (pHH (pAA (pH (pA (pH (pA pNil))))))) (val_ia (j := 0) tt_ok rfl rfl rfl rfl (by simpa using hx220) rfl rfl) rfl (k_chg0 rfl rfl rfl (chg_store tt_ok rfl Upd.here rfl rfl rfl rfl rfl rfl) (.inl rfl) ?_)
  rintro _ _ rfl
  refine k_end (by kernel_rfl) ?_
  refine wx_then (wc_seq (wc_k2 (Ls := (⟨b4, [.int .u8 v20, .int .u8 (0 : Int)], 49, (0, 0)⟩ :: (⟨p0b, (.int .u8 p0.player :: .int .i64 p0.window :: st19 p0.sure p0a0 p0n0 p0c0 [.slice p0a1 p0n1 p0c1, .pointer (some ⟨p0_4b, 0, none⟩), .pointer (some ⟨p0_5b, 0, none⟩)]), p0t, (0, 0)⟩ :: (p0B0 ++ (p0B1 ++ (⟨p0_4b, [.int .u64 p0_4.first_, .slice p0_4a0 p0_4n0 p0_4c0, .int .u8 p0_4.last], p0_4t, (0, 0)⟩ :: (p0_4B0 ++ (⟨p0_5b, ([.int .i64 p0_5.size] ++ flat cg_T_ring_place p0_5g0), p0_5t, (0, 0)⟩ :: (p0_5P0 ++ []))))))))) [10, 11, 12] [11, 12] [0, 1, 3, 7, 15, 0, 32, 96, 224, 0, 992, 2047, 4095] [0, 1, 2, 3, 4, 5, 6, 7, 8, 9, 10, 11, 12] (by kernel_rfl) (by kernel_rfl) (by kernel_rfl) ?_))
  iterate 2 refine k_val rfl rfl rfl (pSub (pHH (pAA (pH (pA (pH (pA pNil))))))) (sV rfl) rfl ?_
  refine k_val (v := .pointer (some ⟨p0b, 0, none⟩)) rfl rfl rfl (pSub (pHH (pAA (pH (pA (pH (pA pNil))))))) (sV rfl) rfl (k_val (v := .int .u8 p0.player) rfl rfl rfl (pSub (pHH (pAA (pH (pA (pH (pA pNil))))))) (val_load tt_ok rfl (mT mH) rfl) rfl (k_val (v := .int .u8 (IntKind.wrap .u8 ((1 : Int) - p0.player))) rfl rfl rfl (pSub (pHH (pAA (pH (pA (pH (pA pNil))))))) (sV rfl) rfl ?_))
  iterate 2 refine k_val rfl rfl rfl (pSub (pHH (pAA (pH (pA (pH (pA pNil))))))) (sV rfl) rfl ?_
  refine k_val (v := .pointer (some ⟨p0b, 22, none⟩)) rfl rfl rfl (pSub (pHH (pAA (pH (pA (pH (pA pNil))))))) (sV rfl) rfl (k_val (v := .pointer (some ⟨p0_4b, 0, none⟩)) rfl rfl rfl (pSub (pHH (pAA (pH (pA (pH (pA pNil))))))) (val_load tt_ok rfl (mT mH) rfl) rfl (k_val rfl rfl rfl (pSub (pHH (pAA (pH (pA (pH (pA pNil))))))) (sV rfl) rfl ?_))
  obtain ⟨v33, x33, h⟩ := bsome h
  refine k_cq rfl rfl rfl Tryz.call29 rfl rfl rfl (q_rd (k_queue_Queue_Guess (p0 := p0_4) p0_4N0 p0_4V0 x33) (pCons (sCC (sAA hC)) (pApp (sCC (sAA hA')) pNil)) (fun _ _ => trivial)) rfl (pSub (pHH (pAA (pH (pA (pH (pA pNil))))))) ?_
  rcases Bool.eq_false_or_eq_true ((IntKind.wrap .u8 ((1 : Int) - p0.player)) == (0 : Int)) with hx340 | hx340
  ·replace h := ct hx340 h
   refine k_chg rfl rfl rfl (Chg.of_val (v := .pointer (some ⟨b4, 0, none⟩)) (val_ia (j := 0) tt_ok rfl rfl rfl rfl (by simpa using hx340) rfl rfl)) rfl (.inl rfl) ?_
   rintro _ _ ⟨rfl, rfl⟩
   refine k_chg0 rfl rfl rfl (chg_store tt_ok rfl Upd.here rfl rfl rfl rfl rfl rfl) (.inl rfl) ?_
   rintro _ _ rfl
   refine k_end (by kernel_rfl) ?_
   refine wx_then (wSR (wl_val (v := .agg #[.int .u8 v33, .int .u8 (0 : Int)]) (val_load tt_ok rfl mH rfl) rfl ?_))
   apply wl_store tt_ok; rfl; exact Upd.here; rfl; rfl; rfl; rfl; rfl; rfl
   refine wNT (wc_ret ?_)
   obtain rfl := sI h
   exact wx_rd tt_ok (.inl rfl) Tryz.results63 (Res.cell rfl mH rfl Res.nil) (pSub (pS (qS (qS (pS (qS (pS (qS pNil)))))))) rfl
  replace h := cf hx340 h
  rcases Bool.eq_false_or_eq_true ((IntKind.wrap .u8 ((1 : Int) - p0.player)) == (1 : Int)) with hx341 | hx341
  ·replace h := ct hx341 h
   refine k_chg rfl rfl rfl (Chg.of_val (v := .pointer (some ⟨b4, 1, none⟩)) (val_ia (j := 1) tt_ok rfl rfl rfl rfl (by simpa using hx341) rfl rfl)) rfl (.inl rfl) ?_
   rintro _ _ ⟨rfl, rfl⟩
   refine k_chg0 rfl rfl rfl (chg_store tt_ok rfl Upd.here rfl rfl rfl rfl rfl rfl) (.inl rfl) ?_
   rintro _ _ rfl
   refine k_end (by kernel_rfl) ?_
   refine wx_then (wSR (wl_val (v := .agg #[.int .u8 v20, .int .u8 v33]) (val_load tt_ok rfl mH rfl) rfl ?_))
   apply wl_store tt_ok; rfl; exact Upd.here; rfl; rfl; rfl; rfl; rfl; rfl
   refine wNT (wc_ret ?_)
   obtain rfl := sI h
   exact wx_rd tt_ok (.inl rfl) Tryz.results63 (Res.cell rfl mH rfl Res.nil) (pSub (pS (qS (qS (pS (qS (pS (qS pNil)))))))) rfl
  replace h := cf hx341 h
  cases h
 replace h := cf hx220 h
 rcases Bool.eq_false_or_eq_true (p0.player == (1 : Int)) with hx221 | hx221
 ·replace h := ct hx221 h
  refine k_val (v := .pointer (some ⟨b4, 1, none⟩)) rfl rfl rfl (pSub (pHH (pAA (pH (pA (pH (pA pNil))))))) (val_ia (j := 1) tt_ok rfl rfl rfl rfl (by simpa using hx221) rfl rfl) rfl (k_chg0 rfl rfl rfl (chg_store tt_ok rfl Upd.here rfl rfl rfl rfl rfl rfl) (.inl rfl) ?_)
  rintro _ _ rfl
  refine k_end (by kernel_rfl) ?_
  refine wx_then (wc_seq (wc_k2 (Ls := (⟨b4, [.int .u8 (0 : Int), .int .u8 v20], 49, (0, 0)⟩ :: (⟨p0b, (.int .u8 p0.player :: .int .i64 p0.window :: st19 p0.sure p0a0 p0n0 p0c0 [.slice p0a1 p0n1 p0c1, .pointer (some ⟨p0_4b, 0, none⟩), .pointer (some ⟨p0_5b, 0, none⟩)]), p0t, (0, 0)⟩ :: (p0B0 ++ (p0B1 ++ (⟨p0_4b, [.int .u64 p0_4.first_, .slice p0_4a0 p0_4n0 p0_4c0, .int .u8 p0_4.last], p0_4t, (0, 0)⟩ :: (p0_4B0 ++ (⟨p0_5b, ([.int .i64 p0_5.size] ++ flat cg_T_ring_place p0_5g0), p0_5t, (0, 0)⟩ :: (p0_5P0 ++ []))))))))) [10, 11, 12] [11, 12] [0, 1, 3, 7, 15, 0, 32, 96, 224, 0, 992, 2047, 4095] [0, 1, 2, 3, 4, 5, 6, 7, 8, 9, 10, 11, 12] (by kernel_rfl) (by kernel_rfl) (by kernel_rfl) ?_))
  iterate 2 refine k_val rfl rfl rfl (pSub (pHH (pAA (pH (pA (pH (pA pNil))))))) (sV rfl) rfl ?_
  refine k_val (v := .pointer (some ⟨p0b, 0, none⟩)) rfl rfl rfl (pSub (pHH (pAA (pH (pA (pH (pA pNil))))))) (sV rfl) rfl (k_val (v := .int .u8 p0.player) rfl rfl rfl (pSub (pHH (pAA (pH (pA (pH (pA pNil))))))) (val_load tt_ok rfl (mT mH) rfl) rfl (k_val (v := .int .u8 (IntKind.wrap .u8 ((1 : Int) - p0.player))) rfl rfl rfl (pSub (pHH (pAA (pH (pA (pH (pA pNil))))))) (sV rfl) rfl ?_))
  iterate 2 refine k_val rfl rfl rfl (pSub (pHH (pAA (pH (pA (pH (pA pNil))))))) (sV rfl) rfl ?_
  refine k_val (v := .pointer (some ⟨p0b, 22, none⟩)) rfl rfl rfl (pSub (pHH (pAA (pH (pA (pH (pA pNil))))))) (sV rfl) rfl (k_val (v := .pointer (some ⟨p0_4b, 0, none⟩)) rfl rfl rfl (pSub (pHH (pAA (pH (pA (pH (pA pNil))))))) (val_load tt_ok rfl (mT mH) rfl) rfl (k_val rfl rfl rfl (pSub (pHH (pAA (pH (pA (pH (pA pNil))))))) (sV rfl) rfl ?_))
  obtain ⟨v33, x33, h⟩ := bsome h
  refine k_cq rfl rfl rfl Tryz.call29 rfl rfl rfl (q_rd (k_queue_Queue_Guess (p0 := p0_4) p0_4N0 p0_4V0 x33) (pCons (sCC (sAA hC)) (pApp (sCC (sAA hA')) pNil)) (fun _ _ => trivial)) rfl (pSub (pHH (pAA (pH (pA (pH (pA pNil))))))) ?_
  rcases Bool.eq_false_or_eq_true ((IntKind.wrap .u8 ((1 : Int) - p0.player)) == (0 : Int)) with hx340 | hx340
  ·replace h := ct hx340 h
   refine k_chg rfl rfl rfl (Chg.of_val (v := .pointer (some ⟨b4, 0, none⟩)) (val_ia (j := 0) tt_ok rfl rfl rfl rfl (by simpa using hx340) rfl rfl)) rfl (.inl rfl) ?_
   rintro _ _ ⟨rfl, rfl⟩
   refine k_chg0 rfl rfl rfl (chg_store tt_ok rfl Upd.here rfl rfl rfl rfl rfl rfl) (.inl rfl) ?_
   rintro _ _ rfl
   refine k_end (by kernel_rfl) ?_
   refine wx_then (wSR (wl_val (v := .agg #[.int .u8 v33, .int .u8 v20]) (val_load tt_ok rfl mH rfl) rfl ?_))
   apply wl_store tt_ok; rfl; exact Upd.here; rfl; rfl; rfl; rfl; rfl; rfl
   refine wNT (wc_ret ?_)
   obtain rfl := sI h
   exact wx_rd tt_ok (.inl rfl) Tryz.results63 (Res.cell rfl mH rfl Res.nil) (pSub (pS (qS (qS (pS (qS (pS (qS pNil)))))))) rfl
  replace h := cf hx340 h
  rcases Bool.eq_false_or_eq_true ((IntKind.wrap .u8 ((1 : Int) - p0.player)) == (1 : Int)) with hx341 | hx341
  ·replace h := ct hx341 h
   refine k_chg rfl rfl rfl (Chg.of_val (v := .pointer (some ⟨b4, 1, none⟩)) (val_ia (j := 1) tt_ok rfl rfl rfl rfl (by simpa using hx341) rfl rfl)) rfl (.inl rfl) ?_
   rintro _ _ ⟨rfl, rfl⟩
   refine k_chg0 rfl rfl rfl (chg_store tt_ok rfl Upd.here rfl rfl rfl rfl rfl rfl) (.inl rfl) ?_
   rintro _ _ rfl
   refine k_end (by kernel_rfl) ?_
   refine wx_then (wSR (wl_val (v := .agg #[.int .u8 (0 : Int), .int .u8 v33]) (val_load tt_ok rfl mH rfl) rfl ?_))
   apply wl_store tt_ok; rfl; exact Upd.here; rfl; rfl; rfl; rfl; rfl; rfl
   refine wNT (wc_ret ?_)
   obtain rfl := sI h
   exact wx_rd tt_ok (.inl rfl) Tryz.results63 (Res.cell rfl mH rfl Res.nil) (pSub (pS (qS (qS (pS (qS (pS (qS pNil)))))))) rfl
  replace h := cf hx341 h
  cases h
 replace h := cf hx221 h
 cases h

theorem k_input_way {F : Nat} {p0 : Int} {p1 : Int} {p2 : Int} {r0 : Int} (h : m_input_way F p0 p1 p2 = some r0) :
    Pf Tryz.prog 103 [.int .u8 p0, .int .u8 p1, .int .u8 p2] (fun w => True) (.int .i32 r0) := by
 unfold m_input_way at h
 refine pf_of_wc Tryz.func103 rfl Tryz.ntmps103 rfl rfl (fun w0 hR => ?_)
 refine wSR (wP rfl rfl (wNT (wc_seq (wSR ?_))))
 iterate 3 refine wP rfl rfl ?_
 refine wP (v := .int .u8 (bits .or .u8 p1 p2)) rfl rfl (wP (v := .int .u8 (bits .and .u8 p0 (bits .or .u8 p1 p2))) rfl rfl (wNT (wc_block (wSR (wP rfl rfl (wP (v := .bool ((bits .and .u8 p0 (bits .or .u8 p1 p2)) == p1)) rfl rfl (wP rfl rfl (wNT (wc_cond rfl (fun hc => ?_) (fun hc => ?_))))))))))
 ·replace h := ct hc h
  refine wSR (wP rfl rfl (wNT (wc_ret (wx_block_ret (wx_then_ret ?_)))))
  obtain rfl := sI h
  exact wx_pf tt_ok (.inl rfl) Tryz.results103 (Res.tmp rfl Res.nil) rfl
 replace h := cf hc h
 refine wSR (wP rfl rfl (wP (v := .bool ((bits .and .u8 p0 (bits .or .u8 p1 p2)) == p2)) rfl rfl (wP rfl rfl (wNT (wc_cond rfl (fun hc => ?_) (fun hc => ?_))))))
 ·replace h := ct hc h
  refine wSR (wP rfl rfl (wNT (wc_ret (wx_block_ret (wx_then_ret ?_)))))
  obtain rfl := sI h
  exact wx_pf tt_ok (.inl rfl) Tryz.results103 (Res.tmp rfl Res.nil) rfl
 replace h := cf hc h
 refine wc_skip (wx_block (wx_then (wSR (wP rfl rfl (wNT (wc_ret ?_))))))
 obtain rfl := sI h
 exact wx_pf tt_ok (.inl rfl) Tryz.results103 (Res.tmp rfl Res.nil) rfl

theorem k_input_Dir {F : Nat} {p0 : Int} {r0 : Int} {r1 : Int} (h : m_input_Dir F p0 = some (r0, r1)) :
    Pf Tryz.prog 84 [.int .u8 p0] (fun w => True) (.tuple #[.int .i32 r0, .int .i32 r1]) := by
 unfold m_input_Dir at h
 refine pf_of_wc Tryz.func84 rfl Tryz.ntmps84 rfl rfl (fun w0 hR => ?_)
 refine wSR ?_
 iterate 2 refine wP rfl rfl ?_
 refine wNT (wSR (wP rfl rfl ?_))
 obtain ⟨v5, x5, h⟩ := bsome h
 refine wl_cq Tryz.call103 rfl rfl rfl (q_pf (k_input_way x5) (fun _ _ => trivial)) rfl ?_
 refine wP rfl rfl ?_
 obtain ⟨v7, x7, h⟩ := bsome h
 refine wl_cq Tryz.call103 rfl rfl rfl (q_pf (k_input_way x7) (fun _ _ => trivial)) rfl ?_
 iterate 2 refine wP rfl rfl ?_
 refine wNT (wc_ret ?_)
 obtain ⟨rfl, rfl⟩ := pJ2 h
 exact wx_pf tt_ok (.inl rfl) Tryz.results84 (Res.tmp rfl (Res.tmp rfl Res.nil)) rfl

theorem k_step_turn {F : Nat} {p0 : Int} {p1 : Int} {p2 : Int} {r0 : Int} (h : m_step_turn F p0 p1 p2 = some r0) :
    Pf Tryz.prog 85 [.int .u8 p0, .int .i32 p1, .int .i32 p2] (fun w => True) (.int .u8 r0) := by
 unfold m_step_turn at h
 refine pf_of_wc Tryz.func85 rfl Tryz.ntmps85 rfl rfl (fun w0 hR => ?_)
 refine wSR (wP rfl rfl (wNT (wc_seq (wc_block (wSR (wP rfl rfl (wP (v := .bool (decide ((0 : Int) < p1))) rfl rfl (wP rfl rfl (wNT (wc_cond rfl (fun hc => ?_) (fun hc => ?_)))))))))))
 ·replace h := ct hc h
  refine wSR (wP rfl rfl (wNT (wc_ret (wx_block_ret (wx_then_ret ?_)))))
  obtain rfl := sI h
  exact wx_pf tt_ok (.inl rfl) Tryz.results85 (Res.tmp rfl Res.nil) rfl
 replace h := cf hc h
 refine wSR (wP rfl rfl (wP (v := .bool (decide (p1 < (0 : Int)))) rfl rfl (wP rfl rfl (wNT (wc_cond rfl (fun hc => ?_) (fun hc => ?_))))))
 ·replace h := ct hc h
  refine wSR (wP rfl rfl (wNT (wc_ret (wx_block_ret (wx_then_ret ?_)))))
  obtain rfl := sI h
  exact wx_pf tt_ok (.inl rfl) Tryz.results85 (Res.tmp rfl Res.nil) rfl
 replace h := cf hc h
 refine wSR (wP rfl rfl (wP (v := .bool (decide (p2 < (0 : Int)))) rfl rfl (wP rfl rfl (wNT (wc_cond rfl (fun hc => ?_) (fun hc => ?_))))))
 ·replace h := ct hc h
  refine wSR (wP rfl rfl (wNT (wc_ret (wx_block_ret (wx_then_ret ?_)))))
  obtain rfl := sI h
  exact wx_pf tt_ok (.inl rfl) Tryz.results85 (Res.tmp rfl Res.nil) rfl
 replace h := cf hc h
 refine wSR (wP rfl rfl (wP (v := .bool (decide ((0 : Int) < p2))) rfl rfl (wP rfl rfl (wNT (wc_cond rfl (fun hc => ?_) (fun hc => ?_))))))
 ·replace h := ct hc h
  refine wSR (wP rfl rfl (wNT (wc_ret (wx_block_ret (wx_then_ret ?_)))))
  obtain rfl := sI h
  exact wx_pf tt_ok (.inl rfl) Tryz.results85 (Res.tmp rfl Res.nil) rfl
 replace h := cf hc h
 refine wc_skip (wx_block (wx_then (wSR ?_)))
 iterate 2 refine wP rfl rfl ?_
 refine wNT (wc_ret ?_)
 obtain rfl := sI h
 exact wx_pf tt_ok (.inl rfl) Tryz.results85 (Res.tmp rfl Res.nil) rfl

theorem k_input_Dash {F : Nat} {p0 : Int} {r0 : Bool} (h : m_input_Dash F p0 = some r0) :
    Pf Tryz.prog 86 [.int .u8 p0] (fun w => True) (.bool r0) := by
 unfold m_input_Dash at h
 refine pf_of_wc Tryz.func86 rfl Tryz.ntmps86 rfl rfl (fun w0 hR => ?_)
 refine wSR (wP rfl rfl (wNT (wSR (wP rfl rfl (wP (v := .int .u8 (bits .and .u8 p0 (32 : Int))) rfl rfl (wP (v := .bool ((bits .and .u8 p0 (32 : Int)) != (0 : Int))) rfl rfl (wP rfl rfl (wNT (wc_ret ?_)))))))))
 obtain rfl := sI h
 exact wx_pf tt_ok (.inl rfl) Tryz.results86 (Res.tmp rfl Res.nil) rfl

theorem k_step_steer_1 {F : Nat} {p0 : Int} {p1 : Int} {p2 : Bool} {p2b p2t : Nat} {r0 : Int} (h : m_step_steer_1 F p0 p1 p2 = some r0) :
    Rd2 Tryz.prog 87 [.int .i32 p0, .int .i32 p1, .pointer (some ⟨p2b, 0, none⟩)] (⟨p2b, [.bool p2], p2t, (0, 0)⟩ :: []) (fun w => True) (.int .i32 r0) := by
 unfold m_step_steer_1 at h
 refine sp_of_wc Tryz.func87 rfl Tryz.ntmps87 rfl rfl (fun w0 hR => ?_)
 refine wSR (wP rfl rfl (wNT (wc_seq (wSR (wP rfl rfl (wP (v := .bool (p1 != (0 : Int))) rfl rfl (wNT ?_)))))))
 obtain ⟨zb, h, hj6⟩ := bsome h
 refine wc_join2 (fun E L => E = [(0, .int .i32 zb), (2, .pointer (some ⟨p2b, 0, none⟩)), (5, .int .i32 (0 : Int))] ∧ L = (⟨p2b, [.bool p2], p2t, (0, 0)⟩ :: [])) ?_ ?_
 ·refine wc_cond rfl (fun hc => ?_) (fun hc => ?_)
  ·replace h := ct hc h
   refine wc_region ?_
   iterate 2 refine wP rfl rfl ?_
   refine wP (v := .int .i32 (IntKind.wrap .i32 ((64 : Int) * p1))) rfl rfl (wP (v := .int .i32 (IntKind.wrap .i32 (p0 + (IntKind.wrap .i32 ((64 : Int) * p1))))) rfl rfl (wP rfl rfl (wl_nil ?_)))
   obtain rfl := sI h
   exact wx_join ⟨rfl, rfl⟩ (agree_cons rfl (agree_cons rfl (agree_cons rfl agree_nil))) (pSub (pH pNil))
  replace h := cf hc h
  refine wSR ?_
  iterate 2 refine wP rfl rfl ?_
  refine wP (v := .int .i32 (IntKind.wrap .i32 (Int.tdiv p0 8))) rfl rfl (wP (v := .int .i32 (IntKind.wrap .i32 (p0 - (IntKind.wrap .i32 (Int.tdiv p0 8))))) rfl rfl (wP rfl rfl (wNT (wSR (wP rfl rfl (wP (v := .bool (decide ((-8 : Int) < (IntKind.wrap .i32 (p0 - (IntKind.wrap .i32 (Int.tdiv p0 8))))))) rfl rfl (wP rfl rfl ?_)))))))
  obtain ⟨v21, h, hg21⟩ := bsome h
  refine wl_split (t := 18) rfl (fun hc => ?_) (fun hc => ?_)
  ·replace h := ct hc h
   refine wl_run rfl (wP rfl rfl (wl_run rfl (wP (v := .bool (decide ((IntKind.wrap .i32 (p0 - (IntKind.wrap .i32 (Int.tdiv p0 8)))) < (8 : Int)))) rfl rfl ?_)))
   obtain rfl := sI h
   have h := hg21; clear hg21
   refine wP (v := .bool (decide ((IntKind.wrap .i32 (p0 - (IntKind.wrap .i32 (Int.tdiv p0 8)))) < (8 : Int)))) rfl rfl (wNT (wc_cond rfl (fun hc => ?_) (fun hc => ?_)))
   ·replace h := ct hc h
    refine wc_region (wP rfl rfl (wl_nil ?_))
    obtain rfl := sI h
    exact wx_join ⟨rfl, rfl⟩ (agree_cons rfl (agree_cons rfl (agree_cons rfl agree_nil))) (pSub (pH pNil))
   replace h := cf hc h
   refine wc_skip ?_
   obtain rfl := sI h
   exact wx_join ⟨rfl, rfl⟩ (agree_cons rfl (agree_cons rfl (agree_cons rfl agree_nil))) (pSub (pH pNil))
  replace h := cf hc h
  iterate 2 refine wl_skip rfl rfl ?_
  obtain rfl := sI h
  have h := hg21; clear hg21
  refine wP (v := .bool false) rfl rfl (wNT ?_)
  replace h := cf rfl h
  refine wc_cond_false rfl ?_
  refine wc_skip ?_
  obtain rfl := sI h
  exact wx_join ⟨rfl, rfl⟩ (agree_cons rfl (agree_cons rfl (agree_cons rfl agree_nil))) (pSub (pH pNil))
 rintro _ _ ⟨rfl, rfl⟩
 have h := hj6; clear hj6
 refine wc_seq (wSR (wl_val (v := .bool p2) (val_load tt_ok rfl mH rfl) rfl (wNT ?_)))
 obtain ⟨za, h, hj18⟩ := bsome h
 refine wc_join2 (fun E L => E = [(0, .int .i32 za), (5, .int .i32 (0 : Int))] ∧ L = (⟨p2b, [.bool p2], p2t, (0, 0)⟩ :: [])) ?_ ?_
 ·refine wc_cond rfl (fun hc => ?_) (fun hc => ?_)
  ·replace h := ct hc h
   refine wc_region (wP rfl rfl (wP (v := .int .i32 (IntKind.wrap .i32 (zb * (2 : Int)))) rfl rfl (wP rfl rfl (wl_nil ?_))))
   obtain rfl := sI h
   exact wx_join ⟨rfl, rfl⟩ (agree_cons rfl (agree_cons rfl agree_nil)) (pSub (pH pNil))
  replace h := cf hc h
  refine wc_skip ?_
  obtain rfl := sI h
  exact wx_join ⟨rfl, rfl⟩ (agree_cons rfl (agree_cons rfl agree_nil)) (pSub (pH pNil))
 rintro _ _ ⟨rfl, rfl⟩
 have h := hj18; clear hj18
 refine wSR (wP rfl rfl (wP (v := .int .i32 (min za (1024 : Int))) rfl rfl (wP (v := .int .i32 (max (-1024 : Int) (min za (1024 : Int)))) rfl rfl (wP rfl rfl (wNT (wc_ret ?_))))))
 obtain rfl := sI h
 exact wx_rd tt_ok (.inl rfl) Tryz.results87 (Res.tmp rfl Res.nil) (pSub (pH pNil)) rfl

theorem k_step_steer {F : Nat} {p0 : T_api_Player} {p1 : Int} {r0 : T_api_Player} (h : m_step_steer F p0 p1 = some r0) :
    Pf Tryz.prog 64 [agP p0, .int .u8 p1] (fun w => True) (agP r0) := by
 unfold m_step_steer at h
 refine pf_of_wc Tryz.func64 rfl Tryz.ntmps64 rfl rfl (fun w0 hR => ?_)
 refine wSR (wl_box rfl rfl rfl (fun b2 => (wl_alloc tt_ok rfl rfl (fun b4 => (wNT (wSR (wP rfl rfl ?_)))))))
 replace h := bsome h; obtain ⟨⟨zb, zc⟩, x11, h⟩ := h; try dsimp only at h
 refine wl_cq Tryz.call84 rfl rfl rfl (q_pf (k_input_Dir x11) (fun _ _ => trivial)) rfl ?_
 iterate 5 refine wP rfl rfl ?_
 refine wNT (wSR (wP (v := .pointer (some ⟨b2, 5, none⟩)) rfl rfl (wl_val (v := .int .u8 p0.Cool) (val_load tt_ok rfl (mT mH) rfl) rfl (wP (v := .pointer (some ⟨b2, 5, none⟩)) rfl rfl (wl_val (v := .int .u8 p0.Cool) (val_load tt_ok rfl (mT mH) rfl) rfl (wP (v := .int .u8 (min p0.Cool (1 : Int))) rfl rfl (wP (v := .int .u8 (IntKind.wrap .u8 (p0.Cool - (min p0.Cool (1 : Int))))) rfl rfl (wP (v := .pointer (some ⟨b2, 5, none⟩)) rfl rfl ?_))))))))
 apply wl_store tt_ok; rfl; exact (Upd.there Upd.here); rfl; rfl; rfl; rfl; rfl; rfl
 refine wNT (wSR (wP (v := .pointer (some ⟨b2, 6, none⟩)) rfl rfl (wl_val (v := .int .u8 p0.Face) (val_load tt_ok rfl (mT mH) rfl) rfl ?_)))
 iterate 2 refine wP rfl rfl ?_
 obtain ⟨v25, x25, h⟩ := bsome h
 refine wl_cq Tryz.call85 rfl rfl rfl (q_pf (k_step_turn x25) (fun _ _ => trivial)) rfl ?_
 refine wP (v := .pointer (some ⟨b2, 6, none⟩)) rfl rfl ?_
 apply wl_store tt_ok; rfl; exact (Upd.there Upd.here); rfl; rfl; rfl; rfl; rfl; rfl
 refine wNT (wSR (wP rfl rfl ?_))
 obtain ⟨v28, x28, h⟩ := bsome h
 refine wl_cq Tryz.call86 rfl rfl rfl (q_pf (k_input_Dash x28) (fun _ _ => trivial)) rfl ?_
 refine wP rfl rfl ?_
 obtain ⟨v33, h, hg33⟩ := bsome h
 refine wl_split (t := 29) rfl (fun hc => ?_) (fun hc => ?_)
 ·replace h := ct hc h
  refine wl_run rfl (wP (v := .pointer (some ⟨b2, 5, none⟩)) rfl rfl (wl_run rfl (wl_val (v := .int .u8 (IntKind.wrap .u8 (p0.Cool - (min p0.Cool (1 : Int))))) (val_load tt_ok rfl (mT mH) rfl) rfl (wl_run rfl (wP (v := .bool ((IntKind.wrap .u8 (p0.Cool - (min p0.Cool (1 : Int)))) == (0 : Int))) rfl rfl ?_)))))
  obtain rfl := sI h
  have h := hg33; clear hg33
  refine wP (v := .bool ((IntKind.wrap .u8 (p0.Cool - (min p0.Cool (1 : Int)))) == (0 : Int))) rfl rfl (wl_alloc tt_ok rfl rfl (fun b7 => ?_))
  apply wl_store tt_ok; rfl; exact Upd.here; rfl; rfl; rfl; rfl; rfl; rfl
  refine wNT (wSR ?_)
  iterate 2 refine wP rfl rfl ?_
  refine wNT (wc_seq (wc_k2 (Ls := (⟨b7, [.bool ((IntKind.wrap .u8 (p0.Cool - (min p0.Cool (1 : Int)))) == (0 : Int))], 4, (0, 0)⟩ :: (⟨b4, [.int .i32 (0 : Int), .int .i32 (0 : Int), .int .i32 (0 : Int), .int .i32 (0 : Int), .int .u8 (0 : Int), .int .u8 (0 : Int), .int .u8 (0 : Int)], 24, (0, 0)⟩ :: (⟨b2, [.int .i32 p0.X, .int .i32 p0.Y, .int .i32 p0.VX, .int .i32 p0.VY, .int .u8 p0.Health, .int .u8 (IntKind.wrap .u8 (p0.Cool - (min p0.Cool (1 : Int)))), .int .u8 v25], 24, (0, 0)⟩ :: [])))) [4, 9, 11, 12, 13] [11, 12, 13] [0, 0, 2, 0, 15, 0, 0, 64, 0, 511, 223, 2047, 4095, 8191] [0, 1, 2, 3, 5, 6, 7, 8, 4, 10, 9, 11, 12, 13] (by kernel_rfl) (by kernel_rfl) (by kernel_rfl) (k_val rfl rfl rfl (pSub (pHH (pH pNil))) (sV rfl) rfl ?_)))
  refine k_val (v := .pointer (some ⟨b2, 2, none⟩)) rfl rfl rfl (pSub (pHH (pH pNil))) (sV rfl) rfl (k_val (v := .int .i32 p0.VX) rfl rfl rfl (pSub (pHH (pH pNil))) (val_load tt_ok rfl (mTT mH) rfl) rfl ?_)
  iterate 2 refine k_val rfl rfl rfl (pSub (pHH (pH pNil))) (sV rfl) rfl ?_
  refine k_val (v := .pointer (some ⟨b2, 3, none⟩)) rfl rfl rfl (pSub (pHH (pH pNil))) (sV rfl) rfl (k_val (v := .int .i32 p0.VY) rfl rfl rfl (pSub (pHH (pH pNil))) (val_load tt_ok rfl (mTT mH) rfl) rfl (k_val rfl rfl rfl (pSub (pHH (pH pNil))) (sV rfl) rfl ?_))
  obtain ⟨v39, x39, h⟩ := bsome h
  refine k_cq rfl rfl rfl Tryz.call87 rfl rfl rfl (q_rd (k_step_steer_1 x39) (pH pNil) (fun _ _ => trivial)) rfl (pSub (pHH (pH pNil))) ?_
  refine k_val (v := .pointer (some ⟨b2, 2, none⟩)) rfl rfl rfl (pSub (pHH (pH pNil))) (sV rfl) rfl ?_
  obtain ⟨v44, x44, h⟩ := bsome h
  refine k_cq rfl rfl rfl Tryz.call87 rfl rfl rfl (q_rd (k_step_steer_1 x44) (pH pNil) (fun _ _ => trivial)) rfl (pSub (pHH (pH pNil))) ?_
  refine k_chg0 rfl rfl rfl (chg_store tt_ok rfl (Upd.there (Upd.there Upd.here)) rfl rfl rfl rfl rfl rfl) (.inl rfl) ?_
  rintro _ _ rfl
  refine k_chg rfl rfl rfl (Chg.of_val (v := .pointer (some ⟨b2, 3, none⟩)) (sV rfl)) rfl (.inl rfl) ?_
  rintro _ _ ⟨rfl, rfl⟩
  refine k_chg0 rfl rfl rfl (chg_store tt_ok rfl (Upd.there (Upd.there Upd.here)) rfl rfl rfl rfl rfl rfl) (.inl rfl) ?_
  rintro _ _ rfl
  refine k_end (by kernel_rfl) ?_
  refine wx_then (wc_seq (wSR (wl_val (v := .bool ((IntKind.wrap .u8 (p0.Cool - (min p0.Cool (1 : Int)))) == (0 : Int))) (val_load tt_ok rfl mH rfl) rfl (wNT ?_))))
  obtain ⟨za, h, hj18⟩ := bsome h
  refine wc_join2 (fun E L => E = [(2, .pointer (some ⟨b2, 0, none⟩)), (4, .pointer (some ⟨b4, 0, none⟩))] ∧ L = (⟨b2, (pl7 za []), 24, (0, 0)⟩ :: (⟨b4, [.int .i32 (0 : Int), .int .i32 (0 : Int), .int .i32 (0 : Int), .int .i32 (0 : Int), .int .u8 (0 : Int), .int .u8 (0 : Int), .int .u8 (0 : Int)], 24, (0, 0)⟩ :: []))) ?_ ?_
  ·refine wc_cond rfl (fun hc => ?_) (fun hc => ?_)
   ·replace h := ct hc h
    refine wc_region (wP (v := .pointer (some ⟨b2, 5, none⟩)) rfl rfl ?_)
    apply wl_store tt_ok; rfl; exact (Upd.there (Upd.there Upd.here)); rfl; rfl; rfl; rfl; rfl; rfl
    refine wl_nil ?_
    obtain rfl := sI h
    exact wx_join ⟨rfl, rfl⟩ (agree_cons rfl (agree_cons rfl agree_nil)) (pSub (pCons (sCC hC) (pS pNil)))
   replace h := cf hc h
   refine wc_skip ?_
   obtain rfl := sI h
   exact wx_join ⟨rfl, rfl⟩ (agree_cons rfl (agree_cons rfl agree_nil)) (pSub (pCons (sCC hC) (pS pNil)))
  rintro _ _ ⟨rfl, rfl⟩
  have h := hj18; clear hj18
  refine wSR (wl_val (v := agP za) (val_load tt_ok rfl mH rfl) rfl ?_)
  apply wl_store tt_ok; rfl; exact (Upd.there Upd.here); rfl; rfl; rfl; rfl; rfl; rfl
  refine wNT (wc_ret ?_)
  obtain rfl := sI h
  exact wx_pf tt_ok (.inl rfl) Tryz.results64 (Res.cell rfl (mT mH) rfl Res.nil) rfl
 replace h := cf hc h
 iterate 3 refine wl_skip rfl rfl ?_
 obtain rfl := sI h
 have h := hg33; clear hg33
 refine wP (v := .bool false) rfl rfl (wl_alloc tt_ok rfl rfl (fun b7 => ?_))
 apply wl_store tt_ok; rfl; exact Upd.here; rfl; rfl; rfl; rfl; rfl; rfl
 refine wNT (wSR ?_)
 iterate 2 refine wP rfl rfl ?_
 refine wNT (wc_seq (wc_k2 (Ls := (⟨b7, [.bool false], 4, (0, 0)⟩ :: (⟨b4, [.int .i32 (0 : Int), .int .i32 (0 : Int), .int .i32 (0 : Int), .int .i32 (0 : Int), .int .u8 (0 : Int), .int .u8 (0 : Int), .int .u8 (0 : Int)], 24, (0, 0)⟩ :: (⟨b2, [.int .i32 p0.X, .int .i32 p0.Y, .int .i32 p0.VX, .int .i32 p0.VY, .int .u8 p0.Health, .int .u8 (IntKind.wrap .u8 (p0.Cool - (min p0.Cool (1 : Int)))), .int .u8 v25], 24, (0, 0)⟩ :: [])))) [4, 9, 11, 12, 13] [11, 12, 13] [0, 0, 2, 0, 15, 0, 0, 64, 0, 511, 223, 2047, 4095, 8191] [0, 1, 2, 3, 5, 6, 7, 8, 4, 10, 9, 11, 12, 13] (by kernel_rfl) (by kernel_rfl) (by kernel_rfl) (k_val rfl rfl rfl (pSub (pHH (pH pNil))) (sV rfl) rfl ?_)))
 refine k_val (v := .pointer (some ⟨b2, 2, none⟩)) rfl rfl rfl (pSub (pHH (pH pNil))) (sV rfl) rfl (k_val (v := .int .i32 p0.VX) rfl rfl rfl (pSub (pHH (pH pNil))) (val_load tt_ok rfl (mTT mH) rfl) rfl ?_)
 iterate 2 refine k_val rfl rfl rfl (pSub (pHH (pH pNil))) (sV rfl) rfl ?_
 refine k_val (v := .pointer (some ⟨b2, 3, none⟩)) rfl rfl rfl (pSub (pHH (pH pNil))) (sV rfl) rfl (k_val (v := .int .i32 p0.VY) rfl rfl rfl (pSub (pHH (pH pNil))) (val_load tt_ok rfl (mTT mH) rfl) rfl (k_val rfl rfl rfl (pSub (pHH (pH pNil))) (sV rfl) rfl ?_))
 obtain ⟨v39, x39, h⟩ := bsome h
 refine k_cq rfl rfl rfl Tryz.call87 rfl rfl rfl (q_rd (k_step_steer_1 x39) (pH pNil) (fun _ _ => trivial)) rfl (pSub (pHH (pH pNil))) ?_
 refine k_val (v := .pointer (some ⟨b2, 2, none⟩)) rfl rfl rfl (pSub (pHH (pH pNil))) (sV rfl) rfl ?_
 obtain ⟨v44, x44, h⟩ := bsome h
 refine k_cq rfl rfl rfl Tryz.call87 rfl rfl rfl (q_rd (k_step_steer_1 x44) (pH pNil) (fun _ _ => trivial)) rfl (pSub (pHH (pH pNil))) ?_
 refine k_chg0 rfl rfl rfl (chg_store tt_ok rfl (Upd.there (Upd.there Upd.here)) rfl rfl rfl rfl rfl rfl) (.inl rfl) ?_
 rintro _ _ rfl
 refine k_chg rfl rfl rfl (Chg.of_val (v := .pointer (some ⟨b2, 3, none⟩)) (sV rfl)) rfl (.inl rfl) ?_
 rintro _ _ ⟨rfl, rfl⟩
 refine k_chg0 rfl rfl rfl (chg_store tt_ok rfl (Upd.there (Upd.there Upd.here)) rfl rfl rfl rfl rfl rfl) (.inl rfl) ?_
 rintro _ _ rfl
 refine k_end (by kernel_rfl) ?_
 refine wx_then (wc_seq (wSR (wl_val (v := .bool false) (val_load tt_ok rfl mH rfl) rfl (wNT ?_))))
 obtain ⟨za, h, hj18⟩ := bsome h
 refine wc_join2 (fun E L => E = [(2, .pointer (some ⟨b2, 0, none⟩)), (4, .pointer (some ⟨b4, 0, none⟩))] ∧ L = (⟨b2, (pl7 za []), 24, (0, 0)⟩ :: (⟨b4, [.int .i32 (0 : Int), .int .i32 (0 : Int), .int .i32 (0 : Int), .int .i32 (0 : Int), .int .u8 (0 : Int), .int .u8 (0 : Int), .int .u8 (0 : Int)], 24, (0, 0)⟩ :: []))) ?_ ?_
 ·replace h := cf rfl h
  refine wc_cond_false rfl ?_
  refine wc_skip ?_
  obtain rfl := sI h
  exact wx_join ⟨rfl, rfl⟩ (agree_cons rfl (agree_cons rfl agree_nil)) (pSub (pCons (sCC hC) (pS pNil)))
 rintro _ _ ⟨rfl, rfl⟩
 have h := hj18; clear hj18
 refine wSR (wl_val (v := agP za) (val_load tt_ok rfl mH rfl) rfl ?_)
 apply wl_store tt_ok; rfl; exact (Upd.there Upd.here); rfl; rfl; rfl; rfl; rfl; rfl
 refine wNT (wc_ret ?_)
 obtain rfl := sI h
 exact wx_pf tt_ok (.inl rfl) Tryz.results64 (Res.cell rfl (mT mH) rfl Res.nil) rfl

theorem k_input_Fire {F : Nat} {p0 : Int} {r0 : Bool} (h : m_input_Fire F p0 = some r0) :
    Pf Tryz.prog 65 [.int .u8 p0] (fun w => True) (.bool r0) := by
 unfold m_input_Fire at h
 refine pf_of_wc Tryz.func65 rfl Tryz.ntmps65 rfl rfl (fun w0 hR => ?_)
 refine wSR (wP rfl rfl (wNT (wSR (wP rfl rfl (wP (v := .int .u8 (bits .and .u8 p0 (16 : Int))) rfl rfl (wP (v := .bool ((bits .and .u8 p0 (16 : Int)) != (0 : Int))) rfl rfl (wP rfl rfl (wNT (wc_ret ?_)))))))))
 obtain rfl := sI h
 exact wx_pf tt_ok (.inl rfl) Tryz.results65 (Res.tmp rfl Res.nil) rfl

theorem k_step_shoot {F : Nat} {p0 : T_api_Player} {p1 : Int} {r0 : T_api_Shot} (h : m_step_shoot F p0 p1 = some r0) :
    Pf Tryz.prog 66 [agP p0, .int .u8 p1] (fun w => True) (.agg #[.int .i32 r0.X, .int .i32 r0.Y, .int .i32 r0.VX, .int .i32 r0.VY, .int .u8 r0.Owner, .int .u8 r0.Life]) := by
 unfold m_step_shoot at h
 refine pf_of_wc Tryz.func66 rfl Tryz.ntmps66 rfl rfl (fun w0 hR => ?_)
 refine wSR (wl_box rfl rfl rfl (fun b2 => (wl_alloc tt_ok rfl rfl (fun b4 => (wNT (wSR (wP (v := .pointer (some ⟨b2, 0, none⟩)) rfl rfl (wl_val (v := .int .i32 p0.X) (val_load tt_ok rfl (mT mH) rfl) rfl (wP (v := .int .i32 (IntKind.wrap .i32 (p0.X + (1792 : Int)))) rfl rfl (wP (v := .pointer (some ⟨b2, 1, none⟩)) rfl rfl (wl_val (v := .int .i32 p0.Y) (val_load tt_ok rfl (mT mH) rfl) rfl (wP (v := .int .i32 (IntKind.wrap .i32 (p0.Y + (1792 : Int)))) rfl rfl (wP rfl rfl (wP (v := .agg #[.int .i32 (IntKind.wrap .i32 (p0.X + (1792 : Int))), .int .i32 (IntKind.wrap .i32 (p0.Y + (1792 : Int))), .int .i32 (0 : Int), .int .i32 (0 : Int), .int .u8 p1, .int .u8 (40 : Int)]) rfl rfl ?_))))))))))))))
 refine wl_alloc tt_ok rfl rfl (fun b5 => ?_)
 apply wl_store tt_ok; rfl; exact Upd.here; rfl; rfl; rfl; rfl; rfl; rfl
 refine wNT (wc_seq (wSR (wP (v := .pointer (some ⟨b2, 6, none⟩)) rfl rfl (wl_val (v := .int .u8 p0.Face) (val_load tt_ok rfl (mTT mH) rfl) rfl (wNT ?_)))))
 obtain ⟨za, h, hj8⟩ := bsome h
 refine wc_join2 (fun E L => E = [(4, .pointer (some ⟨b4, 0, none⟩)), (5, .pointer (some ⟨b5, 0, none⟩))] ∧ L = (⟨b4, [.int .i32 (0 : Int), .int .i32 (0 : Int), .int .i32 (0 : Int), .int .i32 (0 : Int), .int .u8 (0 : Int), .int .u8 (0 : Int)], 93, (0, 0)⟩ :: (⟨b5, [.int .i32 za.X, .int .i32 za.Y, .int .i32 za.VX, .int .i32 za.VY, .int .u8 za.Owner, .int .u8 za.Life], 93, (0, 0)⟩ :: []))) ?_ ?_
 ·refine wc_block (wSR ?_)
  refine wP (v := .bool (p0.Face == (0 : Int))) rfl rfl (wP rfl rfl (wNT (wc_cond rfl (fun hc => ?_) (fun hc => ?_))))
  ·replace h := ct hc h
   refine wc_region (wP (v := .pointer (some ⟨b5, 2, none⟩)) rfl rfl ?_)
   apply wl_store tt_ok; rfl; exact Upd.here; rfl; rfl; rfl; rfl; rfl; rfl
   refine wl_nil (wx_block ?_)
   obtain rfl := sI h
   exact wx_join ⟨rfl, rfl⟩ (agree_cons rfl (agree_cons rfl agree_nil)) (pSub (pS (pH pNil)))
  replace h := cf hc h
  refine wSR (wP (v := .bool (p0.Face == (1 : Int))) rfl rfl (wP rfl rfl (wNT (wc_cond rfl (fun hc => ?_) (fun hc => ?_)))))
  ·replace h := ct hc h
   refine wc_region (wP (v := .pointer (some ⟨b5, 2, none⟩)) rfl rfl ?_)
   apply wl_store tt_ok; rfl; exact Upd.here; rfl; rfl; rfl; rfl; rfl; rfl
   refine wl_nil (wx_block ?_)
   obtain rfl := sI h
   exact wx_join ⟨rfl, rfl⟩ (agree_cons rfl (agree_cons rfl agree_nil)) (pSub (pS (pH pNil)))
  replace h := cf hc h
  refine wSR (wP (v := .bool (p0.Face == (2 : Int))) rfl rfl (wP rfl rfl (wNT (wc_cond rfl (fun hc => ?_) (fun hc => ?_)))))
  ·replace h := ct hc h
   refine wc_region (wP (v := .pointer (some ⟨b5, 3, none⟩)) rfl rfl ?_)
   apply wl_store tt_ok; rfl; exact Upd.here; rfl; rfl; rfl; rfl; rfl; rfl
   refine wl_nil (wx_block ?_)
   obtain rfl := sI h
   exact wx_join ⟨rfl, rfl⟩ (agree_cons rfl (agree_cons rfl agree_nil)) (pSub (pS (pH pNil)))
  replace h := cf hc h
  refine wc_region (wP (v := .pointer (some ⟨b5, 3, none⟩)) rfl rfl ?_)
  apply wl_store tt_ok; rfl; exact Upd.here; rfl; rfl; rfl; rfl; rfl; rfl
  refine wl_nil (wx_block ?_)
  obtain rfl := sI h
  exact wx_join ⟨rfl, rfl⟩ (agree_cons rfl (agree_cons rfl agree_nil)) (pSub (pS (pH pNil)))
 rintro _ _ ⟨rfl, rfl⟩
 have h := hj8; clear hj8
 refine wSR (wl_val (v := .agg #[.int .i32 za.X, .int .i32 za.Y, .int .i32 za.VX, .int .i32 za.VY, .int .u8 za.Owner, .int .u8 za.Life]) (val_load tt_ok rfl (mT mH) rfl) rfl ?_)
 apply wl_store tt_ok; rfl; exact Upd.here; rfl; rfl; rfl; rfl; rfl; rfl
 refine wNT (wc_ret ?_)
 obtain rfl := sI h
 exact wx_pf tt_ok (.inl rfl) Tryz.results66 (Res.cell rfl mH rfl Res.nil) rfl

theorem k_geom_Move {F : Nat} {p0 : Int} {p1 : Int} {p2 : Int} {p3 : Int} {r0 : Int} {r1 : Int} (h : m_geom_Move F p0 p1 p2 p3 = some (r0, r1)) :
    Pf Tryz.prog 88 [.int .i32 p0, .int .i32 p1, .int .i32 p2, .int .i32 p3] (fun w => True) (.tuple #[.int .i32 r0, .int .i32 r1]) := by
 unfold m_geom_Move at h
 refine pf_of_wc Tryz.func88 rfl Tryz.ntmps88 rfl rfl (fun w0 hR => ?_)
 refine wSR ?_
 iterate 2 refine wP rfl rfl ?_
 refine wNT (wSR (wP rfl rfl (wP (v := .int .i64 (IntKind.wrap .i64 p0)) rfl rfl (wP rfl rfl (wP (v := .int .i64 (IntKind.wrap .i64 p1)) rfl rfl (wP (v := .int .i64 (IntKind.wrap .i64 ((IntKind.wrap .i64 p0) + (IntKind.wrap .i64 p1)))) rfl rfl (wP rfl rfl (wNT (wc_seq (wSR ?_))))))))))
 iterate 2 refine wP rfl rfl ?_
 refine wP (v := .bool (decide (p3 < p2))) rfl rfl (wP rfl rfl ?_)
 obtain ⟨v24, h, hg24⟩ := bsome h
 refine wl_split (t := 19) rfl (fun hc => ?_) (fun hc => ?_)
 ·replace h := ct hc h
  iterate 4 refine wl_skip rfl rfl ?_
  obtain rfl := sI h
  have h := hg24; clear hg24
  refine wP (v := .bool true) rfl rfl (wNT ?_)
  replace h := ct rfl h
  refine wc_cond_true rfl ?_
  refine wSR ?_
  iterate 3 refine wP rfl rfl ?_
  refine wNT (wc_ret (wx_then_ret ?_))
  obtain ⟨rfl, rfl⟩ := pJ2 h
  exact wx_pf tt_ok (.inl rfl) Tryz.results88 (Res.tmp rfl (Res.tmp rfl Res.nil)) rfl
 replace h := cf hc h
 refine wl_run rfl (wP rfl rfl (wl_run rfl (wP rfl rfl (wl_run rfl (wP (v := .int .i64 (IntKind.wrap .i64 p2)) rfl rfl (wl_run rfl (wP (v := .bool (decide ((IntKind.wrap .i64 ((IntKind.wrap .i64 p0) + (IntKind.wrap .i64 p1))) < (IntKind.wrap .i64 p2)))) rfl rfl ?_)))))))
 obtain rfl := sI h
 have h := hg24; clear hg24
 refine wP (v := .bool (decide ((IntKind.wrap .i64 ((IntKind.wrap .i64 p0) + (IntKind.wrap .i64 p1))) < (IntKind.wrap .i64 p2)))) rfl rfl (wNT (wc_cond rfl (fun hc => ?_) (fun hc => ?_)))
 ·replace h := ct hc h
  refine wSR ?_
  iterate 3 refine wP rfl rfl ?_
  refine wNT (wc_ret (wx_then_ret ?_))
  obtain ⟨rfl, rfl⟩ := pJ2 h
  exact wx_pf tt_ok (.inl rfl) Tryz.results88 (Res.tmp rfl (Res.tmp rfl Res.nil)) rfl
 replace h := cf hc h
 refine wc_skip (wx_then (wc_seq (wSR ?_)))
 iterate 2 refine wP rfl rfl ?_
 refine wP (v := .int .i64 (IntKind.wrap .i64 p3)) rfl rfl (wP (v := .bool (decide ((IntKind.wrap .i64 p3) < (IntKind.wrap .i64 ((IntKind.wrap .i64 p0) + (IntKind.wrap .i64 p1)))))) rfl rfl (wNT (wc_cond rfl (fun hc => ?_) (fun hc => ?_))))
 ·replace h := ct hc h
  refine wSR ?_
  iterate 3 refine wP rfl rfl ?_
  refine wNT (wc_ret (wx_then_ret ?_))
  obtain ⟨rfl, rfl⟩ := pJ2 h
  exact wx_pf tt_ok (.inl rfl) Tryz.results88 (Res.tmp rfl (Res.tmp rfl Res.nil)) rfl
 replace h := cf hc h
 refine wc_skip (wx_then (wSR (wP rfl rfl (wP (v := .int .i32 (IntKind.wrap .i32 (IntKind.wrap .i64 ((IntKind.wrap .i64 p0) + (IntKind.wrap .i64 p1))))) rfl rfl ?_))))
 iterate 3 refine wP rfl rfl ?_
 refine wNT (wc_ret ?_)
 obtain ⟨rfl, rfl⟩ := pJ2 h
 exact wx_pf tt_ok (.inl rfl) Tryz.results88 (Res.tmp rfl (Res.tmp rfl Res.nil)) rfl

theorem k_step_moved {F : Nat} {p0 : T_api_Player} {r0 : T_api_Player} (h : m_step_moved F p0 = some r0) :
    Pf Tryz.prog 67 [agP p0] (fun w => True) (agP r0) := by
 unfold m_step_moved at h
 refine pf_of_wc Tryz.func67 rfl Tryz.ntmps67 rfl rfl (fun w0 hR => ?_)
 refine wSR (wl_box rfl rfl rfl (fun b1 => (wl_alloc tt_ok rfl rfl (fun b2 => (wNT (wSR (wP (v := .pointer (some ⟨b1, 0, none⟩)) rfl rfl (wl_val (v := .int .i32 p0.X) (val_load tt_ok rfl (mT mH) rfl) rfl (wP (v := .pointer (some ⟨b1, 2, none⟩)) rfl rfl (wl_val (v := .int .i32 p0.VX) (val_load tt_ok rfl (mT mH) rfl) rfl ?_))))))))))
 replace h := bsome h; obtain ⟨⟨zc, zd⟩, x8, h⟩ := h; try dsimp only at h
 refine wl_cq Tryz.call88 rfl rfl rfl (q_pf (k_geom_Move x8) (fun _ _ => trivial)) rfl ?_
 iterate 3 refine wP rfl rfl ?_
 refine wP (v := .pointer (some ⟨b1, 0, none⟩)) rfl rfl ?_
 apply wl_store tt_ok; rfl; exact (Upd.there Upd.here); rfl; rfl; rfl; rfl; rfl; rfl
 refine wP (v := .pointer (some ⟨b1, 2, none⟩)) rfl rfl ?_
 apply wl_store tt_ok; rfl; exact (Upd.there Upd.here); rfl; rfl; rfl; rfl; rfl; rfl
 refine wNT (wSR (wP (v := .pointer (some ⟨b1, 1, none⟩)) rfl rfl (wl_val (v := .int .i32 p0.Y) (val_load tt_ok rfl (mT mH) rfl) rfl (wP (v := .pointer (some ⟨b1, 3, none⟩)) rfl rfl (wl_val (v := .int .i32 p0.VY) (val_load tt_ok rfl (mT mH) rfl) rfl ?_)))))
 replace h := bsome h; obtain ⟨⟨za, zb⟩, x18, h⟩ := h; try dsimp only at h
 refine wl_cq Tryz.call88 rfl rfl rfl (q_pf (k_geom_Move x18) (fun _ _ => trivial)) rfl ?_
 iterate 3 refine wP rfl rfl ?_
 refine wP (v := .pointer (some ⟨b1, 1, none⟩)) rfl rfl ?_
 apply wl_store tt_ok; rfl; exact (Upd.there Upd.here); rfl; rfl; rfl; rfl; rfl; rfl
 refine wP (v := .pointer (some ⟨b1, 3, none⟩)) rfl rfl ?_
 apply wl_store tt_ok; rfl; exact (Upd.there Upd.here); rfl; rfl; rfl; rfl; rfl; rfl
 refine wNT (wSR (wl_val (v := .agg #[.int .i32 zc, .int .i32 za, .int .i32 zd, .int .i32 zb, .int .u8 p0.Health, .int .u8 p0.Cool, .int .u8 p0.Face]) (val_load tt_ok rfl (mT mH) rfl) rfl ?_))
 apply wl_store tt_ok; rfl; exact Upd.here; rfl; rfl; rfl; rfl; rfl; rfl
 refine wNT (wc_ret ?_)
 obtain rfl := sI h
 exact wx_pf tt_ok (.inl rfl) Tryz.results67 (Res.cell rfl mH rfl Res.nil) rfl

theorem k_step_box {F : Nat} {p0 : T_api_Player} {r0 : T_api_Box} (h : m_step_box F p0 = some r0) :
    Pf Tryz.prog 69 [agP p0] (fun w => True) (.agg #[.int .i32 r0.X, .int .i32 r0.Y, .int .i32 r0.W, .int .i32 r0.H]) := by
 unfold m_step_box at h
 refine pf_of_wc Tryz.func69 rfl Tryz.ntmps69 rfl rfl (fun w0 hR => ?_)
 refine wSR (wl_box rfl rfl rfl (fun b1 => (wl_alloc tt_ok rfl rfl (fun b2 => (wNT (wSR (wP (v := .pointer (some ⟨b1, 0, none⟩)) rfl rfl (wl_val (v := .int .i32 p0.X) (val_load tt_ok rfl (mT mH) rfl) rfl (wP (v := .pointer (some ⟨b1, 1, none⟩)) rfl rfl (wl_val (v := .int .i32 p0.Y) (val_load tt_ok rfl (mT mH) rfl) rfl (wP (v := .agg #[.int .i32 p0.X, .int .i32 p0.Y, .int .i32 (4096 : Int), .int .i32 (4096 : Int)]) rfl rfl ?_)))))))))))
 apply wl_store tt_ok; rfl; exact Upd.here; rfl; rfl; rfl; rfl; rfl; rfl
 refine wNT (wc_ret ?_)
 obtain rfl := sI h
 exact wx_pf tt_ok (.inl rfl) Tryz.results69 (Res.cell rfl mH rfl Res.nil) rfl

theorem k_geom_of {F : Nat} {p0 : Int} {p1 : Int} {r0 : T_geom_row} (h : m_geom_of F p0 p1 = some r0) :
    Pf Tryz.prog 112 [.int .i32 p0, .int .i32 p1] (fun w => True) (.agg #[.int .i64 r0.from_, .int .i64 r0.to_]) := by
 unfold m_geom_of at h
 refine pf_of_wc Tryz.func112 rfl Tryz.ntmps112 rfl rfl (fun w0 hR => ?_)
 refine wSR (wl_alloc tt_ok rfl rfl (fun b4 => (wNT (wSR (wP rfl rfl (wP (v := .int .i64 (IntKind.wrap .i64 p0)) rfl rfl (wP rfl rfl (wP (v := .int .i64 (IntKind.wrap .i64 p0)) rfl rfl (wP rfl rfl (wP (v := .int .i32 (max (0 : Int) p1)) rfl rfl (wP (v := .int .i64 (IntKind.wrap .i64 (max (0 : Int) p1))) rfl rfl (wP (v := .int .i64 (IntKind.wrap .i64 ((IntKind.wrap .i64 p0) + (IntKind.wrap .i64 (max (0 : Int) p1))))) rfl rfl (wP (v := .agg #[.int .i64 (IntKind.wrap .i64 p0), .int .i64 (IntKind.wrap .i64 ((IntKind.wrap .i64 p0) + (IntKind.wrap .i64 (max (0 : Int) p1))))]) rfl rfl ?_)))))))))))))
 apply wl_store tt_ok; rfl; exact Upd.here; rfl; rfl; rfl; rfl; rfl; rfl
 refine wNT (wc_ret ?_)
 obtain rfl := sI h
 exact wx_pf tt_ok (.inl rfl) Tryz.results112 (Res.cell rfl mH rfl Res.nil) rfl

theorem k_geom_rows {F : Nat} {p0 : T_api_Box} {r0 : T_geom_row} {r1 : T_geom_row} (h : m_geom_rows F p0 = some (r0, r1)) :
    Pf Tryz.prog 104 [.agg #[.int .i32 p0.X, .int .i32 p0.Y, .int .i32 p0.W, .int .i32 p0.H]] (fun w => True) (.tuple #[.agg #[.int .i64 r0.from_, .int .i64 r0.to_], .agg #[.int .i64 r1.from_, .int .i64 r1.to_]]) := by
 unfold m_geom_rows at h
 refine pf_of_wc Tryz.func104 rfl Tryz.ntmps104 rfl rfl (fun w0 hR => ?_)
 refine wSR (wl_box rfl rfl rfl (fun b1 => (wl_alloc tt_ok rfl rfl (fun b2 => (wl_alloc tt_ok rfl rfl (fun b3 => (wNT (wc_seq (wc_k2 (Ls := (⟨b3, [.int .i64 (0 : Int), .int .i64 (0 : Int)], 137, (0, 0)⟩ :: (⟨b2, [.int .i64 (0 : Int), .int .i64 (0 : Int)], 137, (0, 0)⟩ :: (⟨b1, [.int .i32 p0.X, .int .i32 p0.Y, .int .i32 p0.W, .int .i32 p0.H], 118, (0, 0)⟩ :: [])))) [4, 9, 10, 11] [9, 10, 11] [0, 1, 0, 4, 15, 0, 32, 0, 128, 511, 1023, 2047] [0, 1, 2, 3, 5, 6, 7, 8, 4, 9, 10, 11] (by kernel_rfl) (by kernel_rfl) (by kernel_rfl) (k_val (v := .pointer (some ⟨b1, 0, none⟩)) rfl rfl rfl (pSub (pHH (pH pNil))) (sV rfl) rfl ?_))))))))))
 refine k_val (v := .int .i32 p0.X) rfl rfl rfl (pSub (pHH (pH pNil))) (val_load tt_ok rfl (mTT mH) rfl) rfl (k_val (v := .pointer (some ⟨b1, 2, none⟩)) rfl rfl rfl (pSub (pHH (pH pNil))) (sV rfl) rfl (k_val (v := .int .i32 p0.W) rfl rfl rfl (pSub (pHH (pH pNil))) (val_load tt_ok rfl (mTT mH) rfl) rfl (k_val (v := .pointer (some ⟨b1, 1, none⟩)) rfl rfl rfl (pSub (pHH (pH pNil))) (sV rfl) rfl (k_val (v := .int .i32 p0.Y) rfl rfl rfl (pSub (pHH (pH pNil))) (val_load tt_ok rfl (mTT mH) rfl) rfl ?_))))
 refine k_val (v := .pointer (some ⟨b1, 3, none⟩)) rfl rfl rfl (pSub (pHH (pH pNil))) (sV rfl) rfl (k_val (v := .int .i32 p0.H) rfl rfl rfl (pSub (pHH (pH pNil))) (val_load tt_ok rfl (mTT mH) rfl) rfl ?_)
 obtain ⟨v8, x8, h⟩ := bsome h
 refine k_cq rfl rfl rfl Tryz.call112 rfl rfl rfl (q_pf (k_geom_of x8) (fun _ _ => trivial)) rfl (pSub (pHH (pH pNil))) ?_
 obtain ⟨v13, x13, h⟩ := bsome h
 refine k_cq rfl rfl rfl Tryz.call112 rfl rfl rfl (q_pf (k_geom_of x13) (fun _ _ => trivial)) rfl (pSub (pHH (pH pNil))) ?_
 refine k_chg0 rfl rfl rfl (chg_store tt_ok rfl (Upd.there Upd.here) rfl rfl rfl rfl rfl rfl) (.inl rfl) ?_
 rintro _ _ rfl
 refine k_chg0 rfl rfl rfl (chg_store tt_ok rfl Upd.here rfl rfl rfl rfl rfl rfl) (.inl rfl) ?_
 rintro _ _ rfl
 refine k_end (by kernel_rfl) ?_
 refine wx_then (wc_ret ?_)
 obtain ⟨rfl, rfl⟩ := pJ2 h
 exact wx_pf tt_ok (.inl rfl) Tryz.results104 (Res.cell rfl (mT mH) rfl (Res.cell rfl mH rfl Res.nil)) rfl

theorem k_geom_row_over {F : Nat} {p0 : T_geom_row} {p1 : T_geom_row} {r0 : Bool} (h : m_geom_row_over F p0 p1 = some r0) :
    Pf Tryz.prog 90 [.agg #[.int .i64 p0.from_, .int .i64 p0.to_], .agg #[.int .i64 p1.from_, .int .i64 p1.to_]] (fun w => True) (.bool r0) := by
 unfold m_geom_row_over at h
 refine pf_of_wc Tryz.func90 rfl Tryz.ntmps90 rfl rfl (fun w0 hR => ?_)
 refine wSR (wl_box rfl rfl rfl (fun b2 => (wl_box rfl rfl rfl (fun b3 => (wP rfl rfl (wNT (wSR (wP (v := .pointer (some ⟨b2, 0, none⟩)) rfl rfl (wl_val (v := .int .i64 p0.from_) (val_load tt_ok rfl (mT mH) rfl) rfl (wP (v := .pointer (some ⟨b3, 0, none⟩)) rfl rfl (wl_val (v := .int .i64 p1.from_) (val_load tt_ok rfl mH rfl) rfl (wP (v := .int .i64 (max p0.from_ p1.from_)) rfl rfl (wP (v := .pointer (some ⟨b2, 1, none⟩)) rfl rfl (wl_val (v := .int .i64 p0.to_) (val_load tt_ok rfl (mT mH) rfl) rfl (wP (v := .pointer (some ⟨b3, 1, none⟩)) rfl rfl ?_)))))))))))))))
 refine wl_val (v := .int .i64 p1.to_) (val_load tt_ok rfl mH rfl) rfl ?_
 refine wP (v := .int .i64 (min p0.to_ p1.to_)) rfl rfl (wP (v := .bool (decide ((max p0.from_ p1.from_) < (min p0.to_ p1.to_)))) rfl rfl (wP rfl rfl (wNT (wc_ret ?_))))
 obtain rfl := sI h
 exact wx_pf tt_ok (.inl rfl) Tryz.results90 (Res.tmp rfl Res.nil) rfl

theorem k_geom_both_f2_geom_row_over {F : Nat} {p0 : T_api_Box} {p1 : T_api_Box} {r0 : Bool} (h : m_geom_both_f2_geom_row_over F p0 p1 = some r0) :
    Pf Tryz.prog 89 [.agg #[.int .i32 p0.X, .int .i32 p0.Y, .int .i32 p0.W, .int .i32 p0.H], .agg #[.int .i32 p1.X, .int .i32 p1.Y, .int .i32 p1.W, .int .i32 p1.H], .func (.func 90) #[] #[]] (fun w => True) (.bool r0) := by
 unfold m_geom_both_f2_geom_row_over at h
 refine pf_of_wc Tryz.func89 rfl Tryz.ntmps89 rfl rfl (fun w0 hR => ?_)
 refine wSR (wl_box rfl rfl rfl (fun b3 => (wl_box rfl rfl rfl (fun b4 => (wP rfl rfl (wNT (wSR (wl_val (v := .agg #[.int .i32 p0.X, .int .i32 p0.Y, .int .i32 p0.W, .int .i32 p0.H]) (val_load tt_ok rfl (mT mH) rfl) rfl ?_))))))))
 replace h := bsome h; obtain ⟨⟨za, zb⟩, x13, h⟩ := h; try dsimp only at h
 refine wl_cq Tryz.call104 rfl rfl rfl (q_pf (k_geom_rows x13) (fun _ _ => trivial)) rfl ?_
 iterate 3 refine wP rfl rfl ?_
 refine wl_alloc tt_ok rfl rfl (fun b7 => ?_)
 refine wl_alloc tt_ok rfl rfl (fun b8 => ?_)
 apply wl_store tt_ok; rfl; exact (Upd.there Upd.here); rfl; rfl; rfl; rfl; rfl; rfl
 apply wl_store tt_ok; rfl; exact Upd.here; rfl; rfl; rfl; rfl; rfl; rfl
 refine wNT (wSR (wl_val (v := .agg #[.int .i32 p1.X, .int .i32 p1.Y, .int .i32 p1.W, .int .i32 p1.H]) (val_load tt_ok rfl (mTT mH) rfl) rfl ?_))
 replace h := bsome h; obtain ⟨⟨zc, zd⟩, x18, h⟩ := h; try dsimp only at h
 refine wl_cq Tryz.call104 rfl rfl rfl (q_pf (k_geom_rows x18) (fun _ _ => trivial)) rfl ?_
 iterate 3 refine wP rfl rfl ?_
 refine wl_alloc tt_ok rfl rfl (fun b9 => ?_)
 refine wl_alloc tt_ok rfl rfl (fun b10 => ?_)
 apply wl_store tt_ok; rfl; exact (Upd.there Upd.here); rfl; rfl; rfl; rfl; rfl; rfl
 apply wl_store tt_ok; rfl; exact Upd.here; rfl; rfl; rfl; rfl; rfl; rfl
 refine wNT (wSR (wP rfl rfl (wl_val (v := .agg #[.int .i64 za.from_, .int .i64 za.to_]) (val_load tt_ok rfl (mTT (mT mH)) rfl) rfl (wl_val (v := .agg #[.int .i64 zc.from_, .int .i64 zc.to_]) (val_load tt_ok rfl (mT mH) rfl) rfl ?_))))
 obtain ⟨v24, x24, h⟩ := bsome h
 refine wl_cq Tryz.call90 rfl rfl rfl (q_pf (k_geom_row_over x24) (fun _ _ => trivial)) rfl ?_
 refine wP rfl rfl ?_
 obtain ⟨v30, h, hg30⟩ := bsome h
 refine wl_split (t := 25) rfl (fun hc => ?_) (fun hc => ?_)
 ·replace h := ct hc h
  refine wl_run rfl (wP rfl rfl (wl_run rfl (wl_val (v := .agg #[.int .i64 zb.from_, .int .i64 zb.to_]) (val_load tt_ok rfl (mTT mH) rfl) rfl (wl_run rfl (wl_val (v := .agg #[.int .i64 zd.from_, .int .i64 zd.to_]) (val_load tt_ok rfl mH rfl) rfl ?_)))))
  obtain ⟨v29, x29, h⟩ := bsome h
  refine wl_run rfl (wl_cq Tryz.call90 rfl rfl rfl (q_pf (k_geom_row_over x29) (fun _ _ => trivial)) rfl ?_)
  obtain rfl := sI h
  have h := hg30; clear hg30
  refine wP (v := .bool v29) rfl rfl (wP rfl rfl (wNT (wc_ret ?_)))
  obtain rfl := sI h
  exact wx_pf tt_ok (.inl rfl) Tryz.results89 (Res.tmp rfl Res.nil) rfl
 replace h := cf hc h
 iterate 4 refine wl_skip rfl rfl ?_
 obtain rfl := sI h
 have h := hg30; clear hg30
 refine wP (v := .bool false) rfl rfl (wP rfl rfl (wNT (wc_ret ?_)))
 obtain rfl := sI h
 exact wx_pf tt_ok (.inl rfl) Tryz.results89 (Res.tmp rfl Res.nil) rfl

theorem k_geom_Over {F : Nat} {p0 : T_api_Box} {p1 : T_api_Box} {r0 : Bool} (h : m_geom_Over F p0 p1 = some r0) :
    Pf Tryz.prog 68 [.agg #[.int .i32 p0.X, .int .i32 p0.Y, .int .i32 p0.W, .int .i32 p0.H], .agg #[.int .i32 p1.X, .int .i32 p1.Y, .int .i32 p1.W, .int .i32 p1.H]] (fun w => True) (.bool r0) := by
 unfold m_geom_Over at h
 refine pf_of_wc Tryz.func68 rfl Tryz.ntmps68 rfl rfl (fun w0 hR => ?_)
 refine wSR (wl_box rfl rfl rfl (fun b2 => (wl_box rfl rfl rfl (fun b3 => (wP rfl rfl (wNT (wSR (wl_val (v := .agg #[.int .i32 p0.X, .int .i32 p0.Y, .int .i32 p0.W, .int .i32 p0.H]) (val_load tt_ok rfl (mT mH) rfl) rfl (wl_val (v := .agg #[.int .i32 p1.X, .int .i32 p1.Y, .int .i32 p1.W, .int .i32 p1.H]) (val_load tt_ok rfl mH rfl) rfl ?_)))))))))
 obtain ⟨v7, x7, h⟩ := bsome h
 refine wl_cq Tryz.call89 rfl rfl rfl (q_pf (k_geom_both_f2_geom_row_over x7) (fun _ _ => trivial)) rfl ?_
 refine wP rfl rfl (wNT (wc_ret ?_))
 obtain rfl := sI h
 exact wx_pf tt_ok (.inl rfl) Tryz.results68 (Res.tmp rfl Res.nil) rfl

theorem k_step_stopped {F : Nat} {p0 : T_api_Player} {r0 : T_api_Player} (h : m_step_stopped F p0 = some r0) :
    Pf Tryz.prog 70 [agP p0] (fun w => True) (agP r0) := by
 unfold m_step_stopped at h
 refine pf_of_wc Tryz.func70 rfl Tryz.ntmps70 rfl rfl (fun w0 hR => ?_)
 refine wSR (wl_box rfl rfl rfl (fun b1 => (wl_alloc tt_ok rfl rfl (fun b2 => (wNT (wSR (wP (v := .pointer (some ⟨b1, 2, none⟩)) rfl rfl ?_)))))))
 apply wl_store tt_ok; rfl; exact (Upd.there Upd.here); rfl; rfl; rfl; rfl; rfl; rfl
 refine wP (v := .pointer (some ⟨b1, 3, none⟩)) rfl rfl ?_
 apply wl_store tt_ok; rfl; exact (Upd.there Upd.here); rfl; rfl; rfl; rfl; rfl; rfl
 refine wNT (wSR (wl_val (v := .agg #[.int .i32 p0.X, .int .i32 p0.Y, .int .i32 (0 : Int), .int .i32 (0 : Int), .int .u8 p0.Health, .int .u8 p0.Cool, .int .u8 p0.Face]) (val_load tt_ok rfl (mT mH) rfl) rfl ?_))
 apply wl_store tt_ok; rfl; exact Upd.here; rfl; rfl; rfl; rfl; rfl; rfl
 refine wNT (wc_ret ?_)
 obtain rfl := sI h
 exact wx_pf tt_ok (.inl rfl) Tryz.results70 (Res.cell rfl mH rfl Res.nil) rfl

theorem k_geom_row_inside {F : Nat} {p0 : T_geom_row} {p1 : T_geom_row} {r0 : Bool} (h : m_geom_row_inside F p0 p1 = some r0) :
    Pf Tryz.prog 105 [.agg #[.int .i64 p0.from_, .int .i64 p0.to_], .agg #[.int .i64 p1.from_, .int .i64 p1.to_]] (fun w => True) (.bool r0) := by
 unfold m_geom_row_inside at h
 refine pf_of_wc Tryz.func105 rfl Tryz.ntmps105 rfl rfl (fun w0 hR => ?_)
 refine wSR (wl_box rfl rfl rfl (fun b2 => (wl_box rfl rfl rfl (fun b3 => (wP rfl rfl (wNT (wSR (wP (v := .pointer (some ⟨b2, 0, none⟩)) rfl rfl (wl_val (v := .int .i64 p0.from_) (val_load tt_ok rfl (mT mH) rfl) rfl (wP (v := .pointer (some ⟨b2, 1, none⟩)) rfl rfl (wl_val (v := .int .i64 p0.to_) (val_load tt_ok rfl (mT mH) rfl) rfl (wP (v := .bool (decide (p0.from_ < p0.to_))) rfl rfl (wP rfl rfl ?_)))))))))))))
 obtain ⟨v16, h, hg16⟩ := bsome h
 refine wl_split (t := 10) rfl (fun hc => ?_) (fun hc => ?_)
 ·replace h := ct hc h
  refine wl_run rfl (wP (v := .pointer (some ⟨b2, 0, none⟩)) rfl rfl (wl_run rfl (wl_val (v := .int .i64 p0.from_) (val_load tt_ok rfl (mT mH) rfl) rfl (wl_run rfl (wP (v := .pointer (some ⟨b3, 0, none⟩)) rfl rfl (wl_run rfl (wl_val (v := .int .i64 p1.from_) (val_load tt_ok rfl mH rfl) rfl (wl_run rfl (wP (v := .bool (decide (p1.from_ ≤ p0.from_))) rfl rfl ?_)))))))))
  obtain rfl := sI h
  have h := hg16; clear hg16
  refine wP (v := .bool (decide (p1.from_ ≤ p0.from_))) rfl rfl (wP rfl rfl ?_)
  obtain ⟨v23, h, hg23⟩ := bsome h
  refine wl_split (t := 17) rfl (fun hc => ?_) (fun hc => ?_)
  ·replace h := ct hc h
   refine wl_run rfl (wP (v := .pointer (some ⟨b2, 1, none⟩)) rfl rfl (wl_run rfl (wl_val (v := .int .i64 p0.to_) (val_load tt_ok rfl (mT mH) rfl) rfl (wl_run rfl (wP (v := .pointer (some ⟨b3, 1, none⟩)) rfl rfl (wl_run rfl (wl_val (v := .int .i64 p1.to_) (val_load tt_ok rfl mH rfl) rfl (wl_run rfl (wP (v := .bool (decide (p0.to_ ≤ p1.to_))) rfl rfl ?_)))))))))
   obtain rfl := sI h
   have h := hg23; clear hg23
   refine wP (v := .bool (decide (p0.to_ ≤ p1.to_))) rfl rfl (wP rfl rfl (wNT (wc_ret ?_)))
   obtain rfl := sI h
   exact wx_pf tt_ok (.inl rfl) Tryz.results105 (Res.tmp rfl Res.nil) rfl
  replace h := cf hc h
  iterate 5 refine wl_skip rfl rfl ?_
  obtain rfl := sI h
  have h := hg23; clear hg23
  refine wP (v := .bool false) rfl rfl (wP rfl rfl (wNT (wc_ret ?_)))
  obtain rfl := sI h
  exact wx_pf tt_ok (.inl rfl) Tryz.results105 (Res.tmp rfl Res.nil) rfl
 replace h := cf hc h
 iterate 5 refine wl_skip rfl rfl ?_
 obtain rfl := sI h
 have h := hg16; clear hg16
 refine wP (v := .bool false) rfl rfl (wP rfl rfl ?_)
 obtain ⟨v23, h, hg23⟩ := bsome h
 replace h := cf rfl h
 iterate 5 refine wl_skip rfl rfl ?_
 obtain rfl := sI h
 have h := hg23; clear hg23
 refine wP (v := .bool false) rfl rfl (wP rfl rfl (wNT (wc_ret ?_)))
 obtain rfl := sI h
 exact wx_pf tt_ok (.inl rfl) Tryz.results105 (Res.tmp rfl Res.nil) rfl

theorem k_geom_both_f2_geom_row_inside {F : Nat} {p0 : T_api_Box} {p1 : T_api_Box} {r0 : Bool} (h : m_geom_both_f2_geom_row_inside F p0 p1 = some r0) :
    Pf Tryz.prog 89 [.agg #[.int .i32 p0.X, .int .i32 p0.Y, .int .i32 p0.W, .int .i32 p0.H], .agg #[.int .i32 p1.X, .int .i32 p1.Y, .int .i32 p1.W, .int .i32 p1.H], .func (.func 105) #[] #[]] (fun w => True) (.bool r0) := by
 unfold m_geom_both_f2_geom_row_inside at h
 refine pf_of_wc Tryz.func89 rfl Tryz.ntmps89 rfl rfl (fun w0 hR => ?_)
 refine wSR (wl_box rfl rfl rfl (fun b3 => (wl_box rfl rfl rfl (fun b4 => (wP rfl rfl (wNT (wSR (wl_val (v := .agg #[.int .i32 p0.X, .int .i32 p0.Y, .int .i32 p0.W, .int .i32 p0.H]) (val_load tt_ok rfl (mT mH) rfl) rfl ?_))))))))
 replace h := bsome h; obtain ⟨⟨za, zb⟩, x13, h⟩ := h; try dsimp only at h
 refine wl_cq Tryz.call104 rfl rfl rfl (q_pf (k_geom_rows x13) (fun _ _ => trivial)) rfl ?_
 iterate 3 refine wP rfl rfl ?_
 refine wl_alloc tt_ok rfl rfl (fun b7 => ?_)
 refine wl_alloc tt_ok rfl rfl (fun b8 => ?_)
 apply wl_store tt_ok; rfl; exact (Upd.there Upd.here); rfl; rfl; rfl; rfl; rfl; rfl
 apply wl_store tt_ok; rfl; exact Upd.here; rfl; rfl; rfl; rfl; rfl; rfl
 refine wNT (wSR (wl_val (v := .agg #[.int .i32 p1.X, .int .i32 p1.Y, .int .i32 p1.W, .int .i32 p1.H]) (val_load tt_ok rfl (mTT mH) rfl) rfl ?_))
 replace h := bsome h; obtain ⟨⟨zc, zd⟩, x18, h⟩ := h; try dsimp only at h
 refine wl_cq Tryz.call104 rfl rfl rfl (q_pf (k_geom_rows x18) (fun _ _ => trivial)) rfl ?_
 iterate 3 refine wP rfl rfl ?_
 refine wl_alloc tt_ok rfl rfl (fun b9 => ?_)
 refine wl_alloc tt_ok rfl rfl (fun b10 => ?_)
 apply wl_store tt_ok; rfl; exact (Upd.there Upd.here); rfl; rfl; rfl; rfl; rfl; rfl
 apply wl_store tt_ok; rfl; exact Upd.here; rfl; rfl; rfl; rfl; rfl; rfl
 refine wNT (wSR (wP rfl rfl (wl_val (v := .agg #[.int .i64 za.from_, .int .i64 za.to_]) (val_load tt_ok rfl (mTT (mT mH)) rfl) rfl (wl_val (v := .agg #[.int .i64 zc.from_, .int .i64 zc.to_]) (val_load tt_ok rfl (mT mH) rfl) rfl ?_))))
 obtain ⟨v24, x24, h⟩ := bsome h
 refine wl_cq Tryz.call105 rfl rfl rfl (q_pf (k_geom_row_inside x24) (fun _ _ => trivial)) rfl ?_
 refine wP rfl rfl ?_
 obtain ⟨v30, h, hg30⟩ := bsome h
 refine wl_split (t := 25) rfl (fun hc => ?_) (fun hc => ?_)
 ·replace h := ct hc h
  refine wl_run rfl (wP rfl rfl (wl_run rfl (wl_val (v := .agg #[.int .i64 zb.from_, .int .i64 zb.to_]) (val_load tt_ok rfl (mTT mH) rfl) rfl (wl_run rfl (wl_val (v := .agg #[.int .i64 zd.from_, .int .i64 zd.to_]) (val_load tt_ok rfl mH rfl) rfl ?_)))))
  obtain ⟨v29, x29, h⟩ := bsome h
  refine wl_run rfl (wl_cq Tryz.call105 rfl rfl rfl (q_pf (k_geom_row_inside x29) (fun _ _ => trivial)) rfl ?_)
  obtain rfl := sI h
  have h := hg30; clear hg30
  refine wP (v := .bool v29) rfl rfl (wP rfl rfl (wNT (wc_ret ?_)))
  obtain rfl := sI h
  exact wx_pf tt_ok (.inl rfl) Tryz.results89 (Res.tmp rfl Res.nil) rfl
 replace h := cf hc h
 iterate 4 refine wl_skip rfl rfl ?_
 obtain rfl := sI h
 have h := hg30; clear hg30
 refine wP (v := .bool false) rfl rfl (wP rfl rfl (wNT (wc_ret ?_)))
 obtain rfl := sI h
 exact wx_pf tt_ok (.inl rfl) Tryz.results89 (Res.tmp rfl Res.nil) rfl

theorem k_geom_Inside {F : Nat} {p0 : T_api_Box} {p1 : T_api_Box} {r0 : Bool} (h : m_geom_Inside F p0 p1 = some r0) :
    Pf Tryz.prog 91 [.agg #[.int .i32 p0.X, .int .i32 p0.Y, .int .i32 p0.W, .int .i32 p0.H], .agg #[.int .i32 p1.X, .int .i32 p1.Y, .int .i32 p1.W, .int .i32 p1.H]] (fun w => True) (.bool r0) := by
 unfold m_geom_Inside at h
 refine pf_of_wc Tryz.func91 rfl Tryz.ntmps91 rfl rfl (fun w0 hR => ?_)
 refine wSR (wl_box rfl rfl rfl (fun b2 => (wl_box rfl rfl rfl (fun b3 => (wP rfl rfl (wNT (wSR (wl_val (v := .agg #[.int .i32 p0.X, .int .i32 p0.Y, .int .i32 p0.W, .int .i32 p0.H]) (val_load tt_ok rfl (mT mH) rfl) rfl (wl_val (v := .agg #[.int .i32 p1.X, .int .i32 p1.Y, .int .i32 p1.W, .int .i32 p1.H]) (val_load tt_ok rfl mH rfl) rfl ?_)))))))))
 obtain ⟨v7, x7, h⟩ := bsome h
 refine wl_cq Tryz.call89 rfl rfl rfl (q_pf (k_geom_both_f2_geom_row_inside x7) (fun _ _ => trivial)) rfl ?_
 refine wP rfl rfl (wNT (wc_ret ?_))
 obtain rfl := sI h
 exact wx_pf tt_ok (.inl rfl) Tryz.results91 (Res.tmp rfl Res.nil) rfl

end Go.Proofs.YtkekgagekgadmaaGreatDoor
