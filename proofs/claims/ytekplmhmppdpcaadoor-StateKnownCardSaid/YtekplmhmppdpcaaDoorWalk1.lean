/-
  Each function computes what its model says. Printed by a program of this claim's own.
-/
import Derived.Test.YtekplmhmppdpcaaDoorTab
import Derived.Test.YtekplmhmppdpcaaDoorMod
import Derived.Test.YtekplmhmppdpcaaDoorEng6
namespace Go.Proofs.YtekplmhmppdpcaaDoor
open Go.Proofs.YtekplmhmppdpcaaDoor.Eng
set_option linter.unusedVariables false
set_option linter.unusedSimpArgs false
set_option maxHeartbeats 4000000
set_option maxRecDepth 20000

theorem k_state_Start {F : Nat} {p0 : Int} {r0 : T_api_State} (h : m_state_Start F p0 = some r0) :
    SpD Tryd.prog 16 [.int .u64 p0] [] (fun w => True) (fun v D => ∃ (r0a0 : Option Addr) (r0n0 r0c0 : Nat) (r0B0 : List Blk), r0n0 = r0.Shots.length ∧ Own 50 6 r0a0 r0n0 r0c0 (flat c_T_api_Shot r0.Shots) r0B0 ∧ v = agS r0 r0a0 r0n0 r0c0 ∧ D = fun F => (r0B0 ++ F)) := by
 unfold m_state_Start at h
 refine sp_of_wc Tryd.func16 rfl Tryd.ntmps16 rfl rfl (fun w0 hR => ?_)
 refine wSR (wl_alloc tt_ok rfl rfl (fun b2 => (wNT (wSR (wP rfl rfl (wP (v := .agg #[.int .u64 (0 : Int), .int .u64 p0, .int .i32 (0 : Int), .int .i32 (0 : Int), .int .i32 (0 : Int), .int .i32 (0 : Int), .int .u8 (0 : Int), .int .u8 (0 : Int), .int .u8 (0 : Int), .int .i32 (0 : Int), .int .i32 (0 : Int), .int .i32 (0 : Int), .int .i32 (0 : Int), .int .u8 (0 : Int), .int .u8 (0 : Int), .int .u8 (0 : Int), .slice none 0 0, .int .u16 (0 : Int), .int .u16 (0 : Int)]) rfl rfl (wl_alloc tt_ok rfl rfl (fun b3 => ?_))))))))
 apply wl_store tt_ok; rfl; exact Upd.here; rfl; rfl; rfl; rfl; rfl; rfl
 refine wNT (wc_seq (wSR (wP rfl rfl (wNT (wc_block ?_)))))
 obtain ⟨zc, h, hl9⟩ := bsome h
 refine wc_loop (fun m E L => ∃ (zb : Int) (za : (T_api_Player × T_api_Player)), m_state_Start_L8 F m zb za = some zc ∧ E = [(2, .pointer (some ⟨b2, 0, none⟩)), (3, .pointer (some ⟨b3, 0, none⟩)), (7, .int .i64 zb)] ∧ L = (⟨b2, [.int .u64 (0 : Int), .int .u64 (0 : Int), .int .i32 (0 : Int), .int .i32 (0 : Int), .int .i32 (0 : Int), .int .i32 (0 : Int), .int .u8 (0 : Int), .int .u8 (0 : Int), .int .u8 (0 : Int), .int .i32 (0 : Int), .int .i32 (0 : Int), .int .i32 (0 : Int), .int .i32 (0 : Int), .int .u8 (0 : Int), .int .u8 (0 : Int), .int .u8 (0 : Int), .slice none 0 0, .int .u16 (0 : Int), .int .u16 (0 : Int)], 30, (0, 0)⟩ :: (⟨b3, (.int .u64 (0 : Int) :: .int .u64 p0 :: pl14 za [.slice none 0 0, .int .u16 (0 : Int), .int .u16 (0 : Int)]), 30, (0, 0)⟩ :: []))) F ⟨(0 : Int), ((T_api_Player.mk (0 : Int) (0 : Int) (0 : Int) (0 : Int) (0 : Int) (0 : Int) (0 : Int)), (T_api_Player.mk (0 : Int) (0 : Int) (0 : Int) (0 : Int) (0 : Int) (0 : Int) (0 : Int))), h, rfl, rfl⟩ (agree_cons rfl (agree_cons rfl (agree_cons rfl agree_nil))) (pSub (pS (pH pNil))) ?_
 clear h
 rintro m9 _ _ ⟨zb, za, h, rfl, rfl⟩
 rcases m9 with _ | m9
 ·rw [m_state_Start_L8.eq_1] at h; cases h
 rw [m_state_Start_L8.eq_2] at h
 refine wSR (wP (v := .bool (decide (zb < (2 : Int)))) rfl rfl (wNT (wc_seq (wc_cond rfl (fun hc => ?_) (fun hc => ?_)))))
 ·replace h := ct hc h
  refine wc_skip (wx_then (wc_seq (wc_block (wSR ?_))))
  iterate 2 refine wP rfl rfl ?_
  refine wNT (wc_region ?_)
  iterate 2 refine wP rfl rfl ?_
  refine wP (v := .int .i32 (IntKind.wrap .i32 zb)) rfl rfl (wP (v := .int .i32 (IntKind.wrap .i32 ((IntKind.wrap .i32 zb) * (45056 : Int)))) rfl rfl (wP (v := .int .i32 (IntKind.wrap .i32 ((8192 : Int) + (IntKind.wrap .i32 ((IntKind.wrap .i32 zb) * (45056 : Int)))))) rfl rfl (wP rfl rfl (wP (v := .int .u8 (IntKind.wrap .u8 zb)) rfl rfl (wP (v := .agg #[.int .i32 (IntKind.wrap .i32 ((8192 : Int) + (IntKind.wrap .i32 ((IntKind.wrap .i32 zb) * (45056 : Int))))), .int .i32 (14336 : Int), .int .i32 (0 : Int), .int .i32 (0 : Int), .int .u8 (100 : Int), .int .u8 (0 : Int), .int .u8 (IntKind.wrap .u8 zb)]) rfl rfl (wP (v := .pointer (some ⟨b3, 2, none⟩)) rfl rfl ?_))))))
  rcases Bool.eq_false_or_eq_true (zb == (0 : Int)) with hx190 | hx190
  ·replace h := ct hx190 h
   refine wl_val (v := .pointer (some ⟨b3, 2, none⟩)) (val_ia (j := 0) tt_ok rfl rfl rfl rfl (by simpa using hx190) rfl rfl) rfl ?_
   apply wl_store tt_ok; rfl; exact (Upd.there Upd.here); rfl; rfl; rfl; rfl; rfl; rfl
   refine wl_nil (wx_block (wx_then (wc_region (wP (v := .int .i64 (IntKind.wrap .i64 (zb + (1 : Int)))) rfl rfl (wP rfl rfl (wl_nil ?_))))))
   exact wx_round m9 (Nat.lt_succ_self m9) ⟨(IntKind.wrap .i64 (zb + (1 : Int))), ((T_api_Player.mk (IntKind.wrap .i32 ((8192 : Int) + (IntKind.wrap .i32 ((IntKind.wrap .i32 zb) * (45056 : Int))))) (14336 : Int) (0 : Int) (0 : Int) (100 : Int) (0 : Int) (IntKind.wrap .u8 zb)), za.2), h, rfl, rfl⟩ (agree_cons rfl (agree_cons rfl (agree_cons rfl agree_nil))) (pSub (pHH pNil))
  replace h := cf hx190 h
  rcases Bool.eq_false_or_eq_true (zb == (1 : Int)) with hx191 | hx191
  ·replace h := ct hx191 h
   refine wl_val (v := .pointer (some ⟨b3, 9, none⟩)) (val_ia (j := 1) tt_ok rfl rfl rfl rfl (by simpa using hx191) rfl rfl) rfl ?_
   apply wl_store tt_ok; rfl; exact (Upd.there Upd.here); rfl; rfl; rfl; rfl; rfl; rfl
   refine wl_nil (wx_block (wx_then (wc_region (wP (v := .int .i64 (IntKind.wrap .i64 (zb + (1 : Int)))) rfl rfl (wP rfl rfl (wl_nil ?_))))))
   exact wx_round m9 (Nat.lt_succ_self m9) ⟨(IntKind.wrap .i64 (zb + (1 : Int))), (za.1, (T_api_Player.mk (IntKind.wrap .i32 ((8192 : Int) + (IntKind.wrap .i32 ((IntKind.wrap .i32 zb) * (45056 : Int))))) (14336 : Int) (0 : Int) (0 : Int) (100 : Int) (0 : Int) (IntKind.wrap .u8 zb))), h, rfl, rfl⟩ (agree_cons rfl (agree_cons rfl (agree_cons rfl agree_nil))) (pSub (pHH pNil))
  replace h := cf hx191 h
  cases h
 replace h := cf hc h
 refine wc_exit (wx_then_exit ?_)
 obtain rfl := sI h
 have h := hl9; clear hl9; try dsimp only [orE_l, orE_r] at h
 refine wx_then_exit (wx_block_exit (wx_then (wSR ?_)))
 refine wl_val (v := .agg #[.int .u64 (0 : Int), .int .u64 p0, .int .i32 za.1.X, .int .i32 za.1.Y, .int .i32 za.1.VX, .int .i32 za.1.VY, .int .u8 za.1.Health, .int .u8 za.1.Cool, .int .u8 za.1.Face, .int .i32 za.2.X, .int .i32 za.2.Y, .int .i32 za.2.VX, .int .i32 za.2.VY, .int .u8 za.2.Health, .int .u8 za.2.Cool, .int .u8 za.2.Face, .slice none 0 0, .int .u16 (0 : Int), .int .u16 (0 : Int)]) (val_load tt_ok rfl (mT mH) rfl) rfl ?_
 apply wl_store tt_ok; rfl; exact Upd.here; rfl; rfl; rfl; rfl; rfl; rfl
 refine wNT (wc_ret ?_)
 obtain rfl := sI h
 exact wx_spD tt_ok (.inl rfl) Tryd.results16 (Res.cell rfl mH rfl Res.nil) ⟨none, 0, 0, [], rfl, Own.zero, rfl, rfl⟩ (fun F => by simp) (pSub (pNo pNil))

theorem k_state_ofPlayer {F : Nat} {p0 : T_api_Player} {r0 : (List Int)} (h : m_state_ofPlayer F p0 = some r0) :
    SpD Tryd.prog 26 [agP p0] [] (fun w => True) (fun v D => ∃ (r0a0 : Option Addr) (r0n0 r0c0 : Nat) (r0B0 : List Blk), r0n0 = r0.length ∧ Own 21 1 r0a0 r0n0 r0c0 (flat (e1 .i32) r0) r0B0 ∧ v = .slice r0a0 r0n0 r0c0 ∧ D = fun F => (r0B0 ++ F)) := by
 unfold m_state_ofPlayer at h
 refine sp_of_wc Tryd.func26 rfl Tryd.ntmps26 rfl rfl (fun w0 hR => ?_)
 refine wSR (wl_box rfl rfl rfl (fun b1 => (wP rfl rfl (wNT (wSR (wP (v := .pointer (some ⟨b1, 0, none⟩)) rfl rfl (wl_val (v := .int .i32 p0.X) (val_load tt_ok rfl mH rfl) rfl (wP (v := .pointer (some ⟨b1, 1, none⟩)) rfl rfl (wl_val (v := .int .i32 p0.Y) (val_load tt_ok rfl mH rfl) rfl (wP (v := .pointer (some ⟨b1, 2, none⟩)) rfl rfl (wl_val (v := .int .i32 p0.VX) (val_load tt_ok rfl mH rfl) rfl (wP (v := .pointer (some ⟨b1, 3, none⟩)) rfl rfl (wl_val (v := .int .i32 p0.VY) (val_load tt_ok rfl mH rfl) rfl (wP (v := .pointer (some ⟨b1, 4, none⟩)) rfl rfl ?_))))))))))))))
 refine wl_val (v := .int .u8 p0.Health) (val_load tt_ok rfl mH rfl) rfl ?_
 refine wP (v := .int .i32 (IntKind.wrap .i32 p0.Health)) rfl rfl (wP (v := .pointer (some ⟨b1, 5, none⟩)) rfl rfl (wl_val (v := .int .u8 p0.Cool) (val_load tt_ok rfl mH rfl) rfl (wP (v := .int .i32 (IntKind.wrap .i32 p0.Cool)) rfl rfl (wP (v := .pointer (some ⟨b1, 6, none⟩)) rfl rfl (wl_val (v := .int .u8 p0.Face) (val_load tt_ok rfl mH rfl) rfl (wP (v := .int .i32 (IntKind.wrap .i32 p0.Face)) rfl rfl (wl_chg (chg_bsv (enc := (e1 .i32)) (xs := ([p0.X, p0.Y, p0.VX, p0.VY, (IntKind.wrap .i32 p0.Health), (IntKind.wrap .i32 p0.Cool), (IntKind.wrap .i32 p0.Face)] : List Int)) tt_ok rfl rfl rfl rfl rfl rfl rfl rfl (e1_len _)) rfl ?_)))))))
 rintro _ _ ⟨a20, n20_, c20, B20, rfl, N20, V20, rfl⟩
 refine wP rfl rfl (wNT (wc_ret ?_))
 obtain rfl := sI h
 exact wx_spD tt_ok (.inl rfl) Tryd.results26 (Res.tmp rfl Res.nil) ⟨a20, n20_, c20, B20, N20, V20, rfl, rfl⟩ (fun F => by simp) (pSub (pA pNil))

theorem k_state_within {F : Nat} {p0 : (List Int)} {p0a0 : Option Addr} {p0n0 p0c0 : Nat} {p1 : (List (Int × Int))} {p1a0 : Option Addr} {p1n0 p1c0 : Nat} {r0 : Bool} (p0N0 : p0n0 = p0.length) (p0H0 : p0n0 ≤ p0c0) (p1N0 : p1n0 = p1.length) (p1H0 : p1n0 ≤ p1c0) (h : m_state_within F p0 p1 = some r0) :
    Pf Tryd.prog 25 [.slice p0a0 p0n0 p0c0, .slice p1a0 p1n0 p1c0] (fun w => Rds w [] [] p0a0 (flat (e1 .i32) p0) ∧ Rds w [] [] p1a0 (flat (e2 .i32) p1)) (.bool r0) := by
 unfold m_state_within at h
 refine pf_of_wc Tryd.func25 rfl Tryd.ntmps25 rfl rfl (fun w0 hR => ?_)
 obtain ⟨p0S0, p1S0⟩ := hR
 refine wSR (wP rfl rfl (wNT (wc_seq (wSR (wP rfl rfl (wl_val (v := .int .i64 (p0.length : Int)) (val_len tt_ok rfl rfl p0N0) rfl (wP rfl rfl (wNT (wc_block ?_)))))))))
 obtain ⟨o7, h, hl7⟩ := bsome h
 refine wc_loop (fun m E L => ∃ (za : Int), m_state_within_L6 F p0 p1 m za = some o7 ∧ E = [(0, .slice p0a0 p0n0 p0c0), (1, .slice p1a0 p1n0 p1c0), (4, .bool false), (7, .int .i64 (p0.length : Int)), (8, .int .i64 za)] ∧ L = []) F ⟨(0 : Int), h, rfl, rfl⟩ (agree_cons rfl (agree_cons rfl (agree_cons rfl (agree_cons rfl (agree_cons rfl agree_nil))))) (pSub pNil) ?_
 clear h
 rintro m7 _ _ ⟨za, h, rfl, rfl⟩
 rcases m7 with _ | m7
 ·rw [m_state_within_L6.eq_1] at h; cases h
 rw [m_state_within_L6.eq_2] at h
 refine wSR (wP (v := .bool (decide (za < (p0.length : Int)))) rfl rfl (wNT (wc_seq (wc_cond rfl (fun hc => ?_) (fun hc => ?_)))))
 ·replace h := ct hc h
  refine wc_skip (wx_then (wc_seq (wc_block (wSR ?_))))
  iterate 2 refine wP rfl rfl ?_
  refine wNT (wc_seq (wc_quiet (by kernel_rfl) (by kernel_rfl) ?_))
  iterate 2 refine qP rfl rfl ?_
  obtain ⟨v13, x13, h⟩ := bsome h
  refine wq_val (v := .pointer (some ((adOf p0a0).add (za.toNat * 1 + 0)))) (val_ix (enc := (e1 .i32)) tt_ok rfl rfl rfl rfl p0N0 p0S0 (e1_len _) rfl x13) rfl ?_
  refine wq_val (v := .int .i32 v13) (val_le (enc := (e1 .i32)) (xs := p0) tt_ok rfl p0S0 rsub_nil (e1_len _) x13 rfl) rfl ?_
  iterate 2 refine qP rfl rfl ?_
  obtain ⟨v17, x17, h⟩ := bsome h
  refine wq_val (v := .pointer (some ((adOf p1a0).add (za.toNat * 2 + 0)))) (val_ix (enc := (e2 .i32)) tt_ok rfl rfl rfl rfl p1N0 p1S0 (e2_len _) rfl x17) rfl ?_
  refine wq_val (v := .pointer (some ((adOf p1a0).add (za.toNat * 2 + 0)))) (val_fia (j := 0) tt_ok rfl rfl rfl rfl rfl rfl rfl) rfl ?_
  refine wq_val (v := .int .i32 v17.1) (val_le (enc := (e2 .i32)) (xs := p1) tt_ok rfl p1S0 rsub_nil (e2_len _) x17 rfl) rfl ?_
  refine qP (v := .bool (decide (v13 < v17.1))) rfl rfl (qP rfl rfl ?_)
  obtain ⟨v32, h, hg32⟩ := bsome h
  refine wq_split (t := 21) rfl (fun hc => ?_) (fun hc => ?_)
  ·replace h := ct hc h
   refine wq_skip rfl rfl (wq_skip rfl rfl (wq_skip rfl rfl (wq_skip rfl rfl (wq_skip rfl rfl (wq_skip rfl rfl (wq_skip rfl rfl (wq_skip rfl rfl (wq_skip rfl rfl (wq_skip rfl rfl ?_)))))))))
   obtain rfl := sI h
   have h := hg32; clear hg32
   refine qP (v := .bool true) rfl rfl (wq_nil (wx_then ?_))
   replace h := ct rfl h
   refine wc_cond_true rfl ?_
   refine wSR (wP rfl rfl (wNT (wc_ret (wx_block_ret (wx_then_ret ?_)))))
   obtain rfl := Option.some.inj h
   have h := hl7; clear hl7; try dsimp only [orE_l, orE_r] at h
   refine wx_then_ret (wx_block_ret (wx_then_ret ?_))
   obtain rfl := sI h
   exact wx_pf tt_ok (.inl rfl) Tryd.results25 (Res.tmp rfl Res.nil) rfl
  replace h := cf hc h
  refine wq_run rfl (qP rfl rfl (wq_run rfl (qP rfl rfl ?_)))
  obtain ⟨v24, x24, h⟩ := bsome h
  refine wq_run rfl (wq_val (v := .pointer (some ((adOf p0a0).add (za.toNat * 1 + 0)))) (val_ix (enc := (e1 .i32)) tt_ok rfl rfl rfl rfl p0N0 p0S0 (e1_len _) rfl x24) rfl (wq_run rfl (wq_val (v := .int .i32 v24) (val_le (enc := (e1 .i32)) (xs := p0) tt_ok rfl p0S0 rsub_nil (e1_len _) x24 rfl) rfl (wq_run rfl (qP rfl rfl (wq_run rfl (qP rfl rfl ?_)))))))
  obtain ⟨v28, x28, h⟩ := bsome h
  refine wq_run rfl (wq_val (v := .pointer (some ((adOf p1a0).add (za.toNat * 2 + 0)))) (val_ix (enc := (e2 .i32)) tt_ok rfl rfl rfl rfl p1N0 p1S0 (e2_len _) rfl x28) rfl (wq_run rfl (wq_val (v := .pointer (some ((adOf p1a0).add (za.toNat * 2 + 1)))) (val_fia (j := 1) tt_ok rfl rfl rfl rfl rfl rfl rfl) rfl (wq_run rfl (wq_val (v := .int .i32 v28.2) (val_le (enc := (e2 .i32)) (xs := p1) tt_ok rfl p1S0 rsub_nil (e2_len _) x28 rfl) rfl (wq_run rfl (qP (v := .bool (decide (v28.2 < v24))) rfl rfl ?_)))))))
  obtain rfl := sI h
  have h := hg32; clear hg32
  refine qP (v := .bool (decide (v28.2 < v24))) rfl rfl (wq_nil (wx_then (wc_cond rfl (fun hc => ?_) (fun hc => ?_))))
  ·replace h := ct hc h
   refine wSR (wP rfl rfl (wNT (wc_ret (wx_block_ret (wx_then_ret ?_)))))
   obtain rfl := Option.some.inj h
   have h := hl7; clear hl7; try dsimp only [orE_l, orE_r] at h
   refine wx_then_ret (wx_block_ret (wx_then_ret ?_))
   obtain rfl := sI h
   exact wx_pf tt_ok (.inl rfl) Tryd.results25 (Res.tmp rfl Res.nil) rfl
  replace h := cf hc h
  refine wc_skip (wx_block (wx_then (wc_region (wP (v := .int .i64 (IntKind.wrap .i64 (za + (1 : Int)))) rfl rfl (wP rfl rfl (wl_nil ?_))))))
  exact wx_round m7 (Nat.lt_succ_self m7) ⟨(IntKind.wrap .i64 (za + (1 : Int))), h, rfl, rfl⟩ (agree_cons rfl (agree_cons rfl (agree_cons rfl (agree_cons rfl (agree_cons rfl agree_nil))))) (pSub pNil)
 replace h := cf hc h
 refine wc_exit (wx_then_exit ?_)
 obtain rfl := Option.some.inj h
 have h := hl7; clear hl7; try dsimp only [orE_l, orE_r] at h
 refine wx_then_exit (wx_block_exit (wx_then (wSR ?_)))
 refine wP rfl rfl (wNT (wc_ret ?_))
 obtain rfl := sI h
 exact wx_pf tt_ok (.inl rfl) Tryd.results25 (Res.tmp rfl Res.nil) rfl

theorem k_state_ofShot {F : Nat} {p0 : T_api_Shot} {r0 : (List Int)} (h : m_state_ofShot F p0 = some r0) :
    SpD Tryd.prog 29 [.agg #[.int .i32 p0.X, .int .i32 p0.Y, .int .i32 p0.VX, .int .i32 p0.VY, .int .u8 p0.Owner, .int .u8 p0.Life]] [] (fun w => True) (fun v D => ∃ (r0a0 : Option Addr) (r0n0 r0c0 : Nat) (r0B0 : List Blk), r0n0 = r0.length ∧ Own 21 1 r0a0 r0n0 r0c0 (flat (e1 .i32) r0) r0B0 ∧ v = .slice r0a0 r0n0 r0c0 ∧ D = fun F => (r0B0 ++ F)) := by
 unfold m_state_ofShot at h
 refine sp_of_wc Tryd.func29 rfl Tryd.ntmps29 rfl rfl (fun w0 hR => ?_)
 refine wSR (wl_box rfl rfl rfl (fun b1 => (wP rfl rfl (wNT (wSR (wP (v := .pointer (some ⟨b1, 0, none⟩)) rfl rfl (wl_val (v := .int .i32 p0.X) (val_load tt_ok rfl mH rfl) rfl (wP (v := .pointer (some ⟨b1, 1, none⟩)) rfl rfl (wl_val (v := .int .i32 p0.Y) (val_load tt_ok rfl mH rfl) rfl (wP (v := .pointer (some ⟨b1, 2, none⟩)) rfl rfl (wl_val (v := .int .i32 p0.VX) (val_load tt_ok rfl mH rfl) rfl (wP (v := .pointer (some ⟨b1, 3, none⟩)) rfl rfl (wl_val (v := .int .i32 p0.VY) (val_load tt_ok rfl mH rfl) rfl (wP (v := .pointer (some ⟨b1, 4, none⟩)) rfl rfl ?_))))))))))))))
 refine wl_val (v := .int .u8 p0.Owner) (val_load tt_ok rfl mH rfl) rfl ?_
 refine wP (v := .int .i32 (IntKind.wrap .i32 p0.Owner)) rfl rfl (wP (v := .pointer (some ⟨b1, 5, none⟩)) rfl rfl (wl_val (v := .int .u8 p0.Life) (val_load tt_ok rfl mH rfl) rfl (wP (v := .int .i32 (IntKind.wrap .i32 p0.Life)) rfl rfl (wl_chg (chg_bsv (enc := (e1 .i32)) (xs := ([p0.X, p0.Y, p0.VX, p0.VY, (IntKind.wrap .i32 p0.Owner), (IntKind.wrap .i32 p0.Life)] : List Int)) tt_ok rfl rfl rfl rfl rfl rfl rfl rfl (e1_len _)) rfl ?_))))
 rintro _ _ ⟨a17, n17_, c17, B17, rfl, N17, V17, rfl⟩
 refine wP rfl rfl (wNT (wc_ret ?_))
 obtain rfl := sI h
 exact wx_spD tt_ok (.inl rfl) Tryd.results29 (Res.tmp rfl Res.nil) ⟨a17, n17_, c17, B17, N17, V17, rfl, rfl⟩ (fun F => by simp) (pSub (pA pNil))

theorem k_state_Check_1 {F : Nat} {p0 : T_api_Shot} {p1 : (Arr (Int × Int) 6)} {p1b p1t : Nat} {r0 : Bool} (h : m_state_Check_1 F p0 p1 = some r0) :
    Rd2 Tryd.prog 28 [.agg #[.int .i32 p0.X, .int .i32 p0.Y, .int .i32 p0.VX, .int .i32 p0.VY, .int .u8 p0.Owner, .int .u8 p0.Life], .pointer (some ⟨p1b, 0, none⟩)] (⟨p1b, flat (e2 .i32) p1.1, p1t, (0, 0)⟩ :: []) (fun w => True) (.bool r0) := by
 unfold m_state_Check_1 at h
 refine sp_of_wc Tryd.func28 rfl Tryd.ntmps28 rfl rfl (fun w0 hR => ?_)
 refine wSR (wl_box rfl rfl rfl (fun b2 => (wP rfl rfl (wNT (wc_seq (wc_k2 (Ls := (⟨b2, [.int .i32 p0.X, .int .i32 p0.Y, .int .i32 p0.VX, .int .i32 p0.VY, .int .u8 p0.Owner, .int .u8 p0.Life], 50, (0, 0)⟩ :: (⟨p1b, flat (e2 .i32) p1.1, p1t, (0, 0)⟩ :: []))) [1, 3, 4, 5] [3, 4, 5] [0, 1, 0, 7, 15, 31] [0, 2, 1, 3, 4, 5] (by kernel_rfl) (by kernel_rfl) (by kernel_rfl) (k_val (v := .agg #[.int .i32 p0.X, .int .i32 p0.Y, .int .i32 p0.VX, .int .i32 p0.VY, .int .u8 p0.Owner, .int .u8 p0.Life]) rfl rfl rfl (pSub (pHH pNil)) (val_load tt_ok rfl mH rfl) rfl (k_val (v := .slice (some ⟨p1b, 0, none⟩) 6 6) rfl rfl rfl (pSub (pHH pNil)) (val_sla tt_ok rfl rfl rfl rfl) rfl ?_))))))))
 obtain ⟨v5, x5, h⟩ := bsome h
 refine k_cs rfl rfl rfl Tryd.call29 rfl rfl rfl (s_sp (k_state_ofShot x5) pNil (fun _ _ => trivial)) rfl (.inr (by rintro _ _ ⟨_, ⟨_, _, _, _, _, _, rfl, rfl⟩, rfl⟩; exact ⟨_, (pCons (sA hC) (pCons (sA hC) pNil))⟩)) ?_
 rintro _ _ ⟨_, ⟨v5a0, v5n0, v5c0, v5B0, v5N0, v5V0, rfl, rfl⟩, rfl⟩
 obtain ⟨v7, x7, h⟩ := bsome h
 refine k_cq rfl rfl rfl Tryd.call25 rfl rfl rfl (q_pf (k_state_within (p0 := v5) (p1 := p1.1) v5N0 (vec_cap v5V0) (p1.2).symm (Nat.le_refl _) x7) (fun w hI => ⟨(Rds.call (Rds.of_vec v5V0) pNil ⟨_, hA'⟩) w hI, (Rds.call (Rds.of_blk (t := p1t) (fz := (0, 0))) pNil ⟨_, (sAC hC)⟩) w hI⟩)) rfl (pSub (pCons (sA hC) (pCons (sA hC) pNil))) ?_
 refine k_chg rfl rfl rfl (Chg.of_val (v := .bool (!v7)) (sV rfl)) rfl (.inl rfl) ?_
 rintro _ _ ⟨rfl, rfl⟩
 refine k_chg rfl rfl rfl (Chg.of_val (sV rfl)) rfl (.inl rfl) ?_
 rintro _ _ ⟨rfl, rfl⟩
 refine k_end (by kernel_rfl) ?_
 refine wx_then (wc_ret ?_)
 obtain rfl := sI h
 exact wx_rd tt_ok (.inl rfl) Tryd.results28 (Res.tmp rfl Res.nil) (pSub (pCons (sAC hC) pNil)) rfl

theorem k_slices_IndexFunc___api_Shot_api_Shot_f1_state_Check_1 {F : Nat} {p0 : (List T_api_Shot)} {p0a0 : Option Addr} {p0n0 p0c0 : Nat} {p1c0 : (Arr (Int × Int) 6)} {p1c0b p1c0t : Nat} {r0 : Int} (p0N0 : p0n0 = p0.length) (p0H0 : p0n0 ≤ p0c0) (h : m_slices_IndexFunc___api_Shot_api_Shot_f1_state_Check_1 F p0 p1c0 = some r0) :
    Rd2 Tryd.prog 57 [.slice p0a0 p0n0 p0c0, .func (.func 28) #[] #[.pointer (some ⟨p1c0b, 0, none⟩)]] (⟨p1c0b, flat (e2 .i32) p1c0.1, p1c0t, (0, 0)⟩ :: []) (fun w => Rds w (ids (⟨p1c0b, flat (e2 .i32) p1c0.1, p1c0t, (0, 0)⟩ :: [])) [] p0a0 (flat c_T_api_Shot p0)) (.int .i64 r0) := by
 unfold m_slices_IndexFunc___api_Shot_api_Shot_f1_state_Check_1 at h
 refine sp_of_wc Tryd.func57 rfl Tryd.ntmps57 rfl rfl (fun w0 hR => ?_)
 have p0S0 := hR
 refine wSR (wP rfl rfl (wNT (wc_seq (wSR (wP rfl rfl (wl_val (v := .int .i64 (p0.length : Int)) (val_len tt_ok rfl rfl p0N0) rfl (wP rfl rfl (wNT (wc_block ?_)))))))))
 obtain ⟨o7, h, hl7⟩ := bsome h
 refine wc_loop (fun m E L => ∃ (za : Int), m_slices_IndexFunc___api_Shot_api_Shot_f1_state_Check_1_L6 F p0 p1c0 m za = some o7 ∧ E = [(0, .slice p0a0 p0n0 p0c0), (1, .func (.func 28) #[] #[.pointer (some ⟨p1c0b, 0, none⟩)]), (4, .int .i64 (0 : Int)), (7, .int .i64 (p0.length : Int)), (8, .int .i64 za)] ∧ L = (⟨p1c0b, flat (e2 .i32) p1c0.1, p1c0t, (0, 0)⟩ :: [])) F ⟨(0 : Int), h, rfl, rfl⟩ (agree_cons rfl (agree_cons rfl (agree_cons rfl (agree_cons rfl (agree_cons rfl agree_nil))))) (pSub (pH pNil)) ?_
 clear h
 rintro m7 _ _ ⟨za, h, rfl, rfl⟩
 rcases m7 with _ | m7
 ·rw [m_slices_IndexFunc___api_Shot_api_Shot_f1_state_Check_1_L6.eq_1] at h; cases h
 rw [m_slices_IndexFunc___api_Shot_api_Shot_f1_state_Check_1_L6.eq_2] at h
 refine wSR (wP (v := .bool (decide (za < (p0.length : Int)))) rfl rfl (wNT (wc_seq (wc_cond rfl (fun hc => ?_) (fun hc => ?_)))))
 ·replace h := ct hc h
  refine wc_skip (wx_then (wc_seq (wc_block (wSR ?_))))
  iterate 2 refine wP rfl rfl ?_
  refine wNT (wSR ?_)
  iterate 3 refine wP rfl rfl ?_
  obtain ⟨v14, x14, h⟩ := bsome h
  refine wl_val (v := .pointer (some ((adOf p0a0).add (za.toNat * 6 + 0)))) (val_ix (enc := c_T_api_Shot) tt_ok rfl rfl rfl rfl p0N0 p0S0 c_T_api_Shot_len rfl x14) rfl ?_
  refine wl_val (v := .agg #[.int .i32 v14.X, .int .i32 v14.Y, .int .i32 v14.VX, .int .i32 v14.VY, .int .u8 v14.Owner, .int .u8 v14.Life]) (val_le (enc := c_T_api_Shot) (xs := p0) tt_ok rfl p0S0 rsub_nil c_T_api_Shot_len x14 rfl) rfl ?_
  obtain ⟨v16, x16, h⟩ := bsome h
  refine wl_cq Tryd.call28 rfl rfl rfl (q_rd (k_state_Check_1 x16) (pH pNil) (fun _ _ => trivial)) rfl ?_
  refine wNT (wc_cond rfl (fun hc => ?_) (fun hc => ?_))
  ·replace h := ct hc h
   refine wSR ?_
   iterate 2 refine wP rfl rfl ?_
   refine wNT (wc_ret (wx_block_ret (wx_then_ret ?_)))
   obtain rfl := Option.some.inj h
   have h := hl7; clear hl7; try dsimp only [orE_l, orE_r] at h
   refine wx_then_ret (wx_block_ret (wx_then_ret ?_))
   obtain rfl := sI h
   exact wx_rd tt_ok (.inl rfl) Tryd.results57 (Res.tmp rfl Res.nil) (pSub (pH pNil)) rfl
  replace h := cf hc h
  refine wc_skip (wx_block (wx_then (wc_region (wP (v := .int .i64 (IntKind.wrap .i64 (za + (1 : Int)))) rfl rfl (wP rfl rfl (wl_nil ?_))))))
  exact wx_round m7 (Nat.lt_succ_self m7) ⟨(IntKind.wrap .i64 (za + (1 : Int))), h, rfl, rfl⟩ (agree_cons rfl (agree_cons rfl (agree_cons rfl (agree_cons rfl (agree_cons rfl agree_nil))))) (pSub (pH pNil))
 replace h := cf hc h
 refine wc_exit (wx_then_exit ?_)
 obtain rfl := Option.some.inj h
 have h := hl7; clear hl7; try dsimp only [orE_l, orE_r] at h
 refine wx_then_exit (wx_block_exit (wx_then (wSR ?_)))
 refine wP rfl rfl (wNT (wc_ret ?_))
 obtain rfl := sI h
 exact wx_rd tt_ok (.inl rfl) Tryd.results57 (Res.tmp rfl Res.nil) (pSub (pH pNil)) rfl

theorem k_slices_ContainsFunc___api_Shot_api_Shot_f1_state_Check_1 {F : Nat} {p0 : (List T_api_Shot)} {p0a0 : Option Addr} {p0n0 p0c0 : Nat} {p1c0 : (Arr (Int × Int) 6)} {p1c0b p1c0t : Nat} {r0 : Bool} (p0N0 : p0n0 = p0.length) (p0H0 : p0n0 ≤ p0c0) (h : m_slices_ContainsFunc___api_Shot_api_Shot_f1_state_Check_1 F p0 p1c0 = some r0) :
    Rd2 Tryd.prog 27 [.slice p0a0 p0n0 p0c0, .func (.func 28) #[] #[.pointer (some ⟨p1c0b, 0, none⟩)]] (⟨p1c0b, flat (e2 .i32) p1c0.1, p1c0t, (0, 0)⟩ :: []) (fun w => Rds w (ids (⟨p1c0b, flat (e2 .i32) p1c0.1, p1c0t, (0, 0)⟩ :: [])) [] p0a0 (flat c_T_api_Shot p0)) (.bool r0) := by
 unfold m_slices_ContainsFunc___api_Shot_api_Shot_f1_state_Check_1 at h
 refine sp_of_wc Tryd.func27 rfl Tryd.ntmps27 rfl rfl (fun w0 hR => ?_)
 have p0S0 := hR
 refine wSR (wP rfl rfl (wNT (wSR ?_)))
 iterate 2 refine wP rfl rfl ?_
 obtain ⟨v7, x7, h⟩ := bsome h
 refine wl_cq Tryd.call57 rfl rfl rfl (q_rd (k_slices_IndexFunc___api_Shot_api_Shot_f1_state_Check_1 (p0 := p0) p0N0 p0H0 x7) (pH pNil) (Rds.call p0S0 (pH pNil) rsub_nil)) rfl ?_
 refine wP (v := .bool (decide ((0 : Int) ≤ v7))) rfl rfl (wP rfl rfl (wNT (wc_ret ?_)))
 obtain rfl := sI h
 exact wx_rd tt_ok (.inl rfl) Tryd.results27 (Res.tmp rfl Res.nil) (pSub (pH pNil)) rfl

theorem k_state_Check {F : Nat} {p0 : T_api_State} {p0a0 : Option Addr} {p0n0 p0c0 : Nat} {r0 : Int} (p0N0 : p0n0 = p0.Shots.length) (p0H0 : p0n0 ≤ p0c0) (h : m_state_Check F p0 = some r0) :
    Pf Tryd.prog 11 [agS p0 p0a0 p0n0 p0c0] (fun w => Rds w [] [] p0a0 (flat c_T_api_Shot p0.Shots) ∧ Rds w [] [] (some ⟨0, 0, none⟩) (flat (fun _ : Unit => gl_state_playerBounds) [()]) ∧ Rds w [] [] (some ⟨1, 0, none⟩) (flat (fun _ : Unit => gl_state_shotBounds) [()])) (.int .i64 r0) := by
 unfold m_state_Check at h
 refine pf_of_wc Tryd.func11 rfl Tryd.ntmps11 rfl rfl (fun w0 hR => ?_)
 obtain ⟨p0S0, G0S, G1S⟩ := hR
 refine wSR (wl_box rfl rfl rfl (fun b1 => (wP rfl rfl (wNT (wSR (wl_val (v := .agg #[.int .i32 (0 : Int), .int .i32 (61440 : Int), .int .i32 (0 : Int), .int .i32 (28672 : Int), .int .i32 ((-1024) : Int), .int .i32 (1024 : Int), .int .i32 ((-1024) : Int), .int .i32 (1024 : Int), .int .i32 (1 : Int), .int .i32 (100 : Int), .int .i32 (0 : Int), .int .i32 (30 : Int), .int .i32 (0 : Int), .int .i32 (3 : Int)]) (val_le (enc := fun _ : Unit => gl_state_playerBounds) (xs := [()]) (v := 0) (o := 0) (size := 14) tt_ok rfl G0S rsub_nil (fun _ => rfl) rfl rfl) rfl (wl_val (v := .agg #[.int .i32 (0 : Int), .int .i32 (65024 : Int), .int .i32 (0 : Int), .int .i32 (32256 : Int), .int .i32 ((-2048) : Int), .int .i32 (2048 : Int), .int .i32 ((-2048) : Int), .int .i32 (2048 : Int), .int .i32 (0 : Int), .int .i32 (1 : Int), .int .i32 (1 : Int), .int .i32 (40 : Int)]) (val_le (enc := fun _ : Unit => gl_state_shotBounds) (xs := [()]) (v := 0) (o := 0) (size := 12) tt_ok rfl G1S rsub_nil (fun _ => rfl) rfl rfl) rfl ?_)))))))
 refine wl_alloc tt_ok rfl rfl (fun b3 => ?_)
 refine wl_alloc tt_ok rfl rfl (fun b4 => ?_)
 apply wl_store tt_ok; rfl; exact (Upd.there Upd.here); rfl; rfl; rfl; rfl; rfl; rfl
 apply wl_store tt_ok; rfl; exact Upd.here; rfl; rfl; rfl; rfl; rfl; rfl
 refine wNT (wSR (wP (v := .pointer (some ⟨b1, 16, none⟩)) rfl rfl (wl_val (v := .slice p0a0 p0n0 p0c0) (val_load tt_ok rfl (mTT mH) rfl) rfl (wl_val (v := .int .i64 (p0.Shots.length : Int)) (val_len tt_ok rfl rfl p0N0) rfl (wP (v := .bool (decide ((p0.Shots.length : Int) ≤ (8 : Int)))) rfl rfl (wP rfl rfl (wNT (wc_seq (wSR (wP (v := .pointer (some ⟨b1, 2, none⟩)) rfl rfl (wl_val (v := .agg #[.int .i32 p0.Players.1.X, .int .i32 p0.Players.1.Y, .int .i32 p0.Players.1.VX, .int .i32 p0.Players.1.VY, .int .u8 p0.Players.1.Health, .int .u8 p0.Players.1.Cool, .int .u8 p0.Players.1.Face, .int .i32 p0.Players.2.X, .int .i32 p0.Players.2.Y, .int .i32 p0.Players.2.VX, .int .i32 p0.Players.2.VY, .int .u8 p0.Players.2.Health, .int .u8 p0.Players.2.Cool, .int .u8 p0.Players.2.Face]) (val_load tt_ok rfl (mTT mH) rfl) rfl ?_)))))))))))
 refine wP rfl rfl (wNT (wc_block ?_))
 obtain ⟨zc, h, hl11⟩ := bsome h
 refine wc_loop (fun m E L => ∃ (zb : Bool) (za : Int), m_state_Check_L10 F p0 m zb za = some zc ∧ E = [(1, .pointer (some ⟨b1, 0, none⟩)), (2, .int .i64 (0 : Int)), (3, .pointer (some ⟨b3, 0, none⟩)), (4, .pointer (some ⟨b4, 0, none⟩)), (5, .bool zb), (15, .agg #[.int .i32 p0.Players.1.X, .int .i32 p0.Players.1.Y, .int .i32 p0.Players.1.VX, .int .i32 p0.Players.1.VY, .int .u8 p0.Players.1.Health, .int .u8 p0.Players.1.Cool, .int .u8 p0.Players.1.Face, .int .i32 p0.Players.2.X, .int .i32 p0.Players.2.Y, .int .i32 p0.Players.2.VX, .int .i32 p0.Players.2.VY, .int .u8 p0.Players.2.Health, .int .u8 p0.Players.2.Cool, .int .u8 p0.Players.2.Face]), (16, .int .i64 za)] ∧ L = (⟨b1, (st19 p0 p0a0 p0n0 p0c0 []), 30, (0, 0)⟩ :: (⟨b3, [.int .i32 (0 : Int), .int .i32 (61440 : Int), .int .i32 (0 : Int), .int .i32 (28672 : Int), .int .i32 ((-1024) : Int), .int .i32 (1024 : Int), .int .i32 ((-1024) : Int), .int .i32 (1024 : Int), .int .i32 (1 : Int), .int .i32 (100 : Int), .int .i32 (0 : Int), .int .i32 (30 : Int), .int .i32 (0 : Int), .int .i32 (3 : Int)], 52, (0, 0)⟩ :: (⟨b4, [.int .i32 (0 : Int), .int .i32 (65024 : Int), .int .i32 (0 : Int), .int .i32 (32256 : Int), .int .i32 ((-2048) : Int), .int .i32 (2048 : Int), .int .i32 ((-2048) : Int), .int .i32 (2048 : Int), .int .i32 (0 : Int), .int .i32 (1 : Int), .int .i32 (1 : Int), .int .i32 (40 : Int)], 53, (0, 0)⟩ :: [])))) F ⟨(decide ((p0.Shots.length : Int) ≤ (8 : Int))), (0 : Int), h, rfl, rfl⟩ (agree_cons rfl (agree_cons rfl (agree_cons rfl (agree_cons rfl (agree_cons rfl (agree_cons rfl (agree_cons rfl agree_nil))))))) (pSub (pCons (sCC hC) (pS (pH pNil)))) ?_
 clear h
 rintro m11 _ _ ⟨zb, za, h, rfl, rfl⟩
 rcases m11 with _ | m11
 ·rw [m_state_Check_L10.eq_1] at h; cases h
 rw [m_state_Check_L10.eq_2] at h
 refine wSR (wP (v := .bool (decide (za < (2 : Int)))) rfl rfl (wNT (wc_seq (wc_cond rfl (fun hc => ?_) (fun hc => ?_)))))
 ·replace h := ct hc h
  refine wc_skip (wx_then (wc_seq (wc_block (wSR ?_))))
  rcases Bool.eq_false_or_eq_true (za == (0 : Int)) with hx180 | hx180
  ·replace h := ct hx180 h
   refine wl_val (v := agP p0.Players.1) (val_iv (j := 0) tt_ok rfl rfl rfl rfl (by simpa using hx180) rfl rfl) rfl ?_
   refine wl_alloc tt_ok rfl rfl (fun b7 => ?_)
   apply wl_store tt_ok; rfl; exact Upd.here; rfl; rfl; rfl; rfl; rfl; rfl
   refine wNT (wc_k2 (Ls := (⟨b7, (pl7 p0.Players.1 []), 24, (0, 0)⟩ :: (⟨b1, (st19 p0 p0a0 p0n0 p0c0 []), 30, (0, 0)⟩ :: (⟨b3, [.int .i32 (0 : Int), .int .i32 (61440 : Int), .int .i32 (0 : Int), .int .i32 (28672 : Int), .int .i32 ((-1024) : Int), .int .i32 (1024 : Int), .int .i32 ((-1024) : Int), .int .i32 (1024 : Int), .int .i32 (1 : Int), .int .i32 (100 : Int), .int .i32 (0 : Int), .int .i32 (30 : Int), .int .i32 (0 : Int), .int .i32 (3 : Int)], 52, (0, 0)⟩ :: (⟨b4, [.int .i32 (0 : Int), .int .i32 (65024 : Int), .int .i32 (0 : Int), .int .i32 (32256 : Int), .int .i32 ((-2048) : Int), .int .i32 (2048 : Int), .int .i32 ((-2048) : Int), .int .i32 (2048 : Int), .int .i32 (0 : Int), .int .i32 (1 : Int), .int .i32 (1 : Int), .int .i32 (40 : Int)], 53, (0, 0)⟩ :: []))))) [3, 5] [] [0, 1, 3, 7, 3, 31, 63, 127] [0, 1, 2, 4, 3, 5, 6, 7] (by kernel_rfl) (by kernel_rfl) (by kernel_rfl) ?_)
   iterate 2 refine k_val rfl rfl rfl (pSub (pH4 pNil)) (sV rfl) rfl ?_
   obtain ⟨v25, h, hg25⟩ := bsome h
   refine k_split (t := 20) rfl (fun hc => ?_) (fun hc => ?_)
   ·replace h := ct hc h
    refine k_val (v := agP p0.Players.1) rfl rfl rfl (pSub (pH4 pNil)) (val_load tt_ok rfl mH rfl) rfl (k_val (v := .slice (some ⟨b3, 0, none⟩) 7 7) rfl rfl rfl (pSub (pH4 pNil)) (val_sla tt_ok rfl rfl rfl rfl) rfl ?_)
    obtain ⟨v22, x22, h⟩ := bsome h
    refine k_cs rfl rfl rfl Tryd.call26 rfl rfl rfl (s_sp (k_state_ofPlayer x22) pNil (fun _ _ => trivial)) rfl (.inr (by rintro _ _ ⟨_, ⟨_, _, _, _, _, _, rfl, rfl⟩, rfl⟩; exact ⟨_, (pCons (sA hC) (pCons (sA hC) (pCons (sA hC) (pCons (sA hC) pNil))))⟩)) ?_
    rintro _ _ ⟨_, ⟨v22a0, v22n0, v22c0, v22B0, v22N0, v22V0, rfl, rfl⟩, rfl⟩
    obtain ⟨v24, x24, h⟩ := bsome h
    refine k_cq rfl rfl rfl Tryd.call25 rfl rfl rfl (q_pf (k_state_within (p0 := v22) (p1 := ([((0 : Int), (61440 : Int)), ((0 : Int), (28672 : Int)), (((-1024) : Int), (1024 : Int)), (((-1024) : Int), (1024 : Int)), ((1 : Int), (100 : Int)), ((0 : Int), (30 : Int)), ((0 : Int), (3 : Int))] : List (Int × Int))) v22N0 (vec_cap v22V0) rfl (Nat.le_refl _) x24) (fun w hI => ⟨(Rds.call (Rds.of_vec v22V0) pNil ⟨_, hA'⟩) w hI, (Rds.call (Rds.of_blk (t := 52) (fz := (0, 0))) pNil ⟨_, (sA (sCC hC))⟩) w hI⟩)) rfl (pSub (pCons (sA hC) (pCons (sA hC) (pCons (sA hC) (pCons (sA hC) pNil))))) ?_
    obtain rfl := sI h
    have h := hg25; clear hg25
    refine k_val (v := .bool v24) rfl rfl rfl (pSub (pCons (sA hC) (pCons (sA hC) (pCons (sA hC) (pCons (sA hC) pNil))))) (sV rfl) rfl (k_val rfl rfl rfl (pSub (pCons (sA hC) (pCons (sA hC) (pCons (sA hC) (pCons (sA hC) pNil))))) (sV rfl) rfl (k_end (by kernel_rfl) (wx_block (wx_then (wc_region (wP (v := .int .i64 (IntKind.wrap .i64 (za + (1 : Int)))) rfl rfl (wP rfl rfl (wl_nil ?_))))))))
    exact wx_round m11 (Nat.lt_succ_self m11) ⟨v24, (IntKind.wrap .i64 (za + (1 : Int))), h, rfl, rfl⟩ (agree_cons rfl (agree_cons rfl (agree_cons rfl (agree_cons rfl (agree_cons rfl (agree_cons rfl (agree_cons rfl agree_nil))))))) (pSub (pCons (sAC hC) (pCons (sAC hC) (pCons (sAC hC) pNil))))
   replace h := cf hc h
   iterate 4 refine k_skip rfl rfl (pSub (pH4 pNil)) rfl ?_
   obtain rfl := sI h
   have h := hg25; clear hg25
   refine k_val (v := .bool false) rfl rfl rfl (pSub (pH4 pNil)) (sV rfl) rfl (k_val rfl rfl rfl (pSub (pH4 pNil)) (sV rfl) rfl (k_end (by kernel_rfl) (wx_block (wx_then (wc_region (wP (v := .int .i64 (IntKind.wrap .i64 (za + (1 : Int)))) rfl rfl (wP rfl rfl (wl_nil ?_))))))))
   exact wx_round m11 (Nat.lt_succ_self m11) ⟨false, (IntKind.wrap .i64 (za + (1 : Int))), h, rfl, rfl⟩ (agree_cons rfl (agree_cons rfl (agree_cons rfl (agree_cons rfl (agree_cons rfl (agree_cons rfl (agree_cons rfl agree_nil))))))) (pSub (pS (pS (pS pNil))))
  replace h := cf hx180 h
  rcases Bool.eq_false_or_eq_true (za == (1 : Int)) with hx181 | hx181
  ·replace h := ct hx181 h
   refine wl_val (v := agP p0.Players.2) (val_iv (j := 1) tt_ok rfl rfl rfl rfl (by simpa using hx181) rfl rfl) rfl ?_
   refine wl_alloc tt_ok rfl rfl (fun b7 => ?_)
   apply wl_store tt_ok; rfl; exact Upd.here; rfl; rfl; rfl; rfl; rfl; rfl
   refine wNT (wc_k2 (Ls := (⟨b7, (pl7 p0.Players.2 []), 24, (0, 0)⟩ :: (⟨b1, (st19 p0 p0a0 p0n0 p0c0 []), 30, (0, 0)⟩ :: (⟨b3, [.int .i32 (0 : Int), .int .i32 (61440 : Int), .int .i32 (0 : Int), .int .i32 (28672 : Int), .int .i32 ((-1024) : Int), .int .i32 (1024 : Int), .int .i32 ((-1024) : Int), .int .i32 (1024 : Int), .int .i32 (1 : Int), .int .i32 (100 : Int), .int .i32 (0 : Int), .int .i32 (30 : Int), .int .i32 (0 : Int), .int .i32 (3 : Int)], 52, (0, 0)⟩ :: (⟨b4, [.int .i32 (0 : Int), .int .i32 (65024 : Int), .int .i32 (0 : Int), .int .i32 (32256 : Int), .int .i32 ((-2048) : Int), .int .i32 (2048 : Int), .int .i32 ((-2048) : Int), .int .i32 (2048 : Int), .int .i32 (0 : Int), .int .i32 (1 : Int), .int .i32 (1 : Int), .int .i32 (40 : Int)], 53, (0, 0)⟩ :: []))))) [3, 5] [] [0, 1, 3, 7, 3, 31, 63, 127] [0, 1, 2, 4, 3, 5, 6, 7] (by kernel_rfl) (by kernel_rfl) (by kernel_rfl) ?_)
   iterate 2 refine k_val rfl rfl rfl (pSub (pH4 pNil)) (sV rfl) rfl ?_
   obtain ⟨v25, h, hg25⟩ := bsome h
   refine k_split (t := 20) rfl (fun hc => ?_) (fun hc => ?_)
   ·replace h := ct hc h
    refine k_val (v := agP p0.Players.2) rfl rfl rfl (pSub (pH4 pNil)) (val_load tt_ok rfl mH rfl) rfl (k_val (v := .slice (some ⟨b3, 0, none⟩) 7 7) rfl rfl rfl (pSub (pH4 pNil)) (val_sla tt_ok rfl rfl rfl rfl) rfl ?_)
    obtain ⟨v22, x22, h⟩ := bsome h
    refine k_cs rfl rfl rfl Tryd.call26 rfl rfl rfl (s_sp (k_state_ofPlayer x22) pNil (fun _ _ => trivial)) rfl (.inr (by rintro _ _ ⟨_, ⟨_, _, _, _, _, _, rfl, rfl⟩, rfl⟩; exact ⟨_, (pCons (sA hC) (pCons (sA hC) (pCons (sA hC) (pCons (sA hC) pNil))))⟩)) ?_
    rintro _ _ ⟨_, ⟨v22a0, v22n0, v22c0, v22B0, v22N0, v22V0, rfl, rfl⟩, rfl⟩
    obtain ⟨v24, x24, h⟩ := bsome h
    refine k_cq rfl rfl rfl Tryd.call25 rfl rfl rfl (q_pf (k_state_within (p0 := v22) (p1 := ([((0 : Int), (61440 : Int)), ((0 : Int), (28672 : Int)), (((-1024) : Int), (1024 : Int)), (((-1024) : Int), (1024 : Int)), ((1 : Int), (100 : Int)), ((0 : Int), (30 : Int)), ((0 : Int), (3 : Int))] : List (Int × Int))) v22N0 (vec_cap v22V0) rfl (Nat.le_refl _) x24) (fun w hI => ⟨(Rds.call (Rds.of_vec v22V0) pNil ⟨_, hA'⟩) w hI, (Rds.call (Rds.of_blk (t := 52) (fz := (0, 0))) pNil ⟨_, (sA (sCC hC))⟩) w hI⟩)) rfl (pSub (pCons (sA hC) (pCons (sA hC) (pCons (sA hC) (pCons (sA hC) pNil))))) ?_
    obtain rfl := sI h
    have h := hg25; clear hg25
    refine k_val (v := .bool v24) rfl rfl rfl (pSub (pCons (sA hC) (pCons (sA hC) (pCons (sA hC) (pCons (sA hC) pNil))))) (sV rfl) rfl (k_val rfl rfl rfl (pSub (pCons (sA hC) (pCons (sA hC) (pCons (sA hC) (pCons (sA hC) pNil))))) (sV rfl) rfl (k_end (by kernel_rfl) (wx_block (wx_then (wc_region (wP (v := .int .i64 (IntKind.wrap .i64 (za + (1 : Int)))) rfl rfl (wP rfl rfl (wl_nil ?_))))))))
    exact wx_round m11 (Nat.lt_succ_self m11) ⟨v24, (IntKind.wrap .i64 (za + (1 : Int))), h, rfl, rfl⟩ (agree_cons rfl (agree_cons rfl (agree_cons rfl (agree_cons rfl (agree_cons rfl (agree_cons rfl (agree_cons rfl agree_nil))))))) (pSub (pCons (sAC hC) (pCons (sAC hC) (pCons (sAC hC) pNil))))
   replace h := cf hc h
   iterate 4 refine k_skip rfl rfl (pSub (pH4 pNil)) rfl ?_
   obtain rfl := sI h
   have h := hg25; clear hg25
   refine k_val (v := .bool false) rfl rfl rfl (pSub (pH4 pNil)) (sV rfl) rfl (k_val rfl rfl rfl (pSub (pH4 pNil)) (sV rfl) rfl (k_end (by kernel_rfl) (wx_block (wx_then (wc_region (wP (v := .int .i64 (IntKind.wrap .i64 (za + (1 : Int)))) rfl rfl (wP rfl rfl (wl_nil ?_))))))))
   exact wx_round m11 (Nat.lt_succ_self m11) ⟨false, (IntKind.wrap .i64 (za + (1 : Int))), h, rfl, rfl⟩ (agree_cons rfl (agree_cons rfl (agree_cons rfl (agree_cons rfl (agree_cons rfl (agree_cons rfl (agree_cons rfl agree_nil))))))) (pSub (pS (pS (pS pNil))))
  replace h := cf hx181 h
  cases h
 replace h := cf hc h
 refine wc_exit (wx_then_exit ?_)
 obtain rfl := sI h
 have h := hl11; clear hl11; try dsimp only [orE_l, orE_r] at h
 refine wx_then_exit (wx_block_exit (wx_then (wc_seq (wSR ?_))))
 refine wP rfl rfl (wP (v := .bool (!zb)) rfl rfl (wP rfl rfl ?_))
 obtain ⟨v34, h, hg34⟩ := bsome h
 refine wl_split (t := 29) rfl (fun hc => ?_) (fun hc => ?_)
 ·replace h := ct hc h
  iterate 4 refine wl_skip rfl rfl ?_
  obtain rfl := sI h
  have h := hg34; clear hg34
  refine wP (v := .bool true) rfl rfl (wNT ?_)
  replace h := ct rfl h
  refine wc_cond_true rfl ?_
  refine wSR (wP rfl rfl (wNT (wc_ret (wx_then_ret ?_))))
  obtain rfl := sI h
  exact wx_pf tt_ok (.inl rfl) Tryd.results11 (Res.tmp rfl Res.nil) rfl
 replace h := cf hc h
 refine wl_run rfl (wP (v := .pointer (some ⟨b1, 16, none⟩)) rfl rfl (wl_run rfl (wl_val (v := .slice p0a0 p0n0 p0c0) (val_load tt_ok rfl mH rfl) rfl (wl_run rfl (wP rfl rfl ?_)))))
 obtain ⟨v33, x33, h⟩ := bsome h
 refine wl_run rfl (wl_cq Tryd.call27 rfl rfl rfl (q_rd (k_slices_ContainsFunc___api_Shot_api_Shot_f1_state_Check_1 (p0 := p0.Shots) p0N0 p0H0 x33) (pCons (sCC hC) pNil) (Rds.call p0S0 (pCons (sCC hC) pNil) rsub_nil)) rfl ?_)
 obtain rfl := sI h
 have h := hg34; clear hg34
 refine wP (v := .bool v33) rfl rfl (wNT (wc_cond rfl (fun hc => ?_) (fun hc => ?_)))
 ·replace h := ct hc h
  refine wSR (wP rfl rfl (wNT (wc_ret (wx_then_ret ?_))))
  obtain rfl := sI h
  exact wx_pf tt_ok (.inl rfl) Tryd.results11 (Res.tmp rfl Res.nil) rfl
 replace h := cf hc h
 refine wc_skip (wx_then (wSR (wP rfl rfl (wNT (wc_ret ?_)))))
 obtain rfl := sI h
 exact wx_pf tt_ok (.inl rfl) Tryd.results11 (Res.tmp rfl Res.nil) rfl

theorem k_codec_put_uint64 {F : Nat} {p0 : T_codec_Writer} {p0b p0t : Nat} {p0a0 : Option Addr} {p0n0 p0c0 : Nat} {p0B0 : List Blk} {p1 : Int} {p2 : Int} {r0 : T_codec_Writer} (p0N0 : p0n0 = p0.b.length) (p0V0 : Own 5 1 p0a0 p0n0 p0c0 (flat (e1 .u8) p0.b) p0B0) (h : m_codec_put_uint64 F p0 p1 p2 = some r0) :
    SpD Tryd.prog 59 [.pointer (some ⟨p0b, 0, none⟩), .int .u64 p1, .int .i64 p2] (⟨p0b, [.slice p0a0 p0n0 p0c0], p0t, (0, 0)⟩ :: (p0B0 ++ [])) (fun w => True) (fun v D => ∃ (r0a0 : Option Addr) (r0n0 r0c0 : Nat) (r0B0 : List Blk), r0n0 = r0.b.length ∧ Own 5 1 r0a0 r0n0 r0c0 (flat (e1 .u8) r0.b) r0B0 ∧ v = .tuple #[] ∧ D = fun F => (⟨p0b, [.slice r0a0 r0n0 r0c0], p0t, (0, 0)⟩ :: (r0B0 ++ F))) := by
 unfold m_codec_put_uint64 at h
 refine sp_of_wc Tryd.func59 rfl Tryd.ntmps59 rfl rfl (fun w0 hR => ?_)
 refine wc_seq (wSR (wP rfl rfl (wP (v := .bool false) rfl rfl (wNT (wc_cond_false rfl (wc_skip (wx_then (wSR ?_))))))))
 iterate 2 refine wP rfl rfl ?_
 refine wNT (wc_block ?_)
 obtain ⟨zi, h, hl10⟩ := bsome h
 refine wc_loop (fun m E L => ∃ (zf : Int) (za : (List Int)) (zc : Option Addr) (zb zd : Nat) (ze : List Blk), m_codec_put_uint64_L9 F p1 p2 m zf za = some zi ∧ zb = za.length ∧ Own 5 1 zc zb zd (flat (e1 .u8) za) ze ∧ E = [(0, .pointer (some ⟨p0b, 0, none⟩)), (1, .int .u64 p1), (9, .int .i64 p2), (10, .int .i64 zf)] ∧ L = (⟨p0b, [.slice zc zb zd], p0t, (0, 0)⟩ :: (ze ++ []))) F ⟨(0 : Int), p0.b, p0a0, p0n0, p0c0, p0B0, h, p0N0, p0V0, rfl, rfl⟩ (agree_cons rfl (agree_cons rfl (agree_cons rfl (agree_cons rfl agree_nil)))) (pSub (pH (pA pNil))) ?_
 clear h
 rintro m10 _ _ ⟨zf, za, zc, zb, zd, ze, h, zg, zh, rfl, rfl⟩
 rcases m10 with _ | m10
 ·rw [m_codec_put_uint64_L9.eq_1] at h; cases h
 rw [m_codec_put_uint64_L9.eq_2] at h
 refine wSR (wP (v := .bool (decide (zf < p2))) rfl rfl (wNT (wc_seq (wc_cond rfl (fun hc => ?_) (fun hc => ?_)))))
 ·replace h := ct hc h
  refine wc_skip (wx_then (wc_seq (wc_block (wSR ?_))))
  iterate 2 refine wP rfl rfl ?_
  refine wNT (wc_k2 (Ls := (⟨p0b, [.slice zc zb zd], p0t, (0, 0)⟩ :: [])) [10, 11, 12, 13, 14] [12, 13, 14] [0, 0, 2, 6, 14, 0, 0, 64, 224, 480, 992, 2046, 4095, 8191, 16383] [0, 1, 2, 3, 4, 5, 6, 7, 8, 9, 10, 11, 12, 13, 14] (by kernel_rfl) (by kernel_rfl) (by kernel_rfl) ?_)
  iterate 3 refine k_val rfl rfl rfl (pSub (pH pNil)) (sV rfl) rfl ?_
  refine k_val (v := .pointer (some ⟨p0b, 0, none⟩)) rfl rfl rfl (pSub (pH pNil)) (sV rfl) rfl (k_val (v := .slice zc zb zd) rfl rfl rfl (pSub (pH pNil)) (val_load tt_ok rfl mH rfl) rfl ?_)
  iterate 2 refine k_val rfl rfl rfl (pSub (pH pNil)) (sV rfl) rfl ?_
  refine k_val (v := .int .i64 (IntKind.wrap .i64 ((8 : Int) * zf))) rfl rfl rfl (pSub (pH pNil)) (sV rfl) rfl ?_
  obtain ⟨v21, x21, h⟩ := bsome h
  refine k_val (v := .int .u64 v21) rfl rfl rfl (pSub (pH pNil)) (val_shr rfl rfl x21) rfl (k_val (v := .int .u8 (IntKind.wrap .u8 v21)) rfl rfl rfl (pSub (pH pNil)) (sV rfl) rfl (k_chg rfl rfl rfl (chg_bsv (enc := (e1 .u8)) (xs := ([(IntKind.wrap .u8 v21)] : List Int)) tt_ok rfl rfl rfl rfl rfl rfl rfl rfl (e1_len _)) rfl (.inr (by rintro _ _ ⟨_, _, _, _, rfl, _, _, rfl⟩; exact ⟨_, (pCons (sA hC) pNil)⟩)) ?_))
  rintro _ _ ⟨a23, n23_, c23, B23, rfl, N23, V23, rfl⟩
  obtain ⟨v24, x24, h⟩ := bsome h
  refine k_chg rfl rfl rfl (chg_app (enc := (e1 .u8)) (ys := ([(IntKind.wrap .u8 v21)] : List Int)) tt_ok rfl rfl rfl rfl rfl rfl zg N23 zh (sAC hA') (Rds.of_vec V23) ⟨_, hA'⟩ (e1_len _) (fun _ => rfl) rfl x24) rfl (.inr (by rintro _ _ ⟨_, _, _, _, rfl, _, _, rfl⟩; exact ⟨_, (pCons (sAA hC) pNil)⟩)) ?_
  rintro _ _ ⟨a24, n24_, c24, B24, rfl, N24, V24, rfl⟩
  refine k_chg rfl rfl rfl (Chg.of_val (sV rfl)) rfl (.inl rfl) ?_
  rintro _ _ ⟨rfl, rfl⟩
  refine k_chg rfl rfl rfl (Chg.of_val (v := .pointer (some ⟨p0b, 0, none⟩)) (sV rfl)) rfl (.inl rfl) ?_
  rintro _ _ ⟨rfl, rfl⟩
  refine k_chg0 rfl rfl rfl (chg_store tt_ok rfl (Upd.right (Upd.right Upd.here)) rfl rfl rfl rfl rfl rfl) (.inl rfl) ?_
  rintro _ _ rfl
  refine k_end (by kernel_rfl) ?_
  refine wx_block (wx_then (wc_region (wP (v := .int .i64 (IntKind.wrap .i64 (zf + (1 : Int)))) rfl rfl (wP rfl rfl (wl_nil ?_)))))
  exact wx_round m10 (Nat.lt_succ_self m10) ⟨(IntKind.wrap .i64 (zf + (1 : Int))), v24, a24, n24_, c24, B24, h, N24, V24, rfl, rfl⟩ (agree_cons rfl (agree_cons rfl (agree_cons rfl (agree_cons rfl agree_nil)))) (pSub (pCons (sAA hC) (pA pNil)))
 replace h := cf hc h
 refine wc_exit (wx_then_exit ?_)
 obtain rfl := sI h
 have h := hl10; clear hl10; try dsimp only [orE_l, orE_r] at h
 refine wx_then_exit (wx_block_exit ?_)
 obtain rfl := sI h
 exact wx_spD tt_ok (.inr rfl) Tryd.results59 Res.nil ⟨zc, zb, zd, ze, zg, zh, rfl, rfl⟩ (fun F => by simp) (pSub (pH (pA pNil)))

theorem k_codec_Writer_U64 {F : Nat} {p0 : T_codec_Writer} {p0b p0t : Nat} {p0a0 : Option Addr} {p0n0 p0c0 : Nat} {p0B0 : List Blk} {p1 : Int} {r0 : T_codec_Writer} (p0N0 : p0n0 = p0.b.length) (p0V0 : Own 5 1 p0a0 p0n0 p0c0 (flat (e1 .u8) p0.b) p0B0) (h : m_codec_Writer_U64 F p0 p1 = some r0) :
    SpD Tryd.prog 32 [.pointer (some ⟨p0b, 0, none⟩), .int .u64 p1] (⟨p0b, [.slice p0a0 p0n0 p0c0], p0t, (0, 0)⟩ :: (p0B0 ++ [])) (fun w => True) (fun v D => ∃ (r0a0 : Option Addr) (r0n0 r0c0 : Nat) (r0B0 : List Blk), r0n0 = r0.b.length ∧ Own 5 1 r0a0 r0n0 r0c0 (flat (e1 .u8) r0.b) r0B0 ∧ v = .tuple #[] ∧ D = fun F => (⟨p0b, [.slice r0a0 r0n0 r0c0], p0t, (0, 0)⟩ :: (r0B0 ++ F))) := by
 unfold m_codec_Writer_U64 at h
 refine sp_of_wc Tryd.func32 rfl Tryd.ntmps32 rfl rfl (fun w0 hR => ?_)
 refine wc_region ?_
 iterate 2 refine wP rfl rfl ?_
 obtain ⟨za, x6, h⟩ := bsome h
 refine wl_cs Tryd.call59 rfl rfl rfl (s_sp (k_codec_put_uint64 (p0 := p0) p0N0 p0V0 x6) (pH (pA pNil)) (fun _ _ => trivial)) rfl ?_
 rintro _ _ ⟨_, ⟨ze, zg, zf, zb, zc, zd, rfl, rfl⟩, rfl⟩
 refine wl_nil ?_
 obtain rfl := sI h
 exact wx_spD tt_ok (.inr rfl) Tryd.results32 Res.nil ⟨ze, zg, zf, zb, zc, zd, rfl, rfl⟩ (fun F => by simp) (pSub (pH (pA pNil)))

theorem k_codec_put_uint32 {F : Nat} {p0 : T_codec_Writer} {p0b p0t : Nat} {p0a0 : Option Addr} {p0n0 p0c0 : Nat} {p0B0 : List Blk} {p1 : Int} {p2 : Int} {r0 : T_codec_Writer} (p0N0 : p0n0 = p0.b.length) (p0V0 : Own 5 1 p0a0 p0n0 p0c0 (flat (e1 .u8) p0.b) p0B0) (h : m_codec_put_uint32 F p0 p1 p2 = some r0) :
    SpD Tryd.prog 70 [.pointer (some ⟨p0b, 0, none⟩), .int .u32 p1, .int .i64 p2] (⟨p0b, [.slice p0a0 p0n0 p0c0], p0t, (0, 0)⟩ :: (p0B0 ++ [])) (fun w => True) (fun v D => ∃ (r0a0 : Option Addr) (r0n0 r0c0 : Nat) (r0B0 : List Blk), r0n0 = r0.b.length ∧ Own 5 1 r0a0 r0n0 r0c0 (flat (e1 .u8) r0.b) r0B0 ∧ v = .tuple #[] ∧ D = fun F => (⟨p0b, [.slice r0a0 r0n0 r0c0], p0t, (0, 0)⟩ :: (r0B0 ++ F))) := by
 unfold m_codec_put_uint32 at h
 refine sp_of_wc Tryd.func70 rfl Tryd.ntmps70 rfl rfl (fun w0 hR => ?_)
 refine wc_seq (wSR (wP rfl rfl (wP (v := .bool false) rfl rfl (wNT (wc_cond_false rfl (wc_skip (wx_then (wSR ?_))))))))
 iterate 2 refine wP rfl rfl ?_
 refine wNT (wc_block ?_)
 obtain ⟨zi, h, hl10⟩ := bsome h
 refine wc_loop (fun m E L => ∃ (zf : Int) (za : (List Int)) (zc : Option Addr) (zb zd : Nat) (ze : List Blk), m_codec_put_uint32_L9 F p1 p2 m zf za = some zi ∧ zb = za.length ∧ Own 5 1 zc zb zd (flat (e1 .u8) za) ze ∧ E = [(0, .pointer (some ⟨p0b, 0, none⟩)), (1, .int .u32 p1), (9, .int .i64 p2), (10, .int .i64 zf)] ∧ L = (⟨p0b, [.slice zc zb zd], p0t, (0, 0)⟩ :: (ze ++ []))) F ⟨(0 : Int), p0.b, p0a0, p0n0, p0c0, p0B0, h, p0N0, p0V0, rfl, rfl⟩ (agree_cons rfl (agree_cons rfl (agree_cons rfl (agree_cons rfl agree_nil)))) (pSub (pH (pA pNil))) ?_
 clear h
 rintro m10 _ _ ⟨zf, za, zc, zb, zd, ze, h, zg, zh, rfl, rfl⟩
 rcases m10 with _ | m10
 ·rw [m_codec_put_uint32_L9.eq_1] at h; cases h
 rw [m_codec_put_uint32_L9.eq_2] at h
 refine wSR (wP (v := .bool (decide (zf < p2))) rfl rfl (wNT (wc_seq (wc_cond rfl (fun hc => ?_) (fun hc => ?_)))))
 ·replace h := ct hc h
  refine wc_skip (wx_then (wc_seq (wc_block (wSR ?_))))
  iterate 2 refine wP rfl rfl ?_
  refine wNT (wc_k2 (Ls := (⟨p0b, [.slice zc zb zd], p0t, (0, 0)⟩ :: [])) [11, 12, 13, 14, 15] [13, 14, 15] [0, 0, 2, 6, 14, 0, 32, 0, 128, 480, 992, 2016, 4094, 8191, 16383, 32767] [0, 1, 2, 3, 4, 5, 6, 7, 8, 9, 10, 11, 12, 13, 14, 15] (by kernel_rfl) (by kernel_rfl) (by kernel_rfl) ?_)
  iterate 3 refine k_val rfl rfl rfl (pSub (pH pNil)) (sV rfl) rfl ?_
  refine k_val (v := .pointer (some ⟨p0b, 0, none⟩)) rfl rfl rfl (pSub (pH pNil)) (sV rfl) rfl (k_val (v := .slice zc zb zd) rfl rfl rfl (pSub (pH pNil)) (val_load tt_ok rfl mH rfl) rfl (k_val rfl rfl rfl (pSub (pH pNil)) (sV rfl) rfl (k_val (v := .int .u64 (IntKind.wrap .u64 p1)) rfl rfl rfl (pSub (pH pNil)) (sV rfl) rfl (k_val rfl rfl rfl (pSub (pH pNil)) (sV rfl) rfl (k_val (v := .int .i64 (IntKind.wrap .i64 ((8 : Int) * zf))) rfl rfl rfl (pSub (pH pNil)) (sV rfl) rfl ?_)))))
  obtain ⟨v22, x22, h⟩ := bsome h
  refine k_val (v := .int .u64 v22) rfl rfl rfl (pSub (pH pNil)) (val_shr rfl rfl x22) rfl (k_val (v := .int .u8 (IntKind.wrap .u8 v22)) rfl rfl rfl (pSub (pH pNil)) (sV rfl) rfl (k_chg rfl rfl rfl (chg_bsv (enc := (e1 .u8)) (xs := ([(IntKind.wrap .u8 v22)] : List Int)) tt_ok rfl rfl rfl rfl rfl rfl rfl rfl (e1_len _)) rfl (.inr (by rintro _ _ ⟨_, _, _, _, rfl, _, _, rfl⟩; exact ⟨_, (pCons (sA hC) pNil)⟩)) ?_))
  rintro _ _ ⟨a24, n24_, c24, B24, rfl, N24, V24, rfl⟩
  obtain ⟨v25, x25, h⟩ := bsome h
  refine k_chg rfl rfl rfl (chg_app (enc := (e1 .u8)) (ys := ([(IntKind.wrap .u8 v22)] : List Int)) tt_ok rfl rfl rfl rfl rfl rfl zg N24 zh (sAC hA') (Rds.of_vec V24) ⟨_, hA'⟩ (e1_len _) (fun _ => rfl) rfl x25) rfl (.inr (by rintro _ _ ⟨_, _, _, _, rfl, _, _, rfl⟩; exact ⟨_, (pCons (sAA hC) pNil)⟩)) ?_
  rintro _ _ ⟨a25, n25_, c25, B25, rfl, N25, V25, rfl⟩
  refine k_chg rfl rfl rfl (Chg.of_val (sV rfl)) rfl (.inl rfl) ?_
  rintro _ _ ⟨rfl, rfl⟩
  refine k_chg rfl rfl rfl (Chg.of_val (v := .pointer (some ⟨p0b, 0, none⟩)) (sV rfl)) rfl (.inl rfl) ?_
  rintro _ _ ⟨rfl, rfl⟩
  refine k_chg0 rfl rfl rfl (chg_store tt_ok rfl (Upd.right (Upd.right Upd.here)) rfl rfl rfl rfl rfl rfl) (.inl rfl) ?_
  rintro _ _ rfl
  refine k_end (by kernel_rfl) ?_
  refine wx_block (wx_then (wc_region (wP (v := .int .i64 (IntKind.wrap .i64 (zf + (1 : Int)))) rfl rfl (wP rfl rfl (wl_nil ?_)))))
  exact wx_round m10 (Nat.lt_succ_self m10) ⟨(IntKind.wrap .i64 (zf + (1 : Int))), v25, a25, n25_, c25, B25, h, N25, V25, rfl, rfl⟩ (agree_cons rfl (agree_cons rfl (agree_cons rfl (agree_cons rfl agree_nil)))) (pSub (pCons (sAA hC) (pA pNil)))
 replace h := cf hc h
 refine wc_exit (wx_then_exit ?_)
 obtain rfl := sI h
 have h := hl10; clear hl10; try dsimp only [orE_l, orE_r] at h
 refine wx_then_exit (wx_block_exit ?_)
 obtain rfl := sI h
 exact wx_spD tt_ok (.inr rfl) Tryd.results70 Res.nil ⟨zc, zb, zd, ze, zg, zh, rfl, rfl⟩ (fun F => by simp) (pSub (pH (pA pNil)))

theorem k_codec_Writer_I32 {F : Nat} {p0 : T_codec_Writer} {p0b p0t : Nat} {p0a0 : Option Addr} {p0n0 p0c0 : Nat} {p0B0 : List Blk} {p1 : Int} {r0 : T_codec_Writer} (p0N0 : p0n0 = p0.b.length) (p0V0 : Own 5 1 p0a0 p0n0 p0c0 (flat (e1 .u8) p0.b) p0B0) (h : m_codec_Writer_I32 F p0 p1 = some r0) :
    SpD Tryd.prog 60 [.pointer (some ⟨p0b, 0, none⟩), .int .i32 p1] (⟨p0b, [.slice p0a0 p0n0 p0c0], p0t, (0, 0)⟩ :: (p0B0 ++ [])) (fun w => True) (fun v D => ∃ (r0a0 : Option Addr) (r0n0 r0c0 : Nat) (r0B0 : List Blk), r0n0 = r0.b.length ∧ Own 5 1 r0a0 r0n0 r0c0 (flat (e1 .u8) r0.b) r0B0 ∧ v = .tuple #[] ∧ D = fun F => (⟨p0b, [.slice r0a0 r0n0 r0c0], p0t, (0, 0)⟩ :: (r0B0 ++ F))) := by
 unfold m_codec_Writer_I32 at h
 refine sp_of_wc Tryd.func60 rfl Tryd.ntmps60 rfl rfl (fun w0 hR => ?_)
 refine wc_region ?_
 iterate 2 refine wP rfl rfl ?_
 refine wP (v := .int .u32 (IntKind.wrap .u32 p1)) rfl rfl ?_
 obtain ⟨za, x7, h⟩ := bsome h
 refine wl_cs Tryd.call70 rfl rfl rfl (s_sp (k_codec_put_uint32 (p0 := p0) p0N0 p0V0 x7) (pH (pA pNil)) (fun _ _ => trivial)) rfl ?_
 rintro _ _ ⟨_, ⟨ze, zg, zf, zb, zc, zd, rfl, rfl⟩, rfl⟩
 refine wl_nil ?_
 obtain rfl := sI h
 exact wx_spD tt_ok (.inr rfl) Tryd.results60 Res.nil ⟨ze, zg, zf, zb, zc, zd, rfl, rfl⟩ (fun F => by simp) (pSub (pH (pA pNil)))

theorem k_codec_put_uint8 {F : Nat} {p0 : T_codec_Writer} {p0b p0t : Nat} {p0a0 : Option Addr} {p0n0 p0c0 : Nat} {p0B0 : List Blk} {p1 : Int} {p2 : Int} {r0 : T_codec_Writer} (p0N0 : p0n0 = p0.b.length) (p0V0 : Own 5 1 p0a0 p0n0 p0c0 (flat (e1 .u8) p0.b) p0B0) (h : m_codec_put_uint8 F p0 p1 p2 = some r0) :
    SpD Tryd.prog 71 [.pointer (some ⟨p0b, 0, none⟩), .int .u8 p1, .int .i64 p2] (⟨p0b, [.slice p0a0 p0n0 p0c0], p0t, (0, 0)⟩ :: (p0B0 ++ [])) (fun w => True) (fun v D => ∃ (r0a0 : Option Addr) (r0n0 r0c0 : Nat) (r0B0 : List Blk), r0n0 = r0.b.length ∧ Own 5 1 r0a0 r0n0 r0c0 (flat (e1 .u8) r0.b) r0B0 ∧ v = .tuple #[] ∧ D = fun F => (⟨p0b, [.slice r0a0 r0n0 r0c0], p0t, (0, 0)⟩ :: (r0B0 ++ F))) := by
 unfold m_codec_put_uint8 at h
 refine sp_of_wc Tryd.func71 rfl Tryd.ntmps71 rfl rfl (fun w0 hR => ?_)
 refine wc_seq (wSR (wP rfl rfl (wP (v := .bool false) rfl rfl (wNT (wc_cond_false rfl (wc_skip (wx_then (wSR ?_))))))))
 iterate 2 refine wP rfl rfl ?_
 refine wNT (wc_block ?_)
 obtain ⟨zi, h, hl10⟩ := bsome h
 refine wc_loop (fun m E L => ∃ (zf : Int) (za : (List Int)) (zc : Option Addr) (zb zd : Nat) (ze : List Blk), m_codec_put_uint8_L9 F p1 p2 m zf za = some zi ∧ zb = za.length ∧ Own 5 1 zc zb zd (flat (e1 .u8) za) ze ∧ E = [(0, .pointer (some ⟨p0b, 0, none⟩)), (1, .int .u8 p1), (9, .int .i64 p2), (10, .int .i64 zf)] ∧ L = (⟨p0b, [.slice zc zb zd], p0t, (0, 0)⟩ :: (ze ++ []))) F ⟨(0 : Int), p0.b, p0a0, p0n0, p0c0, p0B0, h, p0N0, p0V0, rfl, rfl⟩ (agree_cons rfl (agree_cons rfl (agree_cons rfl (agree_cons rfl agree_nil)))) (pSub (pH (pA pNil))) ?_
 clear h
 rintro m10 _ _ ⟨zf, za, zc, zb, zd, ze, h, zg, zh, rfl, rfl⟩
 rcases m10 with _ | m10
 ·rw [m_codec_put_uint8_L9.eq_1] at h; cases h
 rw [m_codec_put_uint8_L9.eq_2] at h
 refine wSR (wP (v := .bool (decide (zf < p2))) rfl rfl (wNT (wc_seq (wc_cond rfl (fun hc => ?_) (fun hc => ?_)))))
 ·replace h := ct hc h
  refine wc_skip (wx_then (wc_seq (wc_block (wSR ?_))))
  iterate 2 refine wP rfl rfl ?_
  refine wNT (wc_k2 (Ls := (⟨p0b, [.slice zc zb zd], p0t, (0, 0)⟩ :: [])) [11, 12, 13, 14, 15] [13, 14, 15] [0, 0, 2, 6, 14, 0, 32, 0, 128, 480, 992, 2016, 4094, 8191, 16383, 32767] [0, 1, 2, 3, 4, 5, 6, 7, 8, 9, 10, 11, 12, 13, 14, 15] (by kernel_rfl) (by kernel_rfl) (by kernel_rfl) ?_)
  iterate 3 refine k_val rfl rfl rfl (pSub (pH pNil)) (sV rfl) rfl ?_
  refine k_val (v := .pointer (some ⟨p0b, 0, none⟩)) rfl rfl rfl (pSub (pH pNil)) (sV rfl) rfl (k_val (v := .slice zc zb zd) rfl rfl rfl (pSub (pH pNil)) (val_load tt_ok rfl mH rfl) rfl (k_val rfl rfl rfl (pSub (pH pNil)) (sV rfl) rfl (k_val (v := .int .u64 (IntKind.wrap .u64 p1)) rfl rfl rfl (pSub (pH pNil)) (sV rfl) rfl (k_val rfl rfl rfl (pSub (pH pNil)) (sV rfl) rfl (k_val (v := .int .i64 (IntKind.wrap .i64 ((8 : Int) * zf))) rfl rfl rfl (pSub (pH pNil)) (sV rfl) rfl ?_)))))
  obtain ⟨v22, x22, h⟩ := bsome h
  refine k_val (v := .int .u64 v22) rfl rfl rfl (pSub (pH pNil)) (val_shr rfl rfl x22) rfl (k_val (v := .int .u8 (IntKind.wrap .u8 v22)) rfl rfl rfl (pSub (pH pNil)) (sV rfl) rfl (k_chg rfl rfl rfl (chg_bsv (enc := (e1 .u8)) (xs := ([(IntKind.wrap .u8 v22)] : List Int)) tt_ok rfl rfl rfl rfl rfl rfl rfl rfl (e1_len _)) rfl (.inr (by rintro _ _ ⟨_, _, _, _, rfl, _, _, rfl⟩; exact ⟨_, (pCons (sA hC) pNil)⟩)) ?_))
  rintro _ _ ⟨a24, n24_, c24, B24, rfl, N24, V24, rfl⟩
  obtain ⟨v25, x25, h⟩ := bsome h
  refine k_chg rfl rfl rfl (chg_app (enc := (e1 .u8)) (ys := ([(IntKind.wrap .u8 v22)] : List Int)) tt_ok rfl rfl rfl rfl rfl rfl zg N24 zh (sAC hA') (Rds.of_vec V24) ⟨_, hA'⟩ (e1_len _) (fun _ => rfl) rfl x25) rfl (.inr (by rintro _ _ ⟨_, _, _, _, rfl, _, _, rfl⟩; exact ⟨_, (pCons (sAA hC) pNil)⟩)) ?_
  rintro _ _ ⟨a25, n25_, c25, B25, rfl, N25, V25, rfl⟩
  refine k_chg rfl rfl rfl (Chg.of_val (sV rfl)) rfl (.inl rfl) ?_
  rintro _ _ ⟨rfl, rfl⟩
  refine k_chg rfl rfl rfl (Chg.of_val (v := .pointer (some ⟨p0b, 0, none⟩)) (sV rfl)) rfl (.inl rfl) ?_
  rintro _ _ ⟨rfl, rfl⟩
  refine k_chg0 rfl rfl rfl (chg_store tt_ok rfl (Upd.right (Upd.right Upd.here)) rfl rfl rfl rfl rfl rfl) (.inl rfl) ?_
  rintro _ _ rfl
  refine k_end (by kernel_rfl) ?_
  refine wx_block (wx_then (wc_region (wP (v := .int .i64 (IntKind.wrap .i64 (zf + (1 : Int)))) rfl rfl (wP rfl rfl (wl_nil ?_)))))
  exact wx_round m10 (Nat.lt_succ_self m10) ⟨(IntKind.wrap .i64 (zf + (1 : Int))), v25, a25, n25_, c25, B25, h, N25, V25, rfl, rfl⟩ (agree_cons rfl (agree_cons rfl (agree_cons rfl (agree_cons rfl agree_nil)))) (pSub (pCons (sAA hC) (pA pNil)))
 replace h := cf hc h
 refine wc_exit (wx_then_exit ?_)
 obtain rfl := sI h
 have h := hl10; clear hl10; try dsimp only [orE_l, orE_r] at h
 refine wx_then_exit (wx_block_exit ?_)
 obtain rfl := sI h
 exact wx_spD tt_ok (.inr rfl) Tryd.results71 Res.nil ⟨zc, zb, zd, ze, zg, zh, rfl, rfl⟩ (fun F => by simp) (pSub (pH (pA pNil)))

theorem k_codec_Writer_U8 {F : Nat} {p0 : T_codec_Writer} {p0b p0t : Nat} {p0a0 : Option Addr} {p0n0 p0c0 : Nat} {p0B0 : List Blk} {p1 : Int} {r0 : T_codec_Writer} (p0N0 : p0n0 = p0.b.length) (p0V0 : Own 5 1 p0a0 p0n0 p0c0 (flat (e1 .u8) p0.b) p0B0) (h : m_codec_Writer_U8 F p0 p1 = some r0) :
    SpD Tryd.prog 61 [.pointer (some ⟨p0b, 0, none⟩), .int .u8 p1] (⟨p0b, [.slice p0a0 p0n0 p0c0], p0t, (0, 0)⟩ :: (p0B0 ++ [])) (fun w => True) (fun v D => ∃ (r0a0 : Option Addr) (r0n0 r0c0 : Nat) (r0B0 : List Blk), r0n0 = r0.b.length ∧ Own 5 1 r0a0 r0n0 r0c0 (flat (e1 .u8) r0.b) r0B0 ∧ v = .tuple #[] ∧ D = fun F => (⟨p0b, [.slice r0a0 r0n0 r0c0], p0t, (0, 0)⟩ :: (r0B0 ++ F))) := by
 unfold m_codec_Writer_U8 at h
 refine sp_of_wc Tryd.func61 rfl Tryd.ntmps61 rfl rfl (fun w0 hR => ?_)
 refine wc_region ?_
 iterate 2 refine wP rfl rfl ?_
 obtain ⟨za, x6, h⟩ := bsome h
 refine wl_cs Tryd.call71 rfl rfl rfl (s_sp (k_codec_put_uint8 (p0 := p0) p0N0 p0V0 x6) (pH (pA pNil)) (fun _ _ => trivial)) rfl ?_
 rintro _ _ ⟨_, ⟨ze, zg, zf, zb, zc, zd, rfl, rfl⟩, rfl⟩
 refine wl_nil ?_
 obtain rfl := sI h
 exact wx_spD tt_ok (.inr rfl) Tryd.results61 Res.nil ⟨ze, zg, zf, zb, zc, zd, rfl, rfl⟩ (fun F => by simp) (pSub (pH (pA pNil)))

theorem k_state_put {F : Nat} {p0 : T_codec_Writer} {p0b p0t : Nat} {p0a0 : Option Addr} {p0n0 p0c0 : Nat} {p0B0 : List Blk} {p1 : (List Int)} {p1a0 : Option Addr} {p1n0 p1c0 : Nat} {r0 : T_codec_Writer} (p0N0 : p0n0 = p0.b.length) (p0V0 : Own 5 1 p0a0 p0n0 p0c0 (flat (e1 .u8) p0.b) p0B0) (p1N0 : p1n0 = p1.length) (p1H0 : p1n0 ≤ p1c0) (h : m_state_put F p0 p1 = some r0) :
    SpD Tryd.prog 33 [.pointer (some ⟨p0b, 0, none⟩), .slice p1a0 p1n0 p1c0] (⟨p0b, [.slice p0a0 p0n0 p0c0], p0t, (0, 0)⟩ :: (p0B0 ++ [])) (fun w => Rds w (ids (⟨p0b, [.slice p0a0 p0n0 p0c0], p0t, (0, 0)⟩ :: (p0B0 ++ []))) [] p1a0 (flat (e1 .i32) p1)) (fun v D => ∃ (r0a0 : Option Addr) (r0n0 r0c0 : Nat) (r0B0 : List Blk), r0n0 = r0.b.length ∧ Own 5 1 r0a0 r0n0 r0c0 (flat (e1 .u8) r0.b) r0B0 ∧ v = .tuple #[] ∧ D = fun F => (⟨p0b, [.slice r0a0 r0n0 r0c0], p0t, (0, 0)⟩ :: (r0B0 ++ F))) := by
 unfold m_state_put at h
 refine sp_of_wc Tryd.func33 rfl Tryd.ntmps33 rfl rfl (fun w0 hR => ?_)
 have p1S0 := hR
 refine wSR (wP rfl rfl (wl_val (v := .int .i64 (p1.length : Int)) (val_len tt_ok rfl rfl p1N0) rfl (wP rfl rfl (wNT (wc_block ?_)))))
 obtain ⟨zk, h, hl4⟩ := bsome h
 refine wc_loop (fun m E L => ∃ (zh : Int) (za : (List Int)) (zf : Option Addr) (zd zg : Nat) (ze : List Blk), m_state_put_L3 F p1 m zh za = some zk ∧ zd = za.length ∧ Own 5 1 zf zd zg (flat (e1 .u8) za) ze ∧ E = [(0, .pointer (some ⟨p0b, 0, none⟩)), (6, .slice p1a0 p1n0 p1c0), (7, .int .i64 (p1.length : Int)), (8, .int .i64 zh)] ∧ L = (⟨p0b, [.slice zf zd zg], p0t, (0, 0)⟩ :: (ze ++ []))) F ⟨(0 : Int), p0.b, p0a0, p0n0, p0c0, p0B0, h, p0N0, p0V0, rfl, rfl⟩ (agree_cons rfl (agree_cons rfl (agree_cons rfl (agree_cons rfl agree_nil)))) (pSub (pH (pA pNil))) ?_
 clear h
 rintro m4 _ _ ⟨zh, za, zf, zd, zg, ze, h, zi, zj, rfl, rfl⟩
 rcases m4 with _ | m4
 ·rw [m_state_put_L3.eq_1] at h; cases h
 rw [m_state_put_L3.eq_2] at h
 refine wSR (wP (v := .bool (decide (zh < (p1.length : Int)))) rfl rfl (wNT (wc_seq (wc_cond rfl (fun hc => ?_) (fun hc => ?_)))))
 ·replace h := ct hc h
  refine wc_skip (wx_then (wc_seq (wc_block (wSR (wP rfl rfl ?_)))))
  obtain ⟨v11, x11, h⟩ := bsome h
  refine wl_val (v := .pointer (some ((adOf p1a0).add (zh.toNat * 1 + 0)))) (val_ix (enc := (e1 .i32)) tt_ok rfl rfl rfl rfl p1N0 p1S0 (e1_len _) rfl x11) rfl ?_
  refine wl_val (v := .int .i32 v11) (val_le (enc := (e1 .i32)) (xs := p1) tt_ok rfl p1S0 rsub_nil (e1_len _) x11 rfl) rfl ?_
  iterate 2 refine wP rfl rfl ?_
  refine wNT (wSR (wP rfl rfl (wP (v := .bool (decide (zh < (4 : Int)))) rfl rfl (wNT (wc_cond rfl (fun hc => ?_) (fun hc => ?_))))))
  ·replace h := ct hc h
   refine wc_region ?_
   iterate 2 refine wP rfl rfl ?_
   obtain ⟨zb, x17, h⟩ := bsome h
   refine wl_cs Tryd.call60 rfl rfl rfl (s_sp (k_codec_Writer_I32 (p0 := (T_codec_Writer.mk za)) zi zj x17) (pH (pA pNil)) (fun _ _ => trivial)) rfl ?_
   rintro _ _ ⟨_, ⟨zo, zq, zp, zl, zm, zn, rfl, rfl⟩, rfl⟩
   refine wl_nil (wx_block (wx_then (wc_region (wP (v := .int .i64 (IntKind.wrap .i64 (zh + (1 : Int)))) rfl rfl (wP rfl rfl (wl_nil ?_))))))
   exact wx_round m4 (Nat.lt_succ_self m4) ⟨(IntKind.wrap .i64 (zh + (1 : Int))), zb.b, zo, zq, zp, zl, h, zm, zn, rfl, rfl⟩ (agree_cons rfl (agree_cons rfl (agree_cons rfl (agree_cons rfl agree_nil)))) (pSub (pH (pA pNil)))
  replace h := cf hc h
  refine wc_region ?_
  iterate 2 refine wP rfl rfl ?_
  refine wP (v := .int .u8 (IntKind.wrap .u8 v11)) rfl rfl ?_
  obtain ⟨zc, x21, h⟩ := bsome h
  refine wl_cs Tryd.call61 rfl rfl rfl (s_sp (k_codec_Writer_U8 (p0 := (T_codec_Writer.mk za)) zi zj x21) (pH (pA pNil)) (fun _ _ => trivial)) rfl ?_
  rintro _ _ ⟨_, ⟨zu, zw, zv, zr, zs, zt, rfl, rfl⟩, rfl⟩
  refine wl_nil (wx_block (wx_then (wc_region (wP (v := .int .i64 (IntKind.wrap .i64 (zh + (1 : Int)))) rfl rfl (wP rfl rfl (wl_nil ?_))))))
  exact wx_round m4 (Nat.lt_succ_self m4) ⟨(IntKind.wrap .i64 (zh + (1 : Int))), zc.b, zu, zw, zv, zr, h, zs, zt, rfl, rfl⟩ (agree_cons rfl (agree_cons rfl (agree_cons rfl (agree_cons rfl agree_nil)))) (pSub (pH (pA pNil)))
 replace h := cf hc h
 refine wc_exit (wx_then_exit ?_)
 obtain rfl := sI h
 have h := hl4; clear hl4; try dsimp only [orE_l, orE_r] at h
 refine wx_then_exit (wx_block_exit ?_)
 obtain rfl := sI h
 exact wx_spD tt_ok (.inr rfl) Tryd.results33 Res.nil ⟨zf, zd, zg, ze, zi, zj, rfl, rfl⟩ (fun F => by simp) (pSub (pH (pA pNil)))

theorem k_codec_Writer_Var {F : Nat} {p0 : T_codec_Writer} {p0b p0t : Nat} {p0a0 : Option Addr} {p0n0 p0c0 : Nat} {p0B0 : List Blk} {p1 : Int} {r0 : T_codec_Writer} (p0N0 : p0n0 = p0.b.length) (p0V0 : Own 5 1 p0a0 p0n0 p0c0 (flat (e1 .u8) p0.b) p0B0) (h : m_codec_Writer_Var F p0 p1 = some r0) :
    SpD Tryd.prog 34 [.pointer (some ⟨p0b, 0, none⟩), .int .u64 p1] (⟨p0b, [.slice p0a0 p0n0 p0c0], p0t, (0, 0)⟩ :: (p0B0 ++ [])) (fun w => True) (fun v D => ∃ (r0a0 : Option Addr) (r0n0 r0c0 : Nat) (r0B0 : List Blk), r0n0 = r0.b.length ∧ Own 5 1 r0a0 r0n0 r0c0 (flat (e1 .u8) r0.b) r0B0 ∧ v = .tuple #[] ∧ D = fun F => (⟨p0b, [.slice r0a0 r0n0 r0c0], p0t, (0, 0)⟩ :: (r0B0 ++ F))) := by
 unfold m_codec_Writer_Var at h
 refine sp_of_wc Tryd.func34 rfl Tryd.ntmps34 rfl rfl (fun w0 hR => ?_)
 refine wc_seq (wc_block ?_)
 replace h := bsome h; obtain ⟨⟨zx, zk⟩, h, hl3⟩ := h; try dsimp only at hl3
 refine wc_loop (fun m E L => ∃ (ze : Int) (za : (List Int)) (zg : Option Addr) (zd zh : Nat) (zf : List Blk), m_codec_Writer_Var_L2 F m ze za = some (zx, zk) ∧ zd = za.length ∧ Own 5 1 zg zd zh (flat (e1 .u8) za) zf ∧ E = [(0, .pointer (some ⟨p0b, 0, none⟩)), (1, .int .u64 ze)] ∧ L = (⟨p0b, [.slice zg zd zh], p0t, (0, 0)⟩ :: (zf ++ []))) F ⟨p1, p0.b, p0a0, p0n0, p0c0, p0B0, h, p0N0, p0V0, rfl, rfl⟩ (agree_cons rfl (agree_cons rfl agree_nil)) (pSub (pH (pA pNil))) ?_
 clear h
 rintro m3 _ _ ⟨ze, za, zg, zd, zh, zf, h, zi, zj, rfl, rfl⟩
 rcases m3 with _ | m3
 ·rw [m_codec_Writer_Var_L2.eq_1] at h; cases h
 rw [m_codec_Writer_Var_L2.eq_2] at h
 refine wc_seq (wSR (wP rfl rfl (wP (v := .bool (decide ((127 : Int) < ze))) rfl rfl (wNT (wc_cond rfl (fun hc => ?_) (fun hc => ?_))))))
 ·replace h := ct hc h
  refine wc_skip (wx_then (wc_block (wSR ?_)))
  iterate 2 refine wP rfl rfl ?_
  refine wP (v := .int .u8 (IntKind.wrap .u8 ze)) rfl rfl (wP (v := .int .u8 (bits .or .u8 (IntKind.wrap .u8 ze) (128 : Int))) rfl rfl ?_)
  obtain ⟨zb, x10, h⟩ := bsome h
  refine wl_cs Tryd.call61 rfl rfl rfl (s_sp (k_codec_Writer_U8 (p0 := (T_codec_Writer.mk za)) zi zj x10) (pH (pA pNil)) (fun _ _ => trivial)) rfl ?_
  rintro _ _ ⟨_, ⟨zo, zq, zp, zl, zm, zn, rfl, rfl⟩, rfl⟩
  refine wNT (wc_region (wP rfl rfl (wP (v := .int .u64 (ze / 2 ^ (min 7 (IntKind.bits .u64)))) rfl rfl (wP rfl rfl (wl_nil (wx_block ?_))))))
  exact wx_round m3 (Nat.lt_succ_self m3) ⟨(ze / 2 ^ (min 7 (IntKind.bits .u64))), zb.b, zo, zq, zp, zl, h, zm, zn, rfl, rfl⟩ (agree_cons rfl (agree_cons rfl agree_nil)) (pSub (pH (pA pNil)))
 replace h := cf hc h
 refine wc_exit (wx_then_exit ?_)
 obtain ⟨rfl, rfl⟩ := pJ2 h
 have h := hl3; clear hl3; try dsimp only [orE_l, orE_r] at h
 refine wx_then_exit (wx_block_exit (wx_then (wc_region ?_)))
 iterate 2 refine wP rfl rfl ?_
 refine wP (v := .int .u8 (IntKind.wrap .u8 ze)) rfl rfl ?_
 obtain ⟨zc, x16, h⟩ := bsome h
 refine wl_cs Tryd.call61 rfl rfl rfl (s_sp (k_codec_Writer_U8 (p0 := (T_codec_Writer.mk za)) zi zj x16) (pH (pA pNil)) (fun _ _ => trivial)) rfl ?_
 rintro _ _ ⟨_, ⟨zu, zw, zv, zr, zs, zt, rfl, rfl⟩, rfl⟩
 refine wl_nil ?_
 obtain rfl := sI h
 exact wx_spD tt_ok (.inr rfl) Tryd.results34 Res.nil ⟨zu, zw, zv, zr, zs, zt, rfl, rfl⟩ (fun F => by simp) (pSub (pH (pA pNil)))

theorem k_codec_put_uint16 {F : Nat} {p0 : T_codec_Writer} {p0b p0t : Nat} {p0a0 : Option Addr} {p0n0 p0c0 : Nat} {p0B0 : List Blk} {p1 : Int} {p2 : Int} {r0 : T_codec_Writer} (p0N0 : p0n0 = p0.b.length) (p0V0 : Own 5 1 p0a0 p0n0 p0c0 (flat (e1 .u8) p0.b) p0B0) (h : m_codec_put_uint16 F p0 p1 p2 = some r0) :
    SpD Tryd.prog 62 [.pointer (some ⟨p0b, 0, none⟩), .int .u16 p1, .int .i64 p2] (⟨p0b, [.slice p0a0 p0n0 p0c0], p0t, (0, 0)⟩ :: (p0B0 ++ [])) (fun w => True) (fun v D => ∃ (r0a0 : Option Addr) (r0n0 r0c0 : Nat) (r0B0 : List Blk), r0n0 = r0.b.length ∧ Own 5 1 r0a0 r0n0 r0c0 (flat (e1 .u8) r0.b) r0B0 ∧ v = .tuple #[] ∧ D = fun F => (⟨p0b, [.slice r0a0 r0n0 r0c0], p0t, (0, 0)⟩ :: (r0B0 ++ F))) := by
 unfold m_codec_put_uint16 at h
 refine sp_of_wc Tryd.func62 rfl Tryd.ntmps62 rfl rfl (fun w0 hR => ?_)
 refine wc_seq (wSR (wP rfl rfl (wP (v := .bool false) rfl rfl (wNT (wc_cond_false rfl (wc_skip (wx_then (wSR ?_))))))))
 iterate 2 refine wP rfl rfl ?_
 refine wNT (wc_block ?_)
 obtain ⟨zi, h, hl10⟩ := bsome h
 refine wc_loop (fun m E L => ∃ (zf : Int) (za : (List Int)) (zc : Option Addr) (zb zd : Nat) (ze : List Blk), m_codec_put_uint16_L9 F p1 p2 m zf za = some zi ∧ zb = za.length ∧ Own 5 1 zc zb zd (flat (e1 .u8) za) ze ∧ E = [(0, .pointer (some ⟨p0b, 0, none⟩)), (1, .int .u16 p1), (9, .int .i64 p2), (10, .int .i64 zf)] ∧ L = (⟨p0b, [.slice zc zb zd], p0t, (0, 0)⟩ :: (ze ++ []))) F ⟨(0 : Int), p0.b, p0a0, p0n0, p0c0, p0B0, h, p0N0, p0V0, rfl, rfl⟩ (agree_cons rfl (agree_cons rfl (agree_cons rfl (agree_cons rfl agree_nil)))) (pSub (pH (pA pNil))) ?_
 clear h
 rintro m10 _ _ ⟨zf, za, zc, zb, zd, ze, h, zg, zh, rfl, rfl⟩
 rcases m10 with _ | m10
 ·rw [m_codec_put_uint16_L9.eq_1] at h; cases h
 rw [m_codec_put_uint16_L9.eq_2] at h
 refine wSR (wP (v := .bool (decide (zf < p2))) rfl rfl (wNT (wc_seq (wc_cond rfl (fun hc => ?_) (fun hc => ?_)))))
 ·replace h := ct hc h
  refine wc_skip (wx_then (wc_seq (wc_block (wSR ?_))))
  iterate 2 refine wP rfl rfl ?_
  refine wNT (wc_k2 (Ls := (⟨p0b, [.slice zc zb zd], p0t, (0, 0)⟩ :: [])) [11, 12, 13, 14, 15] [13, 14, 15] [0, 0, 2, 6, 14, 0, 32, 0, 128, 480, 992, 2016, 4094, 8191, 16383, 32767] [0, 1, 2, 3, 4, 5, 6, 7, 8, 9, 10, 11, 12, 13, 14, 15] (by kernel_rfl) (by kernel_rfl) (by kernel_rfl) ?_)
  iterate 3 refine k_val rfl rfl rfl (pSub (pH pNil)) (sV rfl) rfl ?_
  refine k_val (v := .pointer (some ⟨p0b, 0, none⟩)) rfl rfl rfl (pSub (pH pNil)) (sV rfl) rfl (k_val (v := .slice zc zb zd) rfl rfl rfl (pSub (pH pNil)) (val_load tt_ok rfl mH rfl) rfl (k_val rfl rfl rfl (pSub (pH pNil)) (sV rfl) rfl (k_val (v := .int .u64 (IntKind.wrap .u64 p1)) rfl rfl rfl (pSub (pH pNil)) (sV rfl) rfl (k_val rfl rfl rfl (pSub (pH pNil)) (sV rfl) rfl (k_val (v := .int .i64 (IntKind.wrap .i64 ((8 : Int) * zf))) rfl rfl rfl (pSub (pH pNil)) (sV rfl) rfl ?_)))))
  obtain ⟨v22, x22, h⟩ := bsome h
  refine k_val (v := .int .u64 v22) rfl rfl rfl (pSub (pH pNil)) (val_shr rfl rfl x22) rfl (k_val (v := .int .u8 (IntKind.wrap .u8 v22)) rfl rfl rfl (pSub (pH pNil)) (sV rfl) rfl (k_chg rfl rfl rfl (chg_bsv (enc := (e1 .u8)) (xs := ([(IntKind.wrap .u8 v22)] : List Int)) tt_ok rfl rfl rfl rfl rfl rfl rfl rfl (e1_len _)) rfl (.inr (by rintro _ _ ⟨_, _, _, _, rfl, _, _, rfl⟩; exact ⟨_, (pCons (sA hC) pNil)⟩)) ?_))
  rintro _ _ ⟨a24, n24_, c24, B24, rfl, N24, V24, rfl⟩
  obtain ⟨v25, x25, h⟩ := bsome h
  refine k_chg rfl rfl rfl (chg_app (enc := (e1 .u8)) (ys := ([(IntKind.wrap .u8 v22)] : List Int)) tt_ok rfl rfl rfl rfl rfl rfl zg N24 zh (sAC hA') (Rds.of_vec V24) ⟨_, hA'⟩ (e1_len _) (fun _ => rfl) rfl x25) rfl (.inr (by rintro _ _ ⟨_, _, _, _, rfl, _, _, rfl⟩; exact ⟨_, (pCons (sAA hC) pNil)⟩)) ?_
  rintro _ _ ⟨a25, n25_, c25, B25, rfl, N25, V25, rfl⟩
  refine k_chg rfl rfl rfl (Chg.of_val (sV rfl)) rfl (.inl rfl) ?_
  rintro _ _ ⟨rfl, rfl⟩
  refine k_chg rfl rfl rfl (Chg.of_val (v := .pointer (some ⟨p0b, 0, none⟩)) (sV rfl)) rfl (.inl rfl) ?_
  rintro _ _ ⟨rfl, rfl⟩
  refine k_chg0 rfl rfl rfl (chg_store tt_ok rfl (Upd.right (Upd.right Upd.here)) rfl rfl rfl rfl rfl rfl) (.inl rfl) ?_
  rintro _ _ rfl
  refine k_end (by kernel_rfl) ?_
  refine wx_block (wx_then (wc_region (wP (v := .int .i64 (IntKind.wrap .i64 (zf + (1 : Int)))) rfl rfl (wP rfl rfl (wl_nil ?_)))))
  exact wx_round m10 (Nat.lt_succ_self m10) ⟨(IntKind.wrap .i64 (zf + (1 : Int))), v25, a25, n25_, c25, B25, h, N25, V25, rfl, rfl⟩ (agree_cons rfl (agree_cons rfl (agree_cons rfl (agree_cons rfl agree_nil)))) (pSub (pCons (sAA hC) (pA pNil)))
 replace h := cf hc h
 refine wc_exit (wx_then_exit ?_)
 obtain rfl := sI h
 have h := hl10; clear hl10; try dsimp only [orE_l, orE_r] at h
 refine wx_then_exit (wx_block_exit ?_)
 obtain rfl := sI h
 exact wx_spD tt_ok (.inr rfl) Tryd.results62 Res.nil ⟨zc, zb, zd, ze, zg, zh, rfl, rfl⟩ (fun F => by simp) (pSub (pH (pA pNil)))

theorem k_codec_Writer_U16 {F : Nat} {p0 : T_codec_Writer} {p0b p0t : Nat} {p0a0 : Option Addr} {p0n0 p0c0 : Nat} {p0B0 : List Blk} {p1 : Int} {r0 : T_codec_Writer} (p0N0 : p0n0 = p0.b.length) (p0V0 : Own 5 1 p0a0 p0n0 p0c0 (flat (e1 .u8) p0.b) p0B0) (h : m_codec_Writer_U16 F p0 p1 = some r0) :
    SpD Tryd.prog 35 [.pointer (some ⟨p0b, 0, none⟩), .int .u16 p1] (⟨p0b, [.slice p0a0 p0n0 p0c0], p0t, (0, 0)⟩ :: (p0B0 ++ [])) (fun w => True) (fun v D => ∃ (r0a0 : Option Addr) (r0n0 r0c0 : Nat) (r0B0 : List Blk), r0n0 = r0.b.length ∧ Own 5 1 r0a0 r0n0 r0c0 (flat (e1 .u8) r0.b) r0B0 ∧ v = .tuple #[] ∧ D = fun F => (⟨p0b, [.slice r0a0 r0n0 r0c0], p0t, (0, 0)⟩ :: (r0B0 ++ F))) := by
 unfold m_codec_Writer_U16 at h
 refine sp_of_wc Tryd.func35 rfl Tryd.ntmps35 rfl rfl (fun w0 hR => ?_)
 refine wc_region ?_
 iterate 2 refine wP rfl rfl ?_
 obtain ⟨za, x6, h⟩ := bsome h
 refine wl_cs Tryd.call62 rfl rfl rfl (s_sp (k_codec_put_uint16 (p0 := p0) p0N0 p0V0 x6) (pH (pA pNil)) (fun _ _ => trivial)) rfl ?_
 rintro _ _ ⟨_, ⟨ze, zg, zf, zb, zc, zd, rfl, rfl⟩, rfl⟩
 refine wl_nil ?_
 obtain rfl := sI h
 exact wx_spD tt_ok (.inr rfl) Tryd.results35 Res.nil ⟨ze, zg, zf, zb, zc, zd, rfl, rfl⟩ (fun F => by simp) (pSub (pH (pA pNil)))

theorem k_codec_Writer_Bytes {F : Nat} {p0 : T_codec_Writer} {p0b p0t : Nat} {p0a0 : Option Addr} {p0n0 p0c0 : Nat} {p0B0 : List Blk} {r0 : (List UInt8)} (p0N0 : p0n0 = p0.b.length) (p0V0 : Own 5 1 p0a0 p0n0 p0c0 (flat (e1 .u8) p0.b) p0B0) (h : m_codec_Writer_Bytes F p0 = some r0) :
    Rd2 Tryd.prog 36 [.pointer (some ⟨p0b, 0, none⟩)] (⟨p0b, [.slice p0a0 p0n0 p0c0], p0t, (0, 0)⟩ :: (p0B0 ++ [])) (fun w => True) (.string ⟨r0.toArray⟩) := by
 unfold m_codec_Writer_Bytes at h
 refine sp_of_wc Tryd.func36 rfl Tryd.ntmps36 rfl rfl (fun w0 hR => ?_)
 refine wSR (wP rfl rfl (wNT (wc_seq (wSR (wP rfl rfl (wP (v := .bool false) rfl rfl (wNT (wc_cond_false rfl (wc_skip (wx_then (wSR ?_)))))))))))
 iterate 2 refine wP rfl rfl ?_
 refine wP (v := .pointer (some ⟨p0b, 0, none⟩)) rfl rfl (wl_val (v := .slice p0a0 p0n0 p0c0) (val_load tt_ok rfl mH rfl) rfl (wl_val (v := .string ⟨(toB p0.b).toArray⟩) (val_b2s (xs := p0.b) tt_ok rfl rfl rfl rfl p0N0 (Rds.of_vec p0V0) ⟨_, (sC hA')⟩) rfl (wP rfl rfl (wNT (wc_ret ?_)))))
 obtain rfl := sI h
 exact wx_rd tt_ok (.inl rfl) Tryd.results36 (Res.tmp rfl Res.nil) (pSub (pH (pA pNil))) rfl

theorem k_state_Put {F : Nat} {p0 : T_api_State} {p0a0 : Option Addr} {p0n0 p0c0 : Nat} {r0 : (List UInt8)} (p0N0 : p0n0 = p0.Shots.length) (p0H0 : p0n0 ≤ p0c0) (h : m_state_Put F p0 = some r0) :
    Pf Tryd.prog 13 [agS p0 p0a0 p0n0 p0c0] (fun w => Rds w [] [] p0a0 (flat c_T_api_Shot p0.Shots) ∧ Rds w [] [] (some ⟨0, 0, none⟩) (flat (fun _ : Unit => gl_state_playerBounds) [()]) ∧ Rds w [] [] (some ⟨1, 0, none⟩) (flat (fun _ : Unit => gl_state_shotBounds) [()])) (.string ⟨r0.toArray⟩) := by
 unfold m_state_Put at h
 refine pf_of_wc Tryd.func13 rfl Tryd.ntmps13 rfl rfl (fun w0 hR => ?_)
 obtain ⟨p0S0, G0S, G1S⟩ := hR
 refine wSR (wl_box rfl rfl rfl (fun b1 => (wP rfl rfl (wNT (wc_seq (wSR (wl_val (v := agS p0 p0a0 p0n0 p0c0) (val_load tt_ok rfl mH rfl) rfl ?_)))))))
 obtain ⟨v11, x11, h⟩ := bsome h
 refine wl_cq Tryd.call11 rfl rfl rfl (q_pf (k_state_Check (p0 := p0) p0N0 p0H0 x11) (fun w hI => ⟨(Rds.call p0S0 pNil rsub_nil) w hI, (Rds.call G0S pNil rsub_nil) w hI, (Rds.call G1S pNil rsub_nil) w hI⟩)) rfl ?_
 refine wP (v := .bool (v11 != (0 : Int))) rfl rfl (wNT (wc_cond rfl (fun hc => ?_) (fun hc => ?_)))
 ·replace h := ct hc h
  refine wSR (wP rfl rfl (wNT (wc_ret (wx_then_ret ?_))))
  obtain rfl := sI h
  exact wx_pf tt_ok (.inl rfl) Tryd.results13 (Res.tmp rfl Res.nil) rfl
 replace h := cf hc h
 refine wc_skip (wx_then (wSR (wl_alloc tt_ok rfl rfl (fun b3 => (wNT (wSR (wP (v := .pointer (some ⟨b1, 0, none⟩)) rfl rfl (wl_val (v := .int .u64 p0.Frame) (val_load tt_ok rfl (mT mH) rfl) rfl ?_))))))))
 obtain ⟨zq, x15, h⟩ := bsome h
 refine wl_cs Tryd.call32 rfl rfl rfl (s_sp (k_codec_Writer_U64 (p0 := (T_codec_Writer.mk ([] : List Int))) rfl Own.zero x15) (pH (pNo pNil)) (fun _ _ => trivial)) rfl ?_
 rintro _ _ ⟨_, ⟨zbo, zbq, zbp, zbn, zat, zau, rfl, rfl⟩, rfl⟩
 refine wNT (wSR (wP (v := .pointer (some ⟨b1, 1, none⟩)) rfl rfl (wl_val (v := .int .u64 p0.Seed) (val_load tt_ok rfl (mT (mR mH)) rfl) rfl ?_)))
 obtain ⟨zf, x18, h⟩ := bsome h
 refine wl_cs Tryd.call32 rfl rfl rfl (s_sp (k_codec_Writer_U64 (p0 := zq) zat zau x18) (pH (pA pNil)) (fun _ _ => trivial)) rfl ?_
 rintro _ _ ⟨_, ⟨zay, zba, zaz, zav, zaw, zax, rfl, rfl⟩, rfl⟩
 refine wNT (wc_seq (wSR (wP (v := .pointer (some ⟨b1, 2, none⟩)) rfl rfl (wl_val (v := .agg #[.int .i32 p0.Players.1.X, .int .i32 p0.Players.1.Y, .int .i32 p0.Players.1.VX, .int .i32 p0.Players.1.VY, .int .u8 p0.Players.1.Health, .int .u8 p0.Players.1.Cool, .int .u8 p0.Players.1.Face, .int .i32 p0.Players.2.X, .int .i32 p0.Players.2.Y, .int .i32 p0.Players.2.VX, .int .i32 p0.Players.2.VY, .int .u8 p0.Players.2.Health, .int .u8 p0.Players.2.Cool, .int .u8 p0.Players.2.Face]) (val_load tt_ok rfl (mT (mR mH)) rfl) rfl (wP rfl rfl (wNT (wc_block ?_)))))))
 obtain ⟨zaq, h, hl21⟩ := bsome h
 refine wc_loop (fun m E L => ∃ (zi : Int) (zb : (List Int)) (zv : Option Addr) (zl zw : Nat) (zs : List Blk), m_state_Put_L20 F p0 m zi zb = some zaq ∧ zl = zb.length ∧ Own 5 1 zv zl zw (flat (e1 .u8) zb) zs ∧ E = [(1, .pointer (some ⟨b1, 0, none⟩)), (2, .string ⟨([] : List UInt8).toArray⟩), (3, .pointer (some ⟨b3, 0, none⟩)), (20, .agg #[.int .i32 p0.Players.1.X, .int .i32 p0.Players.1.Y, .int .i32 p0.Players.1.VX, .int .i32 p0.Players.1.VY, .int .u8 p0.Players.1.Health, .int .u8 p0.Players.1.Cool, .int .u8 p0.Players.1.Face, .int .i32 p0.Players.2.X, .int .i32 p0.Players.2.Y, .int .i32 p0.Players.2.VX, .int .i32 p0.Players.2.VY, .int .u8 p0.Players.2.Health, .int .u8 p0.Players.2.Cool, .int .u8 p0.Players.2.Face]), (21, .int .i64 zi)] ∧ L = (⟨b1, (st19 p0 p0a0 p0n0 p0c0 []), 30, (0, 0)⟩ :: (⟨b3, [.slice zv zl zw], 64, (0, 0)⟩ :: (zs ++ [])))) F ⟨(0 : Int), zf.b, zay, zba, zaz, zav, h, zaw, zax, rfl, rfl⟩ (agree_cons rfl (agree_cons rfl (agree_cons rfl (agree_cons rfl (agree_cons rfl agree_nil))))) (pSub (pCons (sCA hC) (pH (pA pNil)))) ?_
 clear h
 rintro m21 _ _ ⟨zi, zb, zv, zl, zw, zs, h, zt, zu, rfl, rfl⟩
 rcases m21 with _ | m21
 ·rw [m_state_Put_L20.eq_1] at h; cases h
 rw [m_state_Put_L20.eq_2] at h
 refine wSR (wP (v := .bool (decide (zi < (2 : Int)))) rfl rfl (wNT (wc_seq (wc_cond rfl (fun hc => ?_) (fun hc => ?_)))))
 ·replace h := ct hc h
  refine wc_skip (wx_then (wc_seq (wc_block (wSR ?_))))
  rcases Bool.eq_false_or_eq_true (zi == (0 : Int)) with hx230 | hx230
  ·replace h := ct hx230 h
   refine wl_val (v := agP p0.Players.1) (val_iv (j := 0) tt_ok rfl rfl rfl rfl (by simpa using hx230) rfl rfl) rfl ?_
   refine wl_alloc tt_ok rfl rfl (fun b5 => ?_)
   apply wl_store tt_ok; rfl; exact Upd.here; rfl; rfl; rfl; rfl; rfl; rfl
   refine wNT (wc_region (wl_val (v := agP p0.Players.1) (val_load tt_ok rfl mH rfl) rfl ?_))
   obtain ⟨v25, x25, h⟩ := bsome h
   refine wl_cs Tryd.call26 rfl rfl rfl (s_sp (k_state_ofPlayer x25) pNil (fun _ _ => trivial)) rfl ?_
   rintro _ _ ⟨_, ⟨v25a0, v25n0, v25c0, v25B0, v25N0, v25V0, rfl, rfl⟩, rfl⟩
   obtain ⟨zd, x26, h⟩ := bsome h
   refine wl_cs Tryd.call33 rfl rfl rfl (s_sp (k_state_put (p0 := (T_codec_Writer.mk zb)) (p1 := v25) zt zu v25N0 (vec_cap v25V0) x26) (pCons (sA (sCC hC)) (pApp (sA (sCC hA')) pNil)) (Rds.call (Rds.of_vec v25V0) (pCons (sA (sCC hC)) (pApp (sA (sCC hA')) pNil)) ⟨_, hA'⟩)) rfl ?_
   rintro _ _ ⟨_, ⟨zah, zaj, zai, zae, zaf, zag, rfl, rfl⟩, rfl⟩
   refine wl_nil (wx_block (wx_then (wc_region (wP (v := .int .i64 (IntKind.wrap .i64 (zi + (1 : Int)))) rfl rfl (wP rfl rfl (wl_nil ?_))))))
   exact wx_round m21 (Nat.lt_succ_self m21) ⟨(IntKind.wrap .i64 (zi + (1 : Int))), zd.b, zah, zaj, zai, zae, h, zaf, zag, rfl, rfl⟩ (agree_cons rfl (agree_cons rfl (agree_cons rfl (agree_cons rfl (agree_cons rfl agree_nil))))) (pSub (pCons (sC (sAA (sC hC))) (pH (pA pNil))))
  replace h := cf hx230 h
  rcases Bool.eq_false_or_eq_true (zi == (1 : Int)) with hx231 | hx231
  ·replace h := ct hx231 h
   refine wl_val (v := agP p0.Players.2) (val_iv (j := 1) tt_ok rfl rfl rfl rfl (by simpa using hx231) rfl rfl) rfl ?_
   refine wl_alloc tt_ok rfl rfl (fun b5 => ?_)
   apply wl_store tt_ok; rfl; exact Upd.here; rfl; rfl; rfl; rfl; rfl; rfl
   refine wNT (wc_region (wl_val (v := agP p0.Players.2) (val_load tt_ok rfl mH rfl) rfl ?_))
   obtain ⟨v25, x25, h⟩ := bsome h
   refine wl_cs Tryd.call26 rfl rfl rfl (s_sp (k_state_ofPlayer x25) pNil (fun _ _ => trivial)) rfl ?_
   rintro _ _ ⟨_, ⟨v25a0, v25n0, v25c0, v25B0, v25N0, v25V0, rfl, rfl⟩, rfl⟩
   obtain ⟨zd, x26, h⟩ := bsome h
   refine wl_cs Tryd.call33 rfl rfl rfl (s_sp (k_state_put (p0 := (T_codec_Writer.mk zb)) (p1 := v25) zt zu v25N0 (vec_cap v25V0) x26) (pCons (sA (sCC hC)) (pApp (sA (sCC hA')) pNil)) (Rds.call (Rds.of_vec v25V0) (pCons (sA (sCC hC)) (pApp (sA (sCC hA')) pNil)) ⟨_, hA'⟩)) rfl ?_
   rintro _ _ ⟨_, ⟨zah, zaj, zai, zae, zaf, zag, rfl, rfl⟩, rfl⟩
   refine wl_nil (wx_block (wx_then (wc_region (wP (v := .int .i64 (IntKind.wrap .i64 (zi + (1 : Int)))) rfl rfl (wP rfl rfl (wl_nil ?_))))))
   exact wx_round m21 (Nat.lt_succ_self m21) ⟨(IntKind.wrap .i64 (zi + (1 : Int))), zd.b, zah, zaj, zai, zae, h, zaf, zag, rfl, rfl⟩ (agree_cons rfl (agree_cons rfl (agree_cons rfl (agree_cons rfl (agree_cons rfl agree_nil))))) (pSub (pCons (sC (sAA (sC hC))) (pH (pA pNil))))
  replace h := cf hx231 h
  cases h
 replace h := cf hc h
 refine wc_exit (wx_then_exit ?_)
 obtain rfl := sI h
 have h := hl21; clear hl21; try dsimp only [orE_l, orE_r] at h
 refine wx_then_exit (wx_block_exit (wx_then (wSR ?_)))
 refine wP (v := .pointer (some ⟨b1, 16, none⟩)) rfl rfl (wl_val (v := .slice p0a0 p0n0 p0c0) (val_load tt_ok rfl mH rfl) rfl (wl_val (v := .int .i64 (p0.Shots.length : Int)) (val_len tt_ok rfl rfl p0N0) rfl (wP (v := .int .u64 (IntKind.wrap .u64 (p0.Shots.length : Int))) rfl rfl ?_)))
 obtain ⟨zg, x32, h⟩ := bsome h
 refine wl_cs Tryd.call34 rfl rfl rfl (s_sp (k_codec_Writer_Var (p0 := (T_codec_Writer.mk zb)) zt zu x32) (pS (qS pNil)) (fun _ _ => trivial)) rfl ?_
 rintro _ _ ⟨_, ⟨zbe, zbg, zbf, zbb, zbc, zbd, rfl, rfl⟩, rfl⟩
 refine wNT (wc_seq (wSR (wP (v := .pointer (some ⟨b1, 16, none⟩)) rfl rfl (wl_val (v := .slice p0a0 p0n0 p0c0) (val_load tt_ok rfl (mT (mR mH)) rfl) rfl (wl_val (v := .int .i64 (p0.Shots.length : Int)) (val_len tt_ok rfl rfl p0N0) rfl (wP rfl rfl (wNT (wc_block ?_))))))))
 obtain ⟨zar, h, hl40⟩ := bsome h
 refine wc_loop (fun m E L => ∃ (zr : Int) (za : (List Int)) (zn : Option Addr) (zj zo : Nat) (zm : List Blk), m_state_Put_L39 F p0 m zr za = some zar ∧ zj = za.length ∧ Own 5 1 zn zj zo (flat (e1 .u8) za) zm ∧ E = [(1, .pointer (some ⟨b1, 0, none⟩)), (2, .string ⟨([] : List UInt8).toArray⟩), (3, .pointer (some ⟨b3, 0, none⟩)), (34, .slice p0a0 p0n0 p0c0), (35, .int .i64 (p0.Shots.length : Int)), (36, .int .i64 zr)] ∧ L = (⟨b1, (st19 p0 p0a0 p0n0 p0c0 []), 30, (0, 0)⟩ :: (⟨b3, [.slice zn zj zo], 64, (0, 0)⟩ :: (zm ++ [])))) F ⟨(0 : Int), zg.b, zbe, zbg, zbf, zbb, h, zbc, zbd, rfl, rfl⟩ (agree_cons rfl (agree_cons rfl (agree_cons rfl (agree_cons rfl (agree_cons rfl (agree_cons rfl agree_nil)))))) (pSub (pCons (sCA hC) (pH (pA pNil)))) ?_
 clear h
 rintro m40 _ _ ⟨zr, za, zn, zj, zo, zm, h, zac, zad, rfl, rfl⟩
 rcases m40 with _ | m40
 ·rw [m_state_Put_L39.eq_1] at h; cases h
 rw [m_state_Put_L39.eq_2] at h
 refine wSR (wP (v := .bool (decide (zr < (p0.Shots.length : Int)))) rfl rfl (wNT (wc_seq (wc_cond rfl (fun hc => ?_) (fun hc => ?_)))))
 ·replace h := ct hc h
  refine wc_skip (wx_then (wc_seq (wc_block (wSR ?_))))
  obtain ⟨v38, x38, h⟩ := bsome h
  refine wl_val (v := .pointer (some ((adOf p0a0).add (zr.toNat * 6 + 0)))) (val_ix (enc := c_T_api_Shot) tt_ok rfl rfl rfl rfl p0N0 p0S0 c_T_api_Shot_len rfl x38) rfl ?_
  refine wl_val (v := .agg #[.int .i32 v38.X, .int .i32 v38.Y, .int .i32 v38.VX, .int .i32 v38.VY, .int .u8 v38.Owner, .int .u8 v38.Life]) (val_le (enc := c_T_api_Shot) (xs := p0.Shots) tt_ok rfl p0S0 rsub_nil c_T_api_Shot_len x38 rfl) rfl ?_
  refine wl_alloc tt_ok rfl rfl (fun b7 => ?_)
  apply wl_store tt_ok; rfl; exact Upd.here; rfl; rfl; rfl; rfl; rfl; rfl
  refine wNT (wc_region (wl_val (v := .agg #[.int .i32 v38.X, .int .i32 v38.Y, .int .i32 v38.VX, .int .i32 v38.VY, .int .u8 v38.Owner, .int .u8 v38.Life]) (val_load tt_ok rfl mH rfl) rfl ?_))
  obtain ⟨v41, x41, h⟩ := bsome h
  refine wl_cs Tryd.call29 rfl rfl rfl (s_sp (k_state_ofShot x41) pNil (fun _ _ => trivial)) rfl ?_
  rintro _ _ ⟨_, ⟨v41a0, v41n0, v41c0, v41B0, v41N0, v41V0, rfl, rfl⟩, rfl⟩
  obtain ⟨zh, x42, h⟩ := bsome h
  refine wl_cs Tryd.call33 rfl rfl rfl (s_sp (k_state_put (p0 := (T_codec_Writer.mk za)) (p1 := v41) zac zad v41N0 (vec_cap v41V0) x42) (pCons (sA (sCC hC)) (pApp (sA (sCC hA')) pNil)) (Rds.call (Rds.of_vec v41V0) (pCons (sA (sCC hC)) (pApp (sA (sCC hA')) pNil)) ⟨_, hA'⟩)) rfl ?_
  rintro _ _ ⟨_, ⟨zbk, zbm, zbl, zbh, zbi, zbj, rfl, rfl⟩, rfl⟩
  refine wl_nil (wx_block (wx_then (wc_region (wP (v := .int .i64 (IntKind.wrap .i64 (zr + (1 : Int)))) rfl rfl (wP rfl rfl (wl_nil ?_))))))
  exact wx_round m40 (Nat.lt_succ_self m40) ⟨(IntKind.wrap .i64 (zr + (1 : Int))), zh.b, zbk, zbm, zbl, zbh, h, zbi, zbj, rfl, rfl⟩ (agree_cons rfl (agree_cons rfl (agree_cons rfl (agree_cons rfl (agree_cons rfl (agree_cons rfl agree_nil)))))) (pSub (pCons (sC (sAA (sC hC))) (pH (pA pNil))))
 replace h := cf hc h
 refine wc_exit (wx_then_exit ?_)
 obtain rfl := sI h
 have h := hl40; clear hl40; try dsimp only [orE_l, orE_r] at h
 refine wx_then_exit (wx_block_exit (wx_then (wc_seq (wSR ?_))))
 refine wP (v := .pointer (some ⟨b1, 17, none⟩)) rfl rfl (wl_val (v := .agg #[.int .u16 p0.Score.1, .int .u16 p0.Score.2]) (val_load tt_ok rfl mH rfl) rfl (wP rfl rfl (wNT (wc_block ?_))))
 obtain ⟨zas, h, hl57⟩ := bsome h
 refine wc_loop (fun m E L => ∃ (zk : Int) (zc : (List Int)) (zaa : Option Addr) (zp zab : Nat) (zx : List Blk), m_state_Put_L56 F p0 m zk zc = some zas ∧ zp = zc.length ∧ Own 5 1 zaa zp zab (flat (e1 .u8) zc) zx ∧ E = [(2, .string ⟨([] : List UInt8).toArray⟩), (3, .pointer (some ⟨b3, 0, none⟩)), (45, .agg #[.int .u16 p0.Score.1, .int .u16 p0.Score.2]), (46, .int .i64 zk)] ∧ L = (⟨b3, [.slice zaa zp zab], 64, (0, 0)⟩ :: (zx ++ []))) F ⟨(0 : Int), za, zn, zj, zo, zm, h, zac, zad, rfl, rfl⟩ (agree_cons rfl (agree_cons rfl (agree_cons rfl (agree_cons rfl agree_nil)))) (pSub (pS (qS pNil))) ?_
 clear h
 rintro m57 _ _ ⟨zk, zc, zaa, zp, zab, zx, h, zy, zz, rfl, rfl⟩
 rcases m57 with _ | m57
 ·rw [m_state_Put_L56.eq_1] at h; cases h
 rw [m_state_Put_L56.eq_2] at h
 refine wSR (wP (v := .bool (decide (zk < (2 : Int)))) rfl rfl (wNT (wc_seq (wc_cond rfl (fun hc => ?_) (fun hc => ?_)))))
 ·replace h := ct hc h
  refine wc_skip (wx_then (wc_seq (wc_block (wSR ?_))))
  rcases Bool.eq_false_or_eq_true (zk == (0 : Int)) with hx480 | hx480
  ·replace h := ct hx480 h
   refine wl_val (v := .int .u16 p0.Score.1) (val_iv (j := 0) tt_ok rfl rfl rfl rfl (by simpa using hx480) rfl rfl) rfl ?_
   refine wP rfl rfl (wNT (wc_region (wP rfl rfl ?_)))
   obtain ⟨ze, x50, h⟩ := bsome h
   refine wl_cs Tryd.call35 rfl rfl rfl (s_sp (k_codec_Writer_U16 (p0 := (T_codec_Writer.mk zc)) zy zz x50) (pH (pA pNil)) (fun _ _ => trivial)) rfl ?_
   rintro _ _ ⟨_, ⟨zan, zap, zao, zak, zal, zam, rfl, rfl⟩, rfl⟩
   refine wl_nil (wx_block (wx_then (wc_region (wP (v := .int .i64 (IntKind.wrap .i64 (zk + (1 : Int)))) rfl rfl (wP rfl rfl (wl_nil ?_))))))
   exact wx_round m57 (Nat.lt_succ_self m57) ⟨(IntKind.wrap .i64 (zk + (1 : Int))), ze.b, zan, zap, zao, zak, h, zal, zam, rfl, rfl⟩ (agree_cons rfl (agree_cons rfl (agree_cons rfl (agree_cons rfl agree_nil)))) (pSub (pH (pA pNil)))
  replace h := cf hx480 h
  rcases Bool.eq_false_or_eq_true (zk == (1 : Int)) with hx481 | hx481
  ·replace h := ct hx481 h
   refine wl_val (v := .int .u16 p0.Score.2) (val_iv (j := 1) tt_ok rfl rfl rfl rfl (by simpa using hx481) rfl rfl) rfl ?_
   refine wP rfl rfl (wNT (wc_region (wP rfl rfl ?_)))
   obtain ⟨ze, x50, h⟩ := bsome h
   refine wl_cs Tryd.call35 rfl rfl rfl (s_sp (k_codec_Writer_U16 (p0 := (T_codec_Writer.mk zc)) zy zz x50) (pH (pA pNil)) (fun _ _ => trivial)) rfl ?_
   rintro _ _ ⟨_, ⟨zan, zap, zao, zak, zal, zam, rfl, rfl⟩, rfl⟩
   refine wl_nil (wx_block (wx_then (wc_region (wP (v := .int .i64 (IntKind.wrap .i64 (zk + (1 : Int)))) rfl rfl (wP rfl rfl (wl_nil ?_))))))
   exact wx_round m57 (Nat.lt_succ_self m57) ⟨(IntKind.wrap .i64 (zk + (1 : Int))), ze.b, zan, zap, zao, zak, h, zal, zam, rfl, rfl⟩ (agree_cons rfl (agree_cons rfl (agree_cons rfl (agree_cons rfl agree_nil)))) (pSub (pH (pA pNil)))
  replace h := cf hx481 h
  cases h
 replace h := cf hc h
 refine wc_exit (wx_then_exit ?_)
 obtain rfl := sI h
 have h := hl57; clear hl57; try dsimp only [orE_l, orE_r] at h
 refine wx_then_exit (wx_block_exit (wx_then (wSR ?_)))
 obtain ⟨v52, x52, h⟩ := bsome h
 refine wl_cq Tryd.call36 rfl rfl rfl (q_rd (k_codec_Writer_Bytes (p0 := (T_codec_Writer.mk zc)) zy zz x52) (pH (pA pNil)) (fun _ _ => trivial)) rfl ?_
 refine wP rfl rfl (wNT (wc_ret ?_))
 obtain rfl := sI h
 exact wx_pf tt_ok (.inl rfl) Tryd.results13 (Res.tmp rfl Res.nil) rfl

theorem k_hindcastlaw08_first {F : Nat} {r0 : T_api_State} (h : m_hindcastlaw08_first F = some r0) :
    SpD Tryd.prog 23 [] [] (fun w => True) (fun v D => ∃ (r0a0 : Option Addr) (r0n0 r0c0 : Nat) (r0B0 : List Blk), r0n0 = r0.Shots.length ∧ Own 50 6 r0a0 r0n0 r0c0 (flat c_T_api_Shot r0.Shots) r0B0 ∧ v = agS r0 r0a0 r0n0 r0c0 ∧ D = fun F => (r0B0 ++ F)) := by
 unfold m_hindcastlaw08_first at h
 refine sp_of_wc Tryd.func23 rfl Tryd.ntmps23 rfl rfl (fun w0 hR => ?_)
 refine wSR (wl_alloc tt_ok rfl rfl (fun b0 => (wNT (wSR ?_))))
 obtain ⟨v2, x2, h⟩ := bsome h
 refine wl_cs Tryd.call16 rfl rfl rfl (s_sp (k_state_Start x2) pNil (fun _ _ => trivial)) rfl ?_
 rintro _ _ ⟨_, ⟨v2a0, v2n0, v2c0, v2B0, v2N0, v2V0, rfl, rfl⟩, rfl⟩
 refine wl_alloc tt_ok rfl rfl (fun b1 => ?_)
 apply wl_store tt_ok; rfl; exact Upd.here; rfl; rfl; rfl; rfl; rfl; rfl
 refine wNT (wSR (wP (v := .agg #[.int .i32 (5 : Int), .int .i32 (6 : Int), .int .i32 (-2048 : Int), .int .i32 (2048 : Int), .int .u8 (1 : Int), .int .u8 (40 : Int)]) rfl rfl (wl_chg (chg_bsv (enc := c_T_api_Shot) (xs := ([(T_api_Shot.mk (5 : Int) (6 : Int) (-2048 : Int) (2048 : Int) (1 : Int) (40 : Int))] : List T_api_Shot)) tt_ok rfl rfl rfl rfl rfl rfl rfl rfl c_T_api_Shot_len) rfl ?_)))
 rintro _ _ ⟨a4, n4_, c4, B4, rfl, N4, V4, rfl⟩
 refine wP (v := .pointer (some ⟨b1, 16, none⟩)) rfl rfl ?_
 apply wl_store tt_ok; rfl; exact (Upd.right Upd.here); rfl; rfl; rfl; rfl; rfl; rfl
 refine wNT (wSR (wl_val (v := agS v2 a4 n4_ c4) (val_load tt_ok rfl (mR mH) rfl) rfl ?_))
 apply wl_store tt_ok; rfl; exact (Upd.right (Upd.there (Upd.right Upd.here))); rfl; rfl; rfl; rfl; rfl; rfl
 refine wNT (wc_ret ?_)
 obtain rfl := sI h
 exact wx_spD tt_ok (.inl rfl) Tryd.results23 (Res.cell rfl (mR (mT (mR mH))) rfl Res.nil) ⟨a4, n4_, c4, B4, N4, V4, rfl, rfl⟩ (fun F => by simp) (pSub (pA pNil))

theorem k_codec_New {F : Nat} {p0 : (List UInt8)} {r0 : T_codec_Reader} (h : m_codec_New F p0 = some r0) :
    SpD Tryd.prog 40 [.string ⟨p0.toArray⟩] [] (fun w => True) (fun v D => ∃ (r0b : Nat), v = .pointer (some ⟨r0b, 0, none⟩) ∧ D = fun F => (⟨r0b, [.string ⟨r0.left.s.toArray⟩, .int .i64 r0.left.e], 101, (0, 0)⟩ :: F)) := by
 unfold m_codec_New at h
 refine sp_of_wc Tryd.func40 rfl Tryd.ntmps40 rfl rfl (fun w0 hR => ?_)
 refine wSR (wP rfl rfl (wNT (wSR (wP rfl rfl (wP (v := .agg #[.string ⟨p0.toArray⟩, .int .i64 (0 : Int)]) rfl rfl (wP (v := .agg #[.string ⟨p0.toArray⟩, .int .i64 (0 : Int)]) rfl rfl (wl_box rfl rfl rfl (fun b6 => (wP rfl rfl (wNT (wc_ret ?_)))))))))))
 obtain rfl := sI h
 exact wx_spD tt_ok (.inl rfl) Tryd.results40 (Res.tmp rfl Res.nil) ⟨b6, rfl, rfl⟩ (fun F => by simp) (pSub (pH pNil))

theorem k_codec_left_fail {F : Nat} {p0 : T_codec_left} {p0b p0t : Nat} {p1 : Int} {r0 : T_codec_left} (h : m_codec_left_fail F p0 p1 = some r0) :
    SpD Tryd.prog 67 [.pointer (some ⟨p0b, 0, none⟩), .int .i64 p1] (⟨p0b, [.string ⟨p0.s.toArray⟩, .int .i64 p0.e], p0t, (0, 0)⟩ :: []) (fun w => True) (fun v D => v = .tuple #[] ∧ D = fun F => (⟨p0b, [.string ⟨r0.s.toArray⟩, .int .i64 r0.e], p0t, (0, 0)⟩ :: F)) := by
 unfold m_codec_left_fail at h
 refine sp_of_wc Tryd.func67 rfl Tryd.ntmps67 rfl rfl (fun w0 hR => ?_)
 refine wSR ?_
 iterate 2 refine wP rfl rfl ?_
 refine wP (v := .pointer (some ⟨p0b, 1, none⟩)) rfl rfl (wl_val (v := .int .i64 p0.e) (val_load tt_ok rfl mH rfl) rfl (wP (v := .bool (p0.e == (0 : Int))) rfl rfl (wNT (wc_cond rfl (fun hc => ?_) (fun hc => ?_)))))
 ·replace h := ct hc h
  refine wc_region ?_
  iterate 4 refine wP rfl rfl ?_
  refine wP (v := .pointer (some ⟨p0b, 0, none⟩)) rfl rfl ?_
  apply wl_store tt_ok; rfl; exact Upd.here; rfl; rfl; rfl; rfl; rfl; rfl
  refine wP rfl rfl (wP (v := .pointer (some ⟨p0b, 1, none⟩)) rfl rfl ?_)
  apply wl_store tt_ok; rfl; exact Upd.here; rfl; rfl; rfl; rfl; rfl; rfl
  refine wl_nil ?_
  obtain rfl := sI h
  exact wx_spD tt_ok (.inr rfl) Tryd.results67 Res.nil ⟨rfl, rfl⟩ (fun F => by simp) (pSub (pH pNil))
 replace h := cf hc h
 refine wc_skip ?_
 obtain rfl := sI h
 exact wx_spD tt_ok (.inr rfl) Tryd.results67 Res.nil ⟨rfl, rfl⟩ (fun F => by simp) (pSub (pH pNil))

theorem k_codec_left_take {F : Nat} {p0 : T_codec_left} {p0b p0t : Nat} {p1 : Int} {r0 : T_codec_left} {r1 : (List UInt8)} {r2 : Bool} (h : m_codec_left_take F p0 p1 = some (r0, r1, r2)) :
    SpD Tryd.prog 66 [.pointer (some ⟨p0b, 0, none⟩), .int .u64 p1] (⟨p0b, [.string ⟨p0.s.toArray⟩, .int .i64 p0.e], p0t, (0, 0)⟩ :: []) (fun w => True) (fun v D => v = .tuple #[.string ⟨r1.toArray⟩, .bool r2] ∧ D = fun F => (⟨p0b, [.string ⟨r0.s.toArray⟩, .int .i64 r0.e], p0t, (0, 0)⟩ :: F)) := by
 unfold m_codec_left_take at h
 refine sp_of_wc Tryd.func66 rfl Tryd.ntmps66 rfl rfl (fun w0 hR => ?_)
 refine wSR ?_
 iterate 2 refine wP rfl rfl ?_
 refine wNT (wc_seq (wSR ?_))
 iterate 2 refine wP rfl rfl ?_
 refine wP (v := .pointer (some ⟨p0b, 1, none⟩)) rfl rfl (wl_val (v := .int .i64 p0.e) (val_load tt_ok rfl mH rfl) rfl (wP (v := .bool (p0.e != (0 : Int))) rfl rfl (wNT (wc_cond rfl (fun hc => ?_) (fun hc => ?_)))))
 ·replace h := ct hc h
  refine wSR ?_
  iterate 2 refine wP rfl rfl ?_
  refine wNT (wc_ret (wx_then_ret ?_))
  obtain ⟨rfl, rfl, rfl⟩ := pJ3 h
  exact wx_spD tt_ok (.inl rfl) Tryd.results66 (Res.tmp rfl (Res.tmp rfl Res.nil)) ⟨rfl, rfl⟩ (fun F => by simp) (pSub (pH pNil))
 replace h := cf hc h
 refine wc_skip (wx_then (wc_seq (wSR ?_)))
 iterate 3 refine wP rfl rfl ?_
 refine wP (v := .pointer (some ⟨p0b, 0, none⟩)) rfl rfl (wl_val (v := .string ⟨p0.s.toArray⟩) (val_load tt_ok rfl mH rfl) rfl (wP (v := .int .i64 (p0.s.length : Int)) rfl rfl (wP (v := .int .u64 (IntKind.wrap .u64 (p0.s.length : Int))) rfl rfl (wP (v := .bool (decide ((IntKind.wrap .u64 (p0.s.length : Int)) < p1))) rfl rfl (wNT (wc_cond rfl (fun hc => ?_) (fun hc => ?_)))))))
 ·replace h := ct hc h
  refine wSR (wP rfl rfl ?_)
  obtain ⟨za, x21, h⟩ := bsome h
  refine wl_cs Tryd.call67 rfl rfl rfl (s_sp (k_codec_left_fail x21) (pH pNil) (fun _ _ => trivial)) rfl ?_
  rintro _ _ ⟨_, ⟨rfl, rfl⟩, rfl⟩
  refine wNT (wSR ?_)
  iterate 2 refine wP rfl rfl ?_
  refine wNT (wc_ret (wx_then_ret ?_))
  obtain ⟨rfl, rfl, rfl⟩ := pJ3 h
  exact wx_spD tt_ok (.inl rfl) Tryd.results66 (Res.tmp rfl (Res.tmp rfl Res.nil)) ⟨rfl, rfl⟩ (fun F => by simp) (pSub (pH pNil))
 replace h := cf hc h
 refine wc_skip (wx_then (wSR ?_))
 iterate 2 refine wP rfl rfl ?_
 refine wP (v := .pointer (some ⟨p0b, 0, none⟩)) rfl rfl (wl_val (v := .string ⟨p0.s.toArray⟩) (val_load tt_ok rfl mH rfl) rfl (wP rfl rfl ?_))
 obtain ⟨v27, x27, h⟩ := bsome h
 refine wl_val (v := .string ⟨v27.toArray⟩) (val_ss tt_ok rfl rfl (.inl ⟨rfl, rfl⟩) (.inr ⟨_, _, rfl, rfl⟩) x27) rfl ?_
 refine wP rfl rfl (wNT (wSR ?_))
 iterate 3 refine wP rfl rfl ?_
 refine wP (v := .pointer (some ⟨p0b, 0, none⟩)) rfl rfl (wl_val (v := .string ⟨p0.s.toArray⟩) (val_load tt_ok rfl mH rfl) rfl (wP rfl rfl ?_))
 obtain ⟨v34, x34, h⟩ := bsome h
 refine wl_val (v := .string ⟨v34.toArray⟩) (val_ss tt_ok rfl rfl (.inr ⟨_, _, rfl, rfl⟩) (.inl ⟨rfl, rfl⟩) x34) rfl ?_
 refine wP rfl rfl (wP (v := .pointer (some ⟨p0b, 0, none⟩)) rfl rfl ?_)
 apply wl_store tt_ok; rfl; exact Upd.here; rfl; rfl; rfl; rfl; rfl; rfl
 refine wNT (wSR ?_)
 iterate 3 refine wP rfl rfl ?_
 refine wNT (wc_ret ?_)
 obtain ⟨rfl, rfl, rfl⟩ := pJ3 h
 exact wx_spD tt_ok (.inl rfl) Tryd.results66 (Res.tmp rfl (Res.tmp rfl Res.nil)) ⟨rfl, rfl⟩ (fun F => by simp) (pSub (pH pNil))

theorem k_codec_get_uint64 {F : Nat} {p0 : T_codec_Reader} {p0b p0t : Nat} {p1 : Int} {r0 : T_codec_Reader} {r1 : Int} (h : m_codec_get_uint64 F p0 p1 = some (r0, r1)) :
    SpD Tryd.prog 63 [.pointer (some ⟨p0b, 0, none⟩), .int .i64 p1] (⟨p0b, [.string ⟨p0.left.s.toArray⟩, .int .i64 p0.left.e], p0t, (0, 0)⟩ :: []) (fun w => True) (fun v D => v = .int .u64 r1 ∧ D = fun F => (⟨p0b, [.string ⟨r0.left.s.toArray⟩, .int .i64 r0.left.e], p0t, (0, 0)⟩ :: F)) := by
 unfold m_codec_get_uint64 at h
 refine sp_of_wc Tryd.func63 rfl Tryd.ntmps63 rfl rfl (fun w0 hR => ?_)
 refine wSR (wP rfl rfl (wNT (wc_seq (wSR (wP rfl rfl (wP (v := .bool false) rfl rfl (wNT (wc_cond_false rfl (wc_skip (wx_then (wSR ?_)))))))))))
 iterate 2 refine wP rfl rfl ?_
 refine wP (v := .pointer (some ⟨p0b, 0, none⟩)) rfl rfl (wP rfl rfl (wP (v := .int .u64 (IntKind.wrap .u64 p1)) rfl rfl ?_))
 replace h := bsome h; obtain ⟨⟨zd, zc, zf⟩, x16, h⟩ := h; try dsimp only at h
 refine wl_cs Tryd.call66 rfl rfl rfl (s_sp (k_codec_left_take x16) (pH pNil) (fun _ _ => trivial)) rfl ?_
 rintro _ _ ⟨_, ⟨rfl, rfl⟩, rfl⟩
 iterate 5 refine wP rfl rfl ?_
 refine wNT (wc_seq (wSR (wP rfl rfl (wP (v := .int .i64 (zc.length : Int)) rfl rfl (wP rfl rfl (wNT (wc_block ?_)))))))
 obtain ⟨ze, h, hl17⟩ := bsome h
 refine wc_loop (fun m E L => ∃ (zb : Int) (za : Int), m_codec_get_uint64_L16 F zc m zb za = some ze ∧ E = [(4, .int .u64 zb), (5, .string ⟨zc.toArray⟩), (20, .int .i64 (zc.length : Int)), (21, .int .i64 za)] ∧ L = (⟨p0b, [.string ⟨zd.s.toArray⟩, .int .i64 zd.e], p0t, (0, 0)⟩ :: [])) F ⟨(0 : Int), (0 : Int), h, rfl, rfl⟩ (agree_cons rfl (agree_cons rfl (agree_cons rfl (agree_cons rfl agree_nil)))) (pSub (pH pNil)) ?_
 clear h
 rintro m17 _ _ ⟨zb, za, h, rfl, rfl⟩
 rcases m17 with _ | m17
 ·rw [m_codec_get_uint64_L16.eq_1] at h; cases h
 rw [m_codec_get_uint64_L16.eq_2] at h
 refine wSR (wP (v := .bool (decide (za < (zc.length : Int)))) rfl rfl (wNT (wc_seq (wc_cond rfl (fun hc => ?_) (fun hc => ?_)))))
 ·replace h := ct hc h
  refine wc_skip (wx_then (wc_seq (wc_block (wSR ?_))))
  iterate 2 refine wP rfl rfl ?_
  refine wNT (wc_region ?_)
  iterate 3 refine wP rfl rfl ?_
  obtain ⟨v27, x27, h⟩ := bsome h
  refine wl_val (v := .int .u8 (v27.toNat : Int)) (val_sx tt_ok rfl rfl rfl x27) rfl ?_
  refine wP (v := .int .u64 (IntKind.wrap .u64 (v27.toNat : Int))) rfl rfl (wP rfl rfl (wP (v := .int .i64 (IntKind.wrap .i64 ((8 : Int) * za))) rfl rfl ?_))
  obtain ⟨v31, x31, h⟩ := bsome h
  refine wl_val (v := .int .u64 v31) (val_shl rfl rfl x31) rfl ?_
  refine wP (v := .int .u64 (bits .or .u64 zb v31)) rfl rfl (wP rfl rfl (wl_nil (wx_block (wx_then (wc_region (wP (v := .int .i64 (IntKind.wrap .i64 (za + (1 : Int)))) rfl rfl (wP rfl rfl (wl_nil ?_))))))))
  exact wx_round m17 (Nat.lt_succ_self m17) ⟨(bits .or .u64 zb v31), (IntKind.wrap .i64 (za + (1 : Int))), h, rfl, rfl⟩ (agree_cons rfl (agree_cons rfl (agree_cons rfl (agree_cons rfl agree_nil)))) (pSub (pH pNil))
 replace h := cf hc h
 refine wc_exit (wx_then_exit ?_)
 obtain rfl := sI h
 have h := hl17; clear hl17; try dsimp only [orE_l, orE_r] at h
 refine wx_then_exit (wx_block_exit (wx_then (wSR ?_)))
 iterate 2 refine wP rfl rfl ?_
 refine wNT (wc_ret ?_)
 obtain ⟨rfl, rfl⟩ := pJ2 h
 exact wx_spD tt_ok (.inl rfl) Tryd.results63 (Res.tmp rfl Res.nil) ⟨rfl, rfl⟩ (fun F => by simp) (pSub (pH pNil))

theorem k_codec_Reader_U64 {F : Nat} {p0 : T_codec_Reader} {p0b p0t : Nat} {r0 : T_codec_Reader} {r1 : Int} (h : m_codec_Reader_U64 F p0 = some (r0, r1)) :
    SpD Tryd.prog 41 [.pointer (some ⟨p0b, 0, none⟩)] (⟨p0b, [.string ⟨p0.left.s.toArray⟩, .int .i64 p0.left.e], p0t, (0, 0)⟩ :: []) (fun w => True) (fun v D => v = .int .u64 r1 ∧ D = fun F => (⟨p0b, [.string ⟨r0.left.s.toArray⟩, .int .i64 r0.left.e], p0t, (0, 0)⟩ :: F)) := by
 unfold m_codec_Reader_U64 at h
 refine sp_of_wc Tryd.func41 rfl Tryd.ntmps41 rfl rfl (fun w0 hR => ?_)
 refine wSR (wP rfl rfl (wNT (wSR (wP rfl rfl ?_))))
 replace h := bsome h; obtain ⟨⟨za, v4⟩, x4, h⟩ := h; try dsimp only at h
 refine wl_cs Tryd.call63 rfl rfl rfl (s_sp (k_codec_get_uint64 x4) (pH pNil) (fun _ _ => trivial)) rfl ?_
 rintro _ _ ⟨_, ⟨rfl, rfl⟩, rfl⟩
 refine wP rfl rfl (wNT (wc_ret ?_))
 obtain ⟨rfl, rfl⟩ := pJ2 h
 exact wx_spD tt_ok (.inl rfl) Tryd.results41 (Res.tmp rfl Res.nil) ⟨rfl, rfl⟩ (fun F => by simp) (pSub (pH pNil))

theorem k_codec_get_uint32 {F : Nat} {p0 : T_codec_Reader} {p0b p0t : Nat} {p1 : Int} {r0 : T_codec_Reader} {r1 : Int} (h : m_codec_get_uint32 F p0 p1 = some (r0, r1)) :
    SpD Tryd.prog 72 [.pointer (some ⟨p0b, 0, none⟩), .int .i64 p1] (⟨p0b, [.string ⟨p0.left.s.toArray⟩, .int .i64 p0.left.e], p0t, (0, 0)⟩ :: []) (fun w => True) (fun v D => v = .int .u32 r1 ∧ D = fun F => (⟨p0b, [.string ⟨r0.left.s.toArray⟩, .int .i64 r0.left.e], p0t, (0, 0)⟩ :: F)) := by
 unfold m_codec_get_uint32 at h
 refine sp_of_wc Tryd.func72 rfl Tryd.ntmps72 rfl rfl (fun w0 hR => ?_)
 refine wSR (wP rfl rfl (wNT (wc_seq (wSR (wP rfl rfl (wP (v := .bool false) rfl rfl (wNT (wc_cond_false rfl (wc_skip (wx_then (wSR ?_)))))))))))
 iterate 2 refine wP rfl rfl ?_
 refine wP (v := .pointer (some ⟨p0b, 0, none⟩)) rfl rfl (wP rfl rfl (wP (v := .int .u64 (IntKind.wrap .u64 p1)) rfl rfl ?_))
 replace h := bsome h; obtain ⟨⟨zd, zc, zf⟩, x16, h⟩ := h; try dsimp only at h
 refine wl_cs Tryd.call66 rfl rfl rfl (s_sp (k_codec_left_take x16) (pH pNil) (fun _ _ => trivial)) rfl ?_
 rintro _ _ ⟨_, ⟨rfl, rfl⟩, rfl⟩
 iterate 5 refine wP rfl rfl ?_
 refine wNT (wc_seq (wSR (wP rfl rfl (wP (v := .int .i64 (zc.length : Int)) rfl rfl (wP rfl rfl (wNT (wc_block ?_)))))))
 obtain ⟨ze, h, hl17⟩ := bsome h
 refine wc_loop (fun m E L => ∃ (zb : Int) (za : Int), m_codec_get_uint32_L16 F zc m zb za = some ze ∧ E = [(4, .int .u32 zb), (5, .string ⟨zc.toArray⟩), (20, .int .i64 (zc.length : Int)), (21, .int .i64 za)] ∧ L = (⟨p0b, [.string ⟨zd.s.toArray⟩, .int .i64 zd.e], p0t, (0, 0)⟩ :: [])) F ⟨(0 : Int), (0 : Int), h, rfl, rfl⟩ (agree_cons rfl (agree_cons rfl (agree_cons rfl (agree_cons rfl agree_nil)))) (pSub (pH pNil)) ?_
 clear h
 rintro m17 _ _ ⟨zb, za, h, rfl, rfl⟩
 rcases m17 with _ | m17
 ·rw [m_codec_get_uint32_L16.eq_1] at h; cases h
 rw [m_codec_get_uint32_L16.eq_2] at h
 refine wSR (wP (v := .bool (decide (za < (zc.length : Int)))) rfl rfl (wNT (wc_seq (wc_cond rfl (fun hc => ?_) (fun hc => ?_)))))
 ·replace h := ct hc h
  refine wc_skip (wx_then (wc_seq (wc_block (wSR ?_))))
  iterate 2 refine wP rfl rfl ?_
  refine wNT (wc_region ?_)
  iterate 3 refine wP rfl rfl ?_
  obtain ⟨v27, x27, h⟩ := bsome h
  refine wl_val (v := .int .u8 (v27.toNat : Int)) (val_sx tt_ok rfl rfl rfl x27) rfl ?_
  refine wP (v := .int .u64 (IntKind.wrap .u64 (v27.toNat : Int))) rfl rfl (wP rfl rfl (wP (v := .int .i64 (IntKind.wrap .i64 ((8 : Int) * za))) rfl rfl ?_))
  obtain ⟨v31, x31, h⟩ := bsome h
  refine wl_val (v := .int .u64 v31) (val_shl rfl rfl x31) rfl ?_
  refine wP (v := .int .u32 (IntKind.wrap .u32 v31)) rfl rfl (wP (v := .int .u32 (bits .or .u32 zb (IntKind.wrap .u32 v31))) rfl rfl (wP rfl rfl (wl_nil (wx_block (wx_then (wc_region (wP (v := .int .i64 (IntKind.wrap .i64 (za + (1 : Int)))) rfl rfl (wP rfl rfl (wl_nil ?_)))))))))
  exact wx_round m17 (Nat.lt_succ_self m17) ⟨(bits .or .u32 zb (IntKind.wrap .u32 v31)), (IntKind.wrap .i64 (za + (1 : Int))), h, rfl, rfl⟩ (agree_cons rfl (agree_cons rfl (agree_cons rfl (agree_cons rfl agree_nil)))) (pSub (pH pNil))
 replace h := cf hc h
 refine wc_exit (wx_then_exit ?_)
 obtain rfl := sI h
 have h := hl17; clear hl17; try dsimp only [orE_l, orE_r] at h
 refine wx_then_exit (wx_block_exit (wx_then (wSR ?_)))
 iterate 2 refine wP rfl rfl ?_
 refine wNT (wc_ret ?_)
 obtain ⟨rfl, rfl⟩ := pJ2 h
 exact wx_spD tt_ok (.inl rfl) Tryd.results72 (Res.tmp rfl Res.nil) ⟨rfl, rfl⟩ (fun F => by simp) (pSub (pH pNil))

theorem k_codec_Reader_I32 {F : Nat} {p0 : T_codec_Reader} {p0b p0t : Nat} {r0 : T_codec_Reader} {r1 : Int} (h : m_codec_Reader_I32 F p0 = some (r0, r1)) :
    SpD Tryd.prog 64 [.pointer (some ⟨p0b, 0, none⟩)] (⟨p0b, [.string ⟨p0.left.s.toArray⟩, .int .i64 p0.left.e], p0t, (0, 0)⟩ :: []) (fun w => True) (fun v D => v = .int .i32 r1 ∧ D = fun F => (⟨p0b, [.string ⟨r0.left.s.toArray⟩, .int .i64 r0.left.e], p0t, (0, 0)⟩ :: F)) := by
 unfold m_codec_Reader_I32 at h
 refine sp_of_wc Tryd.func64 rfl Tryd.ntmps64 rfl rfl (fun w0 hR => ?_)
 refine wSR (wP rfl rfl (wNT (wSR (wP rfl rfl ?_))))
 replace h := bsome h; obtain ⟨⟨za, v4⟩, x4, h⟩ := h; try dsimp only at h
 refine wl_cs Tryd.call72 rfl rfl rfl (s_sp (k_codec_get_uint32 x4) (pH pNil) (fun _ _ => trivial)) rfl ?_
 rintro _ _ ⟨_, ⟨rfl, rfl⟩, rfl⟩
 refine wP (v := .int .i32 (IntKind.wrap .i32 v4)) rfl rfl (wP rfl rfl (wNT (wc_ret ?_)))
 obtain ⟨rfl, rfl⟩ := pJ2 h
 exact wx_spD tt_ok (.inl rfl) Tryd.results64 (Res.tmp rfl Res.nil) ⟨rfl, rfl⟩ (fun F => by simp) (pSub (pH pNil))

theorem k_codec_get_uint8 {F : Nat} {p0 : T_codec_Reader} {p0b p0t : Nat} {p1 : Int} {r0 : T_codec_Reader} {r1 : Int} (h : m_codec_get_uint8 F p0 p1 = some (r0, r1)) :
    SpD Tryd.prog 73 [.pointer (some ⟨p0b, 0, none⟩), .int .i64 p1] (⟨p0b, [.string ⟨p0.left.s.toArray⟩, .int .i64 p0.left.e], p0t, (0, 0)⟩ :: []) (fun w => True) (fun v D => v = .int .u8 r1 ∧ D = fun F => (⟨p0b, [.string ⟨r0.left.s.toArray⟩, .int .i64 r0.left.e], p0t, (0, 0)⟩ :: F)) := by
 unfold m_codec_get_uint8 at h
 refine sp_of_wc Tryd.func73 rfl Tryd.ntmps73 rfl rfl (fun w0 hR => ?_)
 refine wSR (wP rfl rfl (wNT (wc_seq (wSR (wP rfl rfl (wP (v := .bool false) rfl rfl (wNT (wc_cond_false rfl (wc_skip (wx_then (wSR ?_)))))))))))
 iterate 2 refine wP rfl rfl ?_
 refine wP (v := .pointer (some ⟨p0b, 0, none⟩)) rfl rfl (wP rfl rfl (wP (v := .int .u64 (IntKind.wrap .u64 p1)) rfl rfl ?_))
 replace h := bsome h; obtain ⟨⟨zd, zc, zf⟩, x16, h⟩ := h; try dsimp only at h
 refine wl_cs Tryd.call66 rfl rfl rfl (s_sp (k_codec_left_take x16) (pH pNil) (fun _ _ => trivial)) rfl ?_
 rintro _ _ ⟨_, ⟨rfl, rfl⟩, rfl⟩
 iterate 5 refine wP rfl rfl ?_
 refine wNT (wc_seq (wSR (wP rfl rfl (wP (v := .int .i64 (zc.length : Int)) rfl rfl (wP rfl rfl (wNT (wc_block ?_)))))))
 obtain ⟨ze, h, hl17⟩ := bsome h
 refine wc_loop (fun m E L => ∃ (zb : Int) (za : Int), m_codec_get_uint8_L16 F zc m zb za = some ze ∧ E = [(4, .int .u8 zb), (5, .string ⟨zc.toArray⟩), (20, .int .i64 (zc.length : Int)), (21, .int .i64 za)] ∧ L = (⟨p0b, [.string ⟨zd.s.toArray⟩, .int .i64 zd.e], p0t, (0, 0)⟩ :: [])) F ⟨(0 : Int), (0 : Int), h, rfl, rfl⟩ (agree_cons rfl (agree_cons rfl (agree_cons rfl (agree_cons rfl agree_nil)))) (pSub (pH pNil)) ?_
 clear h
 rintro m17 _ _ ⟨zb, za, h, rfl, rfl⟩
 rcases m17 with _ | m17
 ·rw [m_codec_get_uint8_L16.eq_1] at h; cases h
 rw [m_codec_get_uint8_L16.eq_2] at h
 refine wSR (wP (v := .bool (decide (za < (zc.length : Int)))) rfl rfl (wNT (wc_seq (wc_cond rfl (fun hc => ?_) (fun hc => ?_)))))
 ·replace h := ct hc h
  refine wc_skip (wx_then (wc_seq (wc_block (wSR ?_))))
  iterate 2 refine wP rfl rfl ?_
  refine wNT (wc_region ?_)
  iterate 3 refine wP rfl rfl ?_
  obtain ⟨v27, x27, h⟩ := bsome h
  refine wl_val (v := .int .u8 (v27.toNat : Int)) (val_sx tt_ok rfl rfl rfl x27) rfl ?_
  refine wP (v := .int .u64 (IntKind.wrap .u64 (v27.toNat : Int))) rfl rfl (wP rfl rfl (wP (v := .int .i64 (IntKind.wrap .i64 ((8 : Int) * za))) rfl rfl ?_))
  obtain ⟨v31, x31, h⟩ := bsome h
  refine wl_val (v := .int .u64 v31) (val_shl rfl rfl x31) rfl ?_
  refine wP (v := .int .u8 (IntKind.wrap .u8 v31)) rfl rfl (wP (v := .int .u8 (bits .or .u8 zb (IntKind.wrap .u8 v31))) rfl rfl (wP rfl rfl (wl_nil (wx_block (wx_then (wc_region (wP (v := .int .i64 (IntKind.wrap .i64 (za + (1 : Int)))) rfl rfl (wP rfl rfl (wl_nil ?_)))))))))
  exact wx_round m17 (Nat.lt_succ_self m17) ⟨(bits .or .u8 zb (IntKind.wrap .u8 v31)), (IntKind.wrap .i64 (za + (1 : Int))), h, rfl, rfl⟩ (agree_cons rfl (agree_cons rfl (agree_cons rfl (agree_cons rfl agree_nil)))) (pSub (pH pNil))
 replace h := cf hc h
 refine wc_exit (wx_then_exit ?_)
 obtain rfl := sI h
 have h := hl17; clear hl17; try dsimp only [orE_l, orE_r] at h
 refine wx_then_exit (wx_block_exit (wx_then (wSR ?_)))
 iterate 2 refine wP rfl rfl ?_
 refine wNT (wc_ret ?_)
 obtain ⟨rfl, rfl⟩ := pJ2 h
 exact wx_spD tt_ok (.inl rfl) Tryd.results73 (Res.tmp rfl Res.nil) ⟨rfl, rfl⟩ (fun F => by simp) (pSub (pH pNil))

theorem k_codec_Reader_U8 {F : Nat} {p0 : T_codec_Reader} {p0b p0t : Nat} {r0 : T_codec_Reader} {r1 : Int} (h : m_codec_Reader_U8 F p0 = some (r0, r1)) :
    SpD Tryd.prog 65 [.pointer (some ⟨p0b, 0, none⟩)] (⟨p0b, [.string ⟨p0.left.s.toArray⟩, .int .i64 p0.left.e], p0t, (0, 0)⟩ :: []) (fun w => True) (fun v D => v = .int .u8 r1 ∧ D = fun F => (⟨p0b, [.string ⟨r0.left.s.toArray⟩, .int .i64 r0.left.e], p0t, (0, 0)⟩ :: F)) := by
 unfold m_codec_Reader_U8 at h
 refine sp_of_wc Tryd.func65 rfl Tryd.ntmps65 rfl rfl (fun w0 hR => ?_)
 refine wSR (wP rfl rfl (wNT (wSR (wP rfl rfl ?_))))
 replace h := bsome h; obtain ⟨⟨za, v4⟩, x4, h⟩ := h; try dsimp only at h
 refine wl_cs Tryd.call73 rfl rfl rfl (s_sp (k_codec_get_uint8 x4) (pH pNil) (fun _ _ => trivial)) rfl ?_
 rintro _ _ ⟨_, ⟨rfl, rfl⟩, rfl⟩
 refine wP rfl rfl (wNT (wc_ret ?_))
 obtain ⟨rfl, rfl⟩ := pJ2 h
 exact wx_spD tt_ok (.inl rfl) Tryd.results65 (Res.tmp rfl Res.nil) ⟨rfl, rfl⟩ (fun F => by simp) (pSub (pH pNil))

theorem k_state_player {F : Nat} {p0 : (List Int)} {p0a0 : Option Addr} {p0n0 p0c0 : Nat} {r0 : T_api_Player} (p0N0 : p0n0 = p0.length) (p0H0 : p0n0 ≤ p0c0) (h : m_state_player F p0 = some r0) :
    Pf Tryd.prog 43 [.slice p0a0 p0n0 p0c0] (fun w => Rds w [] [] p0a0 (flat (e1 .i32) p0)) (agP r0) := by
 unfold m_state_player at h
 refine pf_of_wc Tryd.func43 rfl Tryd.ntmps43 rfl rfl (fun w0 hR => ?_)
 have p0S0 := hR
 refine wSR (wl_alloc tt_ok rfl rfl (fun b2 => (wNT (wc_seq (wc_k2 (Ls := (⟨b2, [.int .i32 (0 : Int), .int .i32 (0 : Int), .int .i32 (0 : Int), .int .i32 (0 : Int), .int .u8 (0 : Int), .int .u8 (0 : Int), .int .u8 (0 : Int)], 24, (0, 0)⟩ :: [])) [25] [25] [0, 1, 3, 0, 8, 24, 0, 64, 192, 0, 512, 1536, 0, 4096, 12288, 28672, 0, 65536, 196608, 458752, 0, 1048576, 3145728, 7340032, 16777215, 33554431] [0, 1, 2, 3, 4, 5, 6, 7, 8, 9, 10, 11, 12, 13, 14, 15, 16, 17, 18, 19, 20, 21, 22, 23, 24, 25] (by kernel_rfl) (by kernel_rfl) (by kernel_rfl) (k_val rfl rfl rfl (pSub (pH pNil)) (sV rfl) rfl ?_))))))
 obtain ⟨v4, x4, h⟩ := bsome h
 refine k_val (v := .pointer (some ((adOf p0a0).add ((0 : Int).toNat * 1 + 0)))) rfl rfl rfl (pSub (pH pNil)) (val_ix (enc := (e1 .i32)) tt_ok rfl rfl rfl rfl p0N0 p0S0 (e1_len _) rfl x4) rfl (k_val (v := .int .i32 v4) rfl rfl rfl (pSub (pH pNil)) (val_le (enc := (e1 .i32)) (xs := p0) tt_ok rfl p0S0 rsub_nil (e1_len _) x4 rfl) rfl (k_val rfl rfl rfl (pSub (pH pNil)) (sV rfl) rfl ?_))
 obtain ⟨v7, x7, h⟩ := bsome h
 refine k_val (v := .pointer (some ((adOf p0a0).add ((1 : Int).toNat * 1 + 0)))) rfl rfl rfl (pSub (pH pNil)) (val_ix (enc := (e1 .i32)) tt_ok rfl rfl rfl rfl p0N0 p0S0 (e1_len _) rfl x7) rfl (k_val (v := .int .i32 v7) rfl rfl rfl (pSub (pH pNil)) (val_le (enc := (e1 .i32)) (xs := p0) tt_ok rfl p0S0 rsub_nil (e1_len _) x7 rfl) rfl (k_val rfl rfl rfl (pSub (pH pNil)) (sV rfl) rfl ?_))
 obtain ⟨v10, x10, h⟩ := bsome h
 refine k_val (v := .pointer (some ((adOf p0a0).add ((2 : Int).toNat * 1 + 0)))) rfl rfl rfl (pSub (pH pNil)) (val_ix (enc := (e1 .i32)) tt_ok rfl rfl rfl rfl p0N0 p0S0 (e1_len _) rfl x10) rfl (k_val (v := .int .i32 v10) rfl rfl rfl (pSub (pH pNil)) (val_le (enc := (e1 .i32)) (xs := p0) tt_ok rfl p0S0 rsub_nil (e1_len _) x10 rfl) rfl (k_val rfl rfl rfl (pSub (pH pNil)) (sV rfl) rfl ?_))
 obtain ⟨v13, x13, h⟩ := bsome h
 refine k_val (v := .pointer (some ((adOf p0a0).add ((3 : Int).toNat * 1 + 0)))) rfl rfl rfl (pSub (pH pNil)) (val_ix (enc := (e1 .i32)) tt_ok rfl rfl rfl rfl p0N0 p0S0 (e1_len _) rfl x13) rfl (k_val (v := .int .i32 v13) rfl rfl rfl (pSub (pH pNil)) (val_le (enc := (e1 .i32)) (xs := p0) tt_ok rfl p0S0 rsub_nil (e1_len _) x13 rfl) rfl (k_val rfl rfl rfl (pSub (pH pNil)) (sV rfl) rfl ?_))
 obtain ⟨v16, x16, h⟩ := bsome h
 refine k_val (v := .pointer (some ((adOf p0a0).add ((4 : Int).toNat * 1 + 0)))) rfl rfl rfl (pSub (pH pNil)) (val_ix (enc := (e1 .i32)) tt_ok rfl rfl rfl rfl p0N0 p0S0 (e1_len _) rfl x16) rfl (k_val (v := .int .i32 v16) rfl rfl rfl (pSub (pH pNil)) (val_le (enc := (e1 .i32)) (xs := p0) tt_ok rfl p0S0 rsub_nil (e1_len _) x16 rfl) rfl (k_val (v := .int .u8 (IntKind.wrap .u8 v16)) rfl rfl rfl (pSub (pH pNil)) (sV rfl) rfl (k_val rfl rfl rfl (pSub (pH pNil)) (sV rfl) rfl ?_)))
 obtain ⟨v20, x20, h⟩ := bsome h
 refine k_val (v := .pointer (some ((adOf p0a0).add ((5 : Int).toNat * 1 + 0)))) rfl rfl rfl (pSub (pH pNil)) (val_ix (enc := (e1 .i32)) tt_ok rfl rfl rfl rfl p0N0 p0S0 (e1_len _) rfl x20) rfl (k_val (v := .int .i32 v20) rfl rfl rfl (pSub (pH pNil)) (val_le (enc := (e1 .i32)) (xs := p0) tt_ok rfl p0S0 rsub_nil (e1_len _) x20 rfl) rfl (k_val (v := .int .u8 (IntKind.wrap .u8 v20)) rfl rfl rfl (pSub (pH pNil)) (sV rfl) rfl (k_val rfl rfl rfl (pSub (pH pNil)) (sV rfl) rfl ?_)))
 obtain ⟨v24, x24, h⟩ := bsome h
 refine k_val (v := .pointer (some ((adOf p0a0).add ((6 : Int).toNat * 1 + 0)))) rfl rfl rfl (pSub (pH pNil)) (val_ix (enc := (e1 .i32)) tt_ok rfl rfl rfl rfl p0N0 p0S0 (e1_len _) rfl x24) rfl (k_val (v := .int .i32 v24) rfl rfl rfl (pSub (pH pNil)) (val_le (enc := (e1 .i32)) (xs := p0) tt_ok rfl p0S0 rsub_nil (e1_len _) x24 rfl) rfl (k_val (v := .int .u8 (IntKind.wrap .u8 v24)) rfl rfl rfl (pSub (pH pNil)) (sV rfl) rfl (k_val (v := .agg #[.int .i32 v4, .int .i32 v7, .int .i32 v10, .int .i32 v13, .int .u8 (IntKind.wrap .u8 v16), .int .u8 (IntKind.wrap .u8 v20), .int .u8 (IntKind.wrap .u8 v24)]) rfl rfl rfl (pSub (pH pNil)) (sV rfl) rfl ?_)))
 refine k_chg0 rfl rfl rfl (chg_store tt_ok rfl Upd.here rfl rfl rfl rfl rfl rfl) (.inl rfl) ?_
 rintro _ _ rfl
 refine k_end (by kernel_rfl) ?_
 refine wx_then (wc_ret ?_)
 obtain rfl := sI h
 exact wx_pf tt_ok (.inl rfl) Tryd.results43 (Res.cell rfl mH rfl Res.nil) rfl

theorem k_state_take_api_Player_f2_state_player {F : Nat} {p0 : T_codec_Reader} {p0b p0t : Nat} {p1 : Int} {r0 : T_codec_Reader} {r1 : T_api_Player} (h : m_state_take_api_Player_f2_state_player F p0 p1 = some (r0, r1)) :
    SpD Tryd.prog 42 [.pointer (some ⟨p0b, 0, none⟩), .int .i64 p1, .func (.func 43) #[] #[]] (⟨p0b, [.string ⟨p0.left.s.toArray⟩, .int .i64 p0.left.e], p0t, (0, 0)⟩ :: []) (fun w => True) (fun v D => v = agP r1 ∧ D = fun F => (⟨p0b, [.string ⟨r0.left.s.toArray⟩, .int .i64 r0.left.e], p0t, (0, 0)⟩ :: F)) := by
 unfold m_state_take_api_Player_f2_state_player at h
 refine sp_of_wc Tryd.func42 rfl Tryd.ntmps42 rfl rfl (fun w0 hR => ?_)
 refine wSR (wl_alloc tt_ok rfl rfl (fun b6 => (wNT (wSR (wP rfl rfl ?_)))))
 obtain ⟨v10, x10, h⟩ := bsome h
 refine wl_chg (chg_make (enc := (e1 .i32)) tt_ok rfl rfl rfl rfl rfl rfl (e1_len _) rfl x10) rfl ?_
 rintro _ _ ⟨a10, n10_, c10, B10, rfl, N10, V10, rfl⟩
 refine wP rfl rfl (wNT (wc_seq (wSR ?_)))
 iterate 2 refine wP rfl rfl ?_
 refine wNT (wc_block ?_)
 replace h := bsome h; obtain ⟨⟨zm, zj⟩, h, hl9⟩ := h; try dsimp only at hl9
 refine wc_loop (fun m E L => ∃ (zb : Int) (za : (List Int)) (zh : T_codec_Reader) (zc : Option Addr) (ze zg : Nat) (zi : List Blk), m_state_take_api_Player_f2_state_player_L8 F p1 m zb za zh = some (zm, zj) ∧ ze = za.length ∧ Own 21 1 zc ze zg (flat (e1 .i32) za) zi ∧ E = [(0, .pointer (some ⟨p0b, 0, none⟩)), (2, .func (.func 43) #[] #[]), (6, .pointer (some ⟨b6, 0, none⟩)), (7, .slice zc ze zg), (11, .int .i64 p1), (12, .int .i64 zb)] ∧ L = (⟨p0b, [.string ⟨zh.left.s.toArray⟩, .int .i64 zh.left.e], p0t, (0, 0)⟩ :: (⟨b6, [.int .i32 (0 : Int), .int .i32 (0 : Int), .int .i32 (0 : Int), .int .i32 (0 : Int), .int .u8 (0 : Int), .int .u8 (0 : Int), .int .u8 (0 : Int)], 24, (0, 0)⟩ :: (zi ++ [])))) F ⟨(0 : Int), v10, p0, a10, n10_, c10, B10, h, N10, V10, rfl, rfl⟩ (agree_cons rfl (agree_cons rfl (agree_cons rfl (agree_cons rfl (agree_cons rfl (agree_cons rfl agree_nil)))))) (pSub (pCons (sAC hC) (pCons (sA hC) (pA pNil)))) ?_
 clear h
 rintro m9 _ _ ⟨zb, za, zh, zc, ze, zg, zi, h, zf, zd, rfl, rfl⟩
 rcases m9 with _ | m9
 ·rw [m_state_take_api_Player_f2_state_player_L8.eq_1] at h; cases h
 rw [m_state_take_api_Player_f2_state_player_L8.eq_2] at h
 refine wSR (wP (v := .bool (decide (zb < p1))) rfl rfl (wNT (wc_seq (wc_cond rfl (fun hc => ?_) (fun hc => ?_)))))
 ·replace h := ct hc h
  refine wc_skip (wx_then (wc_seq (wc_block (wSR ?_))))
  iterate 2 refine wP rfl rfl ?_
  refine wNT (wSR (wP rfl rfl (wP (v := .bool (decide (zb < (4 : Int)))) rfl rfl (wNT (wc_cond rfl (fun hc => ?_) (fun hc => ?_))))))
  ·replace h := ct hc h
   refine wc_region ?_
   iterate 3 refine wP rfl rfl ?_
   replace h := bsome h; obtain ⟨⟨zk, v20⟩, x20, h⟩ := h; try dsimp only at h
   refine wl_cs Tryd.call64 rfl rfl rfl (s_sp (k_codec_Reader_I32 x20) (pH pNil) (fun _ _ => trivial)) rfl ?_
   rintro _ _ ⟨_, ⟨rfl, rfl⟩, rfl⟩
   obtain ⟨v21, x21, h⟩ := bsome h
   refine wl_val (v := .pointer (some ((adOf zc).add (zb.toNat * 1 + 0)))) (val_ix (enc := (e1 .i32)) tt_ok rfl rfl rfl rfl zf (Rds.of_vec zd) (e1_len _) rfl x21) rfl ?_
   refine wl_chg0 (chg_ste (enc := (e1 .i32)) (y' := v20) tt_ok rfl rfl rfl rfl rfl rfl zf zd (sCC hA') (e1_len _) x21 rfl (by intro h; cases h)) ?_
   rintro _ _ ⟨Bs23_5, Ns23_5, Vs23_5, rfl⟩
   refine wl_nil (wx_block (wx_then (wc_region (wP (v := .int .i64 (IntKind.wrap .i64 (zb + (1 : Int)))) rfl rfl (wP rfl rfl (wl_nil ?_))))))
   exact wx_round m9 (Nat.lt_succ_self m9) ⟨(IntKind.wrap .i64 (zb + (1 : Int))), (setI za zb v20), zk, zc, ze, zg, Bs23_5, h, Ns23_5, Vs23_5, rfl, rfl⟩ (agree_cons rfl (agree_cons rfl (agree_cons rfl (agree_cons rfl (agree_cons rfl (agree_cons rfl agree_nil)))))) (pSub (pCons (sA hC) (pCons (sA hC) (pA pNil))))
  replace h := cf hc h
  refine wc_region ?_
  iterate 3 refine wP rfl rfl ?_
  replace h := bsome h; obtain ⟨⟨zl, v25⟩, x25, h⟩ := h; try dsimp only at h
  refine wl_cs Tryd.call65 rfl rfl rfl (s_sp (k_codec_Reader_U8 x25) (pH pNil) (fun _ _ => trivial)) rfl ?_
  rintro _ _ ⟨_, ⟨rfl, rfl⟩, rfl⟩
  refine wP (v := .int .i32 (IntKind.wrap .i32 v25)) rfl rfl ?_
  obtain ⟨v27, x27, h⟩ := bsome h
  refine wl_val (v := .pointer (some ((adOf zc).add (zb.toNat * 1 + 0)))) (val_ix (enc := (e1 .i32)) tt_ok rfl rfl rfl rfl zf (Rds.of_vec zd) (e1_len _) rfl x27) rfl ?_
  refine wl_chg0 (chg_ste (enc := (e1 .i32)) (y' := (IntKind.wrap .i32 v25)) tt_ok rfl rfl rfl rfl rfl rfl zf zd (sCC hA') (e1_len _) x27 rfl (by intro h; cases h)) ?_
  rintro _ _ ⟨Bs24_6, Ns24_6, Vs24_6, rfl⟩
  refine wl_nil (wx_block (wx_then (wc_region (wP (v := .int .i64 (IntKind.wrap .i64 (zb + (1 : Int)))) rfl rfl (wP rfl rfl (wl_nil ?_))))))
  exact wx_round m9 (Nat.lt_succ_self m9) ⟨(IntKind.wrap .i64 (zb + (1 : Int))), (setI za zb (IntKind.wrap .i32 v25)), zl, zc, ze, zg, Bs24_6, h, Ns24_6, Vs24_6, rfl, rfl⟩ (agree_cons rfl (agree_cons rfl (agree_cons rfl (agree_cons rfl (agree_cons rfl (agree_cons rfl agree_nil)))))) (pSub (pCons (sA hC) (pCons (sA hC) (pA pNil))))
 replace h := cf hc h
 refine wc_exit (wx_then_exit ?_)
 obtain ⟨rfl, rfl⟩ := pJ2 h
 have h := hl9; clear hl9; try dsimp only [orE_l, orE_r] at h
 refine wx_then_exit (wx_block_exit (wx_then (wSR ?_)))
 iterate 2 refine wP rfl rfl ?_
 obtain ⟨v31, x31, h⟩ := bsome h
 refine wl_cq Tryd.call43 rfl rfl rfl (q_pf (k_state_player (p0 := za) zf (vec_cap zd) x31) (Rds.call (Rds.of_vec zd) pNil ⟨_, (sCC hA')⟩)) rfl ?_
 apply wl_store tt_ok; rfl; exact (Upd.there Upd.here); rfl; rfl; rfl; rfl; rfl; rfl
 refine wNT (wc_ret ?_)
 obtain ⟨rfl, rfl⟩ := pJ2 h
 exact wx_spD tt_ok (.inl rfl) Tryd.results42 (Res.cell rfl (mT mH) rfl Res.nil) ⟨rfl, rfl⟩ (fun F => by simp) (pSub (pH pNil))

theorem k_codec_Reader_Var {F : Nat} {p0 : T_codec_Reader} {p0b p0t : Nat} {r0 : T_codec_Reader} {r1 : Int} (h : m_codec_Reader_Var F p0 = some (r0, r1)) :
    SpD Tryd.prog 44 [.pointer (some ⟨p0b, 0, none⟩)] (⟨p0b, [.string ⟨p0.left.s.toArray⟩, .int .i64 p0.left.e], p0t, (0, 0)⟩ :: []) (fun w => True) (fun v D => v = .int .u64 r1 ∧ D = fun F => (⟨p0b, [.string ⟨r0.left.s.toArray⟩, .int .i64 r0.left.e], p0t, (0, 0)⟩ :: F)) := by
 unfold m_codec_Reader_Var at h
 refine sp_of_wc Tryd.func44 rfl Tryd.ntmps44 rfl rfl (fun w0 hR => ?_)
 refine wSR (wP rfl rfl (wNT (wc_seq (wSR (wP rfl rfl (wP (v := .bool false) rfl rfl (wNT (wc_cond_false rfl (wc_skip (wx_then (wc_seq (wSR (wP rfl rfl (wNT (wc_block ?_)))))))))))))))
 obtain ⟨o15, h, hl15⟩ := bsome h
 refine wc_loop (fun m E L => ∃ (zb : Int) (za : Int) (zc : T_codec_Reader), m_codec_Reader_Var_L14 F m zb za zc = some o15 ∧ E = [(0, .pointer (some ⟨p0b, 0, none⟩)), (2, .int .u64 zb), (9, .int .i64 za)] ∧ L = (⟨p0b, [.string ⟨zc.left.s.toArray⟩, .int .i64 zc.left.e], p0t, (0, 0)⟩ :: [])) F ⟨(0 : Int), (0 : Int), p0, h, rfl, rfl⟩ (agree_cons rfl (agree_cons rfl (agree_cons rfl agree_nil))) (pSub (pH pNil)) ?_
 clear h
 rintro m15 _ _ ⟨zb, za, zc, h, rfl, rfl⟩
 rcases m15 with _ | m15
 ·rw [m_codec_Reader_Var_L14.eq_1] at h; cases h
 rw [m_codec_Reader_Var_L14.eq_2] at h
 refine wSR (wP (v := .bool (decide (za < (10 : Int)))) rfl rfl (wNT (wc_seq (wc_cond rfl (fun hc => ?_) (fun hc => ?_)))))
 ·replace h := ct hc h
  refine wc_skip (wx_then (wc_seq (wc_block (wSR ?_))))
  iterate 2 refine wP rfl rfl ?_
  refine wNT (wSR ?_)
  iterate 2 refine wP rfl rfl ?_
  refine wP (v := .pointer (some ⟨p0b, 0, none⟩)) rfl rfl ?_
  replace h := bsome h; obtain ⟨⟨zd, zh, zf⟩, x16, h⟩ := h; try dsimp only at h
  refine wl_cs Tryd.call66 rfl rfl rfl (s_sp (k_codec_left_take x16) (pH pNil) (fun _ _ => trivial)) rfl ?_
  rintro _ _ ⟨_, ⟨rfl, rfl⟩, rfl⟩
  iterate 5 refine wP rfl rfl ?_
  refine wNT (wc_seq (wSR (wP rfl rfl (wP (v := .bool (!zf)) rfl rfl (wNT (wc_cond rfl (fun hc => ?_) (fun hc => ?_)))))))
  ·replace h := ct hc h
   refine wSR (wP rfl rfl (wNT (wc_ret (wx_then_ret (wx_block_ret (wx_then_ret ?_))))))
   obtain rfl := Option.some.inj h
   have h := hl15; clear hl15; try dsimp only [orE_l, orE_r] at h
   refine wx_then_ret (wx_block_ret (wx_then_ret ?_))
   obtain ⟨rfl, rfl⟩ := pJ2 h
   exact wx_spD tt_ok (.inl rfl) Tryd.results44 (Res.tmp rfl Res.nil) ⟨rfl, rfl⟩ (fun F => by simp) (pSub (pH pNil))
  replace h := cf hc h
  refine wc_skip (wx_then (wSR (wP rfl rfl ?_)))
  obtain ⟨v22, x22, h⟩ := bsome h
  refine wl_val (v := .int .u8 (v22.toNat : Int)) (val_sx tt_ok rfl rfl rfl x22) rfl ?_
  refine wP rfl rfl (wNT (wc_seq (wc_block (wSR (wP rfl rfl (wP (v := .bool (za == (9 : Int))) rfl rfl (wP rfl rfl ?_)))))))
  obtain ⟨v29, h, hg29⟩ := bsome h
  refine wl_split (t := 26) rfl (fun hc => ?_) (fun hc => ?_)
  ·replace h := ct hc h
   refine wl_run rfl (wP rfl rfl (wl_run rfl (wP (v := .bool (decide ((1 : Int) < (v22.toNat : Int)))) rfl rfl ?_)))
   obtain rfl := sI h
   have h := hg29; clear hg29
   refine wP (v := .bool (decide ((1 : Int) < (v22.toNat : Int)))) rfl rfl (wP rfl rfl (wNT (wc_cond rfl (fun hc => ?_) (fun hc => ?_))))
   ·replace h := ct hc h
    refine wSR ?_
    iterate 2 refine wP rfl rfl ?_
    refine wP (v := .pointer (some ⟨p0b, 0, none⟩)) rfl rfl ?_
    obtain ⟨zg, x33, h⟩ := bsome h
    refine wl_cs Tryd.call67 rfl rfl rfl (s_sp (k_codec_left_fail x33) (pH pNil) (fun _ _ => trivial)) rfl ?_
    rintro _ _ ⟨_, ⟨rfl, rfl⟩, rfl⟩
    refine wNT (wSR (wP rfl rfl (wNT (wc_ret (wx_block_ret (wx_then_ret (wx_block_ret (wx_then_ret ?_))))))))
    obtain rfl := Option.some.inj h
    have h := hl15; clear hl15; try dsimp only [orE_l, orE_r] at h
    refine wx_then_ret (wx_block_ret (wx_then_ret ?_))
    obtain ⟨rfl, rfl⟩ := pJ2 h
    exact wx_spD tt_ok (.inl rfl) Tryd.results44 (Res.tmp rfl Res.nil) ⟨rfl, rfl⟩ (fun F => by simp) (pSub (pH pNil))
   replace h := cf hc h
   refine wSR (wP rfl rfl (wP (v := .bool ((v22.toNat : Int) == (0 : Int))) rfl rfl (wP rfl rfl ?_)))
   obtain ⟨v40, h, hg40⟩ := bsome h
   refine wl_split (t := 37) rfl (fun hc => ?_) (fun hc => ?_)
   ·replace h := ct hc h
    refine wl_run rfl (wP rfl rfl (wl_run rfl (wP (v := .bool (decide ((0 : Int) < za))) rfl rfl ?_)))
    obtain rfl := sI h
    have h := hg40; clear hg40
    refine wP (v := .bool (decide ((0 : Int) < za))) rfl rfl (wP rfl rfl (wNT (wc_cond rfl (fun hc => ?_) (fun hc => ?_))))
    ·replace h := ct hc h
     refine wSR ?_
     iterate 2 refine wP rfl rfl ?_
     refine wP (v := .pointer (some ⟨p0b, 0, none⟩)) rfl rfl ?_
     obtain ⟨ze, x44, h⟩ := bsome h
     refine wl_cs Tryd.call67 rfl rfl rfl (s_sp (k_codec_left_fail x44) (pH pNil) (fun _ _ => trivial)) rfl ?_
     rintro _ _ ⟨_, ⟨rfl, rfl⟩, rfl⟩
     refine wNT (wSR (wP rfl rfl (wNT (wc_ret (wx_block_ret (wx_then_ret (wx_block_ret (wx_then_ret ?_))))))))
     obtain rfl := Option.some.inj h
     have h := hl15; clear hl15; try dsimp only [orE_l, orE_r] at h
     refine wx_then_ret (wx_block_ret (wx_then_ret ?_))
     obtain ⟨rfl, rfl⟩ := pJ2 h
     exact wx_spD tt_ok (.inl rfl) Tryd.results44 (Res.tmp rfl Res.nil) ⟨rfl, rfl⟩ (fun F => by simp) (pSub (pH pNil))
    replace h := cf hc h
    refine wc_skip (wx_block (wx_then (wSR ?_)))
    iterate 2 refine wP rfl rfl ?_
    refine wP (v := .int .u8 (bits .and .u8 (v22.toNat : Int) (127 : Int))) rfl rfl (wP (v := .int .u64 (IntKind.wrap .u64 (bits .and .u8 (v22.toNat : Int) (127 : Int)))) rfl rfl (wP rfl rfl (wP (v := .int .i64 (IntKind.wrap .i64 ((7 : Int) * za))) rfl rfl ?_)))
    obtain ⟨v51, x51, h⟩ := bsome h
    refine wl_val (v := .int .u64 v51) (val_shl rfl rfl x51) rfl ?_
    refine wP (v := .int .u64 (bits .or .u64 zb v51)) rfl rfl (wP rfl rfl (wNT (wSR (wP rfl rfl (wP (v := .bool (decide ((v22.toNat : Int) < (128 : Int)))) rfl rfl (wNT (wc_cond rfl (fun hc => ?_) (fun hc => ?_))))))))
    ·replace h := ct hc h
     refine wSR ?_
     iterate 2 refine wP rfl rfl ?_
     refine wNT (wc_ret (wx_block_ret (wx_then_ret ?_)))
     obtain rfl := Option.some.inj h
     have h := hl15; clear hl15; try dsimp only [orE_l, orE_r] at h
     refine wx_then_ret (wx_block_ret (wx_then_ret ?_))
     obtain ⟨rfl, rfl⟩ := pJ2 h
     exact wx_spD tt_ok (.inl rfl) Tryd.results44 (Res.tmp rfl Res.nil) ⟨rfl, rfl⟩ (fun F => by simp) (pSub (pH pNil))
    replace h := cf hc h
    refine wc_skip (wx_block (wx_then (wc_region (wP (v := .int .i64 (IntKind.wrap .i64 (za + (1 : Int)))) rfl rfl (wP rfl rfl (wl_nil ?_))))))
    exact wx_round m15 (Nat.lt_succ_self m15) ⟨(bits .or .u64 zb v51), (IntKind.wrap .i64 (za + (1 : Int))), (T_codec_Reader.mk zd), h, rfl, rfl⟩ (agree_cons rfl (agree_cons rfl (agree_cons rfl agree_nil))) (pSub (pH pNil))
   replace h := cf hc h
   iterate 2 refine wl_skip rfl rfl ?_
   obtain rfl := sI h
   have h := hg40; clear hg40
   refine wP (v := .bool false) rfl rfl (wP rfl rfl (wNT ?_))
   replace h := cf rfl h
   refine wc_cond_false rfl ?_
   refine wc_skip (wx_block (wx_then (wSR ?_)))
   iterate 2 refine wP rfl rfl ?_
   refine wP (v := .int .u8 (bits .and .u8 (v22.toNat : Int) (127 : Int))) rfl rfl (wP (v := .int .u64 (IntKind.wrap .u64 (bits .and .u8 (v22.toNat : Int) (127 : Int)))) rfl rfl (wP rfl rfl (wP (v := .int .i64 (IntKind.wrap .i64 ((7 : Int) * za))) rfl rfl ?_)))
   obtain ⟨v51, x51, h⟩ := bsome h
   refine wl_val (v := .int .u64 v51) (val_shl rfl rfl x51) rfl ?_
   refine wP (v := .int .u64 (bits .or .u64 zb v51)) rfl rfl (wP rfl rfl (wNT (wSR (wP rfl rfl (wP (v := .bool (decide ((v22.toNat : Int) < (128 : Int)))) rfl rfl (wNT (wc_cond rfl (fun hc => ?_) (fun hc => ?_))))))))
   ·replace h := ct hc h
    refine wSR ?_
    iterate 2 refine wP rfl rfl ?_
    refine wNT (wc_ret (wx_block_ret (wx_then_ret ?_)))
    obtain rfl := Option.some.inj h
    have h := hl15; clear hl15; try dsimp only [orE_l, orE_r] at h
    refine wx_then_ret (wx_block_ret (wx_then_ret ?_))
    obtain ⟨rfl, rfl⟩ := pJ2 h
    exact wx_spD tt_ok (.inl rfl) Tryd.results44 (Res.tmp rfl Res.nil) ⟨rfl, rfl⟩ (fun F => by simp) (pSub (pH pNil))
   replace h := cf hc h
   refine wc_skip (wx_block (wx_then (wc_region (wP (v := .int .i64 (IntKind.wrap .i64 (za + (1 : Int)))) rfl rfl (wP rfl rfl (wl_nil ?_))))))
   exact wx_round m15 (Nat.lt_succ_self m15) ⟨(bits .or .u64 zb v51), (IntKind.wrap .i64 (za + (1 : Int))), (T_codec_Reader.mk zd), h, rfl, rfl⟩ (agree_cons rfl (agree_cons rfl (agree_cons rfl agree_nil))) (pSub (pH pNil))
  replace h := cf hc h
  iterate 2 refine wl_skip rfl rfl ?_
  obtain rfl := sI h
  have h := hg29; clear hg29
  refine wP (v := .bool false) rfl rfl (wP rfl rfl (wNT ?_))
  replace h := cf rfl h
  refine wc_cond_false rfl ?_
  refine wSR (wP rfl rfl (wP (v := .bool ((v22.toNat : Int) == (0 : Int))) rfl rfl (wP rfl rfl ?_)))
  obtain ⟨v40, h, hg40⟩ := bsome h
  refine wl_split (t := 37) rfl (fun hc => ?_) (fun hc => ?_)
  ·replace h := ct hc h
   refine wl_run rfl (wP rfl rfl (wl_run rfl (wP (v := .bool (decide ((0 : Int) < za))) rfl rfl ?_)))
   obtain rfl := sI h
   have h := hg40; clear hg40
   refine wP (v := .bool (decide ((0 : Int) < za))) rfl rfl (wP rfl rfl (wNT (wc_cond rfl (fun hc => ?_) (fun hc => ?_))))
   ·replace h := ct hc h
    refine wSR ?_
    iterate 2 refine wP rfl rfl ?_
    refine wP (v := .pointer (some ⟨p0b, 0, none⟩)) rfl rfl ?_
    obtain ⟨ze, x44, h⟩ := bsome h
    refine wl_cs Tryd.call67 rfl rfl rfl (s_sp (k_codec_left_fail x44) (pH pNil) (fun _ _ => trivial)) rfl ?_
    rintro _ _ ⟨_, ⟨rfl, rfl⟩, rfl⟩
    refine wNT (wSR (wP rfl rfl (wNT (wc_ret (wx_block_ret (wx_then_ret (wx_block_ret (wx_then_ret ?_))))))))
    obtain rfl := Option.some.inj h
    have h := hl15; clear hl15; try dsimp only [orE_l, orE_r] at h
    refine wx_then_ret (wx_block_ret (wx_then_ret ?_))
    obtain ⟨rfl, rfl⟩ := pJ2 h
    exact wx_spD tt_ok (.inl rfl) Tryd.results44 (Res.tmp rfl Res.nil) ⟨rfl, rfl⟩ (fun F => by simp) (pSub (pH pNil))
   replace h := cf hc h
   refine wc_skip (wx_block (wx_then (wSR ?_)))
   iterate 2 refine wP rfl rfl ?_
   refine wP (v := .int .u8 (bits .and .u8 (v22.toNat : Int) (127 : Int))) rfl rfl (wP (v := .int .u64 (IntKind.wrap .u64 (bits .and .u8 (v22.toNat : Int) (127 : Int)))) rfl rfl (wP rfl rfl (wP (v := .int .i64 (IntKind.wrap .i64 ((7 : Int) * za))) rfl rfl ?_)))
   obtain ⟨v51, x51, h⟩ := bsome h
   refine wl_val (v := .int .u64 v51) (val_shl rfl rfl x51) rfl ?_
   refine wP (v := .int .u64 (bits .or .u64 zb v51)) rfl rfl (wP rfl rfl (wNT (wSR (wP rfl rfl (wP (v := .bool (decide ((v22.toNat : Int) < (128 : Int)))) rfl rfl (wNT (wc_cond rfl (fun hc => ?_) (fun hc => ?_))))))))
   ·replace h := ct hc h
    refine wSR ?_
    iterate 2 refine wP rfl rfl ?_
    refine wNT (wc_ret (wx_block_ret (wx_then_ret ?_)))
    obtain rfl := Option.some.inj h
    have h := hl15; clear hl15; try dsimp only [orE_l, orE_r] at h
    refine wx_then_ret (wx_block_ret (wx_then_ret ?_))
    obtain ⟨rfl, rfl⟩ := pJ2 h
    exact wx_spD tt_ok (.inl rfl) Tryd.results44 (Res.tmp rfl Res.nil) ⟨rfl, rfl⟩ (fun F => by simp) (pSub (pH pNil))
   replace h := cf hc h
   refine wc_skip (wx_block (wx_then (wc_region (wP (v := .int .i64 (IntKind.wrap .i64 (za + (1 : Int)))) rfl rfl (wP rfl rfl (wl_nil ?_))))))
   exact wx_round m15 (Nat.lt_succ_self m15) ⟨(bits .or .u64 zb v51), (IntKind.wrap .i64 (za + (1 : Int))), (T_codec_Reader.mk zd), h, rfl, rfl⟩ (agree_cons rfl (agree_cons rfl (agree_cons rfl agree_nil))) (pSub (pH pNil))
  replace h := cf hc h
  iterate 2 refine wl_skip rfl rfl ?_
  obtain rfl := sI h
  have h := hg40; clear hg40
  refine wP (v := .bool false) rfl rfl (wP rfl rfl (wNT ?_))
  replace h := cf rfl h
  refine wc_cond_false rfl ?_
  refine wc_skip (wx_block (wx_then (wSR ?_)))
  iterate 2 refine wP rfl rfl ?_
  refine wP (v := .int .u8 (bits .and .u8 (v22.toNat : Int) (127 : Int))) rfl rfl (wP (v := .int .u64 (IntKind.wrap .u64 (bits .and .u8 (v22.toNat : Int) (127 : Int)))) rfl rfl (wP rfl rfl (wP (v := .int .i64 (IntKind.wrap .i64 ((7 : Int) * za))) rfl rfl ?_)))
  obtain ⟨v51, x51, h⟩ := bsome h
  refine wl_val (v := .int .u64 v51) (val_shl rfl rfl x51) rfl ?_
  refine wP (v := .int .u64 (bits .or .u64 zb v51)) rfl rfl (wP rfl rfl (wNT (wSR (wP rfl rfl (wP (v := .bool (decide ((v22.toNat : Int) < (128 : Int)))) rfl rfl (wNT (wc_cond rfl (fun hc => ?_) (fun hc => ?_))))))))
  ·replace h := ct hc h
   refine wSR ?_
   iterate 2 refine wP rfl rfl ?_
   refine wNT (wc_ret (wx_block_ret (wx_then_ret ?_)))
   obtain rfl := Option.some.inj h
   have h := hl15; clear hl15; try dsimp only [orE_l, orE_r] at h
   refine wx_then_ret (wx_block_ret (wx_then_ret ?_))
   obtain ⟨rfl, rfl⟩ := pJ2 h
   exact wx_spD tt_ok (.inl rfl) Tryd.results44 (Res.tmp rfl Res.nil) ⟨rfl, rfl⟩ (fun F => by simp) (pSub (pH pNil))
  replace h := cf hc h
  refine wc_skip (wx_block (wx_then (wc_region (wP (v := .int .i64 (IntKind.wrap .i64 (za + (1 : Int)))) rfl rfl (wP rfl rfl (wl_nil ?_))))))
  exact wx_round m15 (Nat.lt_succ_self m15) ⟨(bits .or .u64 zb v51), (IntKind.wrap .i64 (za + (1 : Int))), (T_codec_Reader.mk zd), h, rfl, rfl⟩ (agree_cons rfl (agree_cons rfl (agree_cons rfl agree_nil))) (pSub (pH pNil))
 replace h := cf hc h
 refine wc_exit (wx_then_exit ?_)
 obtain rfl := Option.some.inj h
 have h := hl15; clear hl15; try dsimp only [orE_l, orE_r] at h
 refine wx_then_exit (wx_block_exit (wx_then (wSR ?_)))
 iterate 2 refine wP rfl rfl ?_
 refine wNT (wc_ret ?_)
 obtain ⟨rfl, rfl⟩ := pJ2 h
 exact wx_spD tt_ok (.inl rfl) Tryd.results44 (Res.tmp rfl Res.nil) ⟨rfl, rfl⟩ (fun F => by simp) (pSub (pH pNil))

theorem k_state_shot {F : Nat} {p0 : (List Int)} {p0a0 : Option Addr} {p0n0 p0c0 : Nat} {r0 : T_api_Shot} (p0N0 : p0n0 = p0.length) (p0H0 : p0n0 ≤ p0c0) (h : m_state_shot F p0 = some r0) :
    Pf Tryd.prog 46 [.slice p0a0 p0n0 p0c0] (fun w => Rds w [] [] p0a0 (flat (e1 .i32) p0)) (.agg #[.int .i32 r0.X, .int .i32 r0.Y, .int .i32 r0.VX, .int .i32 r0.VY, .int .u8 r0.Owner, .int .u8 r0.Life]) := by
 unfold m_state_shot at h
 refine pf_of_wc Tryd.func46 rfl Tryd.ntmps46 rfl rfl (fun w0 hR => ?_)
 have p0S0 := hR
 refine wSR (wl_alloc tt_ok rfl rfl (fun b2 => (wNT (wc_seq (wc_k2 (Ls := (⟨b2, [.int .i32 (0 : Int), .int .i32 (0 : Int), .int .i32 (0 : Int), .int .i32 (0 : Int), .int .u8 (0 : Int), .int .u8 (0 : Int)], 50, (0, 0)⟩ :: [])) [21] [21] [0, 1, 3, 0, 8, 24, 0, 64, 192, 0, 512, 1536, 0, 4096, 12288, 28672, 0, 65536, 196608, 458752, 1048575, 2097151] [0, 1, 2, 3, 4, 5, 6, 7, 8, 9, 10, 11, 12, 13, 14, 15, 16, 17, 18, 19, 20, 21] (by kernel_rfl) (by kernel_rfl) (by kernel_rfl) (k_val rfl rfl rfl (pSub (pH pNil)) (sV rfl) rfl ?_))))))
 obtain ⟨v4, x4, h⟩ := bsome h
 refine k_val (v := .pointer (some ((adOf p0a0).add ((0 : Int).toNat * 1 + 0)))) rfl rfl rfl (pSub (pH pNil)) (val_ix (enc := (e1 .i32)) tt_ok rfl rfl rfl rfl p0N0 p0S0 (e1_len _) rfl x4) rfl (k_val (v := .int .i32 v4) rfl rfl rfl (pSub (pH pNil)) (val_le (enc := (e1 .i32)) (xs := p0) tt_ok rfl p0S0 rsub_nil (e1_len _) x4 rfl) rfl (k_val rfl rfl rfl (pSub (pH pNil)) (sV rfl) rfl ?_))
 obtain ⟨v7, x7, h⟩ := bsome h
 refine k_val (v := .pointer (some ((adOf p0a0).add ((1 : Int).toNat * 1 + 0)))) rfl rfl rfl (pSub (pH pNil)) (val_ix (enc := (e1 .i32)) tt_ok rfl rfl rfl rfl p0N0 p0S0 (e1_len _) rfl x7) rfl (k_val (v := .int .i32 v7) rfl rfl rfl (pSub (pH pNil)) (val_le (enc := (e1 .i32)) (xs := p0) tt_ok rfl p0S0 rsub_nil (e1_len _) x7 rfl) rfl (k_val rfl rfl rfl (pSub (pH pNil)) (sV rfl) rfl ?_))
 obtain ⟨v10, x10, h⟩ := bsome h
 refine k_val (v := .pointer (some ((adOf p0a0).add ((2 : Int).toNat * 1 + 0)))) rfl rfl rfl (pSub (pH pNil)) (val_ix (enc := (e1 .i32)) tt_ok rfl rfl rfl rfl p0N0 p0S0 (e1_len _) rfl x10) rfl (k_val (v := .int .i32 v10) rfl rfl rfl (pSub (pH pNil)) (val_le (enc := (e1 .i32)) (xs := p0) tt_ok rfl p0S0 rsub_nil (e1_len _) x10 rfl) rfl (k_val rfl rfl rfl (pSub (pH pNil)) (sV rfl) rfl ?_))
 obtain ⟨v13, x13, h⟩ := bsome h
 refine k_val (v := .pointer (some ((adOf p0a0).add ((3 : Int).toNat * 1 + 0)))) rfl rfl rfl (pSub (pH pNil)) (val_ix (enc := (e1 .i32)) tt_ok rfl rfl rfl rfl p0N0 p0S0 (e1_len _) rfl x13) rfl (k_val (v := .int .i32 v13) rfl rfl rfl (pSub (pH pNil)) (val_le (enc := (e1 .i32)) (xs := p0) tt_ok rfl p0S0 rsub_nil (e1_len _) x13 rfl) rfl (k_val rfl rfl rfl (pSub (pH pNil)) (sV rfl) rfl ?_))
 obtain ⟨v16, x16, h⟩ := bsome h
 refine k_val (v := .pointer (some ((adOf p0a0).add ((4 : Int).toNat * 1 + 0)))) rfl rfl rfl (pSub (pH pNil)) (val_ix (enc := (e1 .i32)) tt_ok rfl rfl rfl rfl p0N0 p0S0 (e1_len _) rfl x16) rfl (k_val (v := .int .i32 v16) rfl rfl rfl (pSub (pH pNil)) (val_le (enc := (e1 .i32)) (xs := p0) tt_ok rfl p0S0 rsub_nil (e1_len _) x16 rfl) rfl (k_val (v := .int .u8 (IntKind.wrap .u8 v16)) rfl rfl rfl (pSub (pH pNil)) (sV rfl) rfl (k_val rfl rfl rfl (pSub (pH pNil)) (sV rfl) rfl ?_)))
 obtain ⟨v20, x20, h⟩ := bsome h
 refine k_val (v := .pointer (some ((adOf p0a0).add ((5 : Int).toNat * 1 + 0)))) rfl rfl rfl (pSub (pH pNil)) (val_ix (enc := (e1 .i32)) tt_ok rfl rfl rfl rfl p0N0 p0S0 (e1_len _) rfl x20) rfl (k_val (v := .int .i32 v20) rfl rfl rfl (pSub (pH pNil)) (val_le (enc := (e1 .i32)) (xs := p0) tt_ok rfl p0S0 rsub_nil (e1_len _) x20 rfl) rfl (k_val (v := .int .u8 (IntKind.wrap .u8 v20)) rfl rfl rfl (pSub (pH pNil)) (sV rfl) rfl (k_val (v := .agg #[.int .i32 v4, .int .i32 v7, .int .i32 v10, .int .i32 v13, .int .u8 (IntKind.wrap .u8 v16), .int .u8 (IntKind.wrap .u8 v20)]) rfl rfl rfl (pSub (pH pNil)) (sV rfl) rfl (k_chg0 rfl rfl rfl (chg_store tt_ok rfl Upd.here rfl rfl rfl rfl rfl rfl) (.inl rfl) ?_))))
 rintro _ _ rfl
 refine k_end (by kernel_rfl) ?_
 refine wx_then (wc_ret ?_)
 obtain rfl := sI h
 exact wx_pf tt_ok (.inl rfl) Tryd.results46 (Res.cell rfl mH rfl Res.nil) rfl

theorem k_state_take_api_Shot_f2_state_shot {F : Nat} {p0 : T_codec_Reader} {p0b p0t : Nat} {p1 : Int} {r0 : T_codec_Reader} {r1 : T_api_Shot} (h : m_state_take_api_Shot_f2_state_shot F p0 p1 = some (r0, r1)) :
    SpD Tryd.prog 45 [.pointer (some ⟨p0b, 0, none⟩), .int .i64 p1, .func (.func 46) #[] #[]] (⟨p0b, [.string ⟨p0.left.s.toArray⟩, .int .i64 p0.left.e], p0t, (0, 0)⟩ :: []) (fun w => True) (fun v D => v = .agg #[.int .i32 r1.X, .int .i32 r1.Y, .int .i32 r1.VX, .int .i32 r1.VY, .int .u8 r1.Owner, .int .u8 r1.Life] ∧ D = fun F => (⟨p0b, [.string ⟨r0.left.s.toArray⟩, .int .i64 r0.left.e], p0t, (0, 0)⟩ :: F)) := by
 unfold m_state_take_api_Shot_f2_state_shot at h
 refine sp_of_wc Tryd.func45 rfl Tryd.ntmps45 rfl rfl (fun w0 hR => ?_)
 refine wSR (wl_alloc tt_ok rfl rfl (fun b6 => (wNT (wSR (wP rfl rfl ?_)))))
 obtain ⟨v10, x10, h⟩ := bsome h
 refine wl_chg (chg_make (enc := (e1 .i32)) tt_ok rfl rfl rfl rfl rfl rfl (e1_len _) rfl x10) rfl ?_
 rintro _ _ ⟨a10, n10_, c10, B10, rfl, N10, V10, rfl⟩
 refine wP rfl rfl (wNT (wc_seq (wSR ?_)))
 iterate 2 refine wP rfl rfl ?_
 refine wNT (wc_block ?_)
 replace h := bsome h; obtain ⟨⟨zm, zj⟩, h, hl9⟩ := h; try dsimp only at hl9
 refine wc_loop (fun m E L => ∃ (zb : Int) (za : (List Int)) (zh : T_codec_Reader) (zc : Option Addr) (ze zg : Nat) (zi : List Blk), m_state_take_api_Shot_f2_state_shot_L8 F p1 m zb za zh = some (zm, zj) ∧ ze = za.length ∧ Own 21 1 zc ze zg (flat (e1 .i32) za) zi ∧ E = [(0, .pointer (some ⟨p0b, 0, none⟩)), (2, .func (.func 46) #[] #[]), (6, .pointer (some ⟨b6, 0, none⟩)), (7, .slice zc ze zg), (11, .int .i64 p1), (12, .int .i64 zb)] ∧ L = (⟨p0b, [.string ⟨zh.left.s.toArray⟩, .int .i64 zh.left.e], p0t, (0, 0)⟩ :: (⟨b6, [.int .i32 (0 : Int), .int .i32 (0 : Int), .int .i32 (0 : Int), .int .i32 (0 : Int), .int .u8 (0 : Int), .int .u8 (0 : Int)], 50, (0, 0)⟩ :: (zi ++ [])))) F ⟨(0 : Int), v10, p0, a10, n10_, c10, B10, h, N10, V10, rfl, rfl⟩ (agree_cons rfl (agree_cons rfl (agree_cons rfl (agree_cons rfl (agree_cons rfl (agree_cons rfl agree_nil)))))) (pSub (pCons (sAC hC) (pCons (sA hC) (pA pNil)))) ?_
 clear h
 rintro m9 _ _ ⟨zb, za, zh, zc, ze, zg, zi, h, zf, zd, rfl, rfl⟩
 rcases m9 with _ | m9
 ·rw [m_state_take_api_Shot_f2_state_shot_L8.eq_1] at h; cases h
 rw [m_state_take_api_Shot_f2_state_shot_L8.eq_2] at h
 refine wSR (wP (v := .bool (decide (zb < p1))) rfl rfl (wNT (wc_seq (wc_cond rfl (fun hc => ?_) (fun hc => ?_)))))
 ·replace h := ct hc h
  refine wc_skip (wx_then (wc_seq (wc_block (wSR ?_))))
  iterate 2 refine wP rfl rfl ?_
  refine wNT (wSR (wP rfl rfl (wP (v := .bool (decide (zb < (4 : Int)))) rfl rfl (wNT (wc_cond rfl (fun hc => ?_) (fun hc => ?_))))))
  ·replace h := ct hc h
   refine wc_region ?_
   iterate 3 refine wP rfl rfl ?_
   replace h := bsome h; obtain ⟨⟨zk, v20⟩, x20, h⟩ := h; try dsimp only at h
   refine wl_cs Tryd.call64 rfl rfl rfl (s_sp (k_codec_Reader_I32 x20) (pH pNil) (fun _ _ => trivial)) rfl ?_
   rintro _ _ ⟨_, ⟨rfl, rfl⟩, rfl⟩
   obtain ⟨v21, x21, h⟩ := bsome h
   refine wl_val (v := .pointer (some ((adOf zc).add (zb.toNat * 1 + 0)))) (val_ix (enc := (e1 .i32)) tt_ok rfl rfl rfl rfl zf (Rds.of_vec zd) (e1_len _) rfl x21) rfl ?_
   refine wl_chg0 (chg_ste (enc := (e1 .i32)) (y' := v20) tt_ok rfl rfl rfl rfl rfl rfl zf zd (sCC hA') (e1_len _) x21 rfl (by intro h; cases h)) ?_
   rintro _ _ ⟨Bs23_5, Ns23_5, Vs23_5, rfl⟩
   refine wl_nil (wx_block (wx_then (wc_region (wP (v := .int .i64 (IntKind.wrap .i64 (zb + (1 : Int)))) rfl rfl (wP rfl rfl (wl_nil ?_))))))
   exact wx_round m9 (Nat.lt_succ_self m9) ⟨(IntKind.wrap .i64 (zb + (1 : Int))), (setI za zb v20), zk, zc, ze, zg, Bs23_5, h, Ns23_5, Vs23_5, rfl, rfl⟩ (agree_cons rfl (agree_cons rfl (agree_cons rfl (agree_cons rfl (agree_cons rfl (agree_cons rfl agree_nil)))))) (pSub (pCons (sA hC) (pCons (sA hC) (pA pNil))))
  replace h := cf hc h
  refine wc_region ?_
  iterate 3 refine wP rfl rfl ?_
  replace h := bsome h; obtain ⟨⟨zl, v25⟩, x25, h⟩ := h; try dsimp only at h
  refine wl_cs Tryd.call65 rfl rfl rfl (s_sp (k_codec_Reader_U8 x25) (pH pNil) (fun _ _ => trivial)) rfl ?_
  rintro _ _ ⟨_, ⟨rfl, rfl⟩, rfl⟩
  refine wP (v := .int .i32 (IntKind.wrap .i32 v25)) rfl rfl ?_
  obtain ⟨v27, x27, h⟩ := bsome h
  refine wl_val (v := .pointer (some ((adOf zc).add (zb.toNat * 1 + 0)))) (val_ix (enc := (e1 .i32)) tt_ok rfl rfl rfl rfl zf (Rds.of_vec zd) (e1_len _) rfl x27) rfl ?_
  refine wl_chg0 (chg_ste (enc := (e1 .i32)) (y' := (IntKind.wrap .i32 v25)) tt_ok rfl rfl rfl rfl rfl rfl zf zd (sCC hA') (e1_len _) x27 rfl (by intro h; cases h)) ?_
  rintro _ _ ⟨Bs24_6, Ns24_6, Vs24_6, rfl⟩
  refine wl_nil (wx_block (wx_then (wc_region (wP (v := .int .i64 (IntKind.wrap .i64 (zb + (1 : Int)))) rfl rfl (wP rfl rfl (wl_nil ?_))))))
  exact wx_round m9 (Nat.lt_succ_self m9) ⟨(IntKind.wrap .i64 (zb + (1 : Int))), (setI za zb (IntKind.wrap .i32 v25)), zl, zc, ze, zg, Bs24_6, h, Ns24_6, Vs24_6, rfl, rfl⟩ (agree_cons rfl (agree_cons rfl (agree_cons rfl (agree_cons rfl (agree_cons rfl (agree_cons rfl agree_nil)))))) (pSub (pCons (sA hC) (pCons (sA hC) (pA pNil))))
 replace h := cf hc h
 refine wc_exit (wx_then_exit ?_)
 obtain ⟨rfl, rfl⟩ := pJ2 h
 have h := hl9; clear hl9; try dsimp only [orE_l, orE_r] at h
 refine wx_then_exit (wx_block_exit (wx_then (wSR ?_)))
 iterate 2 refine wP rfl rfl ?_
 obtain ⟨v31, x31, h⟩ := bsome h
 refine wl_cq Tryd.call46 rfl rfl rfl (q_pf (k_state_shot (p0 := za) zf (vec_cap zd) x31) (Rds.call (Rds.of_vec zd) pNil ⟨_, (sCC hA')⟩)) rfl ?_
 apply wl_store tt_ok; rfl; exact (Upd.there Upd.here); rfl; rfl; rfl; rfl; rfl; rfl
 refine wNT (wc_ret ?_)
 obtain ⟨rfl, rfl⟩ := pJ2 h
 exact wx_spD tt_ok (.inl rfl) Tryd.results45 (Res.cell rfl (mT mH) rfl Res.nil) ⟨rfl, rfl⟩ (fun F => by simp) (pSub (pH pNil))

theorem k_codec_get_uint16 {F : Nat} {p0 : T_codec_Reader} {p0b p0t : Nat} {p1 : Int} {r0 : T_codec_Reader} {r1 : Int} (h : m_codec_get_uint16 F p0 p1 = some (r0, r1)) :
    SpD Tryd.prog 68 [.pointer (some ⟨p0b, 0, none⟩), .int .i64 p1] (⟨p0b, [.string ⟨p0.left.s.toArray⟩, .int .i64 p0.left.e], p0t, (0, 0)⟩ :: []) (fun w => True) (fun v D => v = .int .u16 r1 ∧ D = fun F => (⟨p0b, [.string ⟨r0.left.s.toArray⟩, .int .i64 r0.left.e], p0t, (0, 0)⟩ :: F)) := by
 unfold m_codec_get_uint16 at h
 refine sp_of_wc Tryd.func68 rfl Tryd.ntmps68 rfl rfl (fun w0 hR => ?_)
 refine wSR (wP rfl rfl (wNT (wc_seq (wSR (wP rfl rfl (wP (v := .bool false) rfl rfl (wNT (wc_cond_false rfl (wc_skip (wx_then (wSR ?_)))))))))))
 iterate 2 refine wP rfl rfl ?_
 refine wP (v := .pointer (some ⟨p0b, 0, none⟩)) rfl rfl (wP rfl rfl (wP (v := .int .u64 (IntKind.wrap .u64 p1)) rfl rfl ?_))
 replace h := bsome h; obtain ⟨⟨zd, zc, zf⟩, x16, h⟩ := h; try dsimp only at h
 refine wl_cs Tryd.call66 rfl rfl rfl (s_sp (k_codec_left_take x16) (pH pNil) (fun _ _ => trivial)) rfl ?_
 rintro _ _ ⟨_, ⟨rfl, rfl⟩, rfl⟩
 iterate 5 refine wP rfl rfl ?_
 refine wNT (wc_seq (wSR (wP rfl rfl (wP (v := .int .i64 (zc.length : Int)) rfl rfl (wP rfl rfl (wNT (wc_block ?_)))))))
 obtain ⟨ze, h, hl17⟩ := bsome h
 refine wc_loop (fun m E L => ∃ (zb : Int) (za : Int), m_codec_get_uint16_L16 F zc m zb za = some ze ∧ E = [(4, .int .u16 zb), (5, .string ⟨zc.toArray⟩), (20, .int .i64 (zc.length : Int)), (21, .int .i64 za)] ∧ L = (⟨p0b, [.string ⟨zd.s.toArray⟩, .int .i64 zd.e], p0t, (0, 0)⟩ :: [])) F ⟨(0 : Int), (0 : Int), h, rfl, rfl⟩ (agree_cons rfl (agree_cons rfl (agree_cons rfl (agree_cons rfl agree_nil)))) (pSub (pH pNil)) ?_
 clear h
 rintro m17 _ _ ⟨zb, za, h, rfl, rfl⟩
 rcases m17 with _ | m17
 ·rw [m_codec_get_uint16_L16.eq_1] at h; cases h
 rw [m_codec_get_uint16_L16.eq_2] at h
 refine wSR (wP (v := .bool (decide (za < (zc.length : Int)))) rfl rfl (wNT (wc_seq (wc_cond rfl (fun hc => ?_) (fun hc => ?_)))))
 ·replace h := ct hc h
  refine wc_skip (wx_then (wc_seq (wc_block (wSR ?_))))
  iterate 2 refine wP rfl rfl ?_
  refine wNT (wc_region ?_)
  iterate 3 refine wP rfl rfl ?_
  obtain ⟨v27, x27, h⟩ := bsome h
  refine wl_val (v := .int .u8 (v27.toNat : Int)) (val_sx tt_ok rfl rfl rfl x27) rfl ?_
  refine wP (v := .int .u64 (IntKind.wrap .u64 (v27.toNat : Int))) rfl rfl (wP rfl rfl (wP (v := .int .i64 (IntKind.wrap .i64 ((8 : Int) * za))) rfl rfl ?_))
  obtain ⟨v31, x31, h⟩ := bsome h
  refine wl_val (v := .int .u64 v31) (val_shl rfl rfl x31) rfl ?_
  refine wP (v := .int .u16 (IntKind.wrap .u16 v31)) rfl rfl (wP (v := .int .u16 (bits .or .u16 zb (IntKind.wrap .u16 v31))) rfl rfl (wP rfl rfl (wl_nil (wx_block (wx_then (wc_region (wP (v := .int .i64 (IntKind.wrap .i64 (za + (1 : Int)))) rfl rfl (wP rfl rfl (wl_nil ?_)))))))))
  exact wx_round m17 (Nat.lt_succ_self m17) ⟨(bits .or .u16 zb (IntKind.wrap .u16 v31)), (IntKind.wrap .i64 (za + (1 : Int))), h, rfl, rfl⟩ (agree_cons rfl (agree_cons rfl (agree_cons rfl (agree_cons rfl agree_nil)))) (pSub (pH pNil))
 replace h := cf hc h
 refine wc_exit (wx_then_exit ?_)
 obtain rfl := sI h
 have h := hl17; clear hl17; try dsimp only [orE_l, orE_r] at h
 refine wx_then_exit (wx_block_exit (wx_then (wSR ?_)))
 iterate 2 refine wP rfl rfl ?_
 refine wNT (wc_ret ?_)
 obtain ⟨rfl, rfl⟩ := pJ2 h
 exact wx_spD tt_ok (.inl rfl) Tryd.results68 (Res.tmp rfl Res.nil) ⟨rfl, rfl⟩ (fun F => by simp) (pSub (pH pNil))

theorem k_codec_Reader_U16 {F : Nat} {p0 : T_codec_Reader} {p0b p0t : Nat} {r0 : T_codec_Reader} {r1 : Int} (h : m_codec_Reader_U16 F p0 = some (r0, r1)) :
    SpD Tryd.prog 47 [.pointer (some ⟨p0b, 0, none⟩)] (⟨p0b, [.string ⟨p0.left.s.toArray⟩, .int .i64 p0.left.e], p0t, (0, 0)⟩ :: []) (fun w => True) (fun v D => v = .int .u16 r1 ∧ D = fun F => (⟨p0b, [.string ⟨r0.left.s.toArray⟩, .int .i64 r0.left.e], p0t, (0, 0)⟩ :: F)) := by
 unfold m_codec_Reader_U16 at h
 refine sp_of_wc Tryd.func47 rfl Tryd.ntmps47 rfl rfl (fun w0 hR => ?_)
 refine wSR (wP rfl rfl (wNT (wSR (wP rfl rfl ?_))))
 replace h := bsome h; obtain ⟨⟨za, v4⟩, x4, h⟩ := h; try dsimp only at h
 refine wl_cs Tryd.call68 rfl rfl rfl (s_sp (k_codec_get_uint16 x4) (pH pNil) (fun _ _ => trivial)) rfl ?_
 rintro _ _ ⟨_, ⟨rfl, rfl⟩, rfl⟩
 refine wP rfl rfl (wNT (wc_ret ?_))
 obtain ⟨rfl, rfl⟩ := pJ2 h
 exact wx_spD tt_ok (.inl rfl) Tryd.results47 (Res.tmp rfl Res.nil) ⟨rfl, rfl⟩ (fun F => by simp) (pSub (pH pNil))

theorem k_codec_Reader_Err {F : Nat} {p0 : T_codec_Reader} {p0b p0t : Nat} {r0 : Int} (h : m_codec_Reader_Err F p0 = some r0) :
    Rd2 Tryd.prog 48 [.pointer (some ⟨p0b, 0, none⟩)] (⟨p0b, [.string ⟨p0.left.s.toArray⟩, .int .i64 p0.left.e], p0t, (0, 0)⟩ :: []) (fun w => True) (.int .i64 r0) := by
 unfold m_codec_Reader_Err at h
 refine sp_of_wc Tryd.func48 rfl Tryd.ntmps48 rfl rfl (fun w0 hR => ?_)
 refine wSR (wP rfl rfl (wNT (wc_seq (wSR (wP rfl rfl (wP (v := .bool false) rfl rfl (wNT (wc_cond_false rfl (wc_skip (wx_then (wSR ?_)))))))))))
 iterate 2 refine wP rfl rfl ?_
 refine wP (v := .pointer (some ⟨p0b, 0, none⟩)) rfl rfl (wP (v := .pointer (some ⟨p0b, 1, none⟩)) rfl rfl (wl_val (v := .int .i64 p0.left.e) (val_load tt_ok rfl mH rfl) rfl (wP rfl rfl (wNT (wc_ret ?_)))))
 obtain rfl := sI h
 exact wx_rd tt_ok (.inl rfl) Tryd.results48 (Res.tmp rfl Res.nil) (pSub (pH pNil)) rfl

theorem k_codec_Reader_Rest {F : Nat} {p0 : T_codec_Reader} {p0b p0t : Nat} {r0 : (List UInt8)} (h : m_codec_Reader_Rest F p0 = some r0) :
    Rd2 Tryd.prog 49 [.pointer (some ⟨p0b, 0, none⟩)] (⟨p0b, [.string ⟨p0.left.s.toArray⟩, .int .i64 p0.left.e], p0t, (0, 0)⟩ :: []) (fun w => True) (.string ⟨r0.toArray⟩) := by
 unfold m_codec_Reader_Rest at h
 refine sp_of_wc Tryd.func49 rfl Tryd.ntmps49 rfl rfl (fun w0 hR => ?_)
 refine wSR (wP rfl rfl (wNT (wc_seq (wSR (wP rfl rfl (wP (v := .bool false) rfl rfl (wNT (wc_cond_false rfl (wc_skip (wx_then (wSR ?_)))))))))))
 iterate 2 refine wP rfl rfl ?_
 refine wP (v := .pointer (some ⟨p0b, 0, none⟩)) rfl rfl (wP (v := .pointer (some ⟨p0b, 0, none⟩)) rfl rfl (wl_val (v := .string ⟨p0.left.s.toArray⟩) (val_load tt_ok rfl mH rfl) rfl (wP rfl rfl (wNT (wc_ret ?_)))))
 obtain rfl := sI h
 exact wx_rd tt_ok (.inl rfl) Tryd.results49 (Res.tmp rfl Res.nil) (pSub (pH pNil)) rfl

theorem k_state_Take {F : Nat} {p0 : (List UInt8)} {r0 : T_api_State} {r1 : Int} (h : m_state_Take F p0 = some (r0, r1)) :
    SpD Tryd.prog 18 [.string ⟨p0.toArray⟩] [] (fun w => Rds w (ids []) [] (some ⟨0, 0, none⟩) (flat (fun _ : Unit => gl_state_playerBounds) [()]) ∧ Rds w (ids []) [] (some ⟨1, 0, none⟩) (flat (fun _ : Unit => gl_state_shotBounds) [()])) (fun v D => ∃ (r0a0 : Option Addr) (r0n0 r0c0 : Nat) (r0B0 : List Blk), r0n0 = r0.Shots.length ∧ Own 50 6 r0a0 r0n0 r0c0 (flat c_T_api_Shot r0.Shots) r0B0 ∧ v = .tuple #[agS r0 r0a0 r0n0 r0c0, .int .i64 r1] ∧ D = fun F => (r0B0 ++ F)) := by
 unfold m_state_Take at h
 refine sp_of_wc Tryd.func18 rfl Tryd.ntmps18 rfl rfl (fun w0 hR => ?_)
 obtain ⟨G0S, G1S⟩ := hR
 refine wSR (wl_alloc tt_ok rfl rfl (fun b2 => (wP rfl rfl (wNT (wSR (wP rfl rfl ?_))))))
 obtain ⟨v10, x10, h⟩ := bsome h
 refine wl_cs Tryd.call40 rfl rfl rfl (s_sp (k_codec_New x10) pNil (fun _ _ => trivial)) rfl ?_
 rintro _ _ ⟨_, ⟨zp, rfl, rfl⟩, rfl⟩
 refine wP rfl rfl (wNT (wSR (wP rfl rfl ?_)))
 replace h := bsome h; obtain ⟨⟨zab, v12⟩, x12, h⟩ := h; try dsimp only at h
 refine wl_cs Tryd.call41 rfl rfl rfl (s_sp (k_codec_Reader_U64 x12) (pH pNil) (fun _ _ => trivial)) rfl ?_
 rintro _ _ ⟨_, ⟨rfl, rfl⟩, rfl⟩
 refine wP rfl rfl ?_
 replace h := bsome h; obtain ⟨⟨zy, v14⟩, x14, h⟩ := h; try dsimp only at h
 refine wl_cs Tryd.call41 rfl rfl rfl (s_sp (k_codec_Reader_U64 x14) (pH pNil) (fun _ _ => trivial)) rfl ?_
 rintro _ _ ⟨_, ⟨rfl, rfl⟩, rfl⟩
 refine wP (v := .agg #[.int .u64 v12, .int .u64 v14, .int .i32 (0 : Int), .int .i32 (0 : Int), .int .i32 (0 : Int), .int .i32 (0 : Int), .int .u8 (0 : Int), .int .u8 (0 : Int), .int .u8 (0 : Int), .int .i32 (0 : Int), .int .i32 (0 : Int), .int .i32 (0 : Int), .int .i32 (0 : Int), .int .u8 (0 : Int), .int .u8 (0 : Int), .int .u8 (0 : Int), .slice none 0 0, .int .u16 (0 : Int), .int .u16 (0 : Int)]) rfl rfl (wl_alloc tt_ok rfl rfl (fun b5 => ?_))
 apply wl_store tt_ok; rfl; exact Upd.here; rfl; rfl; rfl; rfl; rfl; rfl
 refine wNT (wc_seq (wSR (wP rfl rfl (wNT (wc_block ?_)))))
 replace h := bsome h; obtain ⟨⟨zq, zr⟩, h, hl11⟩ := h; try dsimp only at hl11
 refine wc_loop (fun m E L => ∃ (zh : Int) (zl : T_codec_Reader) (zb : (T_api_Player × T_api_Player)), m_state_Take_L10 F m zh zl zb = some (zq, zr) ∧ E = [(2, .pointer (some ⟨b2, 0, none⟩)), (3, .int .i64 (0 : Int)), (4, .pointer (some ⟨zp, 0, none⟩)), (5, .pointer (some ⟨b5, 0, none⟩)), (16, .int .i64 zh)] ∧ L = (⟨b2, [.int .u64 (0 : Int), .int .u64 (0 : Int), .int .i32 (0 : Int), .int .i32 (0 : Int), .int .i32 (0 : Int), .int .i32 (0 : Int), .int .u8 (0 : Int), .int .u8 (0 : Int), .int .u8 (0 : Int), .int .i32 (0 : Int), .int .i32 (0 : Int), .int .i32 (0 : Int), .int .i32 (0 : Int), .int .u8 (0 : Int), .int .u8 (0 : Int), .int .u8 (0 : Int), .slice none 0 0, .int .u16 (0 : Int), .int .u16 (0 : Int)], 30, (0, 0)⟩ :: (⟨zp, [.string ⟨zl.left.s.toArray⟩, .int .i64 zl.left.e], 101, (0, 0)⟩ :: (⟨b5, (.int .u64 v12 :: .int .u64 v14 :: pl14 zb [.slice none 0 0, .int .u16 (0 : Int), .int .u16 (0 : Int)]), 30, (0, 0)⟩ :: [])))) F ⟨(0 : Int), zy, ((T_api_Player.mk (0 : Int) (0 : Int) (0 : Int) (0 : Int) (0 : Int) (0 : Int) (0 : Int)), (T_api_Player.mk (0 : Int) (0 : Int) (0 : Int) (0 : Int) (0 : Int) (0 : Int) (0 : Int))), h, rfl, rfl⟩ (agree_cons rfl (agree_cons rfl (agree_cons rfl (agree_cons rfl (agree_cons rfl agree_nil))))) (pSub (pCons (sCC hC) (pS (pH pNil)))) ?_
 clear h
 rintro m11 _ _ ⟨zh, zl, zb, h, rfl, rfl⟩
 rcases m11 with _ | m11
 ·rw [m_state_Take_L10.eq_1] at h; cases h
 rw [m_state_Take_L10.eq_2] at h
 refine wSR (wP (v := .bool (decide (zh < (2 : Int)))) rfl rfl (wNT (wc_seq (wc_cond rfl (fun hc => ?_) (fun hc => ?_)))))
 ·replace h := ct hc h
  refine wc_skip (wx_then (wc_seq (wc_block (wSR ?_))))
  iterate 2 refine wP rfl rfl ?_
  refine wNT (wc_region ?_)
  iterate 2 refine wP rfl rfl ?_
  replace h := bsome h; obtain ⟨⟨zw, v21⟩, x21, h⟩ := h; try dsimp only at h
  refine wl_cs Tryd.call42 rfl rfl rfl (s_sp (k_state_take_api_Player_f2_state_player x21) (pS pNil) (fun _ _ => trivial)) rfl ?_
  rintro _ _ ⟨_, ⟨rfl, rfl⟩, rfl⟩
  refine wP (v := .pointer (some ⟨b5, 2, none⟩)) rfl rfl ?_
  rcases Bool.eq_false_or_eq_true (zh == (0 : Int)) with hx230 | hx230
  ·replace h := ct hx230 h
   refine wl_val (v := .pointer (some ⟨b5, 2, none⟩)) (val_ia (j := 0) tt_ok rfl rfl rfl rfl (by simpa using hx230) rfl rfl) rfl ?_
   apply wl_store tt_ok; rfl; exact (Upd.there (Upd.there Upd.here)); rfl; rfl; rfl; rfl; rfl; rfl
   refine wl_nil (wx_block (wx_then (wc_region (wP (v := .int .i64 (IntKind.wrap .i64 (zh + (1 : Int)))) rfl rfl (wP rfl rfl (wl_nil ?_))))))
   exact wx_round m11 (Nat.lt_succ_self m11) ⟨(IntKind.wrap .i64 (zh + (1 : Int))), zw, (v21, zb.2), h, rfl, rfl⟩ (agree_cons rfl (agree_cons rfl (agree_cons rfl (agree_cons rfl (agree_cons rfl agree_nil))))) (pSub (pS (pHH pNil)))
  replace h := cf hx230 h
  rcases Bool.eq_false_or_eq_true (zh == (1 : Int)) with hx231 | hx231
  ·replace h := ct hx231 h
   refine wl_val (v := .pointer (some ⟨b5, 9, none⟩)) (val_ia (j := 1) tt_ok rfl rfl rfl rfl (by simpa using hx231) rfl rfl) rfl ?_
   apply wl_store tt_ok; rfl; exact (Upd.there (Upd.there Upd.here)); rfl; rfl; rfl; rfl; rfl; rfl
   refine wl_nil (wx_block (wx_then (wc_region (wP (v := .int .i64 (IntKind.wrap .i64 (zh + (1 : Int)))) rfl rfl (wP rfl rfl (wl_nil ?_))))))
   exact wx_round m11 (Nat.lt_succ_self m11) ⟨(IntKind.wrap .i64 (zh + (1 : Int))), zw, (zb.1, v21), h, rfl, rfl⟩ (agree_cons rfl (agree_cons rfl (agree_cons rfl (agree_cons rfl (agree_cons rfl agree_nil))))) (pSub (pS (pHH pNil)))
  replace h := cf hx231 h
  cases h
 replace h := cf hc h
 refine wc_exit (wx_then_exit ?_)
 obtain ⟨rfl, rfl⟩ := pJ2 h
 have h := hl11; clear hl11; try dsimp only [orE_l, orE_r] at h
 refine wx_then_exit (wx_block_exit (wx_then (wSR ?_)))
 refine wP rfl rfl ?_
 replace h := bsome h; obtain ⟨⟨zz, v26⟩, x26, h⟩ := h; try dsimp only at h
 refine wl_cs Tryd.call44 rfl rfl rfl (s_sp (k_codec_Reader_Var x26) (pS pNil) (fun _ _ => trivial)) rfl ?_
 rintro _ _ ⟨_, ⟨rfl, rfl⟩, rfl⟩
 refine wP rfl rfl (wNT (wc_seq (wSR (wP rfl rfl (wP (v := .bool (decide ((8 : Int) < v26))) rfl rfl (wNT (wc_cond rfl (fun hc => ?_) (fun hc => ?_))))))))
 ·replace h := ct hc h
  refine wSR (wP (v := .agg #[.int .u64 (0 : Int), .int .u64 (0 : Int), .int .i32 (0 : Int), .int .i32 (0 : Int), .int .i32 (0 : Int), .int .i32 (0 : Int), .int .u8 (0 : Int), .int .u8 (0 : Int), .int .u8 (0 : Int), .int .i32 (0 : Int), .int .i32 (0 : Int), .int .i32 (0 : Int), .int .i32 (0 : Int), .int .u8 (0 : Int), .int .u8 (0 : Int), .int .u8 (0 : Int), .slice none 0 0, .int .u16 (0 : Int), .int .u16 (0 : Int)]) rfl rfl ?_)
  apply wl_store tt_ok; rfl; exact (Upd.there Upd.here); rfl; rfl; rfl; rfl; rfl; rfl
  refine wP rfl rfl (wNT (wc_ret (wx_then_ret ?_)))
  obtain ⟨rfl, rfl⟩ := pJ2 h
  exact wx_spD tt_ok (.inl rfl) Tryd.results18 (Res.cell rfl (mT mH) rfl (Res.tmp rfl Res.nil)) ⟨none, 0, 0, [], rfl, Own.zero, rfl, rfl⟩ (fun F => by simp) (pSub (pNo pNil))
 replace h := cf hc h
 refine wc_skip (wx_then (wc_seq (wSR ?_)))
 iterate 2 refine wP rfl rfl ?_
 refine wNT (wc_block ?_)
 replace h := bsome h; obtain ⟨⟨zs, zt⟩, h, hl38⟩ := h; try dsimp only at hl38
 refine wc_loop (fun m E L => ∃ (zo : Int) (zk : T_codec_Reader) (za : (List T_api_Shot)) (zd : Option Addr) (zc ze : Nat) (zg : List Blk), m_state_Take_L37 F v26 m zo zk za = some (zs, zt) ∧ zc = za.length ∧ Own 50 6 zd zc ze (flat c_T_api_Shot za) zg ∧ E = [(2, .pointer (some ⟨b2, 0, none⟩)), (3, .int .i64 (0 : Int)), (4, .pointer (some ⟨zp, 0, none⟩)), (5, .pointer (some ⟨b5, 0, none⟩)), (30, .int .u64 v26), (31, .int .u64 zo)] ∧ L = (⟨b2, [.int .u64 (0 : Int), .int .u64 (0 : Int), .int .i32 (0 : Int), .int .i32 (0 : Int), .int .i32 (0 : Int), .int .i32 (0 : Int), .int .u8 (0 : Int), .int .u8 (0 : Int), .int .u8 (0 : Int), .int .i32 (0 : Int), .int .i32 (0 : Int), .int .i32 (0 : Int), .int .i32 (0 : Int), .int .u8 (0 : Int), .int .u8 (0 : Int), .int .u8 (0 : Int), .slice none 0 0, .int .u16 (0 : Int), .int .u16 (0 : Int)], 30, (0, 0)⟩ :: (⟨zp, [.string ⟨zk.left.s.toArray⟩, .int .i64 zk.left.e], 101, (0, 0)⟩ :: (⟨b5, (.int .u64 v12 :: .int .u64 v14 :: pl14 zb [.slice zd zc ze, .int .u16 (0 : Int), .int .u16 (0 : Int)]), 30, (0, 0)⟩ :: (zg ++ []))))) F ⟨(0 : Int), zz, ([] : List T_api_Shot), none, 0, 0, [], h, rfl, Own.zero, rfl, rfl⟩ (agree_cons rfl (agree_cons rfl (agree_cons rfl (agree_cons rfl (agree_cons rfl (agree_cons rfl agree_nil)))))) (pSub (pS (pHH (pNo pNil)))) ?_
 clear h
 rintro m38 _ _ ⟨zo, zk, za, zd, zc, ze, zg, h, zn, zj, rfl, rfl⟩
 rcases m38 with _ | m38
 ·rw [m_state_Take_L37.eq_1] at h; cases h
 rw [m_state_Take_L37.eq_2] at h
 refine wSR (wP (v := .bool (decide (zo < v26))) rfl rfl (wNT (wc_seq (wc_cond rfl (fun hc => ?_) (fun hc => ?_)))))
 ·replace h := ct hc h
  refine wc_skip (wx_then (wc_seq (wc_block (wc_k2 (Ls := (⟨b2, [.int .u64 (0 : Int), .int .u64 (0 : Int), .int .i32 (0 : Int), .int .i32 (0 : Int), .int .i32 (0 : Int), .int .i32 (0 : Int), .int .u8 (0 : Int), .int .u8 (0 : Int), .int .u8 (0 : Int), .int .i32 (0 : Int), .int .i32 (0 : Int), .int .i32 (0 : Int), .int .i32 (0 : Int), .int .u8 (0 : Int), .int .u8 (0 : Int), .int .u8 (0 : Int), .slice none 0 0, .int .u16 (0 : Int), .int .u16 (0 : Int)], 30, (0, 0)⟩ :: (⟨b5, (.int .u64 v12 :: .int .u64 v14 :: pl14 zb [.slice zd zc ze, .int .u16 (0 : Int), .int .u16 (0 : Int)]), 30, (0, 0)⟩ :: (zg ++ [])))) [3, 4, 5, 6, 7] [5, 6, 7] [0, 1, 0, 4, 12, 31, 63, 127] [0, 1, 2, 3, 4, 5, 6, 7] (by kernel_rfl) (by kernel_rfl) (by kernel_rfl) ?_))))
  refine k_val (v := .pointer (some ⟨b5, 16, none⟩)) rfl rfl rfl (pSub (pH (pS (qS pNil)))) (sV rfl) rfl (k_val (v := .slice zd zc ze) rfl rfl rfl (pSub (pH (pS (qS pNil)))) (val_load tt_ok rfl (mT mH) rfl) rfl (k_val rfl rfl rfl (pSub (pH (pS (qS pNil)))) (sV rfl) rfl ?_))
  replace h := bsome h; obtain ⟨⟨zaa, v36⟩, x36, h⟩ := h; try dsimp only at h
  refine k_cs rfl rfl rfl Tryd.call45 rfl rfl rfl (s_sp (k_state_take_api_Shot_f2_state_shot x36) (pS pNil) (fun _ _ => trivial)) rfl (.inr (by rintro _ _ ⟨_, ⟨rfl, rfl⟩, rfl⟩; exact ⟨_, (pS (pS (qS pNil)))⟩)) ?_
  rintro _ _ ⟨_, ⟨rfl, rfl⟩, rfl⟩
  refine k_chg rfl rfl rfl (chg_bsv (enc := c_T_api_Shot) (xs := ([v36] : List T_api_Shot)) tt_ok rfl rfl rfl rfl rfl rfl rfl rfl c_T_api_Shot_len) rfl (.inr (by rintro _ _ ⟨_, _, _, _, rfl, _, _, rfl⟩; exact ⟨_, (pCons (sAC hC) (pCons (sAC hC) (pApp (sAC hA') pNil)))⟩)) ?_
  rintro _ _ ⟨a37, n37_, c37, B37, rfl, N37, V37, rfl⟩
  obtain ⟨v38, x38, h⟩ := bsome h
  refine k_chg rfl rfl rfl (chg_app (enc := c_T_api_Shot) (ys := ([v36] : List T_api_Shot)) tt_ok rfl rfl rfl rfl rfl rfl zn N37 zj (sA (sCC (sC hA'))) (Rds.of_vec V37) ⟨_, hA'⟩ c_T_api_Shot_len (fun _ => rfl) rfl x38) rfl (.inl rfl) ?_
  rintro _ _ ⟨a38, n38_, c38, B38, rfl, N38, V38, rfl⟩
  refine k_chg rfl rfl rfl (Chg.of_val (v := .pointer (some ⟨b5, 16, none⟩)) (sV rfl)) rfl (.inl rfl) ?_
  rintro _ _ ⟨rfl, rfl⟩
  refine k_chg0 rfl rfl rfl (chg_store tt_ok rfl (Upd.right (Upd.right (Upd.there (Upd.there Upd.here)))) rfl rfl rfl rfl rfl rfl) (.inl rfl) ?_
  rintro _ _ rfl
  refine k_end (by kernel_rfl) ?_
  refine wx_block (wx_then (wc_region (wP (v := .int .u64 (IntKind.wrap .u64 (zo + (1 : Int)))) rfl rfl (wP rfl rfl (wl_nil ?_)))))
  exact wx_round m38 (Nat.lt_succ_self m38) ⟨(IntKind.wrap .u64 (zo + (1 : Int))), zaa, v38, a38, n38_, c38, B38, h, N38, V38, rfl, rfl⟩ (agree_cons rfl (agree_cons rfl (agree_cons rfl (agree_cons rfl (agree_cons rfl (agree_cons rfl agree_nil)))))) (pSub (pCons (sAA (sC hC)) (pCons (sAA hC) (pCons (sAA hC) (pA pNil)))))
 replace h := cf hc h
 refine wc_exit (wx_then_exit ?_)
 obtain ⟨rfl, rfl⟩ := pJ2 h
 have h := hl38; clear hl38; try dsimp only [orE_l, orE_r] at h
 refine wx_then_exit (wx_block_exit (wx_then (wc_seq (wSR ?_))))
 refine wP rfl rfl (wNT (wc_block ?_))
 replace h := bsome h; obtain ⟨⟨zu, zv⟩, h, hl53⟩ := h; try dsimp only at hl53
 refine wc_loop (fun m E L => ∃ (zi : Int) (zm : T_codec_Reader) (zf : (Int × Int)), m_state_Take_L52 F m zi zm zf = some (zu, zv) ∧ E = [(2, .pointer (some ⟨b2, 0, none⟩)), (3, .int .i64 (0 : Int)), (4, .pointer (some ⟨zp, 0, none⟩)), (5, .pointer (some ⟨b5, 0, none⟩)), (41, .int .i64 zi)] ∧ L = (⟨b2, [.int .u64 (0 : Int), .int .u64 (0 : Int), .int .i32 (0 : Int), .int .i32 (0 : Int), .int .i32 (0 : Int), .int .i32 (0 : Int), .int .u8 (0 : Int), .int .u8 (0 : Int), .int .u8 (0 : Int), .int .i32 (0 : Int), .int .i32 (0 : Int), .int .i32 (0 : Int), .int .i32 (0 : Int), .int .u8 (0 : Int), .int .u8 (0 : Int), .int .u8 (0 : Int), .slice none 0 0, .int .u16 (0 : Int), .int .u16 (0 : Int)], 30, (0, 0)⟩ :: (⟨zp, [.string ⟨zm.left.s.toArray⟩, .int .i64 zm.left.e], 101, (0, 0)⟩ :: (⟨b5, (.int .u64 v12 :: .int .u64 v14 :: pl14 zb [.slice zd zc ze, .int .u16 zf.1, .int .u16 zf.2]), 30, (0, 0)⟩ :: (zg ++ []))))) F ⟨(0 : Int), zk, ((0 : Int), (0 : Int)), h, rfl, rfl⟩ (agree_cons rfl (agree_cons rfl (agree_cons rfl (agree_cons rfl (agree_cons rfl agree_nil))))) (pSub (pHH (pH (pA pNil)))) ?_
 clear h
 rintro m53 _ _ ⟨zi, zm, zf, h, rfl, rfl⟩
 rcases m53 with _ | m53
 ·rw [m_state_Take_L52.eq_1] at h; cases h
 rw [m_state_Take_L52.eq_2] at h
 refine wSR (wP (v := .bool (decide (zi < (2 : Int)))) rfl rfl (wNT (wc_seq (wc_cond rfl (fun hc => ?_) (fun hc => ?_)))))
 ·replace h := ct hc h
  refine wc_skip (wx_then (wc_seq (wc_block (wSR ?_))))
  iterate 2 refine wP rfl rfl ?_
  refine wNT (wc_region ?_)
  iterate 2 refine wP rfl rfl ?_
  replace h := bsome h; obtain ⟨⟨zx, v46⟩, x46, h⟩ := h; try dsimp only at h
  refine wl_cs Tryd.call47 rfl rfl rfl (s_sp (k_codec_Reader_U16 x46) (pS pNil) (fun _ _ => trivial)) rfl ?_
  rintro _ _ ⟨_, ⟨rfl, rfl⟩, rfl⟩
  refine wP (v := .pointer (some ⟨b5, 17, none⟩)) rfl rfl ?_
  rcases Bool.eq_false_or_eq_true (zi == (0 : Int)) with hx480 | hx480
  ·replace h := ct hx480 h
   refine wl_val (v := .pointer (some ⟨b5, 17, none⟩)) (val_ia (j := 0) tt_ok rfl rfl rfl rfl (by simpa using hx480) rfl rfl) rfl ?_
   apply wl_store tt_ok; rfl; exact (Upd.there (Upd.there Upd.here)); rfl; rfl; rfl; rfl; rfl; rfl
   refine wl_nil (wx_block (wx_then (wc_region (wP (v := .int .i64 (IntKind.wrap .i64 (zi + (1 : Int)))) rfl rfl (wP rfl rfl (wl_nil ?_))))))
   exact wx_round m53 (Nat.lt_succ_self m53) ⟨(IntKind.wrap .i64 (zi + (1 : Int))), zx, (v46, zf.2), h, rfl, rfl⟩ (agree_cons rfl (agree_cons rfl (agree_cons rfl (agree_cons rfl (agree_cons rfl agree_nil))))) (pSub (pS (pHH (pA pNil))))
  replace h := cf hx480 h
  rcases Bool.eq_false_or_eq_true (zi == (1 : Int)) with hx481 | hx481
  ·replace h := ct hx481 h
   refine wl_val (v := .pointer (some ⟨b5, 18, none⟩)) (val_ia (j := 1) tt_ok rfl rfl rfl rfl (by simpa using hx481) rfl rfl) rfl ?_
   apply wl_store tt_ok; rfl; exact (Upd.there (Upd.there Upd.here)); rfl; rfl; rfl; rfl; rfl; rfl
   refine wl_nil (wx_block (wx_then (wc_region (wP (v := .int .i64 (IntKind.wrap .i64 (zi + (1 : Int)))) rfl rfl (wP rfl rfl (wl_nil ?_))))))
   exact wx_round m53 (Nat.lt_succ_self m53) ⟨(IntKind.wrap .i64 (zi + (1 : Int))), zx, (zf.1, v46), h, rfl, rfl⟩ (agree_cons rfl (agree_cons rfl (agree_cons rfl (agree_cons rfl (agree_cons rfl agree_nil))))) (pSub (pS (pHH (pA pNil))))
  replace h := cf hx481 h
  cases h
 replace h := cf hc h
 refine wc_exit (wx_then_exit ?_)
 obtain ⟨rfl, rfl⟩ := pJ2 h
 have h := hl53; clear hl53; try dsimp only [orE_l, orE_r] at h
 refine wx_then_exit (wx_block_exit (wx_then (wc_seq (wc_block (wSR ?_)))))
 refine wP rfl rfl ?_
 obtain ⟨v52, x52, h⟩ := bsome h
 refine wl_cq Tryd.call48 rfl rfl rfl (q_rd (k_codec_Reader_Err x52) (pS pNil) (fun _ _ => trivial)) rfl ?_
 refine wP (v := .bool (v52 != (0 : Int))) rfl rfl (wP rfl rfl (wNT (wc_cond rfl (fun hc => ?_) (fun hc => ?_))))
 ·replace h := ct hc h
  refine wSR (wP (v := .agg #[.int .u64 (0 : Int), .int .u64 (0 : Int), .int .i32 (0 : Int), .int .i32 (0 : Int), .int .i32 (0 : Int), .int .i32 (0 : Int), .int .u8 (0 : Int), .int .u8 (0 : Int), .int .u8 (0 : Int), .int .i32 (0 : Int), .int .i32 (0 : Int), .int .i32 (0 : Int), .int .i32 (0 : Int), .int .u8 (0 : Int), .int .u8 (0 : Int), .int .u8 (0 : Int), .slice none 0 0, .int .u16 (0 : Int), .int .u16 (0 : Int)]) rfl rfl (wP rfl rfl ?_))
  obtain ⟨v56, x56, h⟩ := bsome h
  refine wl_cq Tryd.call48 rfl rfl rfl (q_rd (k_codec_Reader_Err x56) (pS pNil) (fun _ _ => trivial)) rfl ?_
  apply wl_store tt_ok; rfl; exact Upd.here; rfl; rfl; rfl; rfl; rfl; rfl
  refine wP rfl rfl (wNT (wc_ret (wx_block_ret (wx_then_ret ?_))))
  obtain ⟨rfl, rfl⟩ := pJ2 h
  exact wx_spD tt_ok (.inl rfl) Tryd.results18 (Res.cell rfl mH rfl (Res.tmp rfl Res.nil)) ⟨none, 0, 0, [], rfl, Own.zero, rfl, rfl⟩ (fun F => by simp) (pSub (pNo pNil))
 replace h := cf hc h
 refine wSR (wP rfl rfl ?_)
 obtain ⟨v59, x59, h⟩ := bsome h
 refine wl_cq Tryd.call49 rfl rfl rfl (q_rd (k_codec_Reader_Rest x59) (pS pNil) (fun _ _ => trivial)) rfl ?_
 refine wl_val (v := .bool (!(v59 == ([] : List UInt8)))) (val_sne tt_ok rfl rfl) rfl ?_
 refine wP rfl rfl ?_
 obtain ⟨v65, h, hg65⟩ := bsome h
 refine wl_split (t := 61) rfl (fun hc => ?_) (fun hc => ?_)
 ·replace h := ct hc h
  iterate 3 refine wl_skip rfl rfl ?_
  obtain rfl := sI h
  have h := hg65; clear hg65
  refine wP (v := .bool true) rfl rfl (wP rfl rfl (wNT ?_))
  replace h := ct rfl h
  refine wc_cond_true rfl ?_
  refine wSR (wP (v := .agg #[.int .u64 (0 : Int), .int .u64 (0 : Int), .int .i32 (0 : Int), .int .i32 (0 : Int), .int .i32 (0 : Int), .int .i32 (0 : Int), .int .u8 (0 : Int), .int .u8 (0 : Int), .int .u8 (0 : Int), .int .i32 (0 : Int), .int .i32 (0 : Int), .int .i32 (0 : Int), .int .i32 (0 : Int), .int .u8 (0 : Int), .int .u8 (0 : Int), .int .u8 (0 : Int), .slice none 0 0, .int .u16 (0 : Int), .int .u16 (0 : Int)]) rfl rfl ?_)
  apply wl_store tt_ok; rfl; exact Upd.here; rfl; rfl; rfl; rfl; rfl; rfl
  refine wP rfl rfl (wNT (wc_ret (wx_block_ret (wx_then_ret ?_))))
  obtain ⟨rfl, rfl⟩ := pJ2 h
  exact wx_spD tt_ok (.inl rfl) Tryd.results18 (Res.cell rfl mH rfl (Res.tmp rfl Res.nil)) ⟨none, 0, 0, [], rfl, Own.zero, rfl, rfl⟩ (fun F => by simp) (pSub (pNo pNil))
 replace h := cf hc h
 refine wl_run rfl (wl_val (v := .agg #[.int .u64 v12, .int .u64 v14, .int .i32 zb.1.X, .int .i32 zb.1.Y, .int .i32 zb.1.VX, .int .i32 zb.1.VY, .int .u8 zb.1.Health, .int .u8 zb.1.Cool, .int .u8 zb.1.Face, .int .i32 zb.2.X, .int .i32 zb.2.Y, .int .i32 zb.2.VX, .int .i32 zb.2.VY, .int .u8 zb.2.Health, .int .u8 zb.2.Cool, .int .u8 zb.2.Face, .slice zd zc ze, .int .u16 zf.1, .int .u16 zf.2]) (val_load tt_ok rfl (mTT mH) rfl) rfl ?_)
 obtain ⟨v63, x63, h⟩ := bsome h
 refine wl_run rfl (wl_cq Tryd.call11 rfl rfl rfl (q_pf (k_state_Check (p0 := (T_api_State.mk v12 v14 zb za zf)) zn (vec_cap zj) x63) (fun w hI => ⟨(Rds.call (Rds.of_vec zj) pNil ⟨_, (sCC (sC hA'))⟩) w hI, (Rds.call G0S pNil rsub_nil) w hI, (Rds.call G1S pNil rsub_nil) w hI⟩)) rfl (wl_run rfl (wP (v := .bool (v63 != (0 : Int))) rfl rfl ?_)))
 obtain rfl := sI h
 have h := hg65; clear hg65
 refine wP (v := .bool (v63 != (0 : Int))) rfl rfl (wP rfl rfl (wNT (wc_cond rfl (fun hc => ?_) (fun hc => ?_))))
 ·replace h := ct hc h
  refine wSR (wP (v := .agg #[.int .u64 (0 : Int), .int .u64 (0 : Int), .int .i32 (0 : Int), .int .i32 (0 : Int), .int .i32 (0 : Int), .int .i32 (0 : Int), .int .u8 (0 : Int), .int .u8 (0 : Int), .int .u8 (0 : Int), .int .i32 (0 : Int), .int .i32 (0 : Int), .int .i32 (0 : Int), .int .i32 (0 : Int), .int .u8 (0 : Int), .int .u8 (0 : Int), .int .u8 (0 : Int), .slice none 0 0, .int .u16 (0 : Int), .int .u16 (0 : Int)]) rfl rfl ?_)
  apply wl_store tt_ok; rfl; exact Upd.here; rfl; rfl; rfl; rfl; rfl; rfl
  refine wP rfl rfl (wNT (wc_ret (wx_block_ret (wx_then_ret ?_))))
  obtain ⟨rfl, rfl⟩ := pJ2 h
  exact wx_spD tt_ok (.inl rfl) Tryd.results18 (Res.cell rfl mH rfl (Res.tmp rfl Res.nil)) ⟨none, 0, 0, [], rfl, Own.zero, rfl, rfl⟩ (fun F => by simp) (pSub (pNo pNil))
 replace h := cf hc h
 refine wc_skip (wx_block (wx_then (wSR (wl_val (v := .agg #[.int .u64 v12, .int .u64 v14, .int .i32 zb.1.X, .int .i32 zb.1.Y, .int .i32 zb.1.VX, .int .i32 zb.1.VY, .int .u8 zb.1.Health, .int .u8 zb.1.Cool, .int .u8 zb.1.Face, .int .i32 zb.2.X, .int .i32 zb.2.Y, .int .i32 zb.2.VX, .int .i32 zb.2.VY, .int .u8 zb.2.Health, .int .u8 zb.2.Cool, .int .u8 zb.2.Face, .slice zd zc ze, .int .u16 zf.1, .int .u16 zf.2]) (val_load tt_ok rfl (mTT mH) rfl) rfl ?_))))
 apply wl_store tt_ok; rfl; exact Upd.here; rfl; rfl; rfl; rfl; rfl; rfl
 refine wP rfl rfl (wNT (wc_ret ?_))
 obtain ⟨rfl, rfl⟩ := pJ2 h
 exact wx_spD tt_ok (.inl rfl) Tryd.results18 (Res.cell rfl mH rfl (Res.tmp rfl Res.nil)) ⟨zd, zc, ze, zg, zn, zj, rfl, rfl⟩ (fun F => by simp) (pSub (pApp (sCC (sC hA')) pNil))

theorem k_slices_Equal___api_Shot_api_Shot {F : Nat} {p0 : (List T_api_Shot)} {p0a0 : Option Addr} {p0n0 p0c0 : Nat} {p1 : (List T_api_Shot)} {p1a0 : Option Addr} {p1n0 p1c0 : Nat} {r0 : Bool} (p0N0 : p0n0 = p0.length) (p0H0 : p0n0 ≤ p0c0) (p1N0 : p1n0 = p1.length) (p1H0 : p1n0 ≤ p1c0) (h : m_slices_Equal___api_Shot_api_Shot F p0 p1 = some r0) :
    Pf Tryd.prog 55 [.slice p0a0 p0n0 p0c0, .slice p1a0 p1n0 p1c0] (fun w => Rds w [] [] p0a0 (flat c_T_api_Shot p0) ∧ Rds w [] [] p1a0 (flat c_T_api_Shot p1)) (.bool r0) := by
 unfold m_slices_Equal___api_Shot_api_Shot at h
 refine pf_of_wc Tryd.func55 rfl Tryd.ntmps55 rfl rfl (fun w0 hR => ?_)
 obtain ⟨p0S0, p1S0⟩ := hR
 refine wSR (wP rfl rfl (wNT (wc_seq (wSR (wP rfl rfl (wl_val (v := .int .i64 (p0.length : Int)) (val_len tt_ok rfl rfl p0N0) rfl (wP rfl rfl (wl_val (v := .int .i64 (p1.length : Int)) (val_len tt_ok rfl rfl p1N0) rfl (wP (v := .bool ((p0.length : Int) != (p1.length : Int))) rfl rfl (wNT (wc_cond rfl (fun hc => ?_) (fun hc => ?_))))))))))))
 ·replace h := ct hc h
  refine wSR (wP rfl rfl (wNT (wc_ret (wx_then_ret ?_))))
  obtain rfl := sI h
  exact wx_pf tt_ok (.inl rfl) Tryd.results55 (Res.tmp rfl Res.nil) rfl
 replace h := cf hc h
 refine wc_skip (wx_then (wc_seq (wSR (wP rfl rfl (wl_val (v := .int .i64 (p0.length : Int)) (val_len tt_ok rfl rfl p0N0) rfl (wP rfl rfl (wNT (wc_block ?_))))))))
 obtain ⟨o15, h, hl15⟩ := bsome h
 refine wc_loop (fun m E L => ∃ (za : Int), m_slices_Equal___api_Shot_api_Shot_L14 F p0 p1 m za = some o15 ∧ E = [(0, .slice p0a0 p0n0 p0c0), (1, .slice p1a0 p1n0 p1c0), (4, .bool false), (12, .int .i64 (p0.length : Int)), (13, .int .i64 za)] ∧ L = []) F ⟨(0 : Int), h, rfl, rfl⟩ (agree_cons rfl (agree_cons rfl (agree_cons rfl (agree_cons rfl (agree_cons rfl agree_nil))))) (pSub pNil) ?_
 clear h
 rintro m15 _ _ ⟨za, h, rfl, rfl⟩
 rcases m15 with _ | m15
 ·rw [m_slices_Equal___api_Shot_api_Shot_L14.eq_1] at h; cases h
 rw [m_slices_Equal___api_Shot_api_Shot_L14.eq_2] at h
 refine wSR (wP (v := .bool (decide (za < (p0.length : Int)))) rfl rfl (wNT (wc_seq (wc_cond rfl (fun hc => ?_) (fun hc => ?_)))))
 ·replace h := ct hc h
  refine wc_skip (wx_then (wc_seq (wc_block (wSR ?_))))
  iterate 2 refine wP rfl rfl ?_
  refine wNT (wc_seq (wc_quiet (by kernel_rfl) (by kernel_rfl) ?_))
  iterate 2 refine qP rfl rfl ?_
  obtain ⟨v18, x18, h⟩ := bsome h
  refine wq_val (v := .pointer (some ((adOf p0a0).add (za.toNat * 6 + 0)))) (val_ix (enc := c_T_api_Shot) tt_ok rfl rfl rfl rfl p0N0 p0S0 c_T_api_Shot_len rfl x18) rfl ?_
  refine wq_val (v := .agg #[.int .i32 v18.X, .int .i32 v18.Y, .int .i32 v18.VX, .int .i32 v18.VY, .int .u8 v18.Owner, .int .u8 v18.Life]) (val_le (enc := c_T_api_Shot) (xs := p0) tt_ok rfl p0S0 rsub_nil c_T_api_Shot_len x18 rfl) rfl ?_
  iterate 2 refine qP rfl rfl ?_
  obtain ⟨v22, x22, h⟩ := bsome h
  refine wq_val (v := .pointer (some ((adOf p1a0).add (za.toNat * 6 + 0)))) (val_ix (enc := c_T_api_Shot) tt_ok rfl rfl rfl rfl p1N0 p1S0 c_T_api_Shot_len rfl x22) rfl ?_
  refine wq_val (v := .agg #[.int .i32 v22.X, .int .i32 v22.Y, .int .i32 v22.VX, .int .i32 v22.VY, .int .u8 v22.Owner, .int .u8 v22.Life]) (val_le (enc := c_T_api_Shot) (xs := p1) tt_ok rfl p1S0 rsub_nil c_T_api_Shot_len x22 rfl) rfl ?_
  refine wq_val (v := .bool (!((v18.X == v22.X) && ((v18.Y == v22.Y) && ((v18.VX == v22.VX) && ((v18.VY == v22.VY) && ((v18.Owner == v22.Owner) && (v18.Life == v22.Life)))))))) (val_nes tt_ok tt_eq tt_one Tryd.eqGuardType50 rfl rfl rfl rfl rfl) rfl ?_
  refine wq_nil (wx_then (wc_cond rfl (fun hc => ?_) (fun hc => ?_)))
  ·replace h := ct hc h
   refine wSR (wP rfl rfl (wNT (wc_ret (wx_block_ret (wx_then_ret ?_)))))
   obtain rfl := Option.some.inj h
   have h := hl15; clear hl15; try dsimp only [orE_l, orE_r] at h
   refine wx_then_ret (wx_block_ret (wx_then_ret ?_))
   obtain rfl := sI h
   exact wx_pf tt_ok (.inl rfl) Tryd.results55 (Res.tmp rfl Res.nil) rfl
  replace h := cf hc h
  refine wc_skip (wx_block (wx_then (wc_region (wP (v := .int .i64 (IntKind.wrap .i64 (za + (1 : Int)))) rfl rfl (wP rfl rfl (wl_nil ?_))))))
  exact wx_round m15 (Nat.lt_succ_self m15) ⟨(IntKind.wrap .i64 (za + (1 : Int))), h, rfl, rfl⟩ (agree_cons rfl (agree_cons rfl (agree_cons rfl (agree_cons rfl (agree_cons rfl agree_nil))))) (pSub pNil)
 replace h := cf hc h
 refine wc_exit (wx_then_exit ?_)
 obtain rfl := Option.some.inj h
 have h := hl15; clear hl15; try dsimp only [orE_l, orE_r] at h
 refine wx_then_exit (wx_block_exit (wx_then (wSR ?_)))
 refine wP rfl rfl (wNT (wc_ret ?_))
 obtain rfl := sI h
 exact wx_pf tt_ok (.inl rfl) Tryd.results55 (Res.tmp rfl Res.nil) rfl

theorem k_state_Same {F : Nat} {p0 : T_api_State} {p0a0 : Option Addr} {p0n0 p0c0 : Nat} {p1 : T_api_State} {p1a0 : Option Addr} {p1n0 p1c0 : Nat} {r0 : Bool} (p0N0 : p0n0 = p0.Shots.length) (p0H0 : p0n0 ≤ p0c0) (p1N0 : p1n0 = p1.Shots.length) (p1H0 : p1n0 ≤ p1c0) (h : m_state_Same F p0 p1 = some r0) :
    Pf Tryd.prog 21 [agS p0 p0a0 p0n0 p0c0, agS p1 p1a0 p1n0 p1c0] (fun w => Rds w [] [] p0a0 (flat c_T_api_Shot p0.Shots) ∧ Rds w [] [] p1a0 (flat c_T_api_Shot p1.Shots)) (.bool r0) := by
 unfold m_state_Same at h
 refine pf_of_wc Tryd.func21 rfl Tryd.ntmps21 rfl rfl (fun w0 hR => ?_)
 obtain ⟨p0S0, p1S0⟩ := hR
 refine wSR (wl_box rfl rfl rfl (fun b2 => (wl_box rfl rfl rfl (fun b3 => (wP rfl rfl (wNT (wSR (wP (v := .pointer (some ⟨b2, 0, none⟩)) rfl rfl (wl_val (v := .int .u64 p0.Frame) (val_load tt_ok rfl (mT mH) rfl) rfl (wP (v := .pointer (some ⟨b3, 0, none⟩)) rfl rfl (wl_val (v := .int .u64 p1.Frame) (val_load tt_ok rfl mH rfl) rfl (wP (v := .bool (p0.Frame == p1.Frame)) rfl rfl (wP rfl rfl ?_)))))))))))))
 obtain ⟨v16, h, hg16⟩ := bsome h
 refine wl_split (t := 10) rfl (fun hc => ?_) (fun hc => ?_)
 ·replace h := ct hc h
  refine wl_run rfl (wP (v := .pointer (some ⟨b2, 1, none⟩)) rfl rfl (wl_run rfl (wl_val (v := .int .u64 p0.Seed) (val_load tt_ok rfl (mT mH) rfl) rfl (wl_run rfl (wP (v := .pointer (some ⟨b3, 1, none⟩)) rfl rfl (wl_run rfl (wl_val (v := .int .u64 p1.Seed) (val_load tt_ok rfl mH rfl) rfl (wl_run rfl (wP (v := .bool (p0.Seed == p1.Seed)) rfl rfl ?_)))))))))
  obtain rfl := sI h
  have h := hg16; clear hg16
  refine wP (v := .bool (p0.Seed == p1.Seed)) rfl rfl (wP rfl rfl ?_)
  obtain ⟨v23, h, hg23⟩ := bsome h
  refine wl_split (t := 17) rfl (fun hc => ?_) (fun hc => ?_)
  ·replace h := ct hc h
   refine wl_run rfl (wP (v := .pointer (some ⟨b2, 2, none⟩)) rfl rfl (wl_run rfl (wl_val (v := .agg #[.int .i32 p0.Players.1.X, .int .i32 p0.Players.1.Y, .int .i32 p0.Players.1.VX, .int .i32 p0.Players.1.VY, .int .u8 p0.Players.1.Health, .int .u8 p0.Players.1.Cool, .int .u8 p0.Players.1.Face, .int .i32 p0.Players.2.X, .int .i32 p0.Players.2.Y, .int .i32 p0.Players.2.VX, .int .i32 p0.Players.2.VY, .int .u8 p0.Players.2.Health, .int .u8 p0.Players.2.Cool, .int .u8 p0.Players.2.Face]) (val_load tt_ok rfl (mT mH) rfl) rfl (wl_run rfl (wP (v := .pointer (some ⟨b3, 2, none⟩)) rfl rfl (wl_run rfl (wl_val (v := .agg #[.int .i32 p1.Players.1.X, .int .i32 p1.Players.1.Y, .int .i32 p1.Players.1.VX, .int .i32 p1.Players.1.VY, .int .u8 p1.Players.1.Health, .int .u8 p1.Players.1.Cool, .int .u8 p1.Players.1.Face, .int .i32 p1.Players.2.X, .int .i32 p1.Players.2.Y, .int .i32 p1.Players.2.VX, .int .i32 p1.Players.2.VY, .int .u8 p1.Players.2.Health, .int .u8 p1.Players.2.Cool, .int .u8 p1.Players.2.Face]) (val_load tt_ok rfl mH rfl) rfl ?_)))))))
   refine wl_run rfl (wl_val (v := .bool (((p0.Players.1.X == p1.Players.1.X) && ((p0.Players.1.Y == p1.Players.1.Y) && ((p0.Players.1.VX == p1.Players.1.VX) && ((p0.Players.1.VY == p1.Players.1.VY) && ((p0.Players.1.Health == p1.Players.1.Health) && ((p0.Players.1.Cool == p1.Players.1.Cool) && (p0.Players.1.Face == p1.Players.1.Face))))))) && ((p0.Players.2.X == p1.Players.2.X) && ((p0.Players.2.Y == p1.Players.2.Y) && ((p0.Players.2.VX == p1.Players.2.VX) && ((p0.Players.2.VY == p1.Players.2.VY) && ((p0.Players.2.Health == p1.Players.2.Health) && ((p0.Players.2.Cool == p1.Players.2.Cool) && (p0.Players.2.Face == p1.Players.2.Face))))))))) (val_eqs tt_ok tt_eq tt_one Tryd.eqGuardType25 rfl rfl rfl rfl rfl) rfl ?_)
   obtain rfl := sI h
   have h := hg23; clear hg23
   refine wP (v := .bool (((p0.Players.1.X == p1.Players.1.X) && ((p0.Players.1.Y == p1.Players.1.Y) && ((p0.Players.1.VX == p1.Players.1.VX) && ((p0.Players.1.VY == p1.Players.1.VY) && ((p0.Players.1.Health == p1.Players.1.Health) && ((p0.Players.1.Cool == p1.Players.1.Cool) && (p0.Players.1.Face == p1.Players.1.Face))))))) && ((p0.Players.2.X == p1.Players.2.X) && ((p0.Players.2.Y == p1.Players.2.Y) && ((p0.Players.2.VX == p1.Players.2.VX) && ((p0.Players.2.VY == p1.Players.2.VY) && ((p0.Players.2.Health == p1.Players.2.Health) && ((p0.Players.2.Cool == p1.Players.2.Cool) && (p0.Players.2.Face == p1.Players.2.Face))))))))) rfl rfl (wP rfl rfl ?_)
   obtain ⟨v30, h, hg30⟩ := bsome h
   refine wl_split (t := 24) rfl (fun hc => ?_) (fun hc => ?_)
   ·replace h := ct hc h
    refine wl_run rfl (wP (v := .pointer (some ⟨b2, 17, none⟩)) rfl rfl (wl_run rfl (wl_val (v := .agg #[.int .u16 p0.Score.1, .int .u16 p0.Score.2]) (val_load tt_ok rfl (mT mH) rfl) rfl (wl_run rfl (wP (v := .pointer (some ⟨b3, 17, none⟩)) rfl rfl (wl_run rfl (wl_val (v := .agg #[.int .u16 p1.Score.1, .int .u16 p1.Score.2]) (val_load tt_ok rfl mH rfl) rfl (wl_run rfl (wl_val (v := .bool ((p0.Score.1 == p1.Score.1) && (p0.Score.2 == p1.Score.2))) (val_eqs tt_ok tt_eq tt_one Tryd.eqGuardType28 rfl rfl rfl rfl rfl) rfl ?_)))))))))
    obtain rfl := sI h
    have h := hg30; clear hg30
    refine wP (v := .bool ((p0.Score.1 == p1.Score.1) && (p0.Score.2 == p1.Score.2))) rfl rfl (wP rfl rfl ?_)
    obtain ⟨v37, h, hg37⟩ := bsome h
    refine wl_split (t := 31) rfl (fun hc => ?_) (fun hc => ?_)
    ·replace h := ct hc h
     refine wl_run rfl (wP (v := .pointer (some ⟨b2, 16, none⟩)) rfl rfl (wl_run rfl (wl_val (v := .slice p0a0 p0n0 p0c0) (val_load tt_ok rfl (mT mH) rfl) rfl (wl_run rfl (wP (v := .pointer (some ⟨b3, 16, none⟩)) rfl rfl (wl_run rfl (wl_val (v := .slice p1a0 p1n0 p1c0) (val_load tt_ok rfl mH rfl) rfl ?_)))))))
     obtain ⟨v36, x36, h⟩ := bsome h
     refine wl_run rfl (wl_cq Tryd.call55 rfl rfl rfl (q_pf (k_slices_Equal___api_Shot_api_Shot (p0 := p0.Shots) (p1 := p1.Shots) p0N0 p0H0 p1N0 p1H0 x36) (fun w hI => ⟨(Rds.call p0S0 pNil rsub_nil) w hI, (Rds.call p1S0 pNil rsub_nil) w hI⟩)) rfl ?_)
     obtain rfl := sI h
     have h := hg37; clear hg37
     refine wP (v := .bool v36) rfl rfl (wP rfl rfl (wNT (wc_ret ?_)))
     obtain rfl := sI h
     exact wx_pf tt_ok (.inl rfl) Tryd.results21 (Res.tmp rfl Res.nil) rfl
    replace h := cf hc h
    iterate 5 refine wl_skip rfl rfl ?_
    obtain rfl := sI h
    have h := hg37; clear hg37
    refine wP (v := .bool false) rfl rfl (wP rfl rfl (wNT (wc_ret ?_)))
    obtain rfl := sI h
    exact wx_pf tt_ok (.inl rfl) Tryd.results21 (Res.tmp rfl Res.nil) rfl
   replace h := cf hc h
   iterate 5 refine wl_skip rfl rfl ?_
   obtain rfl := sI h
   have h := hg30; clear hg30
   refine wP (v := .bool false) rfl rfl (wP rfl rfl ?_)
   obtain ⟨v37, h, hg37⟩ := bsome h
   replace h := cf rfl h
   iterate 5 refine wl_skip rfl rfl ?_
   obtain rfl := sI h
   have h := hg37; clear hg37
   refine wP (v := .bool false) rfl rfl (wP rfl rfl (wNT (wc_ret ?_)))
   obtain rfl := sI h
   exact wx_pf tt_ok (.inl rfl) Tryd.results21 (Res.tmp rfl Res.nil) rfl
  replace h := cf hc h
  iterate 5 refine wl_skip rfl rfl ?_
  obtain rfl := sI h
  have h := hg23; clear hg23
  refine wP (v := .bool false) rfl rfl (wP rfl rfl ?_)
  obtain ⟨v30, h, hg30⟩ := bsome h
  replace h := cf rfl h
  iterate 5 refine wl_skip rfl rfl ?_
  obtain rfl := sI h
  have h := hg30; clear hg30
  refine wP (v := .bool false) rfl rfl (wP rfl rfl ?_)
  obtain ⟨v37, h, hg37⟩ := bsome h
  replace h := cf rfl h
  iterate 5 refine wl_skip rfl rfl ?_
  obtain rfl := sI h
  have h := hg37; clear hg37
  refine wP (v := .bool false) rfl rfl (wP rfl rfl (wNT (wc_ret ?_)))
  obtain rfl := sI h
  exact wx_pf tt_ok (.inl rfl) Tryd.results21 (Res.tmp rfl Res.nil) rfl
 replace h := cf hc h
 iterate 5 refine wl_skip rfl rfl ?_
 obtain rfl := sI h
 have h := hg16; clear hg16
 refine wP (v := .bool false) rfl rfl (wP rfl rfl ?_)
 obtain ⟨v23, h, hg23⟩ := bsome h
 replace h := cf rfl h
 iterate 5 refine wl_skip rfl rfl ?_
 obtain rfl := sI h
 have h := hg23; clear hg23
 refine wP (v := .bool false) rfl rfl (wP rfl rfl ?_)
 obtain ⟨v30, h, hg30⟩ := bsome h
 replace h := cf rfl h
 iterate 5 refine wl_skip rfl rfl ?_
 obtain rfl := sI h
 have h := hg30; clear hg30
 refine wP (v := .bool false) rfl rfl (wP rfl rfl ?_)
 obtain ⟨v37, h, hg37⟩ := bsome h
 replace h := cf rfl h
 iterate 5 refine wl_skip rfl rfl ?_
 obtain rfl := sI h
 have h := hg37; clear hg37
 refine wP (v := .bool false) rfl rfl (wP rfl rfl (wNT (wc_ret ?_)))
 obtain rfl := sI h
 exact wx_pf tt_ok (.inl rfl) Tryd.results21 (Res.tmp rfl Res.nil) rfl

theorem k_hindcastlaw08_fails {F : Nat} {p0 : (List UInt8)} {p1 : Int} {r0 : Bool} (h : m_hindcastlaw08_fails F p0 p1 = some r0) :
    Pf Tryd.prog 22 [.string ⟨p0.toArray⟩, .int .i64 p1] (fun w => Rds w [] [] (some ⟨0, 0, none⟩) (flat (fun _ : Unit => gl_state_playerBounds) [()]) ∧ Rds w [] [] (some ⟨1, 0, none⟩) (flat (fun _ : Unit => gl_state_shotBounds) [()])) (.bool r0) := by
 unfold m_hindcastlaw08_fails at h
 refine pf_of_wc Tryd.func22 rfl Tryd.ntmps22 rfl rfl (fun w0 hR => ?_)
 obtain ⟨G0S, G1S⟩ := hR
 refine wSR (wP rfl rfl (wNT (wSR (wP rfl rfl ?_))))
 replace h := bsome h; obtain ⟨⟨za, zg⟩, x9, h⟩ := h; try dsimp only at h
 refine wl_cs Tryd.call18 rfl rfl rfl (s_sp (k_state_Take x9) pNil (fun w hI => ⟨(Rds.call G0S pNil rsub_nil) w hI, (Rds.call G1S pNil rsub_nil) w hI⟩)) rfl ?_
 rintro _ _ ⟨_, ⟨zd, zf, ze, zh, zc, zb, rfl, rfl⟩, rfl⟩
 iterate 3 refine wP rfl rfl ?_
 refine wl_alloc tt_ok rfl rfl (fun b5 => ?_)
 apply wl_store tt_ok; rfl; exact Upd.here; rfl; rfl; rfl; rfl; rfl; rfl
 refine wP rfl rfl (wNT (wSR ?_))
 iterate 2 refine wP rfl rfl ?_
 refine wP (v := .bool (zg == p1)) rfl rfl (wP rfl rfl ?_)
 obtain ⟨v19, h, hg19⟩ := bsome h
 refine wl_split (t := 15) rfl (fun hc => ?_) (fun hc => ?_)
 ·replace h := ct hc h
  refine wl_run rfl (wl_val (v := agS za zd zf ze) (val_load tt_ok rfl mH rfl) rfl (wl_run rfl (wP (v := .agg #[.int .u64 (0 : Int), .int .u64 (0 : Int), .int .i32 (0 : Int), .int .i32 (0 : Int), .int .i32 (0 : Int), .int .i32 (0 : Int), .int .u8 (0 : Int), .int .u8 (0 : Int), .int .u8 (0 : Int), .int .i32 (0 : Int), .int .i32 (0 : Int), .int .i32 (0 : Int), .int .i32 (0 : Int), .int .u8 (0 : Int), .int .u8 (0 : Int), .int .u8 (0 : Int), .slice none 0 0, .int .u16 (0 : Int), .int .u16 (0 : Int)]) rfl rfl ?_)))
  obtain ⟨v18, x18, h⟩ := bsome h
  refine wl_run rfl (wl_cq Tryd.call21 rfl rfl rfl (q_pf (k_state_Same (p0 := za) (p1 := (T_api_State.mk (0 : Int) (0 : Int) ((T_api_Player.mk (0 : Int) (0 : Int) (0 : Int) (0 : Int) (0 : Int) (0 : Int) (0 : Int)), (T_api_Player.mk (0 : Int) (0 : Int) (0 : Int) (0 : Int) (0 : Int) (0 : Int) (0 : Int))) ([] : List T_api_Shot) ((0 : Int), (0 : Int)))) zc (vec_cap zb) rfl (Nat.le_refl _) x18) (fun w hI => ⟨(Rds.call (Rds.of_vec zb) pNil ⟨_, (sC hA')⟩) w hI, (fun _ _ => Rds.nil) w hI⟩)) rfl ?_)
  obtain rfl := sI h
  have h := hg19; clear hg19
  refine wP (v := .bool v18) rfl rfl (wP rfl rfl (wNT (wc_ret ?_)))
  obtain rfl := sI h
  exact wx_pf tt_ok (.inl rfl) Tryd.results22 (Res.tmp rfl Res.nil) rfl
 replace h := cf hc h
 iterate 3 refine wl_skip rfl rfl ?_
 obtain rfl := sI h
 have h := hg19; clear hg19
 refine wP (v := .bool false) rfl rfl (wP rfl rfl (wNT (wc_ret ?_)))
 obtain rfl := sI h
 exact wx_pf tt_ok (.inl rfl) Tryd.results22 (Res.tmp rfl Res.nil) rfl

theorem k_hindcastlaw08_works {F : Nat} {r0 : Bool} (h : m_hindcastlaw08_works F = some r0) :
    Pf Tryd.prog 9 [] (fun w => Rds w [] [] (some ⟨0, 0, none⟩) (flat (fun _ : Unit => gl_state_playerBounds) [()]) ∧ Rds w [] [] (some ⟨1, 0, none⟩) (flat (fun _ : Unit => gl_state_shotBounds) [()])) (.bool r0) := by
 unfold m_hindcastlaw08_works at h
 refine pf_of_wc Tryd.func9 rfl Tryd.ntmps9 rfl rfl (fun w0 hR => ?_)
 obtain ⟨G0S, G1S⟩ := hR
 refine wSR (wP rfl rfl (wNT (wSR ?_)))
 obtain ⟨v4, x4, h⟩ := bsome h
 refine wl_cs Tryd.call23 rfl rfl rfl (s_sp (k_hindcastlaw08_first x4) pNil (fun _ _ => trivial)) rfl ?_
 rintro _ _ ⟨_, ⟨v4a0, v4n0, v4c0, v4B0, v4N0, v4V0, rfl, rfl⟩, rfl⟩
 obtain ⟨v5, x5, h⟩ := bsome h
 refine wl_cq Tryd.call13 rfl rfl rfl (q_pf (k_state_Put (p0 := v4) v4N0 (vec_cap v4V0) x5) (fun w hI => ⟨(Rds.call (Rds.of_vec v4V0) pNil ⟨_, hA'⟩) w hI, (Rds.call G0S pNil rsub_nil) w hI, (Rds.call G1S pNil rsub_nil) w hI⟩)) rfl ?_
 refine wP rfl rfl (wNT (wSR (wP rfl rfl ?_)))
 replace h := bsome h; obtain ⟨⟨za, zh⟩, x8, h⟩ := h; try dsimp only at h
 refine wl_cs Tryd.call18 rfl rfl rfl (s_sp (k_state_Take x8) pNil (fun w hI => ⟨(Rds.call G0S pNil rsub_nil) w hI, (Rds.call G1S pNil rsub_nil) w hI⟩)) rfl ?_
 rintro _ _ ⟨_, ⟨zc, ze, zd, zf, zg, zb, rfl, rfl⟩, rfl⟩
 iterate 3 refine wP rfl rfl ?_
 refine wl_alloc tt_ok rfl rfl (fun b2 => ?_)
 apply wl_store tt_ok; rfl; exact Upd.here; rfl; rfl; rfl; rfl; rfl; rfl
 refine wP rfl rfl (wNT (wc_seq (wc_k2 (Ls := (⟨b2, (st19 za zc ze zd []), 30, (0, 0)⟩ :: (zf ++ (v4B0 ++ [])))) [9, 10, 13, 16, 17] [] [0, 1, 3, 7, 15, 31, 63, 127, 255, 255, 1023, 2047, 4095, 8191, 16383, 32767, 65535, 131071, 262143, 524287, 1048575, 2097151] [0, 1, 2, 3, 4, 5, 6, 7, 8, 9, 10, 11, 12, 13, 14, 15, 16, 17, 18, 19, 20, 21] (by kernel_rfl) (by kernel_rfl) (by kernel_rfl) ?_)))
 refine k_val rfl rfl rfl (pSub (pH (pAA pNil))) (sV rfl) rfl (k_val (v := .int .i64 (v5.length : Int)) rfl rfl rfl (pSub (pH (pAA pNil))) (sV rfl) rfl (k_val (v := .bool ((v5.length : Int) == (77 : Int))) rfl rfl rfl (pSub (pH (pAA pNil))) (sV rfl) rfl (k_val rfl rfl rfl (pSub (pH (pAA pNil))) (sV rfl) rfl ?_)))
 obtain ⟨v17, h, hg17⟩ := bsome h
 refine k_split (t := 14) rfl (fun hc => ?_) (fun hc => ?_)
 ·replace h := ct hc h
  refine k_val rfl rfl rfl (pSub (pH (pAA pNil))) (sV rfl) rfl (k_val (v := .bool (zh == (0 : Int))) rfl rfl rfl (pSub (pH (pAA pNil))) (sV rfl) rfl ?_)
  obtain rfl := sI h
  have h := hg17; clear hg17
  refine k_val (v := .bool (zh == (0 : Int))) rfl rfl rfl (pSub (pH (pAA pNil))) (sV rfl) rfl (k_val rfl rfl rfl (pSub (pH (pAA pNil))) (sV rfl) rfl ?_)
  obtain ⟨v22, h, hg22⟩ := bsome h
  refine k_split (t := 18) rfl (fun hc => ?_) (fun hc => ?_)
  ·replace h := ct hc h
   refine k_val (v := agS za zc ze zd) rfl rfl rfl (pSub (pH (pAA pNil))) (val_load tt_ok rfl mH rfl) rfl ?_
   obtain ⟨v20, x20, h⟩ := bsome h
   refine k_cs rfl rfl rfl Tryd.call23 rfl rfl rfl (s_sp (k_hindcastlaw08_first x20) pNil (fun _ _ => trivial)) rfl (.inr (by rintro _ _ ⟨_, ⟨_, _, _, _, _, _, rfl, rfl⟩, rfl⟩; exact ⟨_, (pCons (sA hC) (pApp (sA hA') (pApp (sA hA') pNil)))⟩)) ?_
   rintro _ _ ⟨_, ⟨v20a0, v20n0, v20c0, v20B0, v20N0, v20V0, rfl, rfl⟩, rfl⟩
   obtain ⟨v21, x21, h⟩ := bsome h
   refine k_cq rfl rfl rfl Tryd.call21 rfl rfl rfl (q_pf (k_state_Same (p0 := za) (p1 := v20) zg (vec_cap zb) v20N0 (vec_cap v20V0) x21) (fun w hI => ⟨(Rds.call (Rds.of_vec zb) pNil ⟨_, (sAC hA')⟩) w hI, (Rds.call (Rds.of_vec v20V0) pNil ⟨_, hA'⟩) w hI⟩)) rfl (pSub (pCons (sA hC) (pApp (sA hA') (pApp (sA hA') pNil)))) ?_
   obtain rfl := sI h
   have h := hg22; clear hg22
   refine k_val (v := .bool v21) rfl rfl rfl (pSub (pCons (sA hC) (pApp (sA hA') (pApp (sA hA') pNil)))) (sV rfl) rfl (k_val rfl rfl rfl (pSub (pCons (sA hC) (pApp (sA hA') (pApp (sA hA') pNil)))) (sV rfl) rfl ?_)
   obtain ⟨v25, h, hg25⟩ := bsome h
   refine k_split (t := 23) rfl (fun hc => ?_) (fun hc => ?_)
   ·replace h := ct hc h
    obtain ⟨v24, x24, h⟩ := bsome h
    refine k_cq rfl rfl rfl Tryd.call22 rfl rfl rfl (q_pf (k_hindcastlaw08_fails x24) (fun w hI => ⟨(Rds.call G0S pNil rsub_nil) w hI, (Rds.call G1S pNil rsub_nil) w hI⟩)) rfl (pSub (pCons (sA hC) (pApp (sA hA') (pApp (sA hA') pNil)))) ?_
    obtain rfl := sI h
    have h := hg25; clear hg25
    refine k_val (v := .bool v24) rfl rfl rfl (pSub (pCons (sA hC) (pApp (sA hA') (pApp (sA hA') pNil)))) (sV rfl) rfl (k_val rfl rfl rfl (pSub (pCons (sA hC) (pApp (sA hA') (pApp (sA hA') pNil)))) (sV rfl) rfl ?_)
    obtain ⟨v31, h, hg31⟩ := bsome h
    refine k_split (t := 26) rfl (fun hc => ?_) (fun hc => ?_)
    ·replace h := ct hc h
     obtain ⟨v27, x27, h⟩ := bsome h
     refine k_cs rfl rfl rfl Tryd.call16 rfl rfl rfl (s_sp (k_state_Start x27) pNil (fun _ _ => trivial)) rfl (.inr (by rintro _ _ ⟨_, ⟨_, _, _, _, _, _, rfl, rfl⟩, rfl⟩; exact ⟨_, (pCons (sAA hC) (pApp (sAA hA') (pApp (sAA hA') pNil)))⟩)) ?_
     rintro _ _ ⟨_, ⟨v27a0, v27n0, v27c0, v27B0, v27N0, v27V0, rfl, rfl⟩, rfl⟩
     obtain ⟨v28, x28, h⟩ := bsome h
     refine k_cq rfl rfl rfl Tryd.call13 rfl rfl rfl (q_pf (k_state_Put (p0 := v27) v27N0 (vec_cap v27V0) x28) (fun w hI => ⟨(Rds.call (Rds.of_vec v27V0) pNil ⟨_, hA'⟩) w hI, (Rds.call G0S pNil rsub_nil) w hI, (Rds.call G1S pNil rsub_nil) w hI⟩)) rfl (pSub (pCons (sAA hC) (pApp (sAA hA') (pApp (sAA hA') pNil)))) ?_
     refine k_val (v := .int .i64 (v28.length : Int)) rfl rfl rfl (pSub (pCons (sAA hC) (pApp (sAA hA') (pApp (sAA hA') pNil)))) (sV rfl) rfl (k_val (v := .bool ((v28.length : Int) == (59 : Int))) rfl rfl rfl (pSub (pCons (sAA hC) (pApp (sAA hA') (pApp (sAA hA') pNil)))) (sV rfl) rfl ?_)
     obtain rfl := sI h
     have h := hg31; clear hg31
     refine k_val (v := .bool ((v28.length : Int) == (59 : Int))) rfl rfl rfl (pSub (pCons (sAA hC) (pApp (sAA hA') (pApp (sAA hA') pNil)))) (sV rfl) rfl (k_val rfl rfl rfl (pSub (pCons (sAA hC) (pApp (sAA hA') (pApp (sAA hA') pNil)))) (sV rfl) rfl (k_end (by kernel_rfl) (wx_then (wc_ret ?_))))
     obtain rfl := sI h
     exact wx_pf tt_ok (.inl rfl) Tryd.results9 (Res.tmp rfl Res.nil) rfl
    replace h := cf hc h
    iterate 4 refine k_skip rfl rfl (pSub (pCons (sA hC) (pApp (sA hA') (pApp (sA hA') pNil)))) rfl ?_
    obtain rfl := sI h
    have h := hg31; clear hg31
    refine k_val (v := .bool false) rfl rfl rfl (pSub (pCons (sA hC) (pApp (sA hA') (pApp (sA hA') pNil)))) (sV rfl) rfl (k_val rfl rfl rfl (pSub (pCons (sA hC) (pApp (sA hA') (pApp (sA hA') pNil)))) (sV rfl) rfl (k_end (by kernel_rfl) (wx_then (wc_ret ?_))))
    obtain rfl := sI h
    exact wx_pf tt_ok (.inl rfl) Tryd.results9 (Res.tmp rfl Res.nil) rfl
   replace h := cf hc h
   refine k_skip rfl rfl (pSub (pCons (sA hC) (pApp (sA hA') (pApp (sA hA') pNil)))) rfl ?_
   obtain rfl := sI h
   have h := hg25; clear hg25
   refine k_val (v := .bool false) rfl rfl rfl (pSub (pCons (sA hC) (pApp (sA hA') (pApp (sA hA') pNil)))) (sV rfl) rfl (k_val rfl rfl rfl (pSub (pCons (sA hC) (pApp (sA hA') (pApp (sA hA') pNil)))) (sV rfl) rfl ?_)
   obtain ⟨v31, h, hg31⟩ := bsome h
   replace h := cf rfl h
   iterate 4 refine k_skip rfl rfl (pSub (pCons (sA hC) (pApp (sA hA') (pApp (sA hA') pNil)))) rfl ?_
   obtain rfl := sI h
   have h := hg31; clear hg31
   refine k_val (v := .bool false) rfl rfl rfl (pSub (pCons (sA hC) (pApp (sA hA') (pApp (sA hA') pNil)))) (sV rfl) rfl (k_val rfl rfl rfl (pSub (pCons (sA hC) (pApp (sA hA') (pApp (sA hA') pNil)))) (sV rfl) rfl (k_end (by kernel_rfl) (wx_then (wc_ret ?_))))
   obtain rfl := sI h
   exact wx_pf tt_ok (.inl rfl) Tryd.results9 (Res.tmp rfl Res.nil) rfl
  replace h := cf hc h
  iterate 3 refine k_skip rfl rfl (pSub (pH (pAA pNil))) rfl ?_
  obtain rfl := sI h
  have h := hg22; clear hg22
  refine k_val (v := .bool false) rfl rfl rfl (pSub (pH (pAA pNil))) (sV rfl) rfl (k_val rfl rfl rfl (pSub (pH (pAA pNil))) (sV rfl) rfl ?_)
  obtain ⟨v25, h, hg25⟩ := bsome h
  replace h := cf rfl h
  refine k_skip rfl rfl (pSub (pH (pAA pNil))) rfl ?_
  obtain rfl := sI h
  have h := hg25; clear hg25
  refine k_val (v := .bool false) rfl rfl rfl (pSub (pH (pAA pNil))) (sV rfl) rfl (k_val rfl rfl rfl (pSub (pH (pAA pNil))) (sV rfl) rfl ?_)
  obtain ⟨v31, h, hg31⟩ := bsome h
  replace h := cf rfl h
  iterate 4 refine k_skip rfl rfl (pSub (pH (pAA pNil))) rfl ?_
  obtain rfl := sI h
  have h := hg31; clear hg31
  refine k_val (v := .bool false) rfl rfl rfl (pSub (pH (pAA pNil))) (sV rfl) rfl (k_val rfl rfl rfl (pSub (pH (pAA pNil))) (sV rfl) rfl (k_end (by kernel_rfl) (wx_then (wc_ret ?_))))
  obtain rfl := sI h
  exact wx_pf tt_ok (.inl rfl) Tryd.results9 (Res.tmp rfl Res.nil) rfl
 replace h := cf hc h
 iterate 2 refine k_skip rfl rfl (pSub (pH (pAA pNil))) rfl ?_
 obtain rfl := sI h
 have h := hg17; clear hg17
 refine k_val (v := .bool false) rfl rfl rfl (pSub (pH (pAA pNil))) (sV rfl) rfl (k_val rfl rfl rfl (pSub (pH (pAA pNil))) (sV rfl) rfl ?_)
 obtain ⟨v22, h, hg22⟩ := bsome h
 replace h := cf rfl h
 iterate 3 refine k_skip rfl rfl (pSub (pH (pAA pNil))) rfl ?_
 obtain rfl := sI h
 have h := hg22; clear hg22
 refine k_val (v := .bool false) rfl rfl rfl (pSub (pH (pAA pNil))) (sV rfl) rfl (k_val rfl rfl rfl (pSub (pH (pAA pNil))) (sV rfl) rfl ?_)
 obtain ⟨v25, h, hg25⟩ := bsome h
 replace h := cf rfl h
 refine k_skip rfl rfl (pSub (pH (pAA pNil))) rfl ?_
 obtain rfl := sI h
 have h := hg25; clear hg25
 refine k_val (v := .bool false) rfl rfl rfl (pSub (pH (pAA pNil))) (sV rfl) rfl (k_val rfl rfl rfl (pSub (pH (pAA pNil))) (sV rfl) rfl ?_)
 obtain ⟨v31, h, hg31⟩ := bsome h
 replace h := cf rfl h
 iterate 4 refine k_skip rfl rfl (pSub (pH (pAA pNil))) rfl ?_
 obtain rfl := sI h
 have h := hg31; clear hg31
 refine k_val (v := .bool false) rfl rfl rfl (pSub (pH (pAA pNil))) (sV rfl) rfl (k_val rfl rfl rfl (pSub (pH (pAA pNil))) (sV rfl) rfl (k_end (by kernel_rfl) (wx_then (wc_ret ?_))))
 obtain rfl := sI h
 exact wx_pf tt_ok (.inl rfl) Tryd.results9 (Res.tmp rfl Res.nil) rfl

end Go.Proofs.YtekplmhmppdpcaaDoor
