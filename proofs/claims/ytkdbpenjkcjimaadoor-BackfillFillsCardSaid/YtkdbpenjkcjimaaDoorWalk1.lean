/-
  Each function computes what its model says. Printed by a program of this claim's own.
-/
import Derived.Test.YtkdbpenjkcjimaaDoorTab
import Derived.Test.YtkdbpenjkcjimaaDoorMod
namespace Go.Proofs.YtkdbpenjkcjimaaDoor
open Go.Proofs.YtkdbpenjkcjimaaDoor.Eng
set_option linter.unusedVariables false
set_option linter.unusedSimpArgs false
set_option maxHeartbeats 4000000
set_option maxRecDepth 20000

theorem k_state_Start {F : Nat} {p0 : Int} {r0 : T_api_State} (h : m_state_Start F p0 = some r0) :
    SpD Tryd.prog 23 [.int .u64 p0] [] (fun w => True) (fun v D => ∃ (r0a0 : Option Addr) (r0n0 : Nat) (r0c0 : Nat) (r0B0 : List Blk), r0n0 = r0.Shots.length ∧ Own 92 6 r0a0 r0n0 r0c0 (flat c_T_api_Shot r0.Shots) r0B0 ∧ v = agS r0 r0a0 r0n0 r0c0 ∧ D = fun F => (r0B0 ++ F)) := by
  unfold m_state_Start at h
  refine sp_of_wc Tryd.func23 rfl Tryd.ntmps23 rfl rfl (fun w0 hR => ?_)
  refine wc_seq (wc_region (wl_alloc tt_ok rfl rfl (fun b2 => (wl_nil (wx_then (wc_seq (wc_region (wP rfl rfl (wP (v := .agg #[.int .u64 (0 : Int), .int .u64 p0, .int .i32 (0 : Int), .int .i32 (0 : Int), .int .i32 (0 : Int), .int .i32 (0 : Int), .int .u8 (0 : Int), .int .u8 (0 : Int), .int .u8 (0 : Int), .int .i32 (0 : Int), .int .i32 (0 : Int), .int .i32 (0 : Int), .int .i32 (0 : Int), .int .u8 (0 : Int), .int .u8 (0 : Int), .int .u8 (0 : Int), .slice none 0 0, .int .u16 (0 : Int), .int .u16 (0 : Int)]) rfl rfl (wl_alloc tt_ok rfl rfl (fun b3 => ?_)))))))))))
  apply wl_store tt_ok; rfl; exact Upd.here; rfl; rfl; rfl; rfl; rfl; rfl
  refine wl_nil (wx_then (wc_seq (wc_seq (wc_region (wP rfl rfl (wl_nil (wx_then (wc_block ?_))))))))
  replace h := bsome h; obtain ⟨zc, h, hl9⟩ := h
  refine wc_loop (fun m E L => ∃ (zb : Int) (za : (T_api_Player × T_api_Player)), m_state_Start_L8 F m zb za = some zc ∧ E = [(2, .pointer (some ⟨b2, 0, none⟩)), (3, .pointer (some ⟨b3, 0, none⟩)), (7, .int .i64 zb)] ∧ L = (⟨b2, [.int .u64 (0 : Int), .int .u64 (0 : Int), .int .i32 (0 : Int), .int .i32 (0 : Int), .int .i32 (0 : Int), .int .i32 (0 : Int), .int .u8 (0 : Int), .int .u8 (0 : Int), .int .u8 (0 : Int), .int .i32 (0 : Int), .int .i32 (0 : Int), .int .i32 (0 : Int), .int .i32 (0 : Int), .int .u8 (0 : Int), .int .u8 (0 : Int), .int .u8 (0 : Int), .slice none 0 0, .int .u16 (0 : Int), .int .u16 (0 : Int)], 61, (0, 0)⟩ :: (⟨b3, (.int .u64 (0 : Int) :: .int .u64 p0 :: pl14 za [.slice none 0 0, .int .u16 (0 : Int), .int .u16 (0 : Int)]), 61, (0, 0)⟩ :: []))) F ⟨(0 : Int), ((T_api_Player.mk (0 : Int) (0 : Int) (0 : Int) (0 : Int) (0 : Int) (0 : Int) (0 : Int)), (T_api_Player.mk (0 : Int) (0 : Int) (0 : Int) (0 : Int) (0 : Int) (0 : Int) (0 : Int))), h, rfl, rfl⟩ (agree_cons rfl (agree_cons rfl (agree_cons rfl agree_nil))) (pSub (pCons (sC hC) (pH pNil))) ?_
  clear h
  rintro m9 _ _ ⟨zb, za, h, rfl, rfl⟩
  rcases m9 with _ | m9
  · rw [m_state_Start_L8.eq_1] at h; cases h
  rw [m_state_Start_L8.eq_2] at h
  refine wc_seq (wc_region (wP (v := .bool (decide (zb < (2 : Int)))) rfl rfl (wl_nil (wx_then (wc_seq (wc_cond rfl (fun hc => ?_) (fun hc => ?_)))))))
  · replace h := ct hc h
    refine wc_skip (wx_then (wc_seq (wc_block (wc_seq (wc_region ?_)))))
    iterate 2 refine wP rfl rfl ?_
    refine wl_nil (wx_then (wc_region ?_))
    iterate 2 refine wP rfl rfl ?_
    refine wP (v := .int .i32 (IntKind.wrap .i32 zb)) rfl rfl (wP (v := .int .i32 (IntKind.wrap .i32 ((IntKind.wrap .i32 zb) * (45056 : Int)))) rfl rfl (wP (v := .int .i32 (IntKind.wrap .i32 ((8192 : Int) + (IntKind.wrap .i32 ((IntKind.wrap .i32 zb) * (45056 : Int)))))) rfl rfl (wP rfl rfl (wP (v := .int .u8 (IntKind.wrap .u8 zb)) rfl rfl (wP (v := .agg #[.int .i32 (IntKind.wrap .i32 ((8192 : Int) + (IntKind.wrap .i32 ((IntKind.wrap .i32 zb) * (45056 : Int))))), .int .i32 (14336 : Int), .int .i32 (0 : Int), .int .i32 (0 : Int), .int .u8 (100 : Int), .int .u8 (0 : Int), .int .u8 (IntKind.wrap .u8 zb)]) rfl rfl (wP (v := .pointer (some ⟨b3, 2, none⟩)) rfl rfl ?_))))))
    rcases Bool.eq_false_or_eq_true (zb == (0 : Int)) with hx190 | hx190
    · replace h := ct hx190 h
      refine wl_val (v := .pointer (some ⟨b3, 2, none⟩)) (val_ia (j := 0) tt_ok rfl rfl rfl rfl (by simpa using hx190) rfl rfl) rfl ?_
      apply wl_store tt_ok; rfl; exact (Upd.there Upd.here); rfl; rfl; rfl; rfl; rfl; rfl
      refine wl_nil (wx_block (wx_then (wc_region (wP (v := .int .i64 (IntKind.wrap .i64 (zb + (1 : Int)))) rfl rfl (wP rfl rfl (wl_nil ?_))))))
      exact wx_round m9 (Nat.lt_succ_self m9) ⟨(IntKind.wrap .i64 (zb + (1 : Int))), ((T_api_Player.mk (IntKind.wrap .i32 ((8192 : Int) + (IntKind.wrap .i32 ((IntKind.wrap .i32 zb) * (45056 : Int))))) (14336 : Int) (0 : Int) (0 : Int) (100 : Int) (0 : Int) (IntKind.wrap .u8 zb)), za.2), h, rfl, rfl⟩ (agree_cons rfl (agree_cons rfl (agree_cons rfl agree_nil))) (pSub (pH (pH pNil)))
    replace h := cf hx190 h
    rcases Bool.eq_false_or_eq_true (zb == (1 : Int)) with hx191 | hx191
    · replace h := ct hx191 h
      refine wl_val (v := .pointer (some ⟨b3, 9, none⟩)) (val_ia (j := 1) tt_ok rfl rfl rfl rfl (by simpa using hx191) rfl rfl) rfl ?_
      apply wl_store tt_ok; rfl; exact (Upd.there Upd.here); rfl; rfl; rfl; rfl; rfl; rfl
      refine wl_nil (wx_block (wx_then (wc_region (wP (v := .int .i64 (IntKind.wrap .i64 (zb + (1 : Int)))) rfl rfl (wP rfl rfl (wl_nil ?_))))))
      exact wx_round m9 (Nat.lt_succ_self m9) ⟨(IntKind.wrap .i64 (zb + (1 : Int))), (za.1, (T_api_Player.mk (IntKind.wrap .i32 ((8192 : Int) + (IntKind.wrap .i32 ((IntKind.wrap .i32 zb) * (45056 : Int))))) (14336 : Int) (0 : Int) (0 : Int) (100 : Int) (0 : Int) (IntKind.wrap .u8 zb))), h, rfl, rfl⟩ (agree_cons rfl (agree_cons rfl (agree_cons rfl agree_nil))) (pSub (pH (pH pNil)))
    replace h := cf hx191 h
    cases h
  replace h := cf hc h
  refine wc_exit (wx_then_exit ?_)
  obtain rfl := sI h
  have h := hl9; clear hl9; try dsimp only [orE_l, orE_r] at h
  refine wx_then_exit (wx_block_exit (wx_then (wc_seq (wc_region ?_))))
  refine wl_val (v := .agg #[.int .u64 (0 : Int), .int .u64 p0, .int .i32 za.1.X, .int .i32 za.1.Y, .int .i32 za.1.VX, .int .i32 za.1.VY, .int .u8 za.1.Health, .int .u8 za.1.Cool, .int .u8 za.1.Face, .int .i32 za.2.X, .int .i32 za.2.Y, .int .i32 za.2.VX, .int .i32 za.2.VY, .int .u8 za.2.Health, .int .u8 za.2.Cool, .int .u8 za.2.Face, .slice none 0 0, .int .u16 (0 : Int), .int .u16 (0 : Int)]) (val_load tt_ok rfl (mT (mH)) rfl) rfl ?_
  apply wl_store tt_ok; rfl; exact Upd.here; rfl; rfl; rfl; rfl; rfl; rfl
  refine wl_nil (wx_then (wc_ret ?_))
  obtain rfl := sI h
  exact wx_spD tt_ok (.inl rfl) Tryd.results23 (Res.cell rfl (mH) rfl Res.nil) ⟨none, 0, 0, [], rfl, Own.zero, rfl, rfl⟩ (fun F => by simp) (pSub (pNo pNil))

theorem k_state_ofPlayer {F : Nat} {p0 : T_api_Player} {r0 : (List Int)} (h : m_state_ofPlayer F p0 = some r0) :
    SpD Tryd.prog 64 [agP p0] [] (fun w => True) (fun v D => ∃ (r0a0 : Option Addr) (r0n0 : Nat) (r0c0 : Nat) (r0B0 : List Blk), r0n0 = r0.length ∧ Own 21 1 r0a0 r0n0 r0c0 (flat (e1 .i32) r0) r0B0 ∧ v = .slice r0a0 r0n0 r0c0 ∧ D = fun F => (r0B0 ++ F)) := by
  unfold m_state_ofPlayer at h
  refine sp_of_wc Tryd.func64 rfl Tryd.ntmps64 rfl rfl (fun w0 hR => ?_)
  refine wc_seq (wc_region (wl_box rfl rfl rfl (fun b1 => (wP rfl rfl (wl_nil (wx_then (wc_seq (wc_region (wP (v := .pointer (some ⟨b1, 0, none⟩)) rfl rfl (wl_val (v := .int .i32 p0.X) (val_load tt_ok rfl (mH) rfl) rfl (wP (v := .pointer (some ⟨b1, 1, none⟩)) rfl rfl (wl_val (v := .int .i32 p0.Y) (val_load tt_ok rfl (mH) rfl) rfl (wP (v := .pointer (some ⟨b1, 2, none⟩)) rfl rfl (wl_val (v := .int .i32 p0.VX) (val_load tt_ok rfl (mH) rfl) rfl (wP (v := .pointer (some ⟨b1, 3, none⟩)) rfl rfl (wl_val (v := .int .i32 p0.VY) (val_load tt_ok rfl (mH) rfl) rfl (wP (v := .pointer (some ⟨b1, 4, none⟩)) rfl rfl ?_)))))))))))))))))
  refine wl_val (v := .int .u8 p0.Health) (val_load tt_ok rfl (mH) rfl) rfl ?_
  refine wP (v := .int .i32 (IntKind.wrap .i32 p0.Health)) rfl rfl (wP (v := .pointer (some ⟨b1, 5, none⟩)) rfl rfl (wl_val (v := .int .u8 p0.Cool) (val_load tt_ok rfl (mH) rfl) rfl (wP (v := .int .i32 (IntKind.wrap .i32 p0.Cool)) rfl rfl (wP (v := .pointer (some ⟨b1, 6, none⟩)) rfl rfl (wl_val (v := .int .u8 p0.Face) (val_load tt_ok rfl (mH) rfl) rfl (wP (v := .int .i32 (IntKind.wrap .i32 p0.Face)) rfl rfl (wl_chg (chg_bsv (enc := (e1 .i32)) (xs := ([p0.X, p0.Y, p0.VX, p0.VY, (IntKind.wrap .i32 p0.Health), (IntKind.wrap .i32 p0.Cool), (IntKind.wrap .i32 p0.Face)] : List Int)) tt_ok rfl rfl rfl rfl rfl rfl rfl rfl (e1_len _)) rfl ?_)))))))
  rintro _ _ ⟨a20, n20_, c20, B20, rfl, N20, V20, rfl⟩
  refine wP rfl rfl (wl_nil (wx_then (wc_ret ?_)))
  obtain rfl := sI h
  exact wx_spD tt_ok (.inl rfl) Tryd.results64 (Res.tmp rfl Res.nil) ⟨a20, n20_, c20, B20, N20, V20, rfl, rfl⟩ (fun F => by simp) (pSub (pA pNil))

theorem k_state_within {F : Nat} {p0 : (List Int)} {p0a0 : Option Addr} {p0n0 p0c0 : Nat} {p1 : (List (Int × Int))} {p1a0 : Option Addr} {p1n0 p1c0 : Nat} {r0 : Bool} (p0N0 : p0n0 = p0.length) (p0H0 : p0n0 ≤ p0c0) (p1N0 : p1n0 = p1.length) (p1H0 : p1n0 ≤ p1c0) (h : m_state_within F p0 p1 = some r0) :
    Pf Tryd.prog 63 [.slice p0a0 p0n0 p0c0, .slice p1a0 p1n0 p1c0] (fun w => Rds w [] [] p0a0 (flat (e1 .i32) p0) ∧ Rds w [] [] p1a0 (flat (e2 .i32) p1)) (.bool r0) := by
  unfold m_state_within at h
  refine pf_of_wc Tryd.func63 rfl Tryd.ntmps63 rfl rfl (fun w0 hR => ?_)
  obtain ⟨p0S0, p1S0⟩ := hR
  refine wc_seq (wc_region (wP rfl rfl (wl_nil (wx_then (wc_seq (wc_seq (wc_region (wP rfl rfl (wl_val (v := .int .i64 (p0.length : Int)) (val_len tt_ok rfl rfl p0N0) rfl (wP rfl rfl (wl_nil (wx_then (wc_block ?_)))))))))))))
  replace h := bsome h; obtain ⟨o7, h, hl7⟩ := h
  refine wc_loop (fun m E L => ∃ (za : Int), m_state_within_L6 F p0 p1 m za = some o7 ∧ E = [(0, .slice p0a0 p0n0 p0c0), (1, .slice p1a0 p1n0 p1c0), (4, .bool false), (7, .int .i64 (p0.length : Int)), (8, .int .i64 za)] ∧ L = []) F ⟨(0 : Int), h, rfl, rfl⟩ (agree_cons rfl (agree_cons rfl (agree_cons rfl (agree_cons rfl (agree_cons rfl agree_nil))))) (pSub pNil) ?_
  clear h
  rintro m7 _ _ ⟨za, h, rfl, rfl⟩
  rcases m7 with _ | m7
  · rw [m_state_within_L6.eq_1] at h; cases h
  rw [m_state_within_L6.eq_2] at h
  refine wc_seq (wc_region (wP (v := .bool (decide (za < (p0.length : Int)))) rfl rfl (wl_nil (wx_then (wc_seq (wc_cond rfl (fun hc => ?_) (fun hc => ?_)))))))
  · replace h := ct hc h
    refine wc_skip (wx_then (wc_seq (wc_block (wc_seq (wc_region ?_)))))
    iterate 2 refine wP rfl rfl ?_
    refine wl_nil (wx_then (wc_seq (wc_quiet (by kernel_rfl) (by kernel_rfl) (qP rfl rfl (qP rfl rfl ?_)))))
    replace h := bsome h; obtain ⟨v13, x13, h⟩ := h
    refine wq_val (v := .pointer (some ((adOf p0a0).add (za.toNat * 1 + 0)))) (val_ix (enc := (e1 .i32)) tt_ok rfl rfl rfl rfl p0N0 p0S0 (e1_len _) rfl x13) rfl ?_
    refine wq_val (v := .int .i32 v13) (val_le (enc := (e1 .i32)) (xs := p0) tt_ok rfl p0S0 rsub_nil (e1_len _) x13 rfl) rfl ?_
    refine qP rfl rfl (qP rfl rfl ?_)
    replace h := bsome h; obtain ⟨v17, x17, h⟩ := h
    refine wq_val (v := .pointer (some ((adOf p1a0).add (za.toNat * 2 + 0)))) (val_ix (enc := (e2 .i32)) tt_ok rfl rfl rfl rfl p1N0 p1S0 (e2_len _) rfl x17) rfl ?_
    refine wq_val (v := .pointer (some ((adOf p1a0).add (za.toNat * 2 + 0)))) (val_fia (j := 0) tt_ok rfl rfl rfl rfl rfl rfl rfl) rfl ?_
    refine wq_val (v := .int .i32 v17.1) (val_le (enc := (e2 .i32)) (xs := p1) tt_ok rfl p1S0 rsub_nil (e2_len _) x17 rfl) rfl ?_
    refine qP (v := .bool (decide (v13 < v17.1))) rfl rfl (qP rfl rfl ?_)
    replace h := bsome h; obtain ⟨v32, h, hg32⟩ := h
    refine wq_split (t := 21) rfl (fun hc => ?_) (fun hc => ?_)
    · replace h := ct hc h
      refine wq_skip rfl rfl (wq_skip rfl rfl (wq_skip rfl rfl (wq_skip rfl rfl (wq_skip rfl rfl (wq_skip rfl rfl (wq_skip rfl rfl (wq_skip rfl rfl (wq_skip rfl rfl (wq_skip rfl rfl ?_)))))))))
      obtain rfl := sI h
      have h := hg32; clear hg32
      refine qP (v := .bool true) rfl rfl (wq_nil (wx_then ?_))
      replace h := ct rfl h
      refine wc_cond_true rfl ?_
      refine wc_seq (wc_region (wP rfl rfl (wl_nil (wx_then (wc_ret (wx_block_ret (wx_then_ret ?_)))))))
      obtain rfl := Option.some.inj h
      have h := hl7; clear hl7; try dsimp only [orE_l, orE_r] at h
      refine wx_then_ret (wx_block_ret (wx_then_ret ?_))
      obtain rfl := sI h
      exact wx_pf tt_ok (.inl rfl) Tryd.results63 (Res.tmp rfl Res.nil) rfl
    replace h := cf hc h
    refine wq_run rfl (qP rfl rfl (wq_run rfl (qP rfl rfl ?_)))
    replace h := bsome h; obtain ⟨v24, x24, h⟩ := h
    refine wq_run rfl (wq_val (v := .pointer (some ((adOf p0a0).add (za.toNat * 1 + 0)))) (val_ix (enc := (e1 .i32)) tt_ok rfl rfl rfl rfl p0N0 p0S0 (e1_len _) rfl x24) rfl (wq_run rfl (wq_val (v := .int .i32 v24) (val_le (enc := (e1 .i32)) (xs := p0) tt_ok rfl p0S0 rsub_nil (e1_len _) x24 rfl) rfl (wq_run rfl (qP rfl rfl (wq_run rfl (qP rfl rfl ?_)))))))
    replace h := bsome h; obtain ⟨v28, x28, h⟩ := h
    refine wq_run rfl (wq_val (v := .pointer (some ((adOf p1a0).add (za.toNat * 2 + 0)))) (val_ix (enc := (e2 .i32)) tt_ok rfl rfl rfl rfl p1N0 p1S0 (e2_len _) rfl x28) rfl (wq_run rfl (wq_val (v := .pointer (some ((adOf p1a0).add (za.toNat * 2 + 1)))) (val_fia (j := 1) tt_ok rfl rfl rfl rfl rfl rfl rfl) rfl (wq_run rfl (wq_val (v := .int .i32 v28.2) (val_le (enc := (e2 .i32)) (xs := p1) tt_ok rfl p1S0 rsub_nil (e2_len _) x28 rfl) rfl (wq_run rfl (qP (v := .bool (decide (v28.2 < v24))) rfl rfl ?_)))))))
    obtain rfl := sI h
    have h := hg32; clear hg32
    refine qP (v := .bool (decide (v28.2 < v24))) rfl rfl (wq_nil (wx_then (wc_cond rfl (fun hc => ?_) (fun hc => ?_))))
    · replace h := ct hc h
      refine wc_seq (wc_region (wP rfl rfl (wl_nil (wx_then (wc_ret (wx_block_ret (wx_then_ret ?_)))))))
      obtain rfl := Option.some.inj h
      have h := hl7; clear hl7; try dsimp only [orE_l, orE_r] at h
      refine wx_then_ret (wx_block_ret (wx_then_ret ?_))
      obtain rfl := sI h
      exact wx_pf tt_ok (.inl rfl) Tryd.results63 (Res.tmp rfl Res.nil) rfl
    replace h := cf hc h
    refine wc_skip (wx_block (wx_then (wc_region (wP (v := .int .i64 (IntKind.wrap .i64 (za + (1 : Int)))) rfl rfl (wP rfl rfl (wl_nil ?_))))))
    exact wx_round m7 (Nat.lt_succ_self m7) ⟨(IntKind.wrap .i64 (za + (1 : Int))), h, rfl, rfl⟩ (agree_cons rfl (agree_cons rfl (agree_cons rfl (agree_cons rfl (agree_cons rfl agree_nil))))) (pSub pNil)
  replace h := cf hc h
  refine wc_exit (wx_then_exit ?_)
  obtain rfl := Option.some.inj h
  have h := hl7; clear hl7; try dsimp only [orE_l, orE_r] at h
  refine wx_then_exit (wx_block_exit (wx_then (wc_seq (wc_region ?_))))
  refine wP rfl rfl (wl_nil (wx_then (wc_ret ?_)))
  obtain rfl := sI h
  exact wx_pf tt_ok (.inl rfl) Tryd.results63 (Res.tmp rfl Res.nil) rfl

theorem k_state_ofShot {F : Nat} {p0 : T_api_Shot} {r0 : (List Int)} (h : m_state_ofShot F p0 = some r0) :
    SpD Tryd.prog 67 [.agg #[.int .i32 p0.X, .int .i32 p0.Y, .int .i32 p0.VX, .int .i32 p0.VY, .int .u8 p0.Owner, .int .u8 p0.Life]] [] (fun w => True) (fun v D => ∃ (r0a0 : Option Addr) (r0n0 : Nat) (r0c0 : Nat) (r0B0 : List Blk), r0n0 = r0.length ∧ Own 21 1 r0a0 r0n0 r0c0 (flat (e1 .i32) r0) r0B0 ∧ v = .slice r0a0 r0n0 r0c0 ∧ D = fun F => (r0B0 ++ F)) := by
  unfold m_state_ofShot at h
  refine sp_of_wc Tryd.func67 rfl Tryd.ntmps67 rfl rfl (fun w0 hR => ?_)
  refine wc_seq (wc_region (wl_box rfl rfl rfl (fun b1 => (wP rfl rfl (wl_nil (wx_then (wc_seq (wc_region (wP (v := .pointer (some ⟨b1, 0, none⟩)) rfl rfl (wl_val (v := .int .i32 p0.X) (val_load tt_ok rfl (mH) rfl) rfl (wP (v := .pointer (some ⟨b1, 1, none⟩)) rfl rfl (wl_val (v := .int .i32 p0.Y) (val_load tt_ok rfl (mH) rfl) rfl (wP (v := .pointer (some ⟨b1, 2, none⟩)) rfl rfl (wl_val (v := .int .i32 p0.VX) (val_load tt_ok rfl (mH) rfl) rfl (wP (v := .pointer (some ⟨b1, 3, none⟩)) rfl rfl (wl_val (v := .int .i32 p0.VY) (val_load tt_ok rfl (mH) rfl) rfl (wP (v := .pointer (some ⟨b1, 4, none⟩)) rfl rfl ?_)))))))))))))))))
  refine wl_val (v := .int .u8 p0.Owner) (val_load tt_ok rfl (mH) rfl) rfl ?_
  refine wP (v := .int .i32 (IntKind.wrap .i32 p0.Owner)) rfl rfl (wP (v := .pointer (some ⟨b1, 5, none⟩)) rfl rfl (wl_val (v := .int .u8 p0.Life) (val_load tt_ok rfl (mH) rfl) rfl (wP (v := .int .i32 (IntKind.wrap .i32 p0.Life)) rfl rfl (wl_chg (chg_bsv (enc := (e1 .i32)) (xs := ([p0.X, p0.Y, p0.VX, p0.VY, (IntKind.wrap .i32 p0.Owner), (IntKind.wrap .i32 p0.Life)] : List Int)) tt_ok rfl rfl rfl rfl rfl rfl rfl rfl (e1_len _)) rfl ?_))))
  rintro _ _ ⟨a17, n17_, c17, B17, rfl, N17, V17, rfl⟩
  refine wP rfl rfl (wl_nil (wx_then (wc_ret ?_)))
  obtain rfl := sI h
  exact wx_spD tt_ok (.inl rfl) Tryd.results67 (Res.tmp rfl Res.nil) ⟨a17, n17_, c17, B17, N17, V17, rfl, rfl⟩ (fun F => by simp) (pSub (pA pNil))

theorem k_state_Check_1 {F : Nat} {p0 : T_api_Shot} {p1 : (Arr (Int × Int) 6)} {p1b p1t : Nat} {r0 : Bool} (h : m_state_Check_1 F p0 p1 = some r0) :
    Rd2 Tryd.prog 66 [.agg #[.int .i32 p0.X, .int .i32 p0.Y, .int .i32 p0.VX, .int .i32 p0.VY, .int .u8 p0.Owner, .int .u8 p0.Life], .pointer (some ⟨p1b, 0, none⟩)] (⟨p1b, flat (e2 .i32) p1.1, p1t, (0, 0)⟩ :: []) (fun w => True) (.bool r0) := by
  unfold m_state_Check_1 at h
  refine sp_of_wc Tryd.func66 rfl Tryd.ntmps66 rfl rfl (fun w0 hR => ?_)
  refine wc_seq (wc_region (wl_box rfl rfl rfl (fun b2 => (wP rfl rfl (wl_nil (wx_then (wc_seq (wc_k2 (Ls := (⟨b2, [.int .i32 p0.X, .int .i32 p0.Y, .int .i32 p0.VX, .int .i32 p0.VY, .int .u8 p0.Owner, .int .u8 p0.Life], 92, (0, 0)⟩ :: (⟨p1b, flat (e2 .i32) p1.1, p1t, (0, 0)⟩ :: []))) [1, 3, 4, 5] [3, 4, 5] [0, 1, 0, 7, 15, 31] [0, 2, 1, 3, 4, 5] (by kernel_rfl) (by kernel_rfl) (by kernel_rfl) (k_val (v := .agg #[.int .i32 p0.X, .int .i32 p0.Y, .int .i32 p0.VX, .int .i32 p0.VY, .int .u8 p0.Owner, .int .u8 p0.Life]) rfl rfl rfl (pSub (pH (pH pNil))) (val_load tt_ok rfl (mH) rfl) rfl (k_val (v := .slice (some ⟨p1b, 0, none⟩) 6 6) rfl rfl rfl (pSub (pH (pH pNil))) (val_sla tt_ok rfl rfl rfl rfl) rfl ?_))))))))))
  replace h := bsome h; obtain ⟨v5, x5, h⟩ := h
  refine k_cs rfl rfl rfl Tryd.call67 rfl rfl rfl (s_sp (k_state_ofShot x5) pNil (fun _ _ => trivial)) rfl (.inr (by rintro _ _ ⟨_, ⟨_, _, _, _, _, _, rfl, rfl⟩, rfl⟩; exact ⟨_, (pCons (sA hC) (pCons (sA hC) pNil))⟩)) ?_
  rintro _ _ ⟨_, ⟨v5a0, v5n0, v5c0, v5B0, v5N0, v5V0, rfl, rfl⟩, rfl⟩
  replace h := bsome h; obtain ⟨v7, x7, h⟩ := h
  refine k_cq rfl rfl rfl Tryd.call63 rfl rfl rfl (q_pf (k_state_within (p0 := v5) (p1 := p1.1) v5N0 (vec_cap v5V0) (p1.2).symm (Nat.le_refl _) x7) (fun w hI => ⟨(Rds.call (Rds.of_vec v5V0) pNil ⟨_, hA'⟩) w hI, (Rds.call (Rds.of_blk (t := p1t) (fz := (0, 0))) pNil ⟨_, (sA (sC hC))⟩) w hI⟩)) rfl (pSub (pCons (sA hC) (pCons (sA hC) pNil))) ?_
  refine k_chg rfl rfl rfl (Chg.of_val (v := .bool (!v7)) (stepV_ok tt_ok rfl)) rfl (.inl rfl) ?_
  rintro _ _ ⟨rfl, rfl⟩
  refine k_chg rfl rfl rfl (Chg.of_val (stepV_ok tt_ok rfl)) rfl (.inl rfl) ?_
  rintro _ _ ⟨rfl, rfl⟩
  refine k_end (by kernel_rfl) ?_
  refine wx_then (wc_ret ?_)
  obtain rfl := sI h
  exact wx_rd tt_ok (.inl rfl) Tryd.results66 (Res.tmp rfl Res.nil) (pSub (pCons (sA (sC hC)) pNil)) rfl

theorem k_slices_IndexFunc___api_Shot_api_Shot_f1_state_Check_1 {F : Nat} {p0 : (List T_api_Shot)} {p0a0 : Option Addr} {p0n0 p0c0 : Nat} {p1c0 : (Arr (Int × Int) 6)} {p1c0b p1c0t : Nat} {r0 : Int} (p0N0 : p0n0 = p0.length) (p0H0 : p0n0 ≤ p0c0) (h : m_slices_IndexFunc___api_Shot_api_Shot_f1_state_Check_1 F p0 p1c0 = some r0) :
    Rd2 Tryd.prog 79 [.slice p0a0 p0n0 p0c0, .func (.func 66) #[] #[.pointer (some ⟨p1c0b, 0, none⟩)]] (⟨p1c0b, flat (e2 .i32) p1c0.1, p1c0t, (0, 0)⟩ :: []) (fun w => Rds w (ids (⟨p1c0b, flat (e2 .i32) p1c0.1, p1c0t, (0, 0)⟩ :: [])) [] p0a0 (flat c_T_api_Shot p0)) (.int .i64 r0) := by
  unfold m_slices_IndexFunc___api_Shot_api_Shot_f1_state_Check_1 at h
  refine sp_of_wc Tryd.func79 rfl Tryd.ntmps79 rfl rfl (fun w0 hR => ?_)
  have p0S0 := hR
  refine wc_seq (wc_region (wP rfl rfl (wl_nil (wx_then (wc_seq (wc_seq (wc_region (wP rfl rfl (wl_val (v := .int .i64 (p0.length : Int)) (val_len tt_ok rfl rfl p0N0) rfl (wP rfl rfl (wl_nil (wx_then (wc_block ?_)))))))))))))
  replace h := bsome h; obtain ⟨o7, h, hl7⟩ := h
  refine wc_loop (fun m E L => ∃ (za : Int), m_slices_IndexFunc___api_Shot_api_Shot_f1_state_Check_1_L6 F p0 p1c0 m za = some o7 ∧ E = [(0, .slice p0a0 p0n0 p0c0), (1, .func (.func 66) #[] #[.pointer (some ⟨p1c0b, 0, none⟩)]), (4, .int .i64 (0 : Int)), (7, .int .i64 (p0.length : Int)), (8, .int .i64 za)] ∧ L = (⟨p1c0b, flat (e2 .i32) p1c0.1, p1c0t, (0, 0)⟩ :: [])) F ⟨(0 : Int), h, rfl, rfl⟩ (agree_cons rfl (agree_cons rfl (agree_cons rfl (agree_cons rfl (agree_cons rfl agree_nil))))) (pSub (pH pNil)) ?_
  clear h
  rintro m7 _ _ ⟨za, h, rfl, rfl⟩
  rcases m7 with _ | m7
  · rw [m_slices_IndexFunc___api_Shot_api_Shot_f1_state_Check_1_L6.eq_1] at h; cases h
  rw [m_slices_IndexFunc___api_Shot_api_Shot_f1_state_Check_1_L6.eq_2] at h
  refine wc_seq (wc_region (wP (v := .bool (decide (za < (p0.length : Int)))) rfl rfl (wl_nil (wx_then (wc_seq (wc_cond rfl (fun hc => ?_) (fun hc => ?_)))))))
  · replace h := ct hc h
    refine wc_skip (wx_then (wc_seq (wc_block (wc_seq (wc_region ?_)))))
    iterate 2 refine wP rfl rfl ?_
    refine wl_nil (wx_then (wc_seq (wc_region ?_)))
    iterate 3 refine wP rfl rfl ?_
    replace h := bsome h; obtain ⟨v14, x14, h⟩ := h
    refine wl_val (v := .pointer (some ((adOf p0a0).add (za.toNat * 6 + 0)))) (val_ix (enc := c_T_api_Shot) tt_ok rfl rfl rfl rfl p0N0 p0S0 c_T_api_Shot_len rfl x14) rfl ?_
    refine wl_val (v := .agg #[.int .i32 v14.X, .int .i32 v14.Y, .int .i32 v14.VX, .int .i32 v14.VY, .int .u8 v14.Owner, .int .u8 v14.Life]) (val_le (enc := c_T_api_Shot) (xs := p0) tt_ok rfl p0S0 rsub_nil c_T_api_Shot_len x14 rfl) rfl ?_
    replace h := bsome h; obtain ⟨v16, x16, h⟩ := h
    refine wl_cq Tryd.call66 rfl rfl rfl (q_rd (k_state_Check_1 x16) (pH pNil) (fun _ _ => trivial)) rfl ?_
    refine wl_nil (wx_then (wc_cond rfl (fun hc => ?_) (fun hc => ?_)))
    · replace h := ct hc h
      refine wc_seq (wc_region ?_)
      iterate 2 refine wP rfl rfl ?_
      refine wl_nil (wx_then (wc_ret (wx_block_ret (wx_then_ret ?_))))
      obtain rfl := Option.some.inj h
      have h := hl7; clear hl7; try dsimp only [orE_l, orE_r] at h
      refine wx_then_ret (wx_block_ret (wx_then_ret ?_))
      obtain rfl := sI h
      exact wx_rd tt_ok (.inl rfl) Tryd.results79 (Res.tmp rfl Res.nil) (pSub (pH pNil)) rfl
    replace h := cf hc h
    refine wc_skip (wx_block (wx_then (wc_region (wP (v := .int .i64 (IntKind.wrap .i64 (za + (1 : Int)))) rfl rfl (wP rfl rfl (wl_nil ?_))))))
    exact wx_round m7 (Nat.lt_succ_self m7) ⟨(IntKind.wrap .i64 (za + (1 : Int))), h, rfl, rfl⟩ (agree_cons rfl (agree_cons rfl (agree_cons rfl (agree_cons rfl (agree_cons rfl agree_nil))))) (pSub (pH pNil))
  replace h := cf hc h
  refine wc_exit (wx_then_exit ?_)
  obtain rfl := Option.some.inj h
  have h := hl7; clear hl7; try dsimp only [orE_l, orE_r] at h
  refine wx_then_exit (wx_block_exit (wx_then (wc_seq (wc_region ?_))))
  refine wP rfl rfl (wl_nil (wx_then (wc_ret ?_)))
  obtain rfl := sI h
  exact wx_rd tt_ok (.inl rfl) Tryd.results79 (Res.tmp rfl Res.nil) (pSub (pH pNil)) rfl

theorem k_slices_ContainsFunc___api_Shot_api_Shot_f1_state_Check_1 {F : Nat} {p0 : (List T_api_Shot)} {p0a0 : Option Addr} {p0n0 p0c0 : Nat} {p1c0 : (Arr (Int × Int) 6)} {p1c0b p1c0t : Nat} {r0 : Bool} (p0N0 : p0n0 = p0.length) (p0H0 : p0n0 ≤ p0c0) (h : m_slices_ContainsFunc___api_Shot_api_Shot_f1_state_Check_1 F p0 p1c0 = some r0) :
    Rd2 Tryd.prog 65 [.slice p0a0 p0n0 p0c0, .func (.func 66) #[] #[.pointer (some ⟨p1c0b, 0, none⟩)]] (⟨p1c0b, flat (e2 .i32) p1c0.1, p1c0t, (0, 0)⟩ :: []) (fun w => Rds w (ids (⟨p1c0b, flat (e2 .i32) p1c0.1, p1c0t, (0, 0)⟩ :: [])) [] p0a0 (flat c_T_api_Shot p0)) (.bool r0) := by
  unfold m_slices_ContainsFunc___api_Shot_api_Shot_f1_state_Check_1 at h
  refine sp_of_wc Tryd.func65 rfl Tryd.ntmps65 rfl rfl (fun w0 hR => ?_)
  have p0S0 := hR
  refine wc_seq (wc_region (wP rfl rfl (wl_nil (wx_then (wc_seq (wc_region ?_))))))
  iterate 2 refine wP rfl rfl ?_
  replace h := bsome h; obtain ⟨v7, x7, h⟩ := h
  refine wl_cq Tryd.call79 rfl rfl rfl (q_rd (k_slices_IndexFunc___api_Shot_api_Shot_f1_state_Check_1 (p0 := p0) p0N0 p0H0 x7) (pH pNil) (Rds.call p0S0 (pH pNil) rsub_nil)) rfl ?_
  refine wP (v := .bool (decide ((0 : Int) ≤ v7))) rfl rfl (wP rfl rfl (wl_nil (wx_then (wc_ret ?_))))
  obtain rfl := sI h
  exact wx_rd tt_ok (.inl rfl) Tryd.results65 (Res.tmp rfl Res.nil) (pSub (pH pNil)) rfl

theorem k_state_Check {F : Nat} {p0 : T_api_State} {p0a0 : Option Addr} {p0n0 p0c0 : Nat} {r0 : Int} (p0N0 : p0n0 = p0.Shots.length) (p0H0 : p0n0 ≤ p0c0) (h : m_state_Check F p0 = some r0) :
    Pf Tryd.prog 43 [agS p0 p0a0 p0n0 p0c0] (fun w => Rds w [] [] p0a0 (flat c_T_api_Shot p0.Shots) ∧ Rds w [] [] (some ⟨0, 0, none⟩) (flat (fun _ : Unit => gl_state_playerBounds) [()]) ∧ Rds w [] [] (some ⟨1, 0, none⟩) (flat (fun _ : Unit => gl_state_shotBounds) [()])) (.int .i64 r0) := by
  unfold m_state_Check at h
  refine pf_of_wc Tryd.func43 rfl Tryd.ntmps43 rfl rfl (fun w0 hR => ?_)
  obtain ⟨p0S0, G0S, G1S⟩ := hR
  refine wc_seq (wc_region (wl_box rfl rfl rfl (fun b1 => (wP rfl rfl (wl_nil (wx_then (wc_seq (wc_region (wl_val (v := .agg #[.int .i32 (0 : Int), .int .i32 (61440 : Int), .int .i32 (0 : Int), .int .i32 (28672 : Int), .int .i32 ((-1024) : Int), .int .i32 (1024 : Int), .int .i32 ((-1024) : Int), .int .i32 (1024 : Int), .int .i32 (1 : Int), .int .i32 (100 : Int), .int .i32 (0 : Int), .int .i32 (30 : Int), .int .i32 (0 : Int), .int .i32 (3 : Int)]) (val_le (enc := fun _ : Unit => gl_state_playerBounds) (xs := [()]) (v := 0) (o := 0) (size := 14) tt_ok rfl G0S rsub_nil (fun _ => rfl) rfl rfl) rfl (wl_val (v := .agg #[.int .i32 (0 : Int), .int .i32 (65024 : Int), .int .i32 (0 : Int), .int .i32 (32256 : Int), .int .i32 ((-2048) : Int), .int .i32 (2048 : Int), .int .i32 ((-2048) : Int), .int .i32 (2048 : Int), .int .i32 (0 : Int), .int .i32 (1 : Int), .int .i32 (1 : Int), .int .i32 (40 : Int)]) (val_le (enc := fun _ : Unit => gl_state_shotBounds) (xs := [()]) (v := 0) (o := 0) (size := 12) tt_ok rfl G1S rsub_nil (fun _ => rfl) rfl rfl) rfl ?_))))))))))
  refine wl_alloc tt_ok rfl rfl (fun b3 => ?_)
  refine wl_alloc tt_ok rfl rfl (fun b4 => ?_)
  apply wl_store tt_ok; rfl; exact (Upd.there Upd.here); rfl; rfl; rfl; rfl; rfl; rfl
  apply wl_store tt_ok; rfl; exact Upd.here; rfl; rfl; rfl; rfl; rfl; rfl
  refine wl_nil (wx_then (wc_seq (wc_region (wP (v := .pointer (some ⟨b1, 16, none⟩)) rfl rfl (wl_val (v := .slice p0a0 p0n0 p0c0) (val_load tt_ok rfl (mT (mT (mH))) rfl) rfl (wl_val (v := .int .i64 (p0.Shots.length : Int)) (val_len tt_ok rfl rfl p0N0) rfl (wP (v := .bool (decide ((p0.Shots.length : Int) ≤ (8 : Int)))) rfl rfl (wP rfl rfl (wl_nil (wx_then (wc_seq (wc_seq (wc_region (wP (v := .pointer (some ⟨b1, 2, none⟩)) rfl rfl (wl_val (v := .agg #[.int .i32 p0.Players.1.X, .int .i32 p0.Players.1.Y, .int .i32 p0.Players.1.VX, .int .i32 p0.Players.1.VY, .int .u8 p0.Players.1.Health, .int .u8 p0.Players.1.Cool, .int .u8 p0.Players.1.Face, .int .i32 p0.Players.2.X, .int .i32 p0.Players.2.Y, .int .i32 p0.Players.2.VX, .int .i32 p0.Players.2.VY, .int .u8 p0.Players.2.Health, .int .u8 p0.Players.2.Cool, .int .u8 p0.Players.2.Face]) (val_load tt_ok rfl (mT (mT (mH))) rfl) rfl ?_)))))))))))))))
  refine wP rfl rfl (wl_nil (wx_then (wc_block ?_)))
  replace h := bsome h; obtain ⟨zc, h, hl11⟩ := h
  refine wc_loop (fun m E L => ∃ (zb : Bool) (za : Int), m_state_Check_L10 F p0 m zb za = some zc ∧ E = [(1, .pointer (some ⟨b1, 0, none⟩)), (2, .int .i64 (0 : Int)), (3, .pointer (some ⟨b3, 0, none⟩)), (4, .pointer (some ⟨b4, 0, none⟩)), (5, .bool zb), (15, .agg #[.int .i32 p0.Players.1.X, .int .i32 p0.Players.1.Y, .int .i32 p0.Players.1.VX, .int .i32 p0.Players.1.VY, .int .u8 p0.Players.1.Health, .int .u8 p0.Players.1.Cool, .int .u8 p0.Players.1.Face, .int .i32 p0.Players.2.X, .int .i32 p0.Players.2.Y, .int .i32 p0.Players.2.VX, .int .i32 p0.Players.2.VY, .int .u8 p0.Players.2.Health, .int .u8 p0.Players.2.Cool, .int .u8 p0.Players.2.Face]), (16, .int .i64 za)] ∧ L = (⟨b1, (st19 p0 p0a0 p0n0 p0c0 []), 61, (0, 0)⟩ :: (⟨b3, [.int .i32 (0 : Int), .int .i32 (61440 : Int), .int .i32 (0 : Int), .int .i32 (28672 : Int), .int .i32 ((-1024) : Int), .int .i32 (1024 : Int), .int .i32 ((-1024) : Int), .int .i32 (1024 : Int), .int .i32 (1 : Int), .int .i32 (100 : Int), .int .i32 (0 : Int), .int .i32 (30 : Int), .int .i32 (0 : Int), .int .i32 (3 : Int)], 109, (0, 0)⟩ :: (⟨b4, [.int .i32 (0 : Int), .int .i32 (65024 : Int), .int .i32 (0 : Int), .int .i32 (32256 : Int), .int .i32 ((-2048) : Int), .int .i32 (2048 : Int), .int .i32 ((-2048) : Int), .int .i32 (2048 : Int), .int .i32 (0 : Int), .int .i32 (1 : Int), .int .i32 (1 : Int), .int .i32 (40 : Int)], 110, (0, 0)⟩ :: [])))) F ⟨(decide ((p0.Shots.length : Int) ≤ (8 : Int))), (0 : Int), h, rfl, rfl⟩ (agree_cons rfl (agree_cons rfl (agree_cons rfl (agree_cons rfl (agree_cons rfl (agree_cons rfl (agree_cons rfl agree_nil))))))) (pSub (pCons (sC (sC hC)) (pCons (sC hC) (pH pNil)))) ?_
  clear h
  rintro m11 _ _ ⟨zb, za, h, rfl, rfl⟩
  rcases m11 with _ | m11
  · rw [m_state_Check_L10.eq_1] at h; cases h
  rw [m_state_Check_L10.eq_2] at h
  refine wc_seq (wc_region (wP (v := .bool (decide (za < (2 : Int)))) rfl rfl (wl_nil (wx_then (wc_seq (wc_cond rfl (fun hc => ?_) (fun hc => ?_)))))))
  · replace h := ct hc h
    refine wc_skip (wx_then (wc_seq (wc_block (wc_seq (wc_region ?_)))))
    rcases Bool.eq_false_or_eq_true (za == (0 : Int)) with hx180 | hx180
    · replace h := ct hx180 h
      refine wl_val (v := agP p0.Players.1) (val_iv (j := 0) tt_ok rfl rfl rfl rfl (by simpa using hx180) rfl rfl) rfl ?_
      refine wl_alloc tt_ok rfl rfl (fun b7 => ?_)
      apply wl_store tt_ok; rfl; exact Upd.here; rfl; rfl; rfl; rfl; rfl; rfl
      refine wl_nil (wx_then (wc_k2 (Ls := (⟨b7, (pl7 p0.Players.1 []), 55, (0, 0)⟩ :: (⟨b1, (st19 p0 p0a0 p0n0 p0c0 []), 61, (0, 0)⟩ :: (⟨b3, [.int .i32 (0 : Int), .int .i32 (61440 : Int), .int .i32 (0 : Int), .int .i32 (28672 : Int), .int .i32 ((-1024) : Int), .int .i32 (1024 : Int), .int .i32 ((-1024) : Int), .int .i32 (1024 : Int), .int .i32 (1 : Int), .int .i32 (100 : Int), .int .i32 (0 : Int), .int .i32 (30 : Int), .int .i32 (0 : Int), .int .i32 (3 : Int)], 109, (0, 0)⟩ :: (⟨b4, [.int .i32 (0 : Int), .int .i32 (65024 : Int), .int .i32 (0 : Int), .int .i32 (32256 : Int), .int .i32 ((-2048) : Int), .int .i32 (2048 : Int), .int .i32 ((-2048) : Int), .int .i32 (2048 : Int), .int .i32 (0 : Int), .int .i32 (1 : Int), .int .i32 (1 : Int), .int .i32 (40 : Int)], 110, (0, 0)⟩ :: []))))) [3, 5] [] [0, 1, 3, 7, 3, 31, 63, 127] [0, 1, 2, 4, 3, 5, 6, 7] (by kernel_rfl) (by kernel_rfl) (by kernel_rfl) ?_))
      refine k_val rfl rfl rfl (pSub (pH (pH (pH (pH pNil))))) (stepV_ok tt_ok rfl) rfl ?_
      refine k_val rfl rfl rfl (pSub (pH (pH (pH (pH pNil))))) (stepV_ok tt_ok rfl) rfl ?_
      replace h := bsome h; obtain ⟨v25, h, hg25⟩ := h
      refine k_split (t := 20) rfl (fun hc => ?_) (fun hc => ?_)
      · replace h := ct hc h
        refine k_val (v := agP p0.Players.1) rfl rfl rfl (pSub (pH (pH (pH (pH pNil))))) (val_load tt_ok rfl (mH) rfl) rfl ?_
        refine k_val (v := .slice (some ⟨b3, 0, none⟩) 7 7) rfl rfl rfl (pSub (pH (pH (pH (pH pNil))))) (val_sla tt_ok rfl rfl rfl rfl) rfl ?_
        replace h := bsome h; obtain ⟨v22, x22, h⟩ := h
        refine k_cs rfl rfl rfl Tryd.call64 rfl rfl rfl (s_sp (k_state_ofPlayer x22) pNil (fun _ _ => trivial)) rfl (.inr (by rintro _ _ ⟨_, ⟨_, _, _, _, _, _, rfl, rfl⟩, rfl⟩; exact ⟨_, (pCons (sA hC) (pCons (sA hC) (pCons (sA hC) (pCons (sA hC) pNil))))⟩)) ?_
        rintro _ _ ⟨_, ⟨v22a0, v22n0, v22c0, v22B0, v22N0, v22V0, rfl, rfl⟩, rfl⟩
        replace h := bsome h; obtain ⟨v24, x24, h⟩ := h
        refine k_cq rfl rfl rfl Tryd.call63 rfl rfl rfl (q_pf (k_state_within (p0 := v22) (p1 := ([((0 : Int), (61440 : Int)), ((0 : Int), (28672 : Int)), (((-1024) : Int), (1024 : Int)), (((-1024) : Int), (1024 : Int)), ((1 : Int), (100 : Int)), ((0 : Int), (30 : Int)), ((0 : Int), (3 : Int))] : List (Int × Int))) v22N0 (vec_cap v22V0) rfl (Nat.le_refl _) x24) (fun w hI => ⟨(Rds.call (Rds.of_vec v22V0) pNil ⟨_, hA'⟩) w hI, (Rds.call (Rds.of_blk (t := 109) (fz := (0, 0))) pNil ⟨_, (sA (sC (sC hC)))⟩) w hI⟩)) rfl (pSub (pCons (sA hC) (pCons (sA hC) (pCons (sA hC) (pCons (sA hC) pNil))))) ?_
        obtain rfl := sI h
        have h := hg25; clear hg25
        refine k_val (v := .bool v24) rfl rfl rfl (pSub (pCons (sA hC) (pCons (sA hC) (pCons (sA hC) (pCons (sA hC) pNil))))) (stepV_ok tt_ok rfl) rfl ?_
        refine k_val rfl rfl rfl (pSub (pCons (sA hC) (pCons (sA hC) (pCons (sA hC) (pCons (sA hC) pNil))))) (stepV_ok tt_ok rfl) rfl ?_
        refine k_end (by kernel_rfl) ?_
        refine wx_block (wx_then (wc_region (wP (v := .int .i64 (IntKind.wrap .i64 (za + (1 : Int)))) rfl rfl (wP rfl rfl (wl_nil ?_)))))
        exact wx_round m11 (Nat.lt_succ_self m11) ⟨v24, (IntKind.wrap .i64 (za + (1 : Int))), h, rfl, rfl⟩ (agree_cons rfl (agree_cons rfl (agree_cons rfl (agree_cons rfl (agree_cons rfl (agree_cons rfl (agree_cons rfl agree_nil))))))) (pSub (pCons (sA (sC hC)) (pCons (sA (sC hC)) (pCons (sA (sC hC)) pNil))))
      replace h := cf hc h
      refine k_skip rfl rfl (pSub (pH (pH (pH (pH pNil))))) rfl ?_
      refine k_skip rfl rfl (pSub (pH (pH (pH (pH pNil))))) rfl ?_
      refine k_skip rfl rfl (pSub (pH (pH (pH (pH pNil))))) rfl ?_
      refine k_skip rfl rfl (pSub (pH (pH (pH (pH pNil))))) rfl ?_
      obtain rfl := sI h
      have h := hg25; clear hg25
      refine k_val (v := .bool false) rfl rfl rfl (pSub (pH (pH (pH (pH pNil))))) (stepV_ok tt_ok rfl) rfl ?_
      refine k_val rfl rfl rfl (pSub (pH (pH (pH (pH pNil))))) (stepV_ok tt_ok rfl) rfl ?_
      refine k_end (by kernel_rfl) ?_
      refine wx_block (wx_then (wc_region (wP (v := .int .i64 (IntKind.wrap .i64 (za + (1 : Int)))) rfl rfl (wP rfl rfl (wl_nil ?_)))))
      exact wx_round m11 (Nat.lt_succ_self m11) ⟨false, (IntKind.wrap .i64 (za + (1 : Int))), h, rfl, rfl⟩ (agree_cons rfl (agree_cons rfl (agree_cons rfl (agree_cons rfl (agree_cons rfl (agree_cons rfl (agree_cons rfl agree_nil))))))) (pSub (pCons (sC hC) (pCons (sC hC) (pCons (sC hC) pNil))))
    replace h := cf hx180 h
    rcases Bool.eq_false_or_eq_true (za == (1 : Int)) with hx181 | hx181
    · replace h := ct hx181 h
      refine wl_val (v := agP p0.Players.2) (val_iv (j := 1) tt_ok rfl rfl rfl rfl (by simpa using hx181) rfl rfl) rfl ?_
      refine wl_alloc tt_ok rfl rfl (fun b7 => ?_)
      apply wl_store tt_ok; rfl; exact Upd.here; rfl; rfl; rfl; rfl; rfl; rfl
      refine wl_nil (wx_then (wc_k2 (Ls := (⟨b7, (pl7 p0.Players.2 []), 55, (0, 0)⟩ :: (⟨b1, (st19 p0 p0a0 p0n0 p0c0 []), 61, (0, 0)⟩ :: (⟨b3, [.int .i32 (0 : Int), .int .i32 (61440 : Int), .int .i32 (0 : Int), .int .i32 (28672 : Int), .int .i32 ((-1024) : Int), .int .i32 (1024 : Int), .int .i32 ((-1024) : Int), .int .i32 (1024 : Int), .int .i32 (1 : Int), .int .i32 (100 : Int), .int .i32 (0 : Int), .int .i32 (30 : Int), .int .i32 (0 : Int), .int .i32 (3 : Int)], 109, (0, 0)⟩ :: (⟨b4, [.int .i32 (0 : Int), .int .i32 (65024 : Int), .int .i32 (0 : Int), .int .i32 (32256 : Int), .int .i32 ((-2048) : Int), .int .i32 (2048 : Int), .int .i32 ((-2048) : Int), .int .i32 (2048 : Int), .int .i32 (0 : Int), .int .i32 (1 : Int), .int .i32 (1 : Int), .int .i32 (40 : Int)], 110, (0, 0)⟩ :: []))))) [3, 5] [] [0, 1, 3, 7, 3, 31, 63, 127] [0, 1, 2, 4, 3, 5, 6, 7] (by kernel_rfl) (by kernel_rfl) (by kernel_rfl) ?_))
      refine k_val rfl rfl rfl (pSub (pH (pH (pH (pH pNil))))) (stepV_ok tt_ok rfl) rfl ?_
      refine k_val rfl rfl rfl (pSub (pH (pH (pH (pH pNil))))) (stepV_ok tt_ok rfl) rfl ?_
      replace h := bsome h; obtain ⟨v25, h, hg25⟩ := h
      refine k_split (t := 20) rfl (fun hc => ?_) (fun hc => ?_)
      · replace h := ct hc h
        refine k_val (v := agP p0.Players.2) rfl rfl rfl (pSub (pH (pH (pH (pH pNil))))) (val_load tt_ok rfl (mH) rfl) rfl ?_
        refine k_val (v := .slice (some ⟨b3, 0, none⟩) 7 7) rfl rfl rfl (pSub (pH (pH (pH (pH pNil))))) (val_sla tt_ok rfl rfl rfl rfl) rfl ?_
        replace h := bsome h; obtain ⟨v22, x22, h⟩ := h
        refine k_cs rfl rfl rfl Tryd.call64 rfl rfl rfl (s_sp (k_state_ofPlayer x22) pNil (fun _ _ => trivial)) rfl (.inr (by rintro _ _ ⟨_, ⟨_, _, _, _, _, _, rfl, rfl⟩, rfl⟩; exact ⟨_, (pCons (sA hC) (pCons (sA hC) (pCons (sA hC) (pCons (sA hC) pNil))))⟩)) ?_
        rintro _ _ ⟨_, ⟨v22a0, v22n0, v22c0, v22B0, v22N0, v22V0, rfl, rfl⟩, rfl⟩
        replace h := bsome h; obtain ⟨v24, x24, h⟩ := h
        refine k_cq rfl rfl rfl Tryd.call63 rfl rfl rfl (q_pf (k_state_within (p0 := v22) (p1 := ([((0 : Int), (61440 : Int)), ((0 : Int), (28672 : Int)), (((-1024) : Int), (1024 : Int)), (((-1024) : Int), (1024 : Int)), ((1 : Int), (100 : Int)), ((0 : Int), (30 : Int)), ((0 : Int), (3 : Int))] : List (Int × Int))) v22N0 (vec_cap v22V0) rfl (Nat.le_refl _) x24) (fun w hI => ⟨(Rds.call (Rds.of_vec v22V0) pNil ⟨_, hA'⟩) w hI, (Rds.call (Rds.of_blk (t := 109) (fz := (0, 0))) pNil ⟨_, (sA (sC (sC hC)))⟩) w hI⟩)) rfl (pSub (pCons (sA hC) (pCons (sA hC) (pCons (sA hC) (pCons (sA hC) pNil))))) ?_
        obtain rfl := sI h
        have h := hg25; clear hg25
        refine k_val (v := .bool v24) rfl rfl rfl (pSub (pCons (sA hC) (pCons (sA hC) (pCons (sA hC) (pCons (sA hC) pNil))))) (stepV_ok tt_ok rfl) rfl ?_
        refine k_val rfl rfl rfl (pSub (pCons (sA hC) (pCons (sA hC) (pCons (sA hC) (pCons (sA hC) pNil))))) (stepV_ok tt_ok rfl) rfl ?_
        refine k_end (by kernel_rfl) ?_
        refine wx_block (wx_then (wc_region (wP (v := .int .i64 (IntKind.wrap .i64 (za + (1 : Int)))) rfl rfl (wP rfl rfl (wl_nil ?_)))))
        exact wx_round m11 (Nat.lt_succ_self m11) ⟨v24, (IntKind.wrap .i64 (za + (1 : Int))), h, rfl, rfl⟩ (agree_cons rfl (agree_cons rfl (agree_cons rfl (agree_cons rfl (agree_cons rfl (agree_cons rfl (agree_cons rfl agree_nil))))))) (pSub (pCons (sA (sC hC)) (pCons (sA (sC hC)) (pCons (sA (sC hC)) pNil))))
      replace h := cf hc h
      refine k_skip rfl rfl (pSub (pH (pH (pH (pH pNil))))) rfl ?_
      refine k_skip rfl rfl (pSub (pH (pH (pH (pH pNil))))) rfl ?_
      refine k_skip rfl rfl (pSub (pH (pH (pH (pH pNil))))) rfl ?_
      refine k_skip rfl rfl (pSub (pH (pH (pH (pH pNil))))) rfl ?_
      obtain rfl := sI h
      have h := hg25; clear hg25
      refine k_val (v := .bool false) rfl rfl rfl (pSub (pH (pH (pH (pH pNil))))) (stepV_ok tt_ok rfl) rfl ?_
      refine k_val rfl rfl rfl (pSub (pH (pH (pH (pH pNil))))) (stepV_ok tt_ok rfl) rfl ?_
      refine k_end (by kernel_rfl) ?_
      refine wx_block (wx_then (wc_region (wP (v := .int .i64 (IntKind.wrap .i64 (za + (1 : Int)))) rfl rfl (wP rfl rfl (wl_nil ?_)))))
      exact wx_round m11 (Nat.lt_succ_self m11) ⟨false, (IntKind.wrap .i64 (za + (1 : Int))), h, rfl, rfl⟩ (agree_cons rfl (agree_cons rfl (agree_cons rfl (agree_cons rfl (agree_cons rfl (agree_cons rfl (agree_cons rfl agree_nil))))))) (pSub (pCons (sC hC) (pCons (sC hC) (pCons (sC hC) pNil))))
    replace h := cf hx181 h
    cases h
  replace h := cf hc h
  refine wc_exit (wx_then_exit ?_)
  obtain rfl := sI h
  have h := hl11; clear hl11; try dsimp only [orE_l, orE_r] at h
  refine wx_then_exit (wx_block_exit (wx_then (wc_seq (wc_seq (wc_region ?_)))))
  refine wP rfl rfl (wP (v := .bool (!zb)) rfl rfl (wP rfl rfl ?_))
  replace h := bsome h; obtain ⟨v34, h, hg34⟩ := h
  refine wl_split (t := 29) rfl (fun hc => ?_) (fun hc => ?_)
  · replace h := ct hc h
    refine wl_skip rfl rfl (wl_skip rfl rfl (wl_skip rfl rfl (wl_skip rfl rfl ?_)))
    obtain rfl := sI h
    have h := hg34; clear hg34
    refine wP (v := .bool true) rfl rfl (wl_nil (wx_then ?_))
    replace h := ct rfl h
    refine wc_cond_true rfl ?_
    refine wc_seq (wc_region (wP rfl rfl (wl_nil (wx_then (wc_ret (wx_then_ret ?_))))))
    obtain rfl := sI h
    exact wx_pf tt_ok (.inl rfl) Tryd.results43 (Res.tmp rfl Res.nil) rfl
  replace h := cf hc h
  refine wl_run rfl (wP (v := .pointer (some ⟨b1, 16, none⟩)) rfl rfl (wl_run rfl (wl_val (v := .slice p0a0 p0n0 p0c0) (val_load tt_ok rfl (mH) rfl) rfl (wl_run rfl (wP rfl rfl ?_)))))
  replace h := bsome h; obtain ⟨v33, x33, h⟩ := h
  refine wl_run rfl (wl_cq Tryd.call65 rfl rfl rfl (q_rd (k_slices_ContainsFunc___api_Shot_api_Shot_f1_state_Check_1 (p0 := p0.Shots) p0N0 p0H0 x33) (pCons (sC (sC hC)) pNil) (Rds.call p0S0 (pCons (sC (sC hC)) pNil) rsub_nil)) rfl ?_)
  obtain rfl := sI h
  have h := hg34; clear hg34
  refine wP (v := .bool v33) rfl rfl (wl_nil (wx_then (wc_cond rfl (fun hc => ?_) (fun hc => ?_))))
  · replace h := ct hc h
    refine wc_seq (wc_region (wP rfl rfl (wl_nil (wx_then (wc_ret (wx_then_ret ?_))))))
    obtain rfl := sI h
    exact wx_pf tt_ok (.inl rfl) Tryd.results43 (Res.tmp rfl Res.nil) rfl
  replace h := cf hc h
  refine wc_skip (wx_then (wc_seq (wc_region (wP rfl rfl (wl_nil (wx_then (wc_ret ?_)))))))
  obtain rfl := sI h
  exact wx_pf tt_ok (.inl rfl) Tryd.results43 (Res.tmp rfl Res.nil) rfl

theorem k_slices_Clone___api_Shot_api_Shot {F : Nat} {p0 : (List T_api_Shot)} {p0a0 : Option Addr} {p0n0 p0c0 : Nat} {r0 : (List T_api_Shot)} (p0N0 : p0n0 = p0.length) (p0H0 : p0n0 ≤ p0c0) (h : m_slices_Clone___api_Shot_api_Shot F p0 = some r0) :
    SpD Tryd.prog 68 [.slice p0a0 p0n0 p0c0] [] (fun w => Rds w (ids []) [] p0a0 (flat c_T_api_Shot p0)) (fun v D => ∃ (r0a0 : Option Addr) (r0n0 : Nat) (r0c0 : Nat) (r0B0 : List Blk), r0n0 = r0.length ∧ Own 92 6 r0a0 r0n0 r0c0 (flat c_T_api_Shot r0) r0B0 ∧ v = .slice r0a0 r0n0 r0c0 ∧ D = fun F => (r0B0 ++ F)) := by
  unfold m_slices_Clone___api_Shot_api_Shot at h
  refine sp_of_wc Tryd.func68 rfl Tryd.ntmps68 rfl rfl (fun w0 hR => ?_)
  have p0S0 := hR
  refine wc_seq (wc_region (wP rfl rfl (wl_nil (wx_then (wc_seq (wc_seq (wc_region (wP rfl rfl ?_))))))))
  rcases p0a0 with _ | dp0a0
  · obtain rfl : p0 = [] := rds_none p0S0 c_T_api_Shot_len (by decide)
    refine wP (v := .bool true) rfl rfl (wl_nil (wx_then (wc_cond_true rfl (wc_seq (wc_region (wP rfl rfl (wl_nil (wx_then (wc_ret (wx_then_ret ?_))))))))))
    simp [appI] at h
    obtain rfl := h
    exact wx_spD tt_ok (.inl rfl) Tryd.results68 (Res.tmp rfl Res.nil) ⟨none, 0, 0, [], rfl, Own.zero, rfl, rfl⟩ (fun F => by simp) (pSub (pNo pNil))
  refine wP (v := .bool false) rfl rfl (wl_nil (wx_then (wc_cond_false rfl (wc_skip (wx_then (wc_seq (wc_region (wl_chg (chg_bsv (enc := c_T_api_Shot) (xs := ([] : List T_api_Shot)) tt_ok rfl rfl rfl rfl rfl rfl rfl rfl c_T_api_Shot_len) rfl ?_))))))))
  rintro _ _ ⟨a5, n5_, c5, B5, rfl, N5, V5, rfl⟩
  refine wP rfl rfl ?_
  replace h := bsome h; obtain ⟨v7, x7, h⟩ := h
  refine wl_chg (chg_app (enc := c_T_api_Shot) (ys := p0) tt_ok rfl rfl rfl rfl rfl rfl N5 p0N0 V5 hA' p0S0 rsub_nil c_T_api_Shot_len (fun _ => rfl) rfl x7) rfl ?_
  rintro _ _ ⟨a7, n7_, c7, B7, rfl, N7, V7, rfl⟩
  refine wP rfl rfl (wl_nil (wx_then (wc_ret ?_)))
  obtain rfl := sI h
  exact wx_spD tt_ok (.inl rfl) Tryd.results68 (Res.tmp rfl Res.nil) ⟨a7, n7_, c7, B7, N7, V7, rfl, rfl⟩ (fun F => by simp) (pSub (pA pNil))

theorem k_state_Copy {F : Nat} {p0 : T_api_State} {p0a0 : Option Addr} {p0n0 p0c0 : Nat} {r0 : T_api_State} (p0N0 : p0n0 = p0.Shots.length) (p0H0 : p0n0 ≤ p0c0) (h : m_state_Copy F p0 = some r0) :
    SpD Tryd.prog 44 [agS p0 p0a0 p0n0 p0c0] [] (fun w => Rds w (ids []) [] p0a0 (flat c_T_api_Shot p0.Shots)) (fun v D => ∃ (r0a0 : Option Addr) (r0n0 : Nat) (r0c0 : Nat) (r0B0 : List Blk), r0n0 = r0.Shots.length ∧ Own 92 6 r0a0 r0n0 r0c0 (flat c_T_api_Shot r0.Shots) r0B0 ∧ v = agS r0 r0a0 r0n0 r0c0 ∧ D = fun F => (r0B0 ++ F)) := by
  unfold m_state_Copy at h
  refine sp_of_wc Tryd.func44 rfl Tryd.ntmps44 rfl rfl (fun w0 hR => ?_)
  have p0S0 := hR
  refine wc_seq (wc_region (wl_box rfl rfl rfl (fun b1 => (wl_alloc tt_ok rfl rfl (fun b2 => (wl_nil (wx_then (wc_seq (wc_region (wP (v := .pointer (some ⟨b1, 16, none⟩)) rfl rfl (wl_val (v := .slice p0a0 p0n0 p0c0) (val_load tt_ok rfl (mT (mH)) rfl) rfl ?_)))))))))))
  replace h := bsome h; obtain ⟨v5, x5, h⟩ := h
  refine wl_cs Tryd.call68 rfl rfl rfl (s_sp (k_slices_Clone___api_Shot_api_Shot (p0 := p0.Shots) p0N0 p0H0 x5) pNil (Rds.call p0S0 pNil rsub_nil)) rfl ?_
  rintro _ _ ⟨_, ⟨v5a0, v5n0, v5c0, v5B0, v5N0, v5V0, rfl, rfl⟩, rfl⟩
  refine wP (v := .pointer (some ⟨b1, 16, none⟩)) rfl rfl ?_
  apply wl_store tt_ok; rfl; exact (Upd.right (Upd.there Upd.here)); rfl; rfl; rfl; rfl; rfl; rfl
  refine wl_nil (wx_then (wc_seq (wc_region (wl_val (v := agS p0 v5a0 v5n0 v5c0) (val_load tt_ok rfl (mR (mT (mH))) rfl) rfl ?_))))
  apply wl_store tt_ok; rfl; exact (Upd.right Upd.here); rfl; rfl; rfl; rfl; rfl; rfl
  refine wl_nil (wx_then (wc_ret ?_))
  obtain rfl := sI h
  exact wx_spD tt_ok (.inl rfl) Tryd.results44 (Res.cell rfl (mR (mH)) rfl Res.nil) ⟨v5a0, v5n0, v5c0, v5B0, v5N0, v5V0, rfl, rfl⟩ (fun F => by simp) (pSub (pA pNil))

theorem k_queue_New {F : Nat} {p0 : Int} {r0 : T_queue_Queue} (h : m_queue_New F p0 = some r0) :
    SpD Tryd.prog 45 [.int .u64 p0] [] (fun w => True) (fun v D => ∃ (r0b : Nat) (r0a0 : Option Addr) (r0n0 : Nat) (r0c0 : Nat) (r0B0 : List Blk), r0n0 = r0.l.length ∧ Own 34 1 r0a0 r0n0 r0c0 (flat (e1 .u8) r0.l) r0B0 ∧ v = .pointer (some ⟨r0b, 0, none⟩) ∧ D = fun F => (⟨r0b, [.int .u64 r0.first_, .slice r0a0 r0n0 r0c0, .int .u8 r0.last], 103, (0, 0)⟩ :: (r0B0 ++ F))) := by
  unfold m_queue_New at h
  refine sp_of_wc Tryd.func45 rfl Tryd.ntmps45 rfl rfl (fun w0 hR => ?_)
  refine wc_seq (wc_region (wP rfl rfl (wl_nil (wx_then (wc_seq (wc_region (wP rfl rfl (wP (v := .agg #[.int .u64 p0, .slice none 0 0, .int .u8 (0 : Int)]) rfl rfl (wl_box rfl rfl rfl (fun b5 => (wP rfl rfl (wl_nil (wx_then (wc_ret ?_))))))))))))))
  obtain rfl := sI h
  exact wx_spD tt_ok (.inl rfl) Tryd.results45 (Res.tmp rfl Res.nil) ⟨b5, none, 0, 0, [], rfl, Own.zero, rfl, rfl⟩ (fun F => by simp) (pSub (pH (pNo pNil)))

theorem k_ring_New {F : Nat} {p0 : Int} {r0 : T_ring_Ring} (h : m_ring_New F p0 = some (some r0)) :
    SpD Tryd.prog 46 [.int .i64 p0] [] (fun w => True) (fun v D => ∃ (r0b : Nat) (r0g0 : List (T_ring_place × G)) (r0P0 : List Blk), r0.places.1 = unG r0g0 ∧ AllP sh_T_ring_place c_T_api_Shot r0P0 r0g0 ∧ v = .pointer (some ⟨r0b, 0, none⟩) ∧ D = fun F => (⟨r0b, ([.int .i64 r0.size] ++ flat cg_T_ring_place r0g0), 121, (0, 0)⟩ :: (r0P0 ++ F))) := by
  unfold m_ring_New at h
  refine sp_of_wc Tryd.func46 rfl Tryd.ntmps46 rfl rfl (fun w0 hR => ?_)
  refine wc_seq (wc_region (wP rfl rfl (wl_nil (wx_then (wc_seq (wc_seq (wc_region (wP rfl rfl (wP (v := .bool (decide (p0 < (1 : Int)))) rfl rfl (wP rfl rfl ?_))))))))))
  replace h := bsome h; obtain ⟨v8, h, hg8⟩ := h
  refine wl_split (t := 5) rfl (fun hc => ?_) (fun hc => ?_)
  · replace h := ct hc h
    refine wl_skip rfl rfl (wl_skip rfl rfl ?_)
    simp only [Option.some.injEq, Prod.mk.injEq] at h
    obtain rfl := h
    have h := hg8; clear hg8
    refine wP (v := .bool true) rfl rfl (wl_nil (wx_then ?_))
    replace h := ct rfl h
    refine wc_cond_true rfl ?_
    refine wc_seq (wc_region (wP rfl rfl (wl_nil (wx_then (wc_ret (wx_then_ret ?_))))))
    first | (cases h; done) | simp at h
  replace h := cf hc h
  refine wl_run rfl (wP rfl rfl (wl_run rfl (wP (v := .bool (decide ((14 : Int) < p0))) rfl rfl ?_)))
  simp only [Option.some.injEq, Prod.mk.injEq] at h
  obtain rfl := h
  have h := hg8; clear hg8
  refine wP (v := .bool (decide ((14 : Int) < p0))) rfl rfl (wl_nil (wx_then (wc_cond rfl (fun hc => ?_) (fun hc => ?_))))
  · replace h := ct hc h
    refine wc_seq (wc_region (wP rfl rfl (wl_nil (wx_then (wc_ret (wx_then_ret ?_))))))
    first | (cases h; done) | simp at h
  replace h := cf hc h
  refine wc_skip (wx_then (wc_seq (wc_region (wP rfl rfl (wP (v := .agg (([.int .i64 p0] ++ flat cg_T_ring_place (List.replicate 14 ((T_ring_place.mk (T_api_State.mk (0 : Int) (0 : Int) ((T_api_Player.mk (0 : Int) (0 : Int) (0 : Int) (0 : Int) (0 : Int) (0 : Int) (0 : Int)), (T_api_Player.mk (0 : Int) (0 : Int) (0 : Int) (0 : Int) (0 : Int) (0 : Int) (0 : Int))) ([] : List T_api_Shot) ((0 : Int), (0 : Int))) false), ((none, 0, 0) : G)))) : List Value).toArray) rfl rfl (wl_box rfl rfl rfl (fun b11 => (wP rfl rfl (wl_nil (wx_then (wc_ret ?_)))))))))))
  simp only [Option.some.injEq] at h
  obtain rfl := h
  exact wx_spD tt_ok (.inl rfl) Tryd.results46 (Res.tmp rfl Res.nil) ⟨b11, (List.replicate 14 ((T_ring_place.mk (T_api_State.mk (0 : Int) (0 : Int) ((T_api_Player.mk (0 : Int) (0 : Int) (0 : Int) (0 : Int) (0 : Int) (0 : Int) (0 : Int)), (T_api_Player.mk (0 : Int) (0 : Int) (0 : Int) (0 : Int) (0 : Int) (0 : Int) (0 : Int))) ([] : List T_api_Shot) ((0 : Int), (0 : Int))) false), ((none, 0, 0) : G))), [], (unG_rep 14), (fun _ _ => allrd_rep 14 rfl), rfl, rfl⟩ (fun F => by simp) (pSub (pH (pNo pNil)))

theorem k_ring_New_none {F : Nat} {p0 : Int} (h : m_ring_New F p0 = some none) :
    SpD Tryd.prog 46 [.int .i64 p0] [] (fun w => True) (fun v D => v = .pointer none ∧ D = fun F => F) := by
  unfold m_ring_New at h
  refine sp_of_wc Tryd.func46 rfl Tryd.ntmps46 rfl rfl (fun w0 hR => ?_)
  refine wc_seq (wc_region (wP rfl rfl (wl_nil (wx_then (wc_seq (wc_seq (wc_region (wP rfl rfl (wP (v := .bool (decide (p0 < (1 : Int)))) rfl rfl (wP rfl rfl ?_))))))))))
  replace h := bsome h; obtain ⟨v8, h, hg8⟩ := h
  refine wl_split (t := 5) rfl (fun hc => ?_) (fun hc => ?_)
  · replace h := ct hc h
    refine wl_skip rfl rfl (wl_skip rfl rfl ?_)
    simp only [Option.some.injEq, Prod.mk.injEq] at h
    obtain rfl := h
    have h := hg8; clear hg8
    refine wP (v := .bool true) rfl rfl (wl_nil (wx_then ?_))
    replace h := ct rfl h
    refine wc_cond_true rfl ?_
    refine wc_seq (wc_region (wP rfl rfl (wl_nil (wx_then (wc_ret (wx_then_ret ?_))))))
    simp only [Option.some.injEq] at h
    exact wx_spD tt_ok (.inl rfl) Tryd.results46 (Res.tmp rfl Res.nil) ⟨rfl, rfl⟩ (fun F => by simp) (pSub pNil)
  replace h := cf hc h
  refine wl_run rfl (wP rfl rfl (wl_run rfl (wP (v := .bool (decide ((14 : Int) < p0))) rfl rfl ?_)))
  simp only [Option.some.injEq, Prod.mk.injEq] at h
  obtain rfl := h
  have h := hg8; clear hg8
  refine wP (v := .bool (decide ((14 : Int) < p0))) rfl rfl (wl_nil (wx_then (wc_cond rfl (fun hc => ?_) (fun hc => ?_))))
  · replace h := ct hc h
    refine wc_seq (wc_region (wP rfl rfl (wl_nil (wx_then (wc_ret (wx_then_ret ?_))))))
    simp only [Option.some.injEq] at h
    exact wx_spD tt_ok (.inl rfl) Tryd.results46 (Res.tmp rfl Res.nil) ⟨rfl, rfl⟩ (fun F => by simp) (pSub pNil)
  replace h := cf hc h
  refine wc_skip (wx_then (wc_seq (wc_region (wP rfl rfl (wP (v := .agg (([.int .i64 p0] ++ flat cg_T_ring_place (List.replicate 14 ((T_ring_place.mk (T_api_State.mk (0 : Int) (0 : Int) ((T_api_Player.mk (0 : Int) (0 : Int) (0 : Int) (0 : Int) (0 : Int) (0 : Int) (0 : Int)), (T_api_Player.mk (0 : Int) (0 : Int) (0 : Int) (0 : Int) (0 : Int) (0 : Int) (0 : Int))) ([] : List T_api_Shot) ((0 : Int), (0 : Int))) false), ((none, 0, 0) : G)))) : List Value).toArray) rfl rfl (wl_box rfl rfl rfl (fun b11 => (wP rfl rfl (wl_nil (wx_then (wc_ret ?_)))))))))))
  first | (cases h; done) | simp at h

theorem k_ring_Ring_is_nil0 {F : Nat} {r0 : Bool} (h : m_ring_Ring_is_nil0 F = some r0) :
    Pf Tryd.prog 60 [.pointer none] (fun w => True) (.bool r0) := by
  unfold m_ring_Ring_is_nil0 at h
  refine pf_of_wc Tryd.func60 rfl Tryd.ntmps60 rfl rfl (fun w0 hR => ?_)
  refine wc_seq (wc_region (wP rfl rfl (wl_nil (wx_then (wc_seq (wc_region (wP rfl rfl (wP (v := .bool false) rfl rfl (wP rfl rfl (wl_skip rfl rfl (wl_skip rfl rfl (wl_skip rfl rfl (wl_skip rfl rfl (wl_skip rfl rfl (wP (v := .bool false) rfl rfl (wP rfl rfl (wl_nil (wx_then (wc_ret ?_)))))))))))))))))))
  obtain rfl := sI h
  exact wx_pf tt_ok (.inl rfl) Tryd.results60 (Res.tmp rfl Res.nil) rfl

theorem k_ring_Ring_Put_nil0 {F : Nat} {p1 : T_api_State} {p1a0 : Option Addr} {p1n0 p1c0 : Nat} {r0 : Bool} (p1N0 : p1n0 = p1.Shots.length) (p1H0 : p1n0 ≤ p1c0) (h : m_ring_Ring_Put_nil0 F p1 = some r0) :
    Pf Tryd.prog 39 [.pointer none, agS p1 p1a0 p1n0 p1c0] (fun w => Rds w [] [] p1a0 (flat c_T_api_Shot p1.Shots) ∧ Rds w [] [] (some ⟨0, 0, none⟩) (flat (fun _ : Unit => gl_state_playerBounds) [()]) ∧ Rds w [] [] (some ⟨1, 0, none⟩) (flat (fun _ : Unit => gl_state_shotBounds) [()])) (.bool r0) := by
  unfold m_ring_Ring_Put_nil0 at h
  refine pf_of_wc Tryd.func39 rfl Tryd.ntmps39 rfl rfl (fun w0 hR => ?_)
  obtain ⟨p1S0, G0S, G1S⟩ := hR
  refine wc_seq (wc_region (wl_box rfl rfl rfl (fun b3 => (wP rfl rfl (wl_nil (wx_then (wc_seq (wc_seq (wc_region (wP rfl rfl ?_))))))))))
  replace h := bsome h; obtain ⟨v7, x7, h⟩ := h
  refine wl_cq Tryd.call60 rfl rfl rfl (q_pf (k_ring_Ring_is_nil0 x7) (fun _ _ => trivial)) rfl ?_
  refine wP (v := .bool (!v7)) rfl rfl (wP rfl rfl ?_)
  replace h := bsome h; obtain ⟨v13, h, hg13⟩ := h
  refine wl_split (t := 9) rfl (fun hc => ?_) (fun hc => ?_)
  · replace h := ct hc h
    refine wl_skip rfl rfl (wl_skip rfl rfl (wl_skip rfl rfl ?_))
    obtain rfl := sI h
    have h := hg13; clear hg13
    refine wP (v := .bool true) rfl rfl (wl_nil (wx_then ?_))
    replace h := ct rfl h
    refine wc_cond_true rfl ?_
    refine wc_seq (wc_region (wP rfl rfl (wl_nil (wx_then (wc_ret (wx_then_ret ?_))))))
    obtain rfl := sI h
    exact wx_pf tt_ok (.inl rfl) Tryd.results39 (Res.tmp rfl Res.nil) rfl
  replace h := cf hc h
  refine wl_run rfl (wl_val (v := agS p1 p1a0 p1n0 p1c0) (val_load tt_ok rfl (mH) rfl) rfl ?_)
  replace h := bsome h; obtain ⟨v11, x11, h⟩ := h
  refine wl_run rfl (wl_cq Tryd.call43 rfl rfl rfl (q_pf (k_state_Check (p0 := p1) p1N0 p1H0 x11) (fun w hI => ⟨(Rds.call p1S0 pNil rsub_nil) w hI, (Rds.call G0S pNil rsub_nil) w hI, (Rds.call G1S pNil rsub_nil) w hI⟩)) rfl (wl_run rfl (wP (v := .bool (v11 != (0 : Int))) rfl rfl ?_)))
  obtain rfl := sI h
  have h := hg13; clear hg13
  refine wP (v := .bool (v11 != (0 : Int))) rfl rfl (wl_nil (wx_then (wc_cond rfl (fun hc => ?_) (fun hc => ?_))))
  · replace h := ct hc h
    refine wc_seq (wc_region (wP rfl rfl (wl_nil (wx_then (wc_ret (wx_then_ret ?_))))))
    obtain rfl := sI h
    exact wx_pf tt_ok (.inl rfl) Tryd.results39 (Res.tmp rfl Res.nil) rfl
  replace h := cf hc h
  refine wc_skip (wx_then (wc_seq (wc_region (wP rfl rfl (wP (v := .pointer (some ⟨b3, 0, none⟩)) rfl rfl (wl_val (v := .int .u64 p1.Frame) (val_load tt_ok rfl (mH) rfl) rfl (wl_inl Tryd.call61 rfl rfl rfl Tryd.func61 rfl Tryd.ntmps61 rfl rfl rfl (wc_seq (wc_region (wP rfl rfl (wl_nil (wx_then (wc_seq (wc_quiet (by kernel_rfl) (by kernel_rfl) (qP rfl rfl (qP rfl rfl (qP rfl rfl ?_)))))))))))))))))
  cases h

theorem k_ring_Ring_is {F : Nat} {p0 : T_ring_Ring} {p0b p0t : Nat} {p0g0 : List (T_ring_place × G)} {p0P0 : List Blk} {r0 : Bool} (p0G0 : p0.places.1 = unG p0g0) (p0A0 : AllP sh_T_ring_place c_T_api_Shot p0P0 p0g0) (h : m_ring_Ring_is F p0 = some r0) :
    Rd2 Tryd.prog 60 [.pointer (some ⟨p0b, 0, none⟩)] (⟨p0b, ([.int .i64 p0.size] ++ flat cg_T_ring_place p0g0), p0t, (0, 0)⟩ :: (p0P0 ++ [])) (fun w => True) (.bool r0) := by
  unfold m_ring_Ring_is at h
  refine sp_of_wc Tryd.func60 rfl Tryd.ntmps60 rfl rfl (fun w0 hR => ?_)
  refine wc_seq (wc_region (wP rfl rfl (wl_nil (wx_then (wc_seq (wc_region (wP rfl rfl (wP (v := .bool true) rfl rfl (wP rfl rfl (wl_run rfl (wP rfl rfl (wl_run rfl (wP rfl rfl (wl_run rfl (wP (v := .pointer (some ⟨p0b, 0, none⟩)) rfl rfl (wl_run rfl (wl_val (v := .int .i64 p0.size) (val_load tt_ok rfl (mH) rfl) rfl (wl_run rfl (wP (v := .bool (decide ((0 : Int) < p0.size))) rfl rfl (wP (v := .bool (decide ((0 : Int) < p0.size))) rfl rfl (wP rfl rfl ?_)))))))))))))))))))))
  refine wl_nil (wx_then (wc_ret ?_))
  obtain rfl := sI h
  exact wx_rd tt_ok (.inl rfl) Tryd.results60 (Res.tmp rfl Res.nil) (pSub (pH (pA pNil))) rfl

theorem k_ring_told {F : Nat} {p0 : T_api_State} {p0a0 : Option Addr} {p0n0 p0c0 : Nat} {r0 : T_api_State} (p0N0 : p0n0 = p0.Shots.length) (p0H0 : p0n0 ≤ p0c0) (p0Z0 : p0a0 = none → p0c0 = 0) (h : m_ring_told F p0 = some r0) :
    SpD Tryd.prog 62 [agS p0 p0a0 p0n0 p0c0] [] (fun w => Rds w (ids []) [] p0a0 (flat c_T_api_Shot p0.Shots)) (fun v D => ∃ (r0a0 : Option Addr) (r0n0 : Nat) (r0c0 : Nat) (r0B0 : List Blk), r0n0 = r0.Shots.length ∧ Own 92 6 r0a0 r0n0 r0c0 (flat c_T_api_Shot r0.Shots) r0B0 ∧ v = agS r0 r0a0 r0n0 r0c0 ∧ D = fun F => (r0B0 ++ F)) := by
  unfold m_ring_told at h
  refine sp_of_wc Tryd.func62 rfl Tryd.ntmps62 rfl rfl (fun w0 hR => ?_)
  have p0S0 := hR
  refine wc_seq (wc_region (wl_box rfl rfl rfl (fun b1 => (wl_alloc tt_ok rfl rfl (fun b2 => (wl_nil (wx_then (wc_seq (wc_seq (wc_region (wP (v := .pointer (some ⟨b1, 16, none⟩)) rfl rfl (wl_val (v := .slice p0a0 p0n0 p0c0) (val_load tt_ok rfl (mT (mH)) rfl) rfl ?_))))))))))))
  rcases p0a0 with _ | dp0a0
  · have hz_ : p0.Shots = [] := rds_none p0S0 c_T_api_Shot_len (by decide)
    obtain rfl : p0n0 = 0 := by rw [p0N0, hz_]; rfl
    obtain rfl : p0c0 = 0 := p0Z0 rfl
    refine wP (v := .bool false) rfl rfl (wl_nil (wx_then (wc_cond_false rfl (wc_skip (wx_then (wc_seq (wc_region (wl_val (v := agS p0 none 0 0) (val_load tt_ok rfl (mT (mH)) rfl) rfl ?_))))))))
    apply wl_store tt_ok; rfl; exact Upd.here; rfl; rfl; rfl; rfl; rfl; rfl
    refine wl_nil (wx_then (wc_ret ?_))
    simp [hz_, appI, mkI, copyL] at h
    obtain rfl := h
    exact wx_spD tt_ok (.inl rfl) Tryd.results62 (Res.cell rfl (mH) rfl Res.nil) ⟨none, 0, 0, [], rfl, Own.zero, rfl, rfl⟩ (fun F => by simp) (pSub (pNo pNil))
  refine wP (v := .bool true) rfl rfl (wl_nil (wx_then (wc_cond_true rfl (wc_seq (wc_region (wP (v := .pointer (some ⟨b1, 16, none⟩)) rfl rfl (wl_val (v := .slice (some dp0a0) p0n0 p0c0) (val_load tt_ok rfl (mT (mH)) rfl) rfl (wl_val (v := .int .i64 (p0.Shots.length : Int)) (val_len tt_ok rfl rfl p0N0) rfl ?_))))))))
  replace h := bsome h; obtain ⟨v10, x10, h⟩ := h
  refine wl_chg (chg_make (enc := c_T_api_Shot) tt_ok rfl rfl rfl rfl rfl rfl c_T_api_Shot_len rfl x10) rfl ?_
  rintro _ _ ⟨a10, n10_, c10, B10, rfl, N10, V10, rfl⟩
  refine wP rfl rfl (wl_nil (wx_then (wc_seq (wc_region (wP rfl rfl (wP (v := .pointer (some ⟨b1, 16, none⟩)) rfl rfl (wl_val (v := .slice (some dp0a0) p0n0 p0c0) (val_load tt_ok rfl (mR (mT (mH))) rfl) rfl (wl_chg (chg_copy (enc := c_T_api_Shot) (ys := p0.Shots) tt_ok rfl rfl rfl rfl N10 p0N0 V10 hA' p0S0 rsub_nil c_T_api_Shot_len (fun _ => rfl)) rfl ?_))))))))
  rintro _ _ ⟨Bk10_3, rfl, Nk10_3, Vk10_3, rfl⟩
  refine wl_nil (wx_then (wc_region (wP rfl rfl (wP (v := .pointer (some ⟨b1, 16, none⟩)) rfl rfl ?_))))
  apply wl_store tt_ok; rfl; exact (Upd.right (Upd.there Upd.here)); rfl; rfl; rfl; rfl; rfl; rfl
  refine wl_nil (wx_then (wc_seq (wc_region (wl_val (v := agS p0 a10 n10_ c10) (val_load tt_ok rfl (mR (mT (mH))) rfl) rfl ?_))))
  apply wl_store tt_ok; rfl; exact (Upd.right Upd.here); rfl; rfl; rfl; rfl; rfl; rfl
  refine wl_nil (wx_then (wc_ret ?_))
  obtain rfl := sI h
  exact wx_spD tt_ok (.inl rfl) Tryd.results62 (Res.cell rfl (mR (mH)) rfl Res.nil) ⟨a10, n10_, c10, Bk10_3, Nk10_3, Vk10_3, rfl, rfl⟩ (fun F => by simp) (pSub (pA pNil))

theorem k_ring_Ring_Put {F : Nat} {p0 : T_ring_Ring} {p0b p0t : Nat} {p0g0 : List (T_ring_place × G)} {p0P0 : List Blk} {p1 : T_api_State} {p1a0 : Option Addr} {p1n0 p1c0 : Nat} {r0 : T_ring_Ring} {r1 : Bool} (p0G0 : p0.places.1 = unG p0g0) (p0A0 : AllP sh_T_ring_place c_T_api_Shot p0P0 p0g0) (p1N0 : p1n0 = p1.Shots.length) (p1H0 : p1n0 ≤ p1c0) (p1Z0 : p1a0 = none → p1c0 = 0) (h : m_ring_Ring_Put F p0 p1 = some (r0, r1)) :
    SpD Tryd.prog 39 [.pointer (some ⟨p0b, 0, none⟩), agS p1 p1a0 p1n0 p1c0] (⟨p0b, ([.int .i64 p0.size] ++ flat cg_T_ring_place p0g0), p0t, (0, 0)⟩ :: (p0P0 ++ [])) (fun w => Rds w (ids (⟨p0b, ([.int .i64 p0.size] ++ flat cg_T_ring_place p0g0), p0t, (0, 0)⟩ :: (p0P0 ++ []))) [] p1a0 (flat c_T_api_Shot p1.Shots) ∧ Rds w (ids (⟨p0b, ([.int .i64 p0.size] ++ flat cg_T_ring_place p0g0), p0t, (0, 0)⟩ :: (p0P0 ++ []))) [] (some ⟨0, 0, none⟩) (flat (fun _ : Unit => gl_state_playerBounds) [()]) ∧ Rds w (ids (⟨p0b, ([.int .i64 p0.size] ++ flat cg_T_ring_place p0g0), p0t, (0, 0)⟩ :: (p0P0 ++ []))) [] (some ⟨1, 0, none⟩) (flat (fun _ : Unit => gl_state_shotBounds) [()])) (fun v D => ∃ (r0g0 : List (T_ring_place × G)) (r0P0 : List Blk), r0.places.1 = unG r0g0 ∧ AllP sh_T_ring_place c_T_api_Shot r0P0 r0g0 ∧ v = .bool r1 ∧ D = fun F => (⟨p0b, ([.int .i64 r0.size] ++ flat cg_T_ring_place r0g0), p0t, (0, 0)⟩ :: (r0P0 ++ F))) := by
  unfold m_ring_Ring_Put at h
  refine sp_of_wc Tryd.func39 rfl Tryd.ntmps39 rfl rfl (fun w0 hR => ?_)
  obtain ⟨p1S0, G0S, G1S⟩ := hR
  refine wc_seq (wc_region (wl_box rfl rfl rfl (fun b3 => (wP rfl rfl (wl_nil (wx_then (wc_seq (wc_seq (wc_region (wP rfl rfl ?_))))))))))
  replace h := bsome h; obtain ⟨v7, x7, h⟩ := h
  refine wl_cq Tryd.call60 rfl rfl rfl (q_rd (k_ring_Ring_is (p0 := p0) p0G0 p0A0 x7) (pCons (sC hC) (pApp (sC hA') pNil)) (fun _ _ => trivial)) rfl ?_
  refine wP (v := .bool (!v7)) rfl rfl (wP rfl rfl ?_)
  replace h := bsome h; obtain ⟨v13, h, hg13⟩ := h
  refine wl_split (t := 9) rfl (fun hc => ?_) (fun hc => ?_)
  · replace h := ct hc h
    refine wl_skip rfl rfl (wl_skip rfl rfl (wl_skip rfl rfl ?_))
    obtain rfl := sI h
    have h := hg13; clear hg13
    refine wP (v := .bool true) rfl rfl (wl_nil (wx_then ?_))
    replace h := ct rfl h
    refine wc_cond_true rfl ?_
    refine wc_seq (wc_region (wP rfl rfl (wl_nil (wx_then (wc_ret (wx_then_ret ?_))))))
    simp only [Option.some.injEq, Prod.mk.injEq] at h
    obtain ⟨rfl, rfl⟩ := h
    exact wx_spD tt_ok (.inl rfl) Tryd.results39 (Res.tmp rfl Res.nil) ⟨p0g0, p0P0, p0G0, p0A0, rfl, rfl⟩ (fun F => by simp) (pSub (pCons (sC hC) (pApp (sC hA') pNil)))
  replace h := cf hc h
  refine wl_run rfl (wl_val (v := agS p1 p1a0 p1n0 p1c0) (val_load tt_ok rfl (mH) rfl) rfl ?_)
  replace h := bsome h; obtain ⟨v11, x11, h⟩ := h
  refine wl_run rfl (wl_cq Tryd.call43 rfl rfl rfl (q_pf (k_state_Check (p0 := p1) p1N0 p1H0 x11) (fun w hI => ⟨(Rds.call p1S0 pNil rsub_nil) w hI, (Rds.call G0S pNil rsub_nil) w hI, (Rds.call G1S pNil rsub_nil) w hI⟩)) rfl (wl_run rfl (wP (v := .bool (v11 != (0 : Int))) rfl rfl ?_)))
  obtain rfl := sI h
  have h := hg13; clear hg13
  refine wP (v := .bool (v11 != (0 : Int))) rfl rfl (wl_nil (wx_then (wc_cond rfl (fun hc => ?_) (fun hc => ?_))))
  · replace h := ct hc h
    refine wc_seq (wc_region (wP rfl rfl (wl_nil (wx_then (wc_ret (wx_then_ret ?_))))))
    simp only [Option.some.injEq, Prod.mk.injEq] at h
    obtain ⟨rfl, rfl⟩ := h
    exact wx_spD tt_ok (.inl rfl) Tryd.results39 (Res.tmp rfl Res.nil) ⟨p0g0, p0P0, p0G0, p0A0, rfl, rfl⟩ (fun F => by simp) (pSub (pCons (sC hC) (pApp (sC hA') pNil)))
  replace h := cf hc h
  refine wc_skip (wx_then (wc_seq (wc_region (wP rfl rfl (wP (v := .pointer (some ⟨b3, 0, none⟩)) rfl rfl (wl_val (v := .int .u64 p1.Frame) (val_load tt_ok rfl (mH) rfl) rfl (wl_inl Tryd.call61 rfl rfl rfl Tryd.func61 rfl Tryd.ntmps61 rfl rfl rfl (wc_seq (wc_region (wP rfl rfl (wl_nil (wx_then (wc_seq (wc_quiet (by kernel_rfl) (by kernel_rfl) (qP rfl rfl (qP rfl rfl (qP rfl rfl (qP rfl rfl (qP (v := .pointer (some ⟨p0b, 0, none⟩)) rfl rfl (wq_val (v := .int .i64 p0.size) (val_load tt_ok rfl (mT (mH)) rfl) rfl (qP (v := .int .u64 (IntKind.wrap .u64 p0.size)) rfl rfl ?_)))))))))))))))))))))
  replace h := bsome h; obtain ⟨v100012, x100012, h⟩ := h
  refine wq_val (v := .int .u64 v100012) (val_rem rfl rfl x100012) rfl ?_
  refine qP rfl rfl (qP (v := .pointer (some ⟨p0b, 1, none⟩)) rfl rfl ?_)
  replace h := bsome h; obtain ⟨v100015, x100015, h⟩ := h
  obtain ⟨G100015, y100015⟩ := getI_g p0G0 x100015
  refine wq_val (v := .pointer (some ⟨p0b, 1 + v100012.toNat * 20 + 0, none⟩)) (val_xa (a := p0.places) tt_ok rfl rfl rfl rfl x100015) rfl ?_
  refine qP rfl rfl (wq_nil (wx_then (wc_ret (wx_inl (v := .pointer (some ⟨p0b, 1 + v100012.toNat * 20 + 0, none⟩)) tt_ok (.inl rfl) Tryd.results61 (Res.tmp rfl Res.nil) rfl (wP rfl rfl (wl_nil (wx_then (wc_seq (wc_seq (wc_quiet (by kernel_rfl) (by kernel_rfl) (qP rfl rfl (qP rfl rfl (qP (v := .pointer (some ⟨p0b, 1 + v100012.toNat * 20 + 19, none⟩)) rfl rfl (wq_val (v := .bool v100015.is_) (val_xl (enc := cg_T_ring_place) (pre := [.int .i64 p0.size]) (post := []) (xs := p0g0) tt_ok rfl (mT (mH)) c_np rfl cg_T_ring_place_len y100015 rfl) rfl (qP rfl rfl ?_)))))))))))))))
  replace h := bsome h; obtain ⟨v31, h, hg31⟩ := h
  refine wq_split (t := 22) rfl (fun hc => ?_) (fun hc => ?_)
  · replace h := ct hc h
    refine wq_run rfl (qP rfl rfl (wq_run rfl (qP rfl rfl (wq_run rfl (qP (v := .pointer (some ⟨p0b, 1 + v100012.toNat * 20 + 0, none⟩)) rfl rfl (wq_run rfl (qP (v := .pointer (some ⟨p0b, 1 + v100012.toNat * 20 + 0, none⟩)) rfl rfl (wq_run rfl (wq_val (v := .int .u64 v100015.s.Frame) (val_xl (enc := cg_T_ring_place) (pre := [.int .i64 p0.size]) (post := []) (xs := p0g0) tt_ok rfl (mT (mH)) c_np rfl cg_T_ring_place_len y100015 rfl) rfl (wq_run rfl (qP (v := .pointer (some ⟨b3, 0, none⟩)) rfl rfl (wq_run rfl (wq_val (v := .int .u64 p1.Frame) (val_load tt_ok rfl (mH) rfl) rfl (wq_run rfl (qP (v := .bool (decide (p1.Frame < v100015.s.Frame))) rfl rfl ?_)))))))))))))))
    obtain rfl := sI h
    have h := hg31; clear hg31
    refine qP (v := .bool (decide (p1.Frame < v100015.s.Frame))) rfl rfl (wq_nil (wx_then (wc_cond rfl (fun hc => ?_) (fun hc => ?_))))
    · replace h := ct hc h
      refine wc_seq (wc_region (wP rfl rfl (wl_nil (wx_then (wc_ret (wx_then_ret ?_))))))
      simp only [Option.some.injEq, Prod.mk.injEq] at h
      obtain ⟨rfl, rfl⟩ := h
      exact wx_spD tt_ok (.inl rfl) Tryd.results39 (Res.tmp rfl Res.nil) ⟨p0g0, p0P0, p0G0, p0A0, rfl, rfl⟩ (fun F => by simp) (pSub (pCons (sC hC) (pApp (sC hA') pNil)))
    replace h := cf hc h
    refine wc_skip (wx_then (wc_seq (wc_region (wP rfl rfl (wl_val (v := agS p1 p1a0 p1n0 p1c0) (val_load tt_ok rfl (mH) rfl) rfl ?_)))))
    replace h := bsome h; obtain ⟨v34, x34, h⟩ := h
    refine wl_cs Tryd.call62 rfl rfl rfl (s_sp (k_ring_told (p0 := p1) p1N0 p1H0 p1Z0 x34) pNil (Rds.call p1S0 pNil rsub_nil)) rfl ?_
    rintro _ _ ⟨_, ⟨v34a0, v34n0, v34c0, v34B0, v34N0, v34V0, rfl, rfl⟩, rfl⟩
    refine wP (v := .agg #[.int .u64 v34.Frame, .int .u64 v34.Seed, .int .i32 v34.Players.1.X, .int .i32 v34.Players.1.Y, .int .i32 v34.Players.1.VX, .int .i32 v34.Players.1.VY, .int .u8 v34.Players.1.Health, .int .u8 v34.Players.1.Cool, .int .u8 v34.Players.1.Face, .int .i32 v34.Players.2.X, .int .i32 v34.Players.2.Y, .int .i32 v34.Players.2.VX, .int .i32 v34.Players.2.VY, .int .u8 v34.Players.2.Health, .int .u8 v34.Players.2.Cool, .int .u8 v34.Players.2.Face, .slice v34a0 v34n0 v34c0, .int .u16 v34.Score.1, .int .u16 v34.Score.2, .bool true]) rfl rfl (wP rfl rfl (wl_sub (L' := ((p0P0 ++ v34B0) ++ (⟨b3, (st19 p1 p1a0 p1n0 p1c0 []), 61, (0, 0)⟩ :: (⟨p0b, ([.int .i64 p0.size] ++ flat cg_T_ring_place p0g0), p0t, (0, 0)⟩ :: [])))) (pMerge (sA (sC (sC hA'))) hA') ?_))
    refine wl_chg0 (chg_stx (enc := cg_T_ring_place) (pre := [.int .i64 p0.size]) (post := []) (xs := p0g0) (y' := ((T_ring_place.mk v34 true), (v34a0, v34n0, v34c0))) (c' := ([.int .i64 p0.size] ++ flat cg_T_ring_place (setI p0g0 v100012 ((T_ring_place.mk v34 true), (v34a0, v34n0, v34c0))))) tt_ok rfl rfl rfl rfl rfl rfl (Upd.right (Upd.there Upd.here)) c_np c_np rfl cg_T_ring_place_len y100015 rfl (by intro h; cases h)) ?_
    rintro _ _ rfl
    refine wl_nil (wx_then (wc_seq (wc_region (wP rfl rfl (wl_nil (wx_then (wc_ret ?_)))))))
    simp only [Option.some.injEq, Prod.mk.injEq] at h
    obtain ⟨rfl, rfl⟩ := h
    exact wx_spD tt_ok (.inl rfl) Tryd.results39 (Res.tmp rfl Res.nil) ⟨(setI p0g0 v100012 ((T_ring_place.mk v34 true), (v34a0, v34n0, v34c0))), (p0P0 ++ v34B0), (setI_g p0G0 v100012 ((T_ring_place.mk v34 true), (v34a0, v34n0, v34c0))), (fun w A => allrd_set (allrd_left (p0A0 w A)) (allrd_one (sh := sh_T_ring_place) (x := (T_ring_place.mk v34 true)) (s := v34.Shots) rfl v34N0 (vec_cap v34V0) (Rds.right (Rds.of_vec v34V0)) (own_Z v34V0))), rfl, rfl⟩ (fun F => by simp) (pSub (pCons (sA (sC hC)) (pA pNil)))
  replace h := cf hc h
  refine wq_skip rfl rfl (wq_skip rfl rfl (wq_skip rfl rfl (wq_skip rfl rfl (wq_skip rfl rfl (wq_skip rfl rfl (wq_skip rfl rfl (wq_skip rfl rfl ?_)))))))
  obtain rfl := sI h
  have h := hg31; clear hg31
  refine qP (v := .bool false) rfl rfl (wq_nil (wx_then ?_))
  replace h := cf rfl h
  refine wc_cond_false rfl ?_
  refine wc_skip (wx_then (wc_seq (wc_region (wP rfl rfl (wl_val (v := agS p1 p1a0 p1n0 p1c0) (val_load tt_ok rfl (mH) rfl) rfl ?_)))))
  replace h := bsome h; obtain ⟨v34, x34, h⟩ := h
  refine wl_cs Tryd.call62 rfl rfl rfl (s_sp (k_ring_told (p0 := p1) p1N0 p1H0 p1Z0 x34) pNil (Rds.call p1S0 pNil rsub_nil)) rfl ?_
  rintro _ _ ⟨_, ⟨v34a0, v34n0, v34c0, v34B0, v34N0, v34V0, rfl, rfl⟩, rfl⟩
  refine wP (v := .agg #[.int .u64 v34.Frame, .int .u64 v34.Seed, .int .i32 v34.Players.1.X, .int .i32 v34.Players.1.Y, .int .i32 v34.Players.1.VX, .int .i32 v34.Players.1.VY, .int .u8 v34.Players.1.Health, .int .u8 v34.Players.1.Cool, .int .u8 v34.Players.1.Face, .int .i32 v34.Players.2.X, .int .i32 v34.Players.2.Y, .int .i32 v34.Players.2.VX, .int .i32 v34.Players.2.VY, .int .u8 v34.Players.2.Health, .int .u8 v34.Players.2.Cool, .int .u8 v34.Players.2.Face, .slice v34a0 v34n0 v34c0, .int .u16 v34.Score.1, .int .u16 v34.Score.2, .bool true]) rfl rfl (wP rfl rfl (wl_sub (L' := ((p0P0 ++ v34B0) ++ (⟨b3, (st19 p1 p1a0 p1n0 p1c0 []), 61, (0, 0)⟩ :: (⟨p0b, ([.int .i64 p0.size] ++ flat cg_T_ring_place p0g0), p0t, (0, 0)⟩ :: [])))) (pMerge (sA (sC (sC hA'))) hA') ?_))
  refine wl_chg0 (chg_stx (enc := cg_T_ring_place) (pre := [.int .i64 p0.size]) (post := []) (xs := p0g0) (y' := ((T_ring_place.mk v34 true), (v34a0, v34n0, v34c0))) (c' := ([.int .i64 p0.size] ++ flat cg_T_ring_place (setI p0g0 v100012 ((T_ring_place.mk v34 true), (v34a0, v34n0, v34c0))))) tt_ok rfl rfl rfl rfl rfl rfl (Upd.right (Upd.there Upd.here)) c_np c_np rfl cg_T_ring_place_len y100015 rfl (by intro h; cases h)) ?_
  rintro _ _ rfl
  refine wl_nil (wx_then (wc_seq (wc_region (wP rfl rfl (wl_nil (wx_then (wc_ret ?_)))))))
  simp only [Option.some.injEq, Prod.mk.injEq] at h
  obtain ⟨rfl, rfl⟩ := h
  exact wx_spD tt_ok (.inl rfl) Tryd.results39 (Res.tmp rfl Res.nil) ⟨(setI p0g0 v100012 ((T_ring_place.mk v34 true), (v34a0, v34n0, v34c0))), (p0P0 ++ v34B0), (setI_g p0G0 v100012 ((T_ring_place.mk v34 true), (v34a0, v34n0, v34c0))), (fun w A => allrd_set (allrd_left (p0A0 w A)) (allrd_one (sh := sh_T_ring_place) (x := (T_ring_place.mk v34 true)) (s := v34.Shots) rfl v34N0 (vec_cap v34V0) (Rds.right (Rds.of_vec v34V0)) (own_Z v34V0))), rfl, rfl⟩ (fun F => by simp) (pSub (pCons (sA (sC hC)) (pA pNil)))

theorem k_rollback_New {F : Nat} {p0 : T_api_State} {p0a0 : Option Addr} {p0n0 p0c0 : Nat} {p1 : Int} {p2 : Int} {r0 : (T_rollback_Engine × T_queue_Queue × T_ring_Ring)} (p0N0 : p0n0 = p0.Shots.length) (p0H0 : p0n0 ≤ p0c0) (p0Z0 : p0a0 = none → p0c0 = 0) (h : m_rollback_New F p0 p1 p2 = some (some r0)) :
    SpD Tryd.prog 22 [agS p0 p0a0 p0n0 p0c0, .int .u8 p1, .int .i64 p2] [] (fun w => Rds w (ids []) [] p0a0 (flat c_T_api_Shot p0.Shots) ∧ Rds w (ids []) [] (some ⟨0, 0, none⟩) (flat (fun _ : Unit => gl_state_playerBounds) [()]) ∧ Rds w (ids []) [] (some ⟨1, 0, none⟩) (flat (fun _ : Unit => gl_state_shotBounds) [()])) (fun v D => ∃ (r0b : Nat) (r0b_4 : Nat) (r0b_5 : Nat) (r0a0 : Option Addr) (r0n0 : Nat) (r0c0 : Nat) (r0B0 : List Blk) (r0a1 : Option Addr) (r0n1 : Nat) (r0c1 : Nat) (r0B1 : List Blk) (r0_4a0 : Option Addr) (r0_4n0 : Nat) (r0_4c0 : Nat) (r0_4B0 : List Blk) (r0_5g0 : List (T_ring_place × G)) (r0_5P0 : List Blk), r0n0 = r0.1.sure.Shots.length ∧ Own 92 6 r0a0 r0n0 r0c0 (flat c_T_api_Shot r0.1.sure.Shots) r0B0 ∧ r0n1 = r0.1.own.length ∧ Own 34 1 r0a1 r0n1 r0c1 (flat (e1 .u8) r0.1.own) r0B1 ∧ r0_4n0 = r0.2.1.l.length ∧ Own 34 1 r0_4a0 r0_4n0 r0_4c0 (flat (e1 .u8) r0.2.1.l) r0_4B0 ∧ r0.2.2.places.1 = unG r0_5g0 ∧ AllP sh_T_ring_place c_T_api_Shot r0_5P0 r0_5g0 ∧ v = .pointer (some ⟨r0b, 0, none⟩) ∧ D = fun F => (⟨r0b, (.int .u8 r0.1.player :: .int .i64 r0.1.window :: st19 r0.1.sure r0a0 r0n0 r0c0 [.slice r0a1 r0n1 r0c1, .pointer (some ⟨r0b_4, 0, none⟩), .pointer (some ⟨r0b_5, 0, none⟩)]), 73, (0, 0)⟩ :: (r0B0 ++ (r0B1 ++ (⟨r0b_4, [.int .u64 r0.2.1.first_, .slice r0_4a0 r0_4n0 r0_4c0, .int .u8 r0.2.1.last], 103, (0, 0)⟩ :: (r0_4B0 ++ (⟨r0b_5, ([.int .i64 r0.2.2.size] ++ flat cg_T_ring_place r0_5g0), 121, (0, 0)⟩ :: (r0_5P0 ++ F)))))))) := by
  unfold m_rollback_New at h
  refine sp_of_wc Tryd.func22 rfl Tryd.ntmps22 rfl rfl (fun w0 hR => ?_)
  obtain ⟨p0S0, G0S, G1S⟩ := hR
  refine wc_seq (wc_region (wl_box rfl rfl rfl (fun b3 => (wP rfl rfl (wl_nil (wx_then (wc_seq (wc_seq (wc_region (wl_val (v := agS p0 p0a0 p0n0 p0c0) (val_load tt_ok rfl (mH) rfl) rfl ?_))))))))))
  replace h := bsome h; obtain ⟨v9, x9, h⟩ := h
  refine wl_cq Tryd.call43 rfl rfl rfl (q_pf (k_state_Check (p0 := p0) p0N0 p0H0 x9) (fun w hI => ⟨(Rds.call p0S0 pNil rsub_nil) w hI, (Rds.call G0S pNil rsub_nil) w hI, (Rds.call G1S pNil rsub_nil) w hI⟩)) rfl ?_
  refine wP (v := .bool (v9 != (0 : Int))) rfl rfl (wP rfl rfl ?_)
  replace h := bsome h; obtain ⟨v15, h, hg15⟩ := h
  refine wl_split (t := 11) rfl (fun hc => ?_) (fun hc => ?_)
  · replace h := ct hc h
    refine wl_skip rfl rfl (wl_skip rfl rfl (wl_skip rfl rfl ?_))
    simp only [Option.some.injEq, Prod.mk.injEq] at h
    obtain rfl := h
    have h := hg15; clear hg15
    refine wP (v := .bool true) rfl rfl (wP rfl rfl ?_)
    replace h := bsome h; obtain ⟨v19, h, hg19⟩ := h
    replace h := ct rfl h
    refine wl_skip rfl rfl (wl_skip rfl rfl ?_)
    simp only [Option.some.injEq, Prod.mk.injEq] at h
    obtain rfl := h
    have h := hg19; clear hg19
    refine wP (v := .bool true) rfl rfl (wP rfl rfl ?_)
    replace h := bsome h; obtain ⟨v23, h, hg23⟩ := h
    replace h := ct rfl h
    refine wl_skip rfl rfl (wl_skip rfl rfl ?_)
    simp only [Option.some.injEq, Prod.mk.injEq] at h
    obtain rfl := h
    have h := hg23; clear hg23
    refine wP (v := .bool true) rfl rfl (wP rfl rfl ?_)
    replace h := bsome h; obtain ⟨v27, h, hg27⟩ := h
    replace h := ct rfl h
    refine wl_skip rfl rfl (wl_skip rfl rfl ?_)
    simp only [Option.some.injEq, Prod.mk.injEq] at h
    obtain rfl := h
    have h := hg27; clear hg27
    refine wP (v := .bool true) rfl rfl (wl_nil (wx_then ?_))
    replace h := ct rfl h
    refine wc_cond_true rfl ?_
    refine wc_seq (wc_region (wP rfl rfl (wl_nil (wx_then (wc_ret (wx_then_ret ?_))))))
    first | (cases h; done) | simp at h
  replace h := cf hc h
  refine wl_run rfl (wP (v := .pointer (some ⟨b3, 0, none⟩)) rfl rfl (wl_run rfl (wl_val (v := .int .u64 p0.Frame) (val_load tt_ok rfl (mH) rfl) rfl (wl_run rfl (wP (v := .bool (decide ((9223372036854775808 : Int) < p0.Frame))) rfl rfl ?_)))))
  simp only [Option.some.injEq, Prod.mk.injEq] at h
  obtain rfl := h
  have h := hg15; clear hg15
  refine wP (v := .bool (decide ((9223372036854775808 : Int) < p0.Frame))) rfl rfl (wP rfl rfl ?_)
  replace h := bsome h; obtain ⟨v19, h, hg19⟩ := h
  refine wl_split (t := 16) rfl (fun hc => ?_) (fun hc => ?_)
  · replace h := ct hc h
    refine wl_skip rfl rfl (wl_skip rfl rfl ?_)
    simp only [Option.some.injEq, Prod.mk.injEq] at h
    obtain rfl := h
    have h := hg19; clear hg19
    refine wP (v := .bool true) rfl rfl (wP rfl rfl ?_)
    replace h := bsome h; obtain ⟨v23, h, hg23⟩ := h
    replace h := ct rfl h
    refine wl_skip rfl rfl (wl_skip rfl rfl ?_)
    simp only [Option.some.injEq, Prod.mk.injEq] at h
    obtain rfl := h
    have h := hg23; clear hg23
    refine wP (v := .bool true) rfl rfl (wP rfl rfl ?_)
    replace h := bsome h; obtain ⟨v27, h, hg27⟩ := h
    replace h := ct rfl h
    refine wl_skip rfl rfl (wl_skip rfl rfl ?_)
    simp only [Option.some.injEq, Prod.mk.injEq] at h
    obtain rfl := h
    have h := hg27; clear hg27
    refine wP (v := .bool true) rfl rfl (wl_nil (wx_then ?_))
    replace h := ct rfl h
    refine wc_cond_true rfl ?_
    refine wc_seq (wc_region (wP rfl rfl (wl_nil (wx_then (wc_ret (wx_then_ret ?_))))))
    first | (cases h; done) | simp at h
  replace h := cf hc h
  refine wl_run rfl (wP rfl rfl (wl_run rfl (wP (v := .bool (decide ((1 : Int) < p1))) rfl rfl ?_)))
  simp only [Option.some.injEq, Prod.mk.injEq] at h
  obtain rfl := h
  have h := hg19; clear hg19
  refine wP (v := .bool (decide ((1 : Int) < p1))) rfl rfl (wP rfl rfl ?_)
  replace h := bsome h; obtain ⟨v23, h, hg23⟩ := h
  refine wl_split (t := 20) rfl (fun hc => ?_) (fun hc => ?_)
  · replace h := ct hc h
    refine wl_skip rfl rfl (wl_skip rfl rfl ?_)
    simp only [Option.some.injEq, Prod.mk.injEq] at h
    obtain rfl := h
    have h := hg23; clear hg23
    refine wP (v := .bool true) rfl rfl (wP rfl rfl ?_)
    replace h := bsome h; obtain ⟨v27, h, hg27⟩ := h
    replace h := ct rfl h
    refine wl_skip rfl rfl (wl_skip rfl rfl ?_)
    simp only [Option.some.injEq, Prod.mk.injEq] at h
    obtain rfl := h
    have h := hg27; clear hg27
    refine wP (v := .bool true) rfl rfl (wl_nil (wx_then ?_))
    replace h := ct rfl h
    refine wc_cond_true rfl ?_
    refine wc_seq (wc_region (wP rfl rfl (wl_nil (wx_then (wc_ret (wx_then_ret ?_))))))
    first | (cases h; done) | simp at h
  replace h := cf hc h
  refine wl_run rfl (wP rfl rfl (wl_run rfl (wP (v := .bool (decide (p2 < (1 : Int)))) rfl rfl ?_)))
  simp only [Option.some.injEq, Prod.mk.injEq] at h
  obtain rfl := h
  have h := hg23; clear hg23
  refine wP (v := .bool (decide (p2 < (1 : Int)))) rfl rfl (wP rfl rfl ?_)
  replace h := bsome h; obtain ⟨v27, h, hg27⟩ := h
  refine wl_split (t := 24) rfl (fun hc => ?_) (fun hc => ?_)
  · replace h := ct hc h
    refine wl_skip rfl rfl (wl_skip rfl rfl ?_)
    simp only [Option.some.injEq, Prod.mk.injEq] at h
    obtain rfl := h
    have h := hg27; clear hg27
    refine wP (v := .bool true) rfl rfl (wl_nil (wx_then ?_))
    replace h := ct rfl h
    refine wc_cond_true rfl ?_
    refine wc_seq (wc_region (wP rfl rfl (wl_nil (wx_then (wc_ret (wx_then_ret ?_))))))
    first | (cases h; done) | simp at h
  replace h := cf hc h
  refine wl_run rfl (wP rfl rfl (wl_run rfl (wP (v := .bool (decide ((12 : Int) < p2))) rfl rfl ?_)))
  simp only [Option.some.injEq, Prod.mk.injEq] at h
  obtain rfl := h
  have h := hg27; clear hg27
  refine wP (v := .bool (decide ((12 : Int) < p2))) rfl rfl (wl_nil (wx_then (wc_cond rfl (fun hc => ?_) (fun hc => ?_))))
  · replace h := ct hc h
    refine wc_seq (wc_region (wP rfl rfl (wl_nil (wx_then (wc_ret (wx_then_ret ?_))))))
    first | (cases h; done) | simp at h
  replace h := cf hc h
  refine wc_skip (wx_then (wc_seq (wc_k2 (Ls := (⟨b3, (st19 p0 p0a0 p0n0 p0c0 []), 61, (0, 0)⟩ :: [])) [3, 6, 9, 10, 11, 12] [10, 11, 12] [0, 0, 0, 4, 0, 16, 60, 0, 128, 508, 1023, 2047, 4095] [0, 1, 2, 4, 5, 7, 8, 3, 6, 9, 10, 11, 12] (by kernel_rfl) (by kernel_rfl) (by kernel_rfl) ?_)))
  refine k_val rfl rfl rfl (pSub (pH pNil)) (stepV_ok tt_ok rfl) rfl ?_
  refine k_val rfl rfl rfl (pSub (pH pNil)) (stepV_ok tt_ok rfl) rfl ?_
  refine k_val (v := agS p0 p0a0 p0n0 p0c0) rfl rfl rfl (pSub (pH pNil)) (val_load tt_ok rfl (mH) rfl) rfl ?_
  refine k_val (v := .pointer (some ⟨b3, 0, none⟩)) rfl rfl rfl (pSub (pH pNil)) (stepV_ok tt_ok rfl) rfl ?_
  refine k_val (v := .int .u64 p0.Frame) rfl rfl rfl (pSub (pH pNil)) (val_load tt_ok rfl (mH) rfl) rfl ?_
  refine k_val rfl rfl rfl (pSub (pH pNil)) (stepV_ok tt_ok rfl) rfl ?_
  refine k_val (v := .int .i64 (IntKind.wrap .i64 (p2 + (2 : Int)))) rfl rfl rfl (pSub (pH pNil)) (stepV_ok tt_ok rfl) rfl ?_
  replace h := bsome h; obtain ⟨v31, x31, h⟩ := h
  refine k_cs rfl rfl rfl Tryd.call44 rfl rfl rfl (s_sp (k_state_Copy (p0 := p0) p0N0 p0H0 x31) pNil (Rds.call p0S0 pNil rsub_nil)) rfl (.inr (by rintro _ _ ⟨_, ⟨_, _, _, _, _, _, rfl, rfl⟩, rfl⟩; exact ⟨_, (pCons (sA hC) pNil)⟩)) ?_
  rintro _ _ ⟨_, ⟨v31a0, v31n0, v31c0, v31B0, v31N0, v31V0, rfl, rfl⟩, rfl⟩
  replace h := bsome h; obtain ⟨v34, x34, h⟩ := h
  refine k_cs rfl rfl rfl Tryd.call45 rfl rfl rfl (s_sp (k_queue_New x34) pNil (fun _ _ => trivial)) rfl (.inr (by rintro _ _ ⟨_, ⟨_, _, _, _, _, _, _, rfl, rfl⟩, rfl⟩; exact ⟨_, (pCons (sC (sA (sA hC))) pNil)⟩)) ?_
  rintro _ _ ⟨_, ⟨zb, v34a0, v34n0, v34c0, v34B0, v34N0, v34V0, rfl, rfl⟩, rfl⟩
  replace h := bsome h; obtain ⟨v37, x37, h⟩ := h
  rcases v37 with _ | v37s
  · replace h := poN h
    refine k_cs rfl rfl rfl Tryd.call46 rfl rfl rfl (s_sp (k_ring_New_none x37) pNil (fun _ _ => trivial)) rfl (.inr (by rintro _ _ ⟨_, ⟨rfl, rfl⟩, rfl⟩; exact ⟨_, (pCons (sC (sA (sA hC))) pNil)⟩)) ?_
    rintro _ _ ⟨_, ⟨rfl, rfl⟩, rfl⟩
    refine k_chg rfl rfl rfl (Chg.of_val (v := .agg #[.int .u8 p1, .int .i64 p2, .int .u64 v31.Frame, .int .u64 v31.Seed, .int .i32 v31.Players.1.X, .int .i32 v31.Players.1.Y, .int .i32 v31.Players.1.VX, .int .i32 v31.Players.1.VY, .int .u8 v31.Players.1.Health, .int .u8 v31.Players.1.Cool, .int .u8 v31.Players.1.Face, .int .i32 v31.Players.2.X, .int .i32 v31.Players.2.Y, .int .i32 v31.Players.2.VX, .int .i32 v31.Players.2.VY, .int .u8 v31.Players.2.Health, .int .u8 v31.Players.2.Cool, .int .u8 v31.Players.2.Face, .slice v31a0 v31n0 v31c0, .int .u16 v31.Score.1, .int .u16 v31.Score.2, .slice none 0 0, .pointer (some ⟨zb, 0, none⟩), .pointer none]) (stepV_ok tt_ok rfl)) rfl (.inl rfl) ?_
    rintro _ _ ⟨rfl, rfl⟩
    refine k_chg rfl rfl rfl (chg_box rfl rfl) rfl (.inl rfl) ?_
    rintro _ _ ⟨b39, rfl, rfl⟩
    refine k_chg rfl rfl rfl (Chg.of_val (stepV_ok tt_ok rfl)) rfl (.inl rfl) ?_
    rintro _ _ ⟨rfl, rfl⟩
    refine k_end (by kernel_rfl) ?_
    refine wx_then (wc_seq (wc_quiet (by kernel_rfl) (by kernel_rfl) (qP rfl rfl (qP rfl rfl (qP (v := .pointer (some ⟨b39, 23, none⟩)) rfl rfl (wq_val (v := .pointer none) (val_load tt_ok rfl (mH) rfl) rfl (wq_val (v := agS p0 p0a0 p0n0 p0c0) (val_load tt_ok rfl (mT (mT (mR (mR (mH))))) rfl) rfl ?_)))))))
    replace h := bsome h; obtain ⟨v45, x45, h⟩ := h
    refine wq_cq Tryd.call39 rfl rfl rfl (q_pf (k_ring_Ring_Put_nil0 (p1 := p0) p0N0 p0H0 x45) (fun w hI => ⟨(Rds.call p0S0 pNil rsub_nil) w hI, (Rds.call G0S pNil rsub_nil) w hI, (Rds.call G1S pNil rsub_nil) w hI⟩)) rfl ?_
    refine wq_nil (wx_then (wc_seq (wc_region ?_)))
    iterate 2 refine wP rfl rfl ?_
    refine wl_nil (wx_then (wc_ret ?_))
    cases h
  replace h := poS h
  refine k_cs rfl rfl rfl Tryd.call46 rfl rfl rfl (s_sp (k_ring_New x37) pNil (fun _ _ => trivial)) rfl (.inr (by rintro _ _ ⟨_, ⟨_, _, _, _, _, rfl, rfl⟩, rfl⟩; exact ⟨_, (pCons (sC (sA (sC (sA (sA hC))))) pNil)⟩)) ?_
  rintro _ _ ⟨_, ⟨zc, v37sg0, v37sP0, v37sG0, v37sA0, rfl, rfl⟩, rfl⟩
  refine k_chg rfl rfl rfl (Chg.of_val (v := .agg #[.int .u8 p1, .int .i64 p2, .int .u64 v31.Frame, .int .u64 v31.Seed, .int .i32 v31.Players.1.X, .int .i32 v31.Players.1.Y, .int .i32 v31.Players.1.VX, .int .i32 v31.Players.1.VY, .int .u8 v31.Players.1.Health, .int .u8 v31.Players.1.Cool, .int .u8 v31.Players.1.Face, .int .i32 v31.Players.2.X, .int .i32 v31.Players.2.Y, .int .i32 v31.Players.2.VX, .int .i32 v31.Players.2.VY, .int .u8 v31.Players.2.Health, .int .u8 v31.Players.2.Cool, .int .u8 v31.Players.2.Face, .slice v31a0 v31n0 v31c0, .int .u16 v31.Score.1, .int .u16 v31.Score.2, .slice none 0 0, .pointer (some ⟨zb, 0, none⟩), .pointer (some ⟨zc, 0, none⟩)]) (stepV_ok tt_ok rfl)) rfl (.inl rfl) ?_
  rintro _ _ ⟨rfl, rfl⟩
  refine k_chg rfl rfl rfl (chg_box rfl rfl) rfl (.inl rfl) ?_
  rintro _ _ ⟨b39, rfl, rfl⟩
  refine k_chg rfl rfl rfl (Chg.of_val (stepV_ok tt_ok rfl)) rfl (.inl rfl) ?_
  rintro _ _ ⟨rfl, rfl⟩
  refine k_end (by kernel_rfl) ?_
  refine wx_then (wc_seq (wc_k2 (Ls := (⟨b39, (.int .u8 p1 :: .int .i64 p2 :: st19 v31 v31a0 v31n0 v31c0 [.slice none 0 0, .pointer (some ⟨zb, 0, none⟩), .pointer (some ⟨zc, 0, none⟩)]), 73, (0, 0)⟩ :: (⟨zc, ([.int .i64 v37s.size] ++ flat cg_T_ring_place v37sg0), 121, (0, 0)⟩ :: (v37sP0 ++ (⟨zb, [.int .u64 v34.first_, .slice v34a0 v34n0 v34c0, .int .u8 v34.last], 103, (0, 0)⟩ :: (v34B0 ++ (v31B0 ++ (⟨b3, (st19 p0 p0a0 p0n0 p0c0 []), 61, (0, 0)⟩ :: [])))))))) [5] [5] [0, 1, 3, 7, 0, 31] [0, 1, 2, 3, 4, 5] (by kernel_rfl) (by kernel_rfl) (by kernel_rfl) ?_))
  refine k_val rfl rfl rfl (pSub (pH (pH (pA (pH (pA (pA (pH pNil)))))))) (stepV_ok tt_ok rfl) rfl ?_
  refine k_val rfl rfl rfl (pSub (pH (pH (pA (pH (pA (pA (pH pNil)))))))) (stepV_ok tt_ok rfl) rfl ?_
  refine k_val (v := .pointer (some ⟨b39, 23, none⟩)) rfl rfl rfl (pSub (pH (pH (pA (pH (pA (pA (pH pNil)))))))) (stepV_ok tt_ok rfl) rfl ?_
  refine k_val (v := .pointer (some ⟨zc, 0, none⟩)) rfl rfl rfl (pSub (pH (pH (pA (pH (pA (pA (pH pNil)))))))) (val_load tt_ok rfl (mH) rfl) rfl ?_
  refine k_val (v := agS p0 p0a0 p0n0 p0c0) rfl rfl rfl (pSub (pH (pH (pA (pH (pA (pA (pH pNil)))))))) (val_load tt_ok rfl (mT (mT (mR (mT (mR (mR (mH))))))) rfl) rfl ?_
  replace h := bsome h; obtain ⟨⟨za, v45⟩, x45, h⟩ := h; try dsimp only at h
  refine k_cs rfl rfl rfl Tryd.call39 rfl rfl rfl (s_sp (k_ring_Ring_Put (p0 := v37s) (p1 := p0) v37sG0 v37sA0 p0N0 p0H0 p0Z0 x45) (pCons (sC hC) (pApp (sC hA') pNil)) (fun w hI => ⟨(Rds.call p0S0 (pCons (sC hC) (pApp (sC hA') pNil)) rsub_nil) w hI, (Rds.call G0S (pCons (sC hC) (pApp (sC hA') pNil)) rsub_nil) w hI, (Rds.call G1S (pCons (sC hC) (pApp (sC hA') pNil)) rsub_nil) w hI⟩)) rfl (.inl rfl) ?_
  rintro _ _ ⟨_, ⟨zg, zf, ze, zd, rfl, rfl⟩, rfl⟩
  refine k_end (by kernel_rfl) ?_
  refine wx_then (wc_seq (wc_region ?_))
  iterate 2 refine wP rfl rfl ?_
  refine wl_nil (wx_then (wc_ret ?_))
  simp only [Option.some.injEq] at h
  obtain rfl := h
  exact wx_spD tt_ok (.inl rfl) Tryd.results22 (Res.tmp rfl Res.nil) ⟨b39, zb, zc, v31a0, v31n0, v31c0, v31B0, none, 0, 0, [], v34a0, v34n0, v34c0, v34B0, zg, zf, v31N0, v31V0, rfl, Own.zero, v34N0, v34V0, ze, zd, rfl, rfl⟩ (fun F => by simp) (pSub (pCons (sC (sA hC)) (pApp (sC (sA (sC (sA hA')))) (pNo (pCons (sC (sA hC)) (pApp (sC (sA hA')) (pH (pA pNil))))))))

theorem k_rollback_New_none {F : Nat} {p0 : T_api_State} {p0a0 : Option Addr} {p0n0 p0c0 : Nat} {p1 : Int} {p2 : Int} (p0N0 : p0n0 = p0.Shots.length) (p0H0 : p0n0 ≤ p0c0) (p0Z0 : p0a0 = none → p0c0 = 0) (h : m_rollback_New F p0 p1 p2 = some none) :
    SpD Tryd.prog 22 [agS p0 p0a0 p0n0 p0c0, .int .u8 p1, .int .i64 p2] [] (fun w => Rds w (ids []) [] p0a0 (flat c_T_api_Shot p0.Shots) ∧ Rds w (ids []) [] (some ⟨0, 0, none⟩) (flat (fun _ : Unit => gl_state_playerBounds) [()]) ∧ Rds w (ids []) [] (some ⟨1, 0, none⟩) (flat (fun _ : Unit => gl_state_shotBounds) [()])) (fun v D => v = .pointer none ∧ D = fun F => F) := by
  unfold m_rollback_New at h
  refine sp_of_wc Tryd.func22 rfl Tryd.ntmps22 rfl rfl (fun w0 hR => ?_)
  obtain ⟨p0S0, G0S, G1S⟩ := hR
  refine wc_seq (wc_region (wl_box rfl rfl rfl (fun b3 => (wP rfl rfl (wl_nil (wx_then (wc_seq (wc_seq (wc_region (wl_val (v := agS p0 p0a0 p0n0 p0c0) (val_load tt_ok rfl (mH) rfl) rfl ?_))))))))))
  replace h := bsome h; obtain ⟨v9, x9, h⟩ := h
  refine wl_cq Tryd.call43 rfl rfl rfl (q_pf (k_state_Check (p0 := p0) p0N0 p0H0 x9) (fun w hI => ⟨(Rds.call p0S0 pNil rsub_nil) w hI, (Rds.call G0S pNil rsub_nil) w hI, (Rds.call G1S pNil rsub_nil) w hI⟩)) rfl ?_
  refine wP (v := .bool (v9 != (0 : Int))) rfl rfl (wP rfl rfl ?_)
  replace h := bsome h; obtain ⟨v15, h, hg15⟩ := h
  refine wl_split (t := 11) rfl (fun hc => ?_) (fun hc => ?_)
  · replace h := ct hc h
    refine wl_skip rfl rfl (wl_skip rfl rfl (wl_skip rfl rfl ?_))
    simp only [Option.some.injEq, Prod.mk.injEq] at h
    obtain rfl := h
    have h := hg15; clear hg15
    refine wP (v := .bool true) rfl rfl (wP rfl rfl ?_)
    replace h := bsome h; obtain ⟨v19, h, hg19⟩ := h
    replace h := ct rfl h
    refine wl_skip rfl rfl (wl_skip rfl rfl ?_)
    simp only [Option.some.injEq, Prod.mk.injEq] at h
    obtain rfl := h
    have h := hg19; clear hg19
    refine wP (v := .bool true) rfl rfl (wP rfl rfl ?_)
    replace h := bsome h; obtain ⟨v23, h, hg23⟩ := h
    replace h := ct rfl h
    refine wl_skip rfl rfl (wl_skip rfl rfl ?_)
    simp only [Option.some.injEq, Prod.mk.injEq] at h
    obtain rfl := h
    have h := hg23; clear hg23
    refine wP (v := .bool true) rfl rfl (wP rfl rfl ?_)
    replace h := bsome h; obtain ⟨v27, h, hg27⟩ := h
    replace h := ct rfl h
    refine wl_skip rfl rfl (wl_skip rfl rfl ?_)
    simp only [Option.some.injEq, Prod.mk.injEq] at h
    obtain rfl := h
    have h := hg27; clear hg27
    refine wP (v := .bool true) rfl rfl (wl_nil (wx_then ?_))
    replace h := ct rfl h
    refine wc_cond_true rfl ?_
    refine wc_seq (wc_region (wP rfl rfl (wl_nil (wx_then (wc_ret (wx_then_ret ?_))))))
    simp only [Option.some.injEq] at h
    exact wx_spD tt_ok (.inl rfl) Tryd.results22 (Res.tmp rfl Res.nil) ⟨rfl, rfl⟩ (fun F => by simp) (pSub pNil)
  replace h := cf hc h
  refine wl_run rfl (wP (v := .pointer (some ⟨b3, 0, none⟩)) rfl rfl (wl_run rfl (wl_val (v := .int .u64 p0.Frame) (val_load tt_ok rfl (mH) rfl) rfl (wl_run rfl (wP (v := .bool (decide ((9223372036854775808 : Int) < p0.Frame))) rfl rfl ?_)))))
  simp only [Option.some.injEq, Prod.mk.injEq] at h
  obtain rfl := h
  have h := hg15; clear hg15
  refine wP (v := .bool (decide ((9223372036854775808 : Int) < p0.Frame))) rfl rfl (wP rfl rfl ?_)
  replace h := bsome h; obtain ⟨v19, h, hg19⟩ := h
  refine wl_split (t := 16) rfl (fun hc => ?_) (fun hc => ?_)
  · replace h := ct hc h
    refine wl_skip rfl rfl (wl_skip rfl rfl ?_)
    simp only [Option.some.injEq, Prod.mk.injEq] at h
    obtain rfl := h
    have h := hg19; clear hg19
    refine wP (v := .bool true) rfl rfl (wP rfl rfl ?_)
    replace h := bsome h; obtain ⟨v23, h, hg23⟩ := h
    replace h := ct rfl h
    refine wl_skip rfl rfl (wl_skip rfl rfl ?_)
    simp only [Option.some.injEq, Prod.mk.injEq] at h
    obtain rfl := h
    have h := hg23; clear hg23
    refine wP (v := .bool true) rfl rfl (wP rfl rfl ?_)
    replace h := bsome h; obtain ⟨v27, h, hg27⟩ := h
    replace h := ct rfl h
    refine wl_skip rfl rfl (wl_skip rfl rfl ?_)
    simp only [Option.some.injEq, Prod.mk.injEq] at h
    obtain rfl := h
    have h := hg27; clear hg27
    refine wP (v := .bool true) rfl rfl (wl_nil (wx_then ?_))
    replace h := ct rfl h
    refine wc_cond_true rfl ?_
    refine wc_seq (wc_region (wP rfl rfl (wl_nil (wx_then (wc_ret (wx_then_ret ?_))))))
    simp only [Option.some.injEq] at h
    exact wx_spD tt_ok (.inl rfl) Tryd.results22 (Res.tmp rfl Res.nil) ⟨rfl, rfl⟩ (fun F => by simp) (pSub pNil)
  replace h := cf hc h
  refine wl_run rfl (wP rfl rfl (wl_run rfl (wP (v := .bool (decide ((1 : Int) < p1))) rfl rfl ?_)))
  simp only [Option.some.injEq, Prod.mk.injEq] at h
  obtain rfl := h
  have h := hg19; clear hg19
  refine wP (v := .bool (decide ((1 : Int) < p1))) rfl rfl (wP rfl rfl ?_)
  replace h := bsome h; obtain ⟨v23, h, hg23⟩ := h
  refine wl_split (t := 20) rfl (fun hc => ?_) (fun hc => ?_)
  · replace h := ct hc h
    refine wl_skip rfl rfl (wl_skip rfl rfl ?_)
    simp only [Option.some.injEq, Prod.mk.injEq] at h
    obtain rfl := h
    have h := hg23; clear hg23
    refine wP (v := .bool true) rfl rfl (wP rfl rfl ?_)
    replace h := bsome h; obtain ⟨v27, h, hg27⟩ := h
    replace h := ct rfl h
    refine wl_skip rfl rfl (wl_skip rfl rfl ?_)
    simp only [Option.some.injEq, Prod.mk.injEq] at h
    obtain rfl := h
    have h := hg27; clear hg27
    refine wP (v := .bool true) rfl rfl (wl_nil (wx_then ?_))
    replace h := ct rfl h
    refine wc_cond_true rfl ?_
    refine wc_seq (wc_region (wP rfl rfl (wl_nil (wx_then (wc_ret (wx_then_ret ?_))))))
    simp only [Option.some.injEq] at h
    exact wx_spD tt_ok (.inl rfl) Tryd.results22 (Res.tmp rfl Res.nil) ⟨rfl, rfl⟩ (fun F => by simp) (pSub pNil)
  replace h := cf hc h
  refine wl_run rfl (wP rfl rfl (wl_run rfl (wP (v := .bool (decide (p2 < (1 : Int)))) rfl rfl ?_)))
  simp only [Option.some.injEq, Prod.mk.injEq] at h
  obtain rfl := h
  have h := hg23; clear hg23
  refine wP (v := .bool (decide (p2 < (1 : Int)))) rfl rfl (wP rfl rfl ?_)
  replace h := bsome h; obtain ⟨v27, h, hg27⟩ := h
  refine wl_split (t := 24) rfl (fun hc => ?_) (fun hc => ?_)
  · replace h := ct hc h
    refine wl_skip rfl rfl (wl_skip rfl rfl ?_)
    simp only [Option.some.injEq, Prod.mk.injEq] at h
    obtain rfl := h
    have h := hg27; clear hg27
    refine wP (v := .bool true) rfl rfl (wl_nil (wx_then ?_))
    replace h := ct rfl h
    refine wc_cond_true rfl ?_
    refine wc_seq (wc_region (wP rfl rfl (wl_nil (wx_then (wc_ret (wx_then_ret ?_))))))
    simp only [Option.some.injEq] at h
    exact wx_spD tt_ok (.inl rfl) Tryd.results22 (Res.tmp rfl Res.nil) ⟨rfl, rfl⟩ (fun F => by simp) (pSub pNil)
  replace h := cf hc h
  refine wl_run rfl (wP rfl rfl (wl_run rfl (wP (v := .bool (decide ((12 : Int) < p2))) rfl rfl ?_)))
  simp only [Option.some.injEq, Prod.mk.injEq] at h
  obtain rfl := h
  have h := hg27; clear hg27
  refine wP (v := .bool (decide ((12 : Int) < p2))) rfl rfl (wl_nil (wx_then (wc_cond rfl (fun hc => ?_) (fun hc => ?_))))
  · replace h := ct hc h
    refine wc_seq (wc_region (wP rfl rfl (wl_nil (wx_then (wc_ret (wx_then_ret ?_))))))
    simp only [Option.some.injEq] at h
    exact wx_spD tt_ok (.inl rfl) Tryd.results22 (Res.tmp rfl Res.nil) ⟨rfl, rfl⟩ (fun F => by simp) (pSub pNil)
  replace h := cf hc h
  refine wc_skip (wx_then (wc_seq (wc_k2 (Ls := (⟨b3, (st19 p0 p0a0 p0n0 p0c0 []), 61, (0, 0)⟩ :: [])) [3, 6, 9, 10, 11, 12] [10, 11, 12] [0, 0, 0, 4, 0, 16, 60, 0, 128, 508, 1023, 2047, 4095] [0, 1, 2, 4, 5, 7, 8, 3, 6, 9, 10, 11, 12] (by kernel_rfl) (by kernel_rfl) (by kernel_rfl) ?_)))
  refine k_val rfl rfl rfl (pSub (pH pNil)) (stepV_ok tt_ok rfl) rfl ?_
  refine k_val rfl rfl rfl (pSub (pH pNil)) (stepV_ok tt_ok rfl) rfl ?_
  refine k_val (v := agS p0 p0a0 p0n0 p0c0) rfl rfl rfl (pSub (pH pNil)) (val_load tt_ok rfl (mH) rfl) rfl ?_
  refine k_val (v := .pointer (some ⟨b3, 0, none⟩)) rfl rfl rfl (pSub (pH pNil)) (stepV_ok tt_ok rfl) rfl ?_
  refine k_val (v := .int .u64 p0.Frame) rfl rfl rfl (pSub (pH pNil)) (val_load tt_ok rfl (mH) rfl) rfl ?_
  refine k_val rfl rfl rfl (pSub (pH pNil)) (stepV_ok tt_ok rfl) rfl ?_
  refine k_val (v := .int .i64 (IntKind.wrap .i64 (p2 + (2 : Int)))) rfl rfl rfl (pSub (pH pNil)) (stepV_ok tt_ok rfl) rfl ?_
  replace h := bsome h; obtain ⟨v31, x31, h⟩ := h
  refine k_cs rfl rfl rfl Tryd.call44 rfl rfl rfl (s_sp (k_state_Copy (p0 := p0) p0N0 p0H0 x31) pNil (Rds.call p0S0 pNil rsub_nil)) rfl (.inr (by rintro _ _ ⟨_, ⟨_, _, _, _, _, _, rfl, rfl⟩, rfl⟩; exact ⟨_, (pCons (sA hC) pNil)⟩)) ?_
  rintro _ _ ⟨_, ⟨v31a0, v31n0, v31c0, v31B0, v31N0, v31V0, rfl, rfl⟩, rfl⟩
  replace h := bsome h; obtain ⟨v34, x34, h⟩ := h
  refine k_cs rfl rfl rfl Tryd.call45 rfl rfl rfl (s_sp (k_queue_New x34) pNil (fun _ _ => trivial)) rfl (.inr (by rintro _ _ ⟨_, ⟨_, _, _, _, _, _, _, rfl, rfl⟩, rfl⟩; exact ⟨_, (pCons (sC (sA (sA hC))) pNil)⟩)) ?_
  rintro _ _ ⟨_, ⟨za, v34a0, v34n0, v34c0, v34B0, v34N0, v34V0, rfl, rfl⟩, rfl⟩
  replace h := bsome h; obtain ⟨v37, x37, h⟩ := h
  rcases v37 with _ | v37s
  · replace h := poN h
    refine k_cs rfl rfl rfl Tryd.call46 rfl rfl rfl (s_sp (k_ring_New_none x37) pNil (fun _ _ => trivial)) rfl (.inr (by rintro _ _ ⟨_, ⟨rfl, rfl⟩, rfl⟩; exact ⟨_, (pCons (sC (sA (sA hC))) pNil)⟩)) ?_
    rintro _ _ ⟨_, ⟨rfl, rfl⟩, rfl⟩
    refine k_chg rfl rfl rfl (Chg.of_val (v := .agg #[.int .u8 p1, .int .i64 p2, .int .u64 v31.Frame, .int .u64 v31.Seed, .int .i32 v31.Players.1.X, .int .i32 v31.Players.1.Y, .int .i32 v31.Players.1.VX, .int .i32 v31.Players.1.VY, .int .u8 v31.Players.1.Health, .int .u8 v31.Players.1.Cool, .int .u8 v31.Players.1.Face, .int .i32 v31.Players.2.X, .int .i32 v31.Players.2.Y, .int .i32 v31.Players.2.VX, .int .i32 v31.Players.2.VY, .int .u8 v31.Players.2.Health, .int .u8 v31.Players.2.Cool, .int .u8 v31.Players.2.Face, .slice v31a0 v31n0 v31c0, .int .u16 v31.Score.1, .int .u16 v31.Score.2, .slice none 0 0, .pointer (some ⟨za, 0, none⟩), .pointer none]) (stepV_ok tt_ok rfl)) rfl (.inl rfl) ?_
    rintro _ _ ⟨rfl, rfl⟩
    refine k_chg rfl rfl rfl (chg_box rfl rfl) rfl (.inl rfl) ?_
    rintro _ _ ⟨b39, rfl, rfl⟩
    refine k_chg rfl rfl rfl (Chg.of_val (stepV_ok tt_ok rfl)) rfl (.inl rfl) ?_
    rintro _ _ ⟨rfl, rfl⟩
    refine k_end (by kernel_rfl) ?_
    refine wx_then (wc_seq (wc_quiet (by kernel_rfl) (by kernel_rfl) (qP rfl rfl (qP rfl rfl (qP (v := .pointer (some ⟨b39, 23, none⟩)) rfl rfl (wq_val (v := .pointer none) (val_load tt_ok rfl (mH) rfl) rfl (wq_val (v := agS p0 p0a0 p0n0 p0c0) (val_load tt_ok rfl (mT (mT (mR (mR (mH))))) rfl) rfl ?_)))))))
    replace h := bsome h; obtain ⟨v45, x45, h⟩ := h
    refine wq_cq Tryd.call39 rfl rfl rfl (q_pf (k_ring_Ring_Put_nil0 (p1 := p0) p0N0 p0H0 x45) (fun w hI => ⟨(Rds.call p0S0 pNil rsub_nil) w hI, (Rds.call G0S pNil rsub_nil) w hI, (Rds.call G1S pNil rsub_nil) w hI⟩)) rfl ?_
    refine wq_nil (wx_then (wc_seq (wc_region ?_)))
    iterate 2 refine wP rfl rfl ?_
    refine wl_nil (wx_then (wc_ret ?_))
    cases h
  replace h := poS h
  refine k_cs rfl rfl rfl Tryd.call46 rfl rfl rfl (s_sp (k_ring_New x37) pNil (fun _ _ => trivial)) rfl (.inr (by rintro _ _ ⟨_, ⟨_, _, _, _, _, rfl, rfl⟩, rfl⟩; exact ⟨_, (pCons (sC (sA (sC (sA (sA hC))))) pNil)⟩)) ?_
  rintro _ _ ⟨_, ⟨zb, v37sg0, v37sP0, v37sG0, v37sA0, rfl, rfl⟩, rfl⟩
  refine k_chg rfl rfl rfl (Chg.of_val (v := .agg #[.int .u8 p1, .int .i64 p2, .int .u64 v31.Frame, .int .u64 v31.Seed, .int .i32 v31.Players.1.X, .int .i32 v31.Players.1.Y, .int .i32 v31.Players.1.VX, .int .i32 v31.Players.1.VY, .int .u8 v31.Players.1.Health, .int .u8 v31.Players.1.Cool, .int .u8 v31.Players.1.Face, .int .i32 v31.Players.2.X, .int .i32 v31.Players.2.Y, .int .i32 v31.Players.2.VX, .int .i32 v31.Players.2.VY, .int .u8 v31.Players.2.Health, .int .u8 v31.Players.2.Cool, .int .u8 v31.Players.2.Face, .slice v31a0 v31n0 v31c0, .int .u16 v31.Score.1, .int .u16 v31.Score.2, .slice none 0 0, .pointer (some ⟨za, 0, none⟩), .pointer (some ⟨zb, 0, none⟩)]) (stepV_ok tt_ok rfl)) rfl (.inl rfl) ?_
  rintro _ _ ⟨rfl, rfl⟩
  refine k_chg rfl rfl rfl (chg_box rfl rfl) rfl (.inl rfl) ?_
  rintro _ _ ⟨b39, rfl, rfl⟩
  refine k_chg rfl rfl rfl (Chg.of_val (stepV_ok tt_ok rfl)) rfl (.inl rfl) ?_
  rintro _ _ ⟨rfl, rfl⟩
  refine k_end (by kernel_rfl) ?_
  refine wx_then (wc_seq (wc_k2 (Ls := (⟨b39, (.int .u8 p1 :: .int .i64 p2 :: st19 v31 v31a0 v31n0 v31c0 [.slice none 0 0, .pointer (some ⟨za, 0, none⟩), .pointer (some ⟨zb, 0, none⟩)]), 73, (0, 0)⟩ :: (⟨zb, ([.int .i64 v37s.size] ++ flat cg_T_ring_place v37sg0), 121, (0, 0)⟩ :: (v37sP0 ++ (⟨za, [.int .u64 v34.first_, .slice v34a0 v34n0 v34c0, .int .u8 v34.last], 103, (0, 0)⟩ :: (v34B0 ++ (v31B0 ++ (⟨b3, (st19 p0 p0a0 p0n0 p0c0 []), 61, (0, 0)⟩ :: [])))))))) [5] [5] [0, 1, 3, 7, 0, 31] [0, 1, 2, 3, 4, 5] (by kernel_rfl) (by kernel_rfl) (by kernel_rfl) ?_))
  refine k_val rfl rfl rfl (pSub (pH (pH (pA (pH (pA (pA (pH pNil)))))))) (stepV_ok tt_ok rfl) rfl ?_
  refine k_val rfl rfl rfl (pSub (pH (pH (pA (pH (pA (pA (pH pNil)))))))) (stepV_ok tt_ok rfl) rfl ?_
  refine k_val (v := .pointer (some ⟨b39, 23, none⟩)) rfl rfl rfl (pSub (pH (pH (pA (pH (pA (pA (pH pNil)))))))) (stepV_ok tt_ok rfl) rfl ?_
  refine k_val (v := .pointer (some ⟨zb, 0, none⟩)) rfl rfl rfl (pSub (pH (pH (pA (pH (pA (pA (pH pNil)))))))) (val_load tt_ok rfl (mH) rfl) rfl ?_
  refine k_val (v := agS p0 p0a0 p0n0 p0c0) rfl rfl rfl (pSub (pH (pH (pA (pH (pA (pA (pH pNil)))))))) (val_load tt_ok rfl (mT (mT (mR (mT (mR (mR (mH))))))) rfl) rfl ?_
  replace h := bsome h; obtain ⟨⟨zc, v45⟩, x45, h⟩ := h; try dsimp only at h
  refine k_cs rfl rfl rfl Tryd.call39 rfl rfl rfl (s_sp (k_ring_Ring_Put (p0 := v37s) (p1 := p0) v37sG0 v37sA0 p0N0 p0H0 p0Z0 x45) (pCons (sC hC) (pApp (sC hA') pNil)) (fun w hI => ⟨(Rds.call p0S0 (pCons (sC hC) (pApp (sC hA') pNil)) rsub_nil) w hI, (Rds.call G0S (pCons (sC hC) (pApp (sC hA') pNil)) rsub_nil) w hI, (Rds.call G1S (pCons (sC hC) (pApp (sC hA') pNil)) rsub_nil) w hI⟩)) rfl (.inl rfl) ?_
  rintro _ _ ⟨_, ⟨zg, zf, ze, zd, rfl, rfl⟩, rfl⟩
  refine k_end (by kernel_rfl) ?_
  refine wx_then (wc_seq (wc_region ?_))
  iterate 2 refine wP rfl rfl ?_
  refine wl_nil (wx_then (wc_ret ?_))
  first | (cases h; done) | simp at h

theorem k_fold_New {F : Nat} {p0 : Int} {p1 : Int} {r0 : T_fold_History} (h : m_fold_New F p0 p1 = some (some r0)) :
    SpD Tryd.prog 7 [.int .u64 p0, .int .i64 p1] [] (fun w => True) (fun v D => ∃ (r0b : Nat), v = .pointer (some ⟨r0b, 0, none⟩) ∧ D = fun F => (⟨r0b, ([.int .u64 r0.from_, .int .u64 r0.count, .int .u64 r0.most] ++ flat (e2 .u8) r0.ring.1), 68, (0, 0)⟩ :: F)) := by
  unfold m_fold_New at h
  refine sp_of_wc Tryd.func7 rfl Tryd.ntmps7 rfl rfl (fun w0 hR => ?_)
  refine wc_seq (wc_region (wP rfl rfl (wl_nil (wx_then (wc_seq (wc_seq (wc_region (wP rfl rfl (wP (v := .bool (decide (p1 < (1 : Int)))) rfl rfl (wP rfl rfl ?_))))))))))
  replace h := bsome h; obtain ⟨v10, h, hg10⟩ := h
  refine wl_split (t := 7) rfl (fun hc => ?_) (fun hc => ?_)
  · replace h := ct hc h
    refine wl_skip rfl rfl (wl_skip rfl rfl ?_)
    simp only [Option.some.injEq, Prod.mk.injEq] at h
    obtain rfl := h
    have h := hg10; clear hg10
    refine wP (v := .bool true) rfl rfl (wl_nil (wx_then ?_))
    replace h := ct rfl h
    refine wc_cond_true rfl ?_
    refine wc_seq (wc_region (wP rfl rfl (wl_nil (wx_then (wc_ret (wx_then_ret ?_))))))
    first | (cases h; done) | simp at h
  replace h := cf hc h
  refine wl_run rfl (wP rfl rfl (wl_run rfl (wP (v := .bool (decide ((256 : Int) < p1))) rfl rfl ?_)))
  simp only [Option.some.injEq, Prod.mk.injEq] at h
  obtain rfl := h
  have h := hg10; clear hg10
  refine wP (v := .bool (decide ((256 : Int) < p1))) rfl rfl (wl_nil (wx_then (wc_cond rfl (fun hc => ?_) (fun hc => ?_))))
  · replace h := ct hc h
    refine wc_seq (wc_region (wP rfl rfl (wl_nil (wx_then (wc_ret (wx_then_ret ?_))))))
    first | (cases h; done) | simp at h
  replace h := cf hc h
  refine wc_skip (wx_then (wc_seq (wc_region ?_)))
  iterate 3 refine wP rfl rfl ?_
  refine wP (v := .int .u64 (IntKind.wrap .u64 p1)) rfl rfl (wP (v := .agg (([.int .u64 p0, .int .u64 p0, .int .u64 (IntKind.wrap .u64 p1)] ++ flat (e2 .u8) ((Arr.rep 256 ((0 : Int), (0 : Int))).1)) : List Value).toArray) rfl rfl (wl_box rfl rfl rfl (fun b16 => (wP rfl rfl (wl_nil (wx_then (wc_ret ?_)))))))
  simp only [Option.some.injEq] at h
  obtain rfl := h
  exact wx_spD tt_ok (.inl rfl) Tryd.results7 (Res.tmp rfl Res.nil) ⟨b16, rfl, rfl⟩ (fun F => by simp) (pSub (pH pNil))

theorem k_fold_New_none {F : Nat} {p0 : Int} {p1 : Int} (h : m_fold_New F p0 p1 = some none) :
    SpD Tryd.prog 7 [.int .u64 p0, .int .i64 p1] [] (fun w => True) (fun v D => v = .pointer none ∧ D = fun F => F) := by
  unfold m_fold_New at h
  refine sp_of_wc Tryd.func7 rfl Tryd.ntmps7 rfl rfl (fun w0 hR => ?_)
  refine wc_seq (wc_region (wP rfl rfl (wl_nil (wx_then (wc_seq (wc_seq (wc_region (wP rfl rfl (wP (v := .bool (decide (p1 < (1 : Int)))) rfl rfl (wP rfl rfl ?_))))))))))
  replace h := bsome h; obtain ⟨v10, h, hg10⟩ := h
  refine wl_split (t := 7) rfl (fun hc => ?_) (fun hc => ?_)
  · replace h := ct hc h
    refine wl_skip rfl rfl (wl_skip rfl rfl ?_)
    simp only [Option.some.injEq, Prod.mk.injEq] at h
    obtain rfl := h
    have h := hg10; clear hg10
    refine wP (v := .bool true) rfl rfl (wl_nil (wx_then ?_))
    replace h := ct rfl h
    refine wc_cond_true rfl ?_
    refine wc_seq (wc_region (wP rfl rfl (wl_nil (wx_then (wc_ret (wx_then_ret ?_))))))
    simp only [Option.some.injEq] at h
    exact wx_spD tt_ok (.inl rfl) Tryd.results7 (Res.tmp rfl Res.nil) ⟨rfl, rfl⟩ (fun F => by simp) (pSub pNil)
  replace h := cf hc h
  refine wl_run rfl (wP rfl rfl (wl_run rfl (wP (v := .bool (decide ((256 : Int) < p1))) rfl rfl ?_)))
  simp only [Option.some.injEq, Prod.mk.injEq] at h
  obtain rfl := h
  have h := hg10; clear hg10
  refine wP (v := .bool (decide ((256 : Int) < p1))) rfl rfl (wl_nil (wx_then (wc_cond rfl (fun hc => ?_) (fun hc => ?_))))
  · replace h := ct hc h
    refine wc_seq (wc_region (wP rfl rfl (wl_nil (wx_then (wc_ret (wx_then_ret ?_))))))
    simp only [Option.some.injEq] at h
    exact wx_spD tt_ok (.inl rfl) Tryd.results7 (Res.tmp rfl Res.nil) ⟨rfl, rfl⟩ (fun F => by simp) (pSub pNil)
  replace h := cf hc h
  refine wc_skip (wx_then (wc_seq (wc_region ?_)))
  iterate 3 refine wP rfl rfl ?_
  refine wP (v := .int .u64 (IntKind.wrap .u64 p1)) rfl rfl (wP (v := .agg (([.int .u64 p0, .int .u64 p0, .int .u64 (IntKind.wrap .u64 p1)] ++ flat (e2 .u8) ((Arr.rep 256 ((0 : Int), (0 : Int))).1)) : List Value).toArray) rfl rfl (wl_box rfl rfl rfl (fun b16 => (wP rfl rfl (wl_nil (wx_then (wc_ret ?_)))))))
  first | (cases h; done) | simp at h

theorem k_rollback_Engine_is_nil0 {F : Nat} {r0 : Bool} (h : m_rollback_Engine_is_nil0 F = some r0) :
    Pf Tryd.prog 29 [.pointer none] (fun w => True) (.bool r0) := by
  unfold m_rollback_Engine_is_nil0 at h
  refine pf_of_wc Tryd.func29 rfl Tryd.ntmps29 rfl rfl (fun w0 hR => ?_)
  refine wc_seq (wc_region (wP rfl rfl (wl_nil (wx_then (wc_seq (wc_region (wP rfl rfl (wP (v := .bool false) rfl rfl (wP rfl rfl (wl_skip rfl rfl (wl_skip rfl rfl (wl_skip rfl rfl (wl_skip rfl rfl (wl_skip rfl rfl (wP (v := .bool false) rfl rfl (wP rfl rfl (wl_nil (wx_then (wc_ret ?_)))))))))))))))))))
  obtain rfl := sI h
  exact wx_pf tt_ok (.inl rfl) Tryd.results29 (Res.tmp rfl Res.nil) rfl

theorem k_input_Legal {F : Nat} {p0 : Int} {r0 : Bool} (h : m_input_Legal F p0 = some r0) :
    Pf Tryd.prog 28 [.int .u8 p0] (fun w => True) (.bool r0) := by
  unfold m_input_Legal at h
  refine pf_of_wc Tryd.func28 rfl Tryd.ntmps28 rfl rfl (fun w0 hR => ?_)
  refine wc_seq (wc_region (wP rfl rfl (wl_nil (wx_then (wc_seq (wc_region (wP rfl rfl (wP (v := .bool (decide (p0 < (64 : Int)))) rfl rfl (wP rfl rfl (wl_nil (wx_then (wc_ret ?_))))))))))))
  obtain rfl := sI h
  exact wx_pf tt_ok (.inl rfl) Tryd.results28 (Res.tmp rfl Res.nil) rfl

theorem k_rollback_Engine_Local_nil0 {F : Nat} {p1 : Int} {r0 : Int} (h : m_rollback_Engine_Local_nil0 F p1 = some r0) :
    Pf Tryd.prog 24 [.pointer none, .int .u8 p1] (fun w => True) (.int .i64 r0) := by
  unfold m_rollback_Engine_Local_nil0 at h
  refine pf_of_wc Tryd.func24 rfl Tryd.ntmps24 rfl rfl (fun w0 hR => ?_)
  refine wc_seq (wc_region (wP rfl rfl (wl_nil (wx_then (wc_seq (wc_block (wc_seq (wc_region (wP rfl rfl ?_)))))))))
  replace h := bsome h; obtain ⟨v7, x7, h⟩ := h
  refine wl_cq Tryd.call29 rfl rfl rfl (q_pf (k_rollback_Engine_is_nil0 x7) (fun _ _ => trivial)) rfl ?_
  refine wP (v := .bool (!v7)) rfl rfl (wP rfl rfl (wl_nil (wx_then (wc_cond rfl (fun hc => ?_) (fun hc => ?_)))))
  · replace h := ct hc h
    refine wc_seq (wc_region (wP rfl rfl (wl_nil (wx_then (wc_ret (wx_block_ret (wx_then_ret ?_)))))))
    obtain rfl := sI h
    exact wx_pf tt_ok (.inl rfl) Tryd.results24 (Res.tmp rfl Res.nil) rfl
  replace h := cf hc h
  refine wc_seq (wc_region (wP rfl rfl ?_))
  replace h := bsome h; obtain ⟨v11, x11, h⟩ := h
  refine wl_cq Tryd.call28 rfl rfl rfl (q_pf (k_input_Legal x11) (fun _ _ => trivial)) rfl ?_
  refine wP (v := .bool (!v11)) rfl rfl (wP rfl rfl (wl_nil (wx_then (wc_cond rfl (fun hc => ?_) (fun hc => ?_)))))
  · replace h := ct hc h
    refine wc_seq (wc_region (wP rfl rfl (wl_nil (wx_then (wc_ret (wx_block_ret (wx_then_ret ?_)))))))
    obtain rfl := sI h
    exact wx_pf tt_ok (.inl rfl) Tryd.results24 (Res.tmp rfl Res.nil) rfl
  replace h := cf hc h
  refine wc_seq (wc_quiet (by kernel_rfl) (by kernel_rfl) (qP rfl rfl ?_))
  cases h

theorem k_queue_Queue_Known {F : Nat} {p0 : T_queue_Queue} {p0b p0t : Nat} {p0a0 : Option Addr} {p0n0 : Nat} {p0c0 : Nat} {p0B0 : List Blk} {r0 : Int} (p0N0 : p0n0 = p0.l.length) (p0V0 : Own 34 1 p0a0 p0n0 p0c0 (flat (e1 .u8) p0.l) p0B0) (h : m_queue_Queue_Known F p0 = some r0) :
    Rd2 Tryd.prog 40 [.pointer (some ⟨p0b, 0, none⟩)] (⟨p0b, [.int .u64 p0.first_, .slice p0a0 p0n0 p0c0, .int .u8 p0.last], p0t, (0, 0)⟩ :: (p0B0 ++ [])) (fun w => True) (.int .u64 r0) := by
  unfold m_queue_Queue_Known at h
  refine sp_of_wc Tryd.func40 rfl Tryd.ntmps40 rfl rfl (fun w0 hR => ?_)
  refine wc_seq (wc_region (wP rfl rfl (wl_nil (wx_then (wc_seq (wc_seq (wc_region (wP rfl rfl (wP (v := .bool false) rfl rfl (wl_nil (wx_then (wc_cond_false rfl (wc_skip (wx_then (wc_seq (wc_quiet (by kernel_rfl) (by kernel_rfl) (qP rfl rfl (qP rfl rfl (qP (v := .pointer (some ⟨p0b, 0, none⟩)) rfl rfl (wq_val (v := .int .u64 p0.first_) (val_load tt_ok rfl (mH) rfl) rfl (qP rfl rfl (qP rfl rfl (qP (v := .pointer (some ⟨p0b, 1, none⟩)) rfl rfl (wq_val (v := .slice p0a0 p0n0 p0c0) (val_load tt_ok rfl (mH) rfl) rfl (wq_val (v := .int .i64 (p0.l.length : Int)) (val_len tt_ok rfl rfl p0N0) rfl ?_)))))))))))))))))))))))))
  refine qP (v := .int .u64 (IntKind.wrap .u64 (p0.l.length : Int))) rfl rfl (qP (v := .int .u64 (IntKind.wrap .u64 (p0.first_ + (IntKind.wrap .u64 (p0.l.length : Int))))) rfl rfl (qP rfl rfl (wq_nil (wx_then (wc_ret ?_)))))
  obtain rfl := sI h
  exact wx_rd tt_ok (.inl rfl) Tryd.results40 (Res.tmp rfl Res.nil) (pSub (pH (pA pNil))) rfl

theorem k_queue_Queue_from {F : Nat} {p0 : T_queue_Queue} {p0b p0t : Nat} {p0a0 : Option Addr} {p0n0 : Nat} {p0c0 : Nat} {p0B0 : List Blk} {p1 : Int} {r0 : (List Int)} (p0N0 : p0n0 = p0.l.length) (p0V0 : Own 34 1 p0a0 p0n0 p0c0 (flat (e1 .u8) p0.l) p0B0) (h : m_queue_Queue_from F p0 p1 = some r0) :
    SpD Tryd.prog 80 [.pointer (some ⟨p0b, 0, none⟩), .int .u64 p1] (⟨p0b, [.int .u64 p0.first_, .slice p0a0 p0n0 p0c0, .int .u8 p0.last], p0t, (0, 0)⟩ :: (p0B0 ++ [])) (fun w => True) (fun v D => ∃ (r0a : Option Addr) (r0n r0c : Nat), r0n = r0.length ∧ r0n ≤ r0c ∧ (∀ w A B, Rds w A B p0a0 (flat (e1 .u8) p0.l) → Rds w A B r0a (flat (e1 .u8) r0)) ∧ v = .slice r0a r0n r0c ∧ D = fun F => (⟨p0b, [.int .u64 p0.first_, .slice p0a0 p0n0 p0c0, .int .u8 p0.last], p0t, (0, 0)⟩ :: (p0B0 ++ F))) := by
  unfold m_queue_Queue_from at h
  refine sp_of_wc Tryd.func80 rfl Tryd.ntmps80 rfl rfl (fun w0 hR => ?_)
  refine wc_seq (wc_region (wP rfl rfl (wl_nil (wx_then (wc_seq (wc_seq (wc_region (wP rfl rfl (wP (v := .bool false) rfl rfl (wP rfl rfl (wl_run rfl (wP rfl rfl (wl_run rfl (wP rfl rfl (wl_run rfl (wP rfl rfl (wl_run rfl (wP (v := .pointer (some ⟨p0b, 0, none⟩)) rfl rfl (wl_run rfl (wl_val (v := .int .u64 p0.first_) (val_load tt_ok rfl (mH) rfl) rfl (wl_run rfl (wP (v := .bool (decide (p1 < p0.first_))) rfl rfl (wP (v := .bool (decide (p1 < p0.first_))) rfl rfl ?_)))))))))))))))))))))))
  refine wP rfl rfl ?_
  replace h := bsome h; obtain ⟨v20, h, hg20⟩ := h
  refine wl_split (t := 15) rfl (fun hc => ?_) (fun hc => ?_)
  · replace h := ct hc h
    refine wl_skip rfl rfl (wl_skip rfl rfl (wl_skip rfl rfl (wl_skip rfl rfl ?_)))
    obtain rfl := sI h
    have h := hg20; clear hg20
    refine wP (v := .bool true) rfl rfl (wl_nil (wx_then ?_))
    replace h := ct rfl h
    refine wc_cond_true rfl ?_
    refine wc_seq (wc_region (wP rfl rfl (wl_nil (wx_then (wc_ret (wx_then_ret ?_))))))
    obtain rfl := sI h
    exact wx_spD tt_ok (.inl rfl) Tryd.results80 (Res.tmp rfl Res.nil) ⟨none, 0, 0, rfl, (Nat.le_refl _), (fun _ _ _ _ => Rds.nil), rfl, rfl⟩ (fun F => by simp) (pSub (pH (pA pNil)))
  replace h := cf hc h
  refine wl_run rfl (wP rfl rfl (wl_run rfl (wP rfl rfl ?_)))
  replace h := bsome h; obtain ⟨v18, x18, h⟩ := h
  refine wl_run rfl (wl_cq Tryd.call40 rfl rfl rfl (q_rd (k_queue_Queue_Known (p0 := p0) p0N0 p0V0 x18) (pH (pA pNil)) (fun _ _ => trivial)) rfl (wl_run rfl (wP (v := .bool (decide (v18 ≤ p1))) rfl rfl ?_)))
  obtain rfl := sI h
  have h := hg20; clear hg20
  refine wP (v := .bool (decide (v18 ≤ p1))) rfl rfl (wl_nil (wx_then (wc_cond rfl (fun hc => ?_) (fun hc => ?_))))
  · replace h := ct hc h
    refine wc_seq (wc_region (wP rfl rfl (wl_nil (wx_then (wc_ret (wx_then_ret ?_))))))
    obtain rfl := sI h
    exact wx_spD tt_ok (.inl rfl) Tryd.results80 (Res.tmp rfl Res.nil) ⟨none, 0, 0, rfl, (Nat.le_refl _), (fun _ _ _ _ => Rds.nil), rfl, rfl⟩ (fun F => by simp) (pSub (pH (pA pNil)))
  replace h := cf hc h
  refine wc_skip (wx_then (wc_seq (wc_quiet (by kernel_rfl) (by kernel_rfl) (qP rfl rfl (qP rfl rfl (qP (v := .pointer (some ⟨p0b, 1, none⟩)) rfl rfl (wq_val (v := .slice p0a0 p0n0 p0c0) (val_load tt_ok rfl (mH) rfl) rfl (qP rfl rfl (qP rfl rfl (qP rfl rfl (qP (v := .pointer (some ⟨p0b, 0, none⟩)) rfl rfl (wq_val (v := .int .u64 p0.first_) (val_load tt_ok rfl (mH) rfl) rfl (qP (v := .int .u64 (IntKind.wrap .u64 (p1 - p0.first_))) rfl rfl (qP rfl rfl (qP rfl rfl (qP (v := .pointer (some ⟨p0b, 1, none⟩)) rfl rfl (wq_val (v := .slice p0a0 p0n0 p0c0) (val_load tt_ok rfl (mH) rfl) rfl ?_)))))))))))))))))
  refine wq_val (v := .int .i64 (p0.l.length : Int)) (val_len tt_ok rfl rfl p0N0) rfl ?_
  refine qP rfl rfl (qP rfl rfl (qP (v := .pointer (some ⟨p0b, 1, none⟩)) rfl rfl (wq_val (v := .slice p0a0 p0n0 p0c0) (val_load tt_ok rfl (mH) rfl) rfl (wq_val (v := .int .i64 (p0.l.length : Int)) (val_len tt_ok rfl rfl p0N0) rfl ?_))))
  replace h := bsome h; obtain ⟨v41, x41, h⟩ := h
  refine wq_cut (enc := (e1 .u8)) tt_ok rfl rfl rfl p0N0 (vec_some p0V0) (e1_len _) (vec_cap p0V0) (.inr ⟨_, _, rfl, rfl⟩) (.inr ⟨_, _, rfl, rfl⟩) (.inr ⟨_, _, rfl, rfl⟩) (by intro h; first | rfl | cases h) (cut3b x41 p0N0 (vec_cap p0V0)) (cut3a x41) rfl ?_
  intro a41 n41_ c41 N41 H41 I41 O41 Z41
  refine qP rfl rfl (wq_nil (wx_then (wc_ret ?_)))
  obtain rfl := sI h
  exact wx_spD tt_ok (.inl rfl) Tryd.results80 (Res.tmp rfl Res.nil) ⟨a41, n41_, c41, N41, H41, (fun w A B h => I41 w A B ((fun _ _ _ h => h) w A B h)), rfl, rfl⟩ (fun F => by simp) (pSub (pH (pA pNil)))

theorem k_queue_Queue_At {F : Nat} {p0 : T_queue_Queue} {p0b p0t : Nat} {p0a0 : Option Addr} {p0n0 : Nat} {p0c0 : Nat} {p0B0 : List Blk} {p1 : Int} {r0 : Int} {r1 : Bool} (p0N0 : p0n0 = p0.l.length) (p0V0 : Own 34 1 p0a0 p0n0 p0c0 (flat (e1 .u8) p0.l) p0B0) (h : m_queue_Queue_At F p0 p1 = some (r0, r1)) :
    Rd2 Tryd.prog 69 [.pointer (some ⟨p0b, 0, none⟩), .int .u64 p1] (⟨p0b, [.int .u64 p0.first_, .slice p0a0 p0n0 p0c0, .int .u8 p0.last], p0t, (0, 0)⟩ :: (p0B0 ++ [])) (fun w => True) (.tuple #[.int .u8 r0, .bool r1]) := by
  unfold m_queue_Queue_At at h
  refine sp_of_wc Tryd.func69 rfl Tryd.ntmps69 rfl rfl (fun w0 hR => ?_)
  refine wc_seq (wc_region ?_)
  iterate 2 refine wP rfl rfl ?_
  refine wl_nil (wx_then (wc_seq (wc_seq (wc_region ?_))))
  iterate 2 refine wP rfl rfl ?_
  replace h := bsome h; obtain ⟨v9, x9, h⟩ := h
  refine wl_cs Tryd.call80 rfl rfl rfl (s_sp (k_queue_Queue_from (p0 := p0) p0N0 p0V0 x9) (pH (pA pNil)) (fun _ _ => trivial)) rfl ?_
  rintro _ _ ⟨_, ⟨v9a, v9n, v9c, Nv9, Hv9, Iv9, rfl, rfl⟩, rfl⟩
  refine wP rfl rfl (wl_nil (wx_then (wc_seq (wc_region (wP rfl rfl (wl_val (v := .int .i64 (v9.length : Int)) (val_len tt_ok rfl rfl Nv9) rfl (wP (v := .bool (decide ((0 : Int) < (v9.length : Int)))) rfl rfl (wl_nil (wx_then (wc_cond rfl (fun hc => ?_) (fun hc => ?_)))))))))))
  · replace h := ct hc h
    refine wc_seq (wc_region (wP rfl rfl ?_))
    replace h := bsome h; obtain ⟨v14, x14, h⟩ := h
    refine wl_val (v := .pointer (some ((adOf v9a).add ((0 : Int).toNat * 1 + 0)))) (val_ix (enc := (e1 .u8)) tt_ok rfl rfl rfl rfl Nv9 (Iv9 _ _ _ (Rds.of_vec p0V0)) (e1_len _) rfl x14) rfl ?_
    refine wl_val (v := .int .u8 v14) (val_le (enc := (e1 .u8)) (xs := v9) tt_ok rfl (Iv9 _ _ _ (Rds.of_vec p0V0)) ⟨_, (sC hA')⟩ (e1_len _) x14 rfl) rfl ?_
    iterate 2 refine wP rfl rfl ?_
    refine wl_nil (wx_then (wc_ret (wx_then_ret ?_)))
    simp only [Option.some.injEq, Prod.mk.injEq] at h
    obtain ⟨rfl, rfl⟩ := h
    exact wx_rd tt_ok (.inl rfl) Tryd.results69 (Res.tmp rfl (Res.tmp rfl Res.nil)) (pSub (pH (pA pNil))) rfl
  replace h := cf hc h
  refine wc_skip (wx_then (wc_seq (wc_region ?_)))
  iterate 2 refine wP rfl rfl ?_
  refine wl_nil (wx_then (wc_ret ?_))
  simp only [Option.some.injEq, Prod.mk.injEq] at h
  obtain ⟨rfl, rfl⟩ := h
  exact wx_rd tt_ok (.inl rfl) Tryd.results69 (Res.tmp rfl (Res.tmp rfl Res.nil)) (pSub (pH (pA pNil))) rfl

theorem k_queue_Queue_Guess {F : Nat} {p0 : T_queue_Queue} {p0b p0t : Nat} {p0a0 : Option Addr} {p0n0 : Nat} {p0c0 : Nat} {p0B0 : List Blk} {p1 : Int} {r0 : Int} (p0N0 : p0n0 = p0.l.length) (p0V0 : Own 34 1 p0a0 p0n0 p0c0 (flat (e1 .u8) p0.l) p0B0) (h : m_queue_Queue_Guess F p0 p1 = some r0) :
    Rd2 Tryd.prog 47 [.pointer (some ⟨p0b, 0, none⟩), .int .u64 p1] (⟨p0b, [.int .u64 p0.first_, .slice p0a0 p0n0 p0c0, .int .u8 p0.last], p0t, (0, 0)⟩ :: (p0B0 ++ [])) (fun w => True) (.int .u8 r0) := by
  unfold m_queue_Queue_Guess at h
  refine sp_of_wc Tryd.func47 rfl Tryd.ntmps47 rfl rfl (fun w0 hR => ?_)
  refine wc_seq (wc_region (wP rfl rfl (wl_nil (wx_then (wc_seq (wc_seq (wc_region ?_)))))))
  iterate 2 refine wP rfl rfl ?_
  replace h := bsome h; obtain ⟨⟨za, zb⟩, x10, h⟩ := h; try dsimp only at h
  refine wl_cq Tryd.call69 rfl rfl rfl (q_rd (k_queue_Queue_At (p0 := p0) p0N0 p0V0 x10) (pH (pA pNil)) (fun _ _ => trivial)) rfl ?_
  iterate 5 refine wP rfl rfl ?_
  refine wl_nil (wx_then (wc_seq (wc_region ?_)))
  iterate 2 refine wP rfl rfl ?_
  replace h := bsome h; obtain ⟨v17, h, hg17⟩ := h
  refine wl_split (t := 14) rfl (fun hc => ?_) (fun hc => ?_)
  · replace h := ct hc h
    refine wl_skip rfl rfl (wl_skip rfl rfl ?_)
    obtain rfl := sI h
    have h := hg17; clear hg17
    refine wP (v := .bool true) rfl rfl (wl_nil (wx_then ?_))
    replace h := ct rfl h
    refine wc_cond_true rfl ?_
    refine wc_seq (wc_region ?_)
    iterate 2 refine wP rfl rfl ?_
    refine wl_nil (wx_then (wc_ret (wx_then_ret ?_)))
    obtain rfl := sI h
    exact wx_rd tt_ok (.inl rfl) Tryd.results47 (Res.tmp rfl Res.nil) (pSub (pH (pA pNil))) rfl
  replace h := cf hc h
  refine wl_run rfl (wP rfl rfl (wl_run rfl (wP (v := .bool false) rfl rfl ?_)))
  obtain rfl := sI h
  have h := hg17; clear hg17
  refine wP (v := .bool false) rfl rfl (wl_nil (wx_then ?_))
  replace h := cf rfl h
  refine wc_cond_false rfl ?_
  refine wc_skip (wx_then (wc_seq (wc_region ?_)))
  iterate 2 refine wP rfl rfl ?_
  refine wP (v := .pointer (some ⟨p0b, 2, none⟩)) rfl rfl (wl_val (v := .int .u8 p0.last) (val_load tt_ok rfl (mH) rfl) rfl (wP rfl rfl (wl_nil (wx_then (wc_ret ?_)))))
  obtain rfl := sI h
  exact wx_rd tt_ok (.inl rfl) Tryd.results47 (Res.tmp rfl Res.nil) (pSub (pH (pA pNil))) rfl

theorem k_rollback_Engine_Remote_nil0 {F : Nat} {p1 : Int} {p2 : Int} {r0 : Int} (h : m_rollback_Engine_Remote_nil0 F p1 p2 = some r0) :
    Pf Tryd.prog 26 [.pointer none, .int .u64 p1, .int .u8 p2] (fun w => True) (.int .i64 r0) := by
  unfold m_rollback_Engine_Remote_nil0 at h
  refine pf_of_wc Tryd.func26 rfl Tryd.ntmps26 rfl rfl (fun w0 hR => ?_)
  refine wc_seq (wc_region (wP rfl rfl (wl_nil (wx_then (wc_seq (wc_seq (wc_region (wP rfl rfl ?_))))))))
  replace h := bsome h; obtain ⟨v11, x11, h⟩ := h
  refine wl_cq Tryd.call29 rfl rfl rfl (q_pf (k_rollback_Engine_is_nil0 x11) (fun _ _ => trivial)) rfl ?_
  refine wP (v := .bool (!v11)) rfl rfl (wl_nil (wx_then (wc_cond rfl (fun hc => ?_) (fun hc => ?_))))
  · replace h := ct hc h
    refine wc_seq (wc_region (wP rfl rfl (wl_nil (wx_then (wc_ret (wx_then_ret ?_))))))
    obtain rfl := sI h
    exact wx_pf tt_ok (.inl rfl) Tryd.results26 (Res.tmp rfl Res.nil) rfl
  replace h := cf hc h
  refine wc_skip (wx_then (wc_seq (wc_quiet (by kernel_rfl) (by kernel_rfl) (qP rfl rfl ?_))))
  cases h

theorem k_rollback_Engine_pair_nil0 {F : Nat} {p1 : Int} {r0 : (Int × Int)} (h : m_rollback_Engine_pair_nil0 F p1 = some r0) :
    Pf Tryd.prog 50 [.pointer none, .int .u64 p1] (fun w => True) (.agg #[.int .u8 r0.1, .int .u8 r0.2]) := by
  unfold m_rollback_Engine_pair_nil0 at h
  refine pf_of_wc Tryd.func50 rfl Tryd.ntmps50 rfl rfl (fun w0 hR => ?_)
  refine wc_seq (wc_region (wl_alloc tt_ok rfl rfl (fun b4 => (wl_nil (wx_then (wc_seq (wc_k2 (Ls := (⟨b4, [.int .u8 (0 : Int), .int .u8 (0 : Int)], 36, (0, 0)⟩ :: [])) [18] [18] [0, 1, 3, 7, 0, 16, 48, 112, 0, 0, 512, 1536, 3584, 7680, 16128, 32752, 65520, 131071, 262143] [0, 1, 2, 3, 4, 5, 6, 7, 8, 9, 10, 11, 12, 13, 14, 15, 16, 17, 18] (by kernel_rfl) (by kernel_rfl) (by kernel_rfl) (k_val rfl rfl rfl (pSub (pH pNil)) (stepV_ok tt_ok rfl) rfl ?_))))))))
  cases h

theorem k_rollback_Engine_Next_nil0 {F : Nat} {r0 : (Int × Int)} {r1 : Bool} (h : m_rollback_Engine_Next_nil0 F = some (r0, r1)) :
    Pf Tryd.prog 35 [.pointer none] (fun w => True) (.tuple #[.agg #[.int .u8 r0.1, .int .u8 r0.2], .bool r1]) := by
  unfold m_rollback_Engine_Next_nil0 at h
  refine pf_of_wc Tryd.func35 rfl Tryd.ntmps35 rfl rfl (fun w0 hR => ?_)
  refine wc_seq (wc_region (wl_alloc tt_ok rfl rfl (fun b2 => (wP rfl rfl (wl_nil (wx_then (wc_seq (wc_seq (wc_quiet (by kernel_rfl) (by kernel_rfl) (qP rfl rfl ?_))))))))))
  replace h := bsome h; obtain ⟨v5, x5, h⟩ := h
  refine wq_cq Tryd.call29 rfl rfl rfl (q_pf (k_rollback_Engine_is_nil0 x5) (fun _ _ => trivial)) rfl ?_
  refine qP (v := .bool (!v5)) rfl rfl (qP rfl rfl ?_)
  replace h := bsome h; obtain ⟨v14, h, hg14⟩ := h
  refine wq_split (t := 7) rfl (fun hc => ?_) (fun hc => ?_)
  · replace h := ct hc h
    refine wq_skip rfl rfl (wq_skip rfl rfl (wq_skip rfl rfl (wq_skip rfl rfl (wq_skip rfl rfl (wq_skip rfl rfl ?_)))))
    obtain rfl := sI h
    have h := hg14; clear hg14
    refine qP (v := .bool true) rfl rfl (qP rfl rfl ?_)
    replace h := bsome h; obtain ⟨v27, h, hg27⟩ := h
    replace h := ct rfl h
    refine wq_skip rfl rfl (wq_skip rfl rfl (wq_skip rfl rfl (wq_skip rfl rfl (wq_skip rfl rfl (wq_skip rfl rfl (wq_skip rfl rfl (wq_skip rfl rfl (wq_skip rfl rfl (wq_skip rfl rfl (wq_skip rfl rfl ?_))))))))))
    obtain rfl := sI h
    have h := hg27; clear hg27
    refine qP (v := .bool true) rfl rfl (wq_nil (wx_then ?_))
    replace h := ct rfl h
    refine wc_cond_true rfl ?_
    refine wc_seq (wc_region (wP (v := .agg #[.int .u8 (0 : Int), .int .u8 (0 : Int)]) rfl rfl ?_))
    apply wl_store tt_ok; rfl; exact Upd.here; rfl; rfl; rfl; rfl; rfl; rfl
    refine wP rfl rfl (wl_nil (wx_then (wc_ret (wx_then_ret ?_))))
    simp only [Option.some.injEq, Prod.mk.injEq] at h
    obtain ⟨rfl, rfl⟩ := h
    exact wx_pf tt_ok (.inl rfl) Tryd.results35 (Res.cell rfl (mH) rfl (Res.tmp rfl Res.nil)) rfl
  replace h := cf hc h
  refine wq_run rfl (qP rfl rfl ?_)
  cases h

theorem k_input_way {F : Nat} {p0 : Int} {p1 : Int} {p2 : Int} {r0 : Int} (h : m_input_way F p0 p1 p2 = some r0) :
    Pf Tryd.prog 81 [.int .u8 p0, .int .u8 p1, .int .u8 p2] (fun w => True) (.int .i32 r0) := by
  unfold m_input_way at h
  refine pf_of_wc Tryd.func81 rfl Tryd.ntmps81 rfl rfl (fun w0 hR => ?_)
  refine wc_seq (wc_region (wP rfl rfl (wl_nil (wx_then (wc_seq (wc_seq (wc_region ?_)))))))
  iterate 3 refine wP rfl rfl ?_
  refine wP (v := .int .u8 (bits .or .u8 p1 p2)) rfl rfl (wP (v := .int .u8 (bits .and .u8 p0 (bits .or .u8 p1 p2))) rfl rfl (wl_nil (wx_then (wc_block (wc_seq (wc_region (wP rfl rfl (wP (v := .bool ((bits .and .u8 p0 (bits .or .u8 p1 p2)) == p1)) rfl rfl (wP rfl rfl (wl_nil (wx_then (wc_cond rfl (fun hc => ?_) (fun hc => ?_)))))))))))))
  · replace h := ct hc h
    refine wc_seq (wc_region (wP rfl rfl (wl_nil (wx_then (wc_ret (wx_block_ret (wx_then_ret ?_)))))))
    obtain rfl := sI h
    exact wx_pf tt_ok (.inl rfl) Tryd.results81 (Res.tmp rfl Res.nil) rfl
  replace h := cf hc h
  refine wc_seq (wc_region (wP rfl rfl (wP (v := .bool ((bits .and .u8 p0 (bits .or .u8 p1 p2)) == p2)) rfl rfl (wP rfl rfl (wl_nil (wx_then (wc_cond rfl (fun hc => ?_) (fun hc => ?_))))))))
  · replace h := ct hc h
    refine wc_seq (wc_region (wP rfl rfl (wl_nil (wx_then (wc_ret (wx_block_ret (wx_then_ret ?_)))))))
    obtain rfl := sI h
    exact wx_pf tt_ok (.inl rfl) Tryd.results81 (Res.tmp rfl Res.nil) rfl
  replace h := cf hc h
  refine wc_skip (wx_block (wx_then (wc_seq (wc_region (wP rfl rfl (wl_nil (wx_then (wc_ret ?_))))))))
  obtain rfl := sI h
  exact wx_pf tt_ok (.inl rfl) Tryd.results81 (Res.tmp rfl Res.nil) rfl

theorem k_input_Dir {F : Nat} {p0 : Int} {r0 : Int} {r1 : Int} (h : m_input_Dir F p0 = some (r0, r1)) :
    Pf Tryd.prog 70 [.int .u8 p0] (fun w => True) (.tuple #[.int .i32 r0, .int .i32 r1]) := by
  unfold m_input_Dir at h
  refine pf_of_wc Tryd.func70 rfl Tryd.ntmps70 rfl rfl (fun w0 hR => ?_)
  refine wc_seq (wc_region ?_)
  iterate 2 refine wP rfl rfl ?_
  refine wl_nil (wx_then (wc_seq (wc_region (wP rfl rfl ?_))))
  replace h := bsome h; obtain ⟨v5, x5, h⟩ := h
  refine wl_cq Tryd.call81 rfl rfl rfl (q_pf (k_input_way x5) (fun _ _ => trivial)) rfl ?_
  refine wP rfl rfl ?_
  replace h := bsome h; obtain ⟨v7, x7, h⟩ := h
  refine wl_cq Tryd.call81 rfl rfl rfl (q_pf (k_input_way x7) (fun _ _ => trivial)) rfl ?_
  iterate 2 refine wP rfl rfl ?_
  refine wl_nil (wx_then (wc_ret ?_))
  simp only [Option.some.injEq, Prod.mk.injEq] at h
  obtain ⟨rfl, rfl⟩ := h
  exact wx_pf tt_ok (.inl rfl) Tryd.results70 (Res.tmp rfl (Res.tmp rfl Res.nil)) rfl

theorem k_step_turn {F : Nat} {p0 : Int} {p1 : Int} {p2 : Int} {r0 : Int} (h : m_step_turn F p0 p1 p2 = some r0) :
    Pf Tryd.prog 71 [.int .u8 p0, .int .i32 p1, .int .i32 p2] (fun w => True) (.int .u8 r0) := by
  unfold m_step_turn at h
  refine pf_of_wc Tryd.func71 rfl Tryd.ntmps71 rfl rfl (fun w0 hR => ?_)
  refine wc_seq (wc_region (wP rfl rfl (wl_nil (wx_then (wc_seq (wc_block (wc_seq (wc_region (wP rfl rfl (wP (v := .bool (decide ((0 : Int) < p1))) rfl rfl (wP rfl rfl (wl_nil (wx_then (wc_cond rfl (fun hc => ?_) (fun hc => ?_)))))))))))))))
  · replace h := ct hc h
    refine wc_seq (wc_region (wP rfl rfl (wl_nil (wx_then (wc_ret (wx_block_ret (wx_then_ret ?_)))))))
    obtain rfl := sI h
    exact wx_pf tt_ok (.inl rfl) Tryd.results71 (Res.tmp rfl Res.nil) rfl
  replace h := cf hc h
  refine wc_seq (wc_region (wP rfl rfl (wP (v := .bool (decide (p1 < (0 : Int)))) rfl rfl (wP rfl rfl (wl_nil (wx_then (wc_cond rfl (fun hc => ?_) (fun hc => ?_))))))))
  · replace h := ct hc h
    refine wc_seq (wc_region (wP rfl rfl (wl_nil (wx_then (wc_ret (wx_block_ret (wx_then_ret ?_)))))))
    obtain rfl := sI h
    exact wx_pf tt_ok (.inl rfl) Tryd.results71 (Res.tmp rfl Res.nil) rfl
  replace h := cf hc h
  refine wc_seq (wc_region (wP rfl rfl (wP (v := .bool (decide (p2 < (0 : Int)))) rfl rfl (wP rfl rfl (wl_nil (wx_then (wc_cond rfl (fun hc => ?_) (fun hc => ?_))))))))
  · replace h := ct hc h
    refine wc_seq (wc_region (wP rfl rfl (wl_nil (wx_then (wc_ret (wx_block_ret (wx_then_ret ?_)))))))
    obtain rfl := sI h
    exact wx_pf tt_ok (.inl rfl) Tryd.results71 (Res.tmp rfl Res.nil) rfl
  replace h := cf hc h
  refine wc_seq (wc_region (wP rfl rfl (wP (v := .bool (decide ((0 : Int) < p2))) rfl rfl (wP rfl rfl (wl_nil (wx_then (wc_cond rfl (fun hc => ?_) (fun hc => ?_))))))))
  · replace h := ct hc h
    refine wc_seq (wc_region (wP rfl rfl (wl_nil (wx_then (wc_ret (wx_block_ret (wx_then_ret ?_)))))))
    obtain rfl := sI h
    exact wx_pf tt_ok (.inl rfl) Tryd.results71 (Res.tmp rfl Res.nil) rfl
  replace h := cf hc h
  refine wc_skip (wx_block (wx_then (wc_seq (wc_region ?_))))
  iterate 2 refine wP rfl rfl ?_
  refine wl_nil (wx_then (wc_ret ?_))
  obtain rfl := sI h
  exact wx_pf tt_ok (.inl rfl) Tryd.results71 (Res.tmp rfl Res.nil) rfl

theorem k_input_Dash {F : Nat} {p0 : Int} {r0 : Bool} (h : m_input_Dash F p0 = some r0) :
    Pf Tryd.prog 72 [.int .u8 p0] (fun w => True) (.bool r0) := by
  unfold m_input_Dash at h
  refine pf_of_wc Tryd.func72 rfl Tryd.ntmps72 rfl rfl (fun w0 hR => ?_)
  refine wc_seq (wc_region (wP rfl rfl (wl_nil (wx_then (wc_seq (wc_region (wP rfl rfl (wP (v := .int .u8 (bits .and .u8 p0 (32 : Int))) rfl rfl (wP (v := .bool ((bits .and .u8 p0 (32 : Int)) != (0 : Int))) rfl rfl (wP rfl rfl (wl_nil (wx_then (wc_ret ?_)))))))))))))
  obtain rfl := sI h
  exact wx_pf tt_ok (.inl rfl) Tryd.results72 (Res.tmp rfl Res.nil) rfl

theorem k_step_steer_1 {F : Nat} {p0 : Int} {p1 : Int} {p2 : Bool} {p2b p2t : Nat} {r0 : Int} (h : m_step_steer_1 F p0 p1 p2 = some r0) :
    Rd2 Tryd.prog 73 [.int .i32 p0, .int .i32 p1, .pointer (some ⟨p2b, 0, none⟩)] (⟨p2b, [.bool p2], p2t, (0, 0)⟩ :: []) (fun w => True) (.int .i32 r0) := by
  unfold m_step_steer_1 at h
  refine sp_of_wc Tryd.func73 rfl Tryd.ntmps73 rfl rfl (fun w0 hR => ?_)
  refine wc_seq (wc_region (wP rfl rfl (wl_nil (wx_then (wc_seq (wc_seq (wc_region (wP rfl rfl (wP (v := .bool (p1 != (0 : Int))) rfl rfl (wl_nil (wx_then ?_)))))))))))
  replace h := bsome h; obtain ⟨zb, h, hj6⟩ := h
  refine wc_join2 (fun E L => E = [(0, .int .i32 zb), (2, .pointer (some ⟨p2b, 0, none⟩)), (5, .int .i32 (0 : Int))] ∧ L = (⟨p2b, [.bool p2], p2t, (0, 0)⟩ :: [])) ?_ ?_
  · refine wc_cond rfl (fun hc => ?_) (fun hc => ?_)
    · replace h := ct hc h
      refine wc_region ?_
      iterate 2 refine wP rfl rfl ?_
      refine wP (v := .int .i32 (IntKind.wrap .i32 ((64 : Int) * p1))) rfl rfl (wP (v := .int .i32 (IntKind.wrap .i32 (p0 + (IntKind.wrap .i32 ((64 : Int) * p1))))) rfl rfl (wP rfl rfl (wl_nil ?_)))
      obtain rfl := sI h
      exact wx_join ⟨rfl, rfl⟩ (agree_cons rfl (agree_cons rfl (agree_cons rfl agree_nil))) (pSub (pH pNil))
    replace h := cf hc h
    refine wc_seq (wc_region ?_)
    iterate 2 refine wP rfl rfl ?_
    refine wP (v := .int .i32 (IntKind.wrap .i32 (Int.tdiv p0 8))) rfl rfl (wP (v := .int .i32 (IntKind.wrap .i32 (p0 - (IntKind.wrap .i32 (Int.tdiv p0 8))))) rfl rfl (wP rfl rfl (wl_nil (wx_then (wc_seq (wc_region (wP rfl rfl (wP (v := .bool (decide ((-8 : Int) < (IntKind.wrap .i32 (p0 - (IntKind.wrap .i32 (Int.tdiv p0 8))))))) rfl rfl (wP rfl rfl ?_)))))))))
    replace h := bsome h; obtain ⟨v21, h, hg21⟩ := h
    refine wl_split (t := 18) rfl (fun hc => ?_) (fun hc => ?_)
    · replace h := ct hc h
      refine wl_run rfl (wP rfl rfl (wl_run rfl (wP (v := .bool (decide ((IntKind.wrap .i32 (p0 - (IntKind.wrap .i32 (Int.tdiv p0 8)))) < (8 : Int)))) rfl rfl ?_)))
      obtain rfl := sI h
      have h := hg21; clear hg21
      refine wP (v := .bool (decide ((IntKind.wrap .i32 (p0 - (IntKind.wrap .i32 (Int.tdiv p0 8)))) < (8 : Int)))) rfl rfl (wl_nil (wx_then (wc_cond rfl (fun hc => ?_) (fun hc => ?_))))
      · replace h := ct hc h
        refine wc_region (wP rfl rfl (wl_nil ?_))
        obtain rfl := sI h
        exact wx_join ⟨rfl, rfl⟩ (agree_cons rfl (agree_cons rfl (agree_cons rfl agree_nil))) (pSub (pH pNil))
      replace h := cf hc h
      refine wc_skip ?_
      obtain rfl := sI h
      exact wx_join ⟨rfl, rfl⟩ (agree_cons rfl (agree_cons rfl (agree_cons rfl agree_nil))) (pSub (pH pNil))
    replace h := cf hc h
    refine wl_skip rfl rfl (wl_skip rfl rfl ?_)
    obtain rfl := sI h
    have h := hg21; clear hg21
    refine wP (v := .bool false) rfl rfl (wl_nil (wx_then ?_))
    replace h := cf rfl h
    refine wc_cond_false rfl ?_
    refine wc_skip ?_
    obtain rfl := sI h
    exact wx_join ⟨rfl, rfl⟩ (agree_cons rfl (agree_cons rfl (agree_cons rfl agree_nil))) (pSub (pH pNil))
  rintro _ _ ⟨rfl, rfl⟩
  have h := hj6; clear hj6
  refine wc_seq (wc_seq (wc_region (wl_val (v := .bool p2) (val_load tt_ok rfl (mH) rfl) rfl (wl_nil (wx_then ?_)))))
  replace h := bsome h; obtain ⟨za, h, hj18⟩ := h
  refine wc_join2 (fun E L => E = [(0, .int .i32 za), (5, .int .i32 (0 : Int))] ∧ L = (⟨p2b, [.bool p2], p2t, (0, 0)⟩ :: [])) ?_ ?_
  · refine wc_cond rfl (fun hc => ?_) (fun hc => ?_)
    · replace h := ct hc h
      refine wc_region (wP rfl rfl (wP (v := .int .i32 (IntKind.wrap .i32 (zb * (2 : Int)))) rfl rfl (wP rfl rfl (wl_nil ?_))))
      obtain rfl := sI h
      exact wx_join ⟨rfl, rfl⟩ (agree_cons rfl (agree_cons rfl agree_nil)) (pSub (pH pNil))
    replace h := cf hc h
    refine wc_skip ?_
    obtain rfl := sI h
    exact wx_join ⟨rfl, rfl⟩ (agree_cons rfl (agree_cons rfl agree_nil)) (pSub (pH pNil))
  rintro _ _ ⟨rfl, rfl⟩
  have h := hj18; clear hj18
  refine wc_seq (wc_region (wP rfl rfl (wP (v := .int .i32 (min za (1024 : Int))) rfl rfl (wP (v := .int .i32 (max (-1024 : Int) (min za (1024 : Int)))) rfl rfl (wP rfl rfl (wl_nil (wx_then (wc_ret ?_))))))))
  obtain rfl := sI h
  exact wx_rd tt_ok (.inl rfl) Tryd.results73 (Res.tmp rfl Res.nil) (pSub (pH pNil)) rfl

theorem k_step_steer {F : Nat} {p0 : T_api_Player} {p1 : Int} {r0 : T_api_Player} (h : m_step_steer F p0 p1 = some r0) :
    Pf Tryd.prog 51 [agP p0, .int .u8 p1] (fun w => True) (agP r0) := by
  unfold m_step_steer at h
  refine pf_of_wc Tryd.func51 rfl Tryd.ntmps51 rfl rfl (fun w0 hR => ?_)
  refine wc_seq (wc_region (wl_box rfl rfl rfl (fun b2 => (wl_alloc tt_ok rfl rfl (fun b4 => (wl_nil (wx_then (wc_seq (wc_region (wP rfl rfl ?_))))))))))
  replace h := bsome h; obtain ⟨⟨zb, zc⟩, x11, h⟩ := h; try dsimp only at h
  refine wl_cq Tryd.call70 rfl rfl rfl (q_pf (k_input_Dir x11) (fun _ _ => trivial)) rfl ?_
  iterate 5 refine wP rfl rfl ?_
  refine wl_nil (wx_then (wc_seq (wc_region (wP (v := .pointer (some ⟨b2, 5, none⟩)) rfl rfl (wl_val (v := .int .u8 p0.Cool) (val_load tt_ok rfl (mT (mH)) rfl) rfl (wP (v := .pointer (some ⟨b2, 5, none⟩)) rfl rfl (wl_val (v := .int .u8 p0.Cool) (val_load tt_ok rfl (mT (mH)) rfl) rfl (wP (v := .int .u8 (min p0.Cool (1 : Int))) rfl rfl (wP (v := .int .u8 (IntKind.wrap .u8 (p0.Cool - (min p0.Cool (1 : Int))))) rfl rfl (wP (v := .pointer (some ⟨b2, 5, none⟩)) rfl rfl ?_))))))))))
  apply wl_store tt_ok; rfl; exact (Upd.there Upd.here); rfl; rfl; rfl; rfl; rfl; rfl
  refine wl_nil (wx_then (wc_seq (wc_region (wP (v := .pointer (some ⟨b2, 6, none⟩)) rfl rfl (wl_val (v := .int .u8 p0.Face) (val_load tt_ok rfl (mT (mH)) rfl) rfl ?_)))))
  iterate 2 refine wP rfl rfl ?_
  replace h := bsome h; obtain ⟨v25, x25, h⟩ := h
  refine wl_cq Tryd.call71 rfl rfl rfl (q_pf (k_step_turn x25) (fun _ _ => trivial)) rfl ?_
  refine wP (v := .pointer (some ⟨b2, 6, none⟩)) rfl rfl ?_
  apply wl_store tt_ok; rfl; exact (Upd.there Upd.here); rfl; rfl; rfl; rfl; rfl; rfl
  refine wl_nil (wx_then (wc_seq (wc_region (wP rfl rfl ?_))))
  replace h := bsome h; obtain ⟨v28, x28, h⟩ := h
  refine wl_cq Tryd.call72 rfl rfl rfl (q_pf (k_input_Dash x28) (fun _ _ => trivial)) rfl ?_
  refine wP rfl rfl ?_
  replace h := bsome h; obtain ⟨v33, h, hg33⟩ := h
  refine wl_split (t := 29) rfl (fun hc => ?_) (fun hc => ?_)
  · replace h := ct hc h
    refine wl_run rfl (wP (v := .pointer (some ⟨b2, 5, none⟩)) rfl rfl (wl_run rfl (wl_val (v := .int .u8 (IntKind.wrap .u8 (p0.Cool - (min p0.Cool (1 : Int))))) (val_load tt_ok rfl (mT (mH)) rfl) rfl (wl_run rfl (wP (v := .bool ((IntKind.wrap .u8 (p0.Cool - (min p0.Cool (1 : Int)))) == (0 : Int))) rfl rfl ?_)))))
    obtain rfl := sI h
    have h := hg33; clear hg33
    refine wP (v := .bool ((IntKind.wrap .u8 (p0.Cool - (min p0.Cool (1 : Int)))) == (0 : Int))) rfl rfl (wl_alloc tt_ok rfl rfl (fun b7 => ?_))
    apply wl_store tt_ok; rfl; exact Upd.here; rfl; rfl; rfl; rfl; rfl; rfl
    refine wl_nil (wx_then (wc_seq (wc_region ?_)))
    iterate 2 refine wP rfl rfl ?_
    refine wl_nil (wx_then (wc_seq (wc_k2 (Ls := (⟨b7, [.bool ((IntKind.wrap .u8 (p0.Cool - (min p0.Cool (1 : Int)))) == (0 : Int))], 4, (0, 0)⟩ :: (⟨b4, [.int .i32 (0 : Int), .int .i32 (0 : Int), .int .i32 (0 : Int), .int .i32 (0 : Int), .int .u8 (0 : Int), .int .u8 (0 : Int), .int .u8 (0 : Int)], 55, (0, 0)⟩ :: (⟨b2, [.int .i32 p0.X, .int .i32 p0.Y, .int .i32 p0.VX, .int .i32 p0.VY, .int .u8 p0.Health, .int .u8 (IntKind.wrap .u8 (p0.Cool - (min p0.Cool (1 : Int)))), .int .u8 v25], 55, (0, 0)⟩ :: [])))) [4, 9, 11, 12, 13] [11, 12, 13] [0, 0, 2, 0, 15, 0, 0, 64, 0, 511, 223, 2047, 4095, 8191] [0, 1, 2, 3, 5, 6, 7, 8, 4, 10, 9, 11, 12, 13] (by kernel_rfl) (by kernel_rfl) (by kernel_rfl) (k_val rfl rfl rfl (pSub (pH (pH (pH pNil)))) (stepV_ok tt_ok rfl) rfl ?_))))
    refine k_val (v := .pointer (some ⟨b2, 2, none⟩)) rfl rfl rfl (pSub (pH (pH (pH pNil)))) (stepV_ok tt_ok rfl) rfl ?_
    refine k_val (v := .int .i32 p0.VX) rfl rfl rfl (pSub (pH (pH (pH pNil)))) (val_load tt_ok rfl (mT (mT (mH))) rfl) rfl ?_
    refine k_val rfl rfl rfl (pSub (pH (pH (pH pNil)))) (stepV_ok tt_ok rfl) rfl ?_
    refine k_val rfl rfl rfl (pSub (pH (pH (pH pNil)))) (stepV_ok tt_ok rfl) rfl ?_
    refine k_val (v := .pointer (some ⟨b2, 3, none⟩)) rfl rfl rfl (pSub (pH (pH (pH pNil)))) (stepV_ok tt_ok rfl) rfl ?_
    refine k_val (v := .int .i32 p0.VY) rfl rfl rfl (pSub (pH (pH (pH pNil)))) (val_load tt_ok rfl (mT (mT (mH))) rfl) rfl ?_
    refine k_val rfl rfl rfl (pSub (pH (pH (pH pNil)))) (stepV_ok tt_ok rfl) rfl ?_
    replace h := bsome h; obtain ⟨v39, x39, h⟩ := h
    refine k_cq rfl rfl rfl Tryd.call73 rfl rfl rfl (q_rd (k_step_steer_1 x39) (pH pNil) (fun _ _ => trivial)) rfl (pSub (pH (pH (pH pNil)))) ?_
    refine k_val (v := .pointer (some ⟨b2, 2, none⟩)) rfl rfl rfl (pSub (pH (pH (pH pNil)))) (stepV_ok tt_ok rfl) rfl ?_
    replace h := bsome h; obtain ⟨v44, x44, h⟩ := h
    refine k_cq rfl rfl rfl Tryd.call73 rfl rfl rfl (q_rd (k_step_steer_1 x44) (pH pNil) (fun _ _ => trivial)) rfl (pSub (pH (pH (pH pNil)))) ?_
    refine k_chg0 rfl rfl rfl (chg_store tt_ok rfl (Upd.there (Upd.there Upd.here)) rfl rfl rfl rfl rfl rfl) (.inl rfl) ?_
    rintro _ _ rfl
    refine k_chg rfl rfl rfl (Chg.of_val (v := .pointer (some ⟨b2, 3, none⟩)) (stepV_ok tt_ok rfl)) rfl (.inl rfl) ?_
    rintro _ _ ⟨rfl, rfl⟩
    refine k_chg0 rfl rfl rfl (chg_store tt_ok rfl (Upd.there (Upd.there Upd.here)) rfl rfl rfl rfl rfl rfl) (.inl rfl) ?_
    rintro _ _ rfl
    refine k_end (by kernel_rfl) ?_
    refine wx_then (wc_seq (wc_seq (wc_region (wl_val (v := .bool ((IntKind.wrap .u8 (p0.Cool - (min p0.Cool (1 : Int)))) == (0 : Int))) (val_load tt_ok rfl (mH) rfl) rfl (wl_nil (wx_then ?_))))))
    replace h := bsome h; obtain ⟨za, h, hj18⟩ := h
    refine wc_join2 (fun E L => E = [(2, .pointer (some ⟨b2, 0, none⟩)), (4, .pointer (some ⟨b4, 0, none⟩))] ∧ L = (⟨b2, (pl7 za []), 55, (0, 0)⟩ :: (⟨b4, [.int .i32 (0 : Int), .int .i32 (0 : Int), .int .i32 (0 : Int), .int .i32 (0 : Int), .int .u8 (0 : Int), .int .u8 (0 : Int), .int .u8 (0 : Int)], 55, (0, 0)⟩ :: []))) ?_ ?_
    · refine wc_cond rfl (fun hc => ?_) (fun hc => ?_)
      · replace h := ct hc h
        refine wc_region (wP (v := .pointer (some ⟨b2, 5, none⟩)) rfl rfl ?_)
        apply wl_store tt_ok; rfl; exact (Upd.there (Upd.there Upd.here)); rfl; rfl; rfl; rfl; rfl; rfl
        refine wl_nil ?_
        obtain rfl := sI h
        exact wx_join ⟨rfl, rfl⟩ (agree_cons rfl (agree_cons rfl agree_nil)) (pSub (pCons (sC (sC hC)) (pCons (sC hC) pNil)))
      replace h := cf hc h
      refine wc_skip ?_
      obtain rfl := sI h
      exact wx_join ⟨rfl, rfl⟩ (agree_cons rfl (agree_cons rfl agree_nil)) (pSub (pCons (sC (sC hC)) (pCons (sC hC) pNil)))
    rintro _ _ ⟨rfl, rfl⟩
    have h := hj18; clear hj18
    refine wc_seq (wc_region (wl_val (v := agP za) (val_load tt_ok rfl (mH) rfl) rfl ?_))
    apply wl_store tt_ok; rfl; exact (Upd.there Upd.here); rfl; rfl; rfl; rfl; rfl; rfl
    refine wl_nil (wx_then (wc_ret ?_))
    obtain rfl := sI h
    exact wx_pf tt_ok (.inl rfl) Tryd.results51 (Res.cell rfl (mT (mH)) rfl Res.nil) rfl
  replace h := cf hc h
  refine wl_skip rfl rfl (wl_skip rfl rfl (wl_skip rfl rfl ?_))
  obtain rfl := sI h
  have h := hg33; clear hg33
  refine wP (v := .bool false) rfl rfl (wl_alloc tt_ok rfl rfl (fun b7 => ?_))
  apply wl_store tt_ok; rfl; exact Upd.here; rfl; rfl; rfl; rfl; rfl; rfl
  refine wl_nil (wx_then (wc_seq (wc_region ?_)))
  iterate 2 refine wP rfl rfl ?_
  refine wl_nil (wx_then (wc_seq (wc_k2 (Ls := (⟨b7, [.bool false], 4, (0, 0)⟩ :: (⟨b4, [.int .i32 (0 : Int), .int .i32 (0 : Int), .int .i32 (0 : Int), .int .i32 (0 : Int), .int .u8 (0 : Int), .int .u8 (0 : Int), .int .u8 (0 : Int)], 55, (0, 0)⟩ :: (⟨b2, [.int .i32 p0.X, .int .i32 p0.Y, .int .i32 p0.VX, .int .i32 p0.VY, .int .u8 p0.Health, .int .u8 (IntKind.wrap .u8 (p0.Cool - (min p0.Cool (1 : Int)))), .int .u8 v25], 55, (0, 0)⟩ :: [])))) [4, 9, 11, 12, 13] [11, 12, 13] [0, 0, 2, 0, 15, 0, 0, 64, 0, 511, 223, 2047, 4095, 8191] [0, 1, 2, 3, 5, 6, 7, 8, 4, 10, 9, 11, 12, 13] (by kernel_rfl) (by kernel_rfl) (by kernel_rfl) (k_val rfl rfl rfl (pSub (pH (pH (pH pNil)))) (stepV_ok tt_ok rfl) rfl ?_))))
  refine k_val (v := .pointer (some ⟨b2, 2, none⟩)) rfl rfl rfl (pSub (pH (pH (pH pNil)))) (stepV_ok tt_ok rfl) rfl ?_
  refine k_val (v := .int .i32 p0.VX) rfl rfl rfl (pSub (pH (pH (pH pNil)))) (val_load tt_ok rfl (mT (mT (mH))) rfl) rfl ?_
  refine k_val rfl rfl rfl (pSub (pH (pH (pH pNil)))) (stepV_ok tt_ok rfl) rfl ?_
  refine k_val rfl rfl rfl (pSub (pH (pH (pH pNil)))) (stepV_ok tt_ok rfl) rfl ?_
  refine k_val (v := .pointer (some ⟨b2, 3, none⟩)) rfl rfl rfl (pSub (pH (pH (pH pNil)))) (stepV_ok tt_ok rfl) rfl ?_
  refine k_val (v := .int .i32 p0.VY) rfl rfl rfl (pSub (pH (pH (pH pNil)))) (val_load tt_ok rfl (mT (mT (mH))) rfl) rfl ?_
  refine k_val rfl rfl rfl (pSub (pH (pH (pH pNil)))) (stepV_ok tt_ok rfl) rfl ?_
  replace h := bsome h; obtain ⟨v39, x39, h⟩ := h
  refine k_cq rfl rfl rfl Tryd.call73 rfl rfl rfl (q_rd (k_step_steer_1 x39) (pH pNil) (fun _ _ => trivial)) rfl (pSub (pH (pH (pH pNil)))) ?_
  refine k_val (v := .pointer (some ⟨b2, 2, none⟩)) rfl rfl rfl (pSub (pH (pH (pH pNil)))) (stepV_ok tt_ok rfl) rfl ?_
  replace h := bsome h; obtain ⟨v44, x44, h⟩ := h
  refine k_cq rfl rfl rfl Tryd.call73 rfl rfl rfl (q_rd (k_step_steer_1 x44) (pH pNil) (fun _ _ => trivial)) rfl (pSub (pH (pH (pH pNil)))) ?_
  refine k_chg0 rfl rfl rfl (chg_store tt_ok rfl (Upd.there (Upd.there Upd.here)) rfl rfl rfl rfl rfl rfl) (.inl rfl) ?_
  rintro _ _ rfl
  refine k_chg rfl rfl rfl (Chg.of_val (v := .pointer (some ⟨b2, 3, none⟩)) (stepV_ok tt_ok rfl)) rfl (.inl rfl) ?_
  rintro _ _ ⟨rfl, rfl⟩
  refine k_chg0 rfl rfl rfl (chg_store tt_ok rfl (Upd.there (Upd.there Upd.here)) rfl rfl rfl rfl rfl rfl) (.inl rfl) ?_
  rintro _ _ rfl
  refine k_end (by kernel_rfl) ?_
  refine wx_then (wc_seq (wc_seq (wc_region (wl_val (v := .bool false) (val_load tt_ok rfl (mH) rfl) rfl (wl_nil (wx_then ?_))))))
  replace h := bsome h; obtain ⟨za, h, hj18⟩ := h
  refine wc_join2 (fun E L => E = [(2, .pointer (some ⟨b2, 0, none⟩)), (4, .pointer (some ⟨b4, 0, none⟩))] ∧ L = (⟨b2, (pl7 za []), 55, (0, 0)⟩ :: (⟨b4, [.int .i32 (0 : Int), .int .i32 (0 : Int), .int .i32 (0 : Int), .int .i32 (0 : Int), .int .u8 (0 : Int), .int .u8 (0 : Int), .int .u8 (0 : Int)], 55, (0, 0)⟩ :: []))) ?_ ?_
  · replace h := cf rfl h
    refine wc_cond_false rfl ?_
    refine wc_skip ?_
    obtain rfl := sI h
    exact wx_join ⟨rfl, rfl⟩ (agree_cons rfl (agree_cons rfl agree_nil)) (pSub (pCons (sC (sC hC)) (pCons (sC hC) pNil)))
  rintro _ _ ⟨rfl, rfl⟩
  have h := hj18; clear hj18
  refine wc_seq (wc_region (wl_val (v := agP za) (val_load tt_ok rfl (mH) rfl) rfl ?_))
  apply wl_store tt_ok; rfl; exact (Upd.there Upd.here); rfl; rfl; rfl; rfl; rfl; rfl
  refine wl_nil (wx_then (wc_ret ?_))
  obtain rfl := sI h
  exact wx_pf tt_ok (.inl rfl) Tryd.results51 (Res.cell rfl (mT (mH)) rfl Res.nil) rfl

theorem k_input_Fire {F : Nat} {p0 : Int} {r0 : Bool} (h : m_input_Fire F p0 = some r0) :
    Pf Tryd.prog 52 [.int .u8 p0] (fun w => True) (.bool r0) := by
  unfold m_input_Fire at h
  refine pf_of_wc Tryd.func52 rfl Tryd.ntmps52 rfl rfl (fun w0 hR => ?_)
  refine wc_seq (wc_region (wP rfl rfl (wl_nil (wx_then (wc_seq (wc_region (wP rfl rfl (wP (v := .int .u8 (bits .and .u8 p0 (16 : Int))) rfl rfl (wP (v := .bool ((bits .and .u8 p0 (16 : Int)) != (0 : Int))) rfl rfl (wP rfl rfl (wl_nil (wx_then (wc_ret ?_)))))))))))))
  obtain rfl := sI h
  exact wx_pf tt_ok (.inl rfl) Tryd.results52 (Res.tmp rfl Res.nil) rfl

theorem k_step_shoot {F : Nat} {p0 : T_api_Player} {p1 : Int} {r0 : T_api_Shot} (h : m_step_shoot F p0 p1 = some r0) :
    Pf Tryd.prog 53 [agP p0, .int .u8 p1] (fun w => True) (.agg #[.int .i32 r0.X, .int .i32 r0.Y, .int .i32 r0.VX, .int .i32 r0.VY, .int .u8 r0.Owner, .int .u8 r0.Life]) := by
  unfold m_step_shoot at h
  refine pf_of_wc Tryd.func53 rfl Tryd.ntmps53 rfl rfl (fun w0 hR => ?_)
  refine wc_seq (wc_region (wl_box rfl rfl rfl (fun b2 => (wl_alloc tt_ok rfl rfl (fun b4 => (wl_nil (wx_then (wc_seq (wc_region (wP (v := .pointer (some ⟨b2, 0, none⟩)) rfl rfl (wl_val (v := .int .i32 p0.X) (val_load tt_ok rfl (mT (mH)) rfl) rfl (wP (v := .int .i32 (IntKind.wrap .i32 (p0.X + (1792 : Int)))) rfl rfl (wP (v := .pointer (some ⟨b2, 1, none⟩)) rfl rfl (wl_val (v := .int .i32 p0.Y) (val_load tt_ok rfl (mT (mH)) rfl) rfl (wP (v := .int .i32 (IntKind.wrap .i32 (p0.Y + (1792 : Int)))) rfl rfl (wP rfl rfl (wP (v := .agg #[.int .i32 (IntKind.wrap .i32 (p0.X + (1792 : Int))), .int .i32 (IntKind.wrap .i32 (p0.Y + (1792 : Int))), .int .i32 (0 : Int), .int .i32 (0 : Int), .int .u8 p1, .int .u8 (40 : Int)]) rfl rfl ?_)))))))))))))))))
  refine wl_alloc tt_ok rfl rfl (fun b5 => ?_)
  apply wl_store tt_ok; rfl; exact Upd.here; rfl; rfl; rfl; rfl; rfl; rfl
  refine wl_nil (wx_then (wc_seq (wc_seq (wc_region (wP (v := .pointer (some ⟨b2, 6, none⟩)) rfl rfl (wl_val (v := .int .u8 p0.Face) (val_load tt_ok rfl (mT (mT (mH))) rfl) rfl (wl_nil (wx_then ?_))))))))
  replace h := bsome h; obtain ⟨za, h, hj8⟩ := h
  refine wc_join2 (fun E L => E = [(4, .pointer (some ⟨b4, 0, none⟩)), (5, .pointer (some ⟨b5, 0, none⟩))] ∧ L = (⟨b4, [.int .i32 (0 : Int), .int .i32 (0 : Int), .int .i32 (0 : Int), .int .i32 (0 : Int), .int .u8 (0 : Int), .int .u8 (0 : Int)], 92, (0, 0)⟩ :: (⟨b5, [.int .i32 za.X, .int .i32 za.Y, .int .i32 za.VX, .int .i32 za.VY, .int .u8 za.Owner, .int .u8 za.Life], 92, (0, 0)⟩ :: []))) ?_ ?_
  · refine wc_block (wc_seq (wc_region ?_))
    refine wP (v := .bool (p0.Face == (0 : Int))) rfl rfl (wP rfl rfl (wl_nil (wx_then (wc_cond rfl (fun hc => ?_) (fun hc => ?_)))))
    · replace h := ct hc h
      refine wc_region (wP (v := .pointer (some ⟨b5, 2, none⟩)) rfl rfl ?_)
      apply wl_store tt_ok; rfl; exact Upd.here; rfl; rfl; rfl; rfl; rfl; rfl
      refine wl_nil (wx_block ?_)
      obtain rfl := sI h
      exact wx_join ⟨rfl, rfl⟩ (agree_cons rfl (agree_cons rfl agree_nil)) (pSub (pCons (sC hC) (pH pNil)))
    replace h := cf hc h
    refine wc_seq (wc_region (wP (v := .bool (p0.Face == (1 : Int))) rfl rfl (wP rfl rfl (wl_nil (wx_then (wc_cond rfl (fun hc => ?_) (fun hc => ?_)))))))
    · replace h := ct hc h
      refine wc_region (wP (v := .pointer (some ⟨b5, 2, none⟩)) rfl rfl ?_)
      apply wl_store tt_ok; rfl; exact Upd.here; rfl; rfl; rfl; rfl; rfl; rfl
      refine wl_nil (wx_block ?_)
      obtain rfl := sI h
      exact wx_join ⟨rfl, rfl⟩ (agree_cons rfl (agree_cons rfl agree_nil)) (pSub (pCons (sC hC) (pH pNil)))
    replace h := cf hc h
    refine wc_seq (wc_region (wP (v := .bool (p0.Face == (2 : Int))) rfl rfl (wP rfl rfl (wl_nil (wx_then (wc_cond rfl (fun hc => ?_) (fun hc => ?_)))))))
    · replace h := ct hc h
      refine wc_region (wP (v := .pointer (some ⟨b5, 3, none⟩)) rfl rfl ?_)
      apply wl_store tt_ok; rfl; exact Upd.here; rfl; rfl; rfl; rfl; rfl; rfl
      refine wl_nil (wx_block ?_)
      obtain rfl := sI h
      exact wx_join ⟨rfl, rfl⟩ (agree_cons rfl (agree_cons rfl agree_nil)) (pSub (pCons (sC hC) (pH pNil)))
    replace h := cf hc h
    refine wc_region (wP (v := .pointer (some ⟨b5, 3, none⟩)) rfl rfl ?_)
    apply wl_store tt_ok; rfl; exact Upd.here; rfl; rfl; rfl; rfl; rfl; rfl
    refine wl_nil (wx_block ?_)
    obtain rfl := sI h
    exact wx_join ⟨rfl, rfl⟩ (agree_cons rfl (agree_cons rfl agree_nil)) (pSub (pCons (sC hC) (pH pNil)))
  rintro _ _ ⟨rfl, rfl⟩
  have h := hj8; clear hj8
  refine wc_seq (wc_region (wl_val (v := .agg #[.int .i32 za.X, .int .i32 za.Y, .int .i32 za.VX, .int .i32 za.VY, .int .u8 za.Owner, .int .u8 za.Life]) (val_load tt_ok rfl (mT (mH)) rfl) rfl ?_))
  apply wl_store tt_ok; rfl; exact Upd.here; rfl; rfl; rfl; rfl; rfl; rfl
  refine wl_nil (wx_then (wc_ret ?_))
  obtain rfl := sI h
  exact wx_pf tt_ok (.inl rfl) Tryd.results53 (Res.cell rfl (mH) rfl Res.nil) rfl

theorem k_geom_Move {F : Nat} {p0 : Int} {p1 : Int} {p2 : Int} {p3 : Int} {r0 : Int} {r1 : Int} (h : m_geom_Move F p0 p1 p2 p3 = some (r0, r1)) :
    Pf Tryd.prog 74 [.int .i32 p0, .int .i32 p1, .int .i32 p2, .int .i32 p3] (fun w => True) (.tuple #[.int .i32 r0, .int .i32 r1]) := by
  unfold m_geom_Move at h
  refine pf_of_wc Tryd.func74 rfl Tryd.ntmps74 rfl rfl (fun w0 hR => ?_)
  refine wc_seq (wc_region ?_)
  iterate 2 refine wP rfl rfl ?_
  refine wl_nil (wx_then (wc_seq (wc_region (wP rfl rfl (wP (v := .int .i64 (IntKind.wrap .i64 p0)) rfl rfl (wP rfl rfl (wP (v := .int .i64 (IntKind.wrap .i64 p1)) rfl rfl (wP (v := .int .i64 (IntKind.wrap .i64 ((IntKind.wrap .i64 p0) + (IntKind.wrap .i64 p1)))) rfl rfl (wP rfl rfl (wl_nil (wx_then (wc_seq (wc_seq (wc_region ?_))))))))))))))
  iterate 2 refine wP rfl rfl ?_
  refine wP (v := .bool (decide (p3 < p2))) rfl rfl (wP rfl rfl ?_)
  replace h := bsome h; obtain ⟨v24, h, hg24⟩ := h
  refine wl_split (t := 19) rfl (fun hc => ?_) (fun hc => ?_)
  · replace h := ct hc h
    refine wl_skip rfl rfl (wl_skip rfl rfl (wl_skip rfl rfl (wl_skip rfl rfl ?_)))
    obtain rfl := sI h
    have h := hg24; clear hg24
    refine wP (v := .bool true) rfl rfl (wl_nil (wx_then ?_))
    replace h := ct rfl h
    refine wc_cond_true rfl ?_
    refine wc_seq (wc_region ?_)
    iterate 3 refine wP rfl rfl ?_
    refine wl_nil (wx_then (wc_ret (wx_then_ret ?_)))
    simp only [Option.some.injEq, Prod.mk.injEq] at h
    obtain ⟨rfl, rfl⟩ := h
    exact wx_pf tt_ok (.inl rfl) Tryd.results74 (Res.tmp rfl (Res.tmp rfl Res.nil)) rfl
  replace h := cf hc h
  refine wl_run rfl (wP rfl rfl (wl_run rfl (wP rfl rfl (wl_run rfl (wP (v := .int .i64 (IntKind.wrap .i64 p2)) rfl rfl (wl_run rfl (wP (v := .bool (decide ((IntKind.wrap .i64 ((IntKind.wrap .i64 p0) + (IntKind.wrap .i64 p1))) < (IntKind.wrap .i64 p2)))) rfl rfl ?_)))))))
  obtain rfl := sI h
  have h := hg24; clear hg24
  refine wP (v := .bool (decide ((IntKind.wrap .i64 ((IntKind.wrap .i64 p0) + (IntKind.wrap .i64 p1))) < (IntKind.wrap .i64 p2)))) rfl rfl (wl_nil (wx_then (wc_cond rfl (fun hc => ?_) (fun hc => ?_))))
  · replace h := ct hc h
    refine wc_seq (wc_region ?_)
    iterate 3 refine wP rfl rfl ?_
    refine wl_nil (wx_then (wc_ret (wx_then_ret ?_)))
    simp only [Option.some.injEq, Prod.mk.injEq] at h
    obtain ⟨rfl, rfl⟩ := h
    exact wx_pf tt_ok (.inl rfl) Tryd.results74 (Res.tmp rfl (Res.tmp rfl Res.nil)) rfl
  replace h := cf hc h
  refine wc_skip (wx_then (wc_seq (wc_seq (wc_region ?_))))
  iterate 2 refine wP rfl rfl ?_
  refine wP (v := .int .i64 (IntKind.wrap .i64 p3)) rfl rfl (wP (v := .bool (decide ((IntKind.wrap .i64 p3) < (IntKind.wrap .i64 ((IntKind.wrap .i64 p0) + (IntKind.wrap .i64 p1)))))) rfl rfl (wl_nil (wx_then (wc_cond rfl (fun hc => ?_) (fun hc => ?_)))))
  · replace h := ct hc h
    refine wc_seq (wc_region ?_)
    iterate 3 refine wP rfl rfl ?_
    refine wl_nil (wx_then (wc_ret (wx_then_ret ?_)))
    simp only [Option.some.injEq, Prod.mk.injEq] at h
    obtain ⟨rfl, rfl⟩ := h
    exact wx_pf tt_ok (.inl rfl) Tryd.results74 (Res.tmp rfl (Res.tmp rfl Res.nil)) rfl
  replace h := cf hc h
  refine wc_skip (wx_then (wc_seq (wc_region (wP rfl rfl (wP (v := .int .i32 (IntKind.wrap .i32 (IntKind.wrap .i64 ((IntKind.wrap .i64 p0) + (IntKind.wrap .i64 p1))))) rfl rfl ?_)))))
  iterate 3 refine wP rfl rfl ?_
  refine wl_nil (wx_then (wc_ret ?_))
  simp only [Option.some.injEq, Prod.mk.injEq] at h
  obtain ⟨rfl, rfl⟩ := h
  exact wx_pf tt_ok (.inl rfl) Tryd.results74 (Res.tmp rfl (Res.tmp rfl Res.nil)) rfl

theorem k_step_moved {F : Nat} {p0 : T_api_Player} {r0 : T_api_Player} (h : m_step_moved F p0 = some r0) :
    Pf Tryd.prog 54 [agP p0] (fun w => True) (agP r0) := by
  unfold m_step_moved at h
  refine pf_of_wc Tryd.func54 rfl Tryd.ntmps54 rfl rfl (fun w0 hR => ?_)
  refine wc_seq (wc_region (wl_box rfl rfl rfl (fun b1 => (wl_alloc tt_ok rfl rfl (fun b2 => (wl_nil (wx_then (wc_seq (wc_region (wP (v := .pointer (some ⟨b1, 0, none⟩)) rfl rfl (wl_val (v := .int .i32 p0.X) (val_load tt_ok rfl (mT (mH)) rfl) rfl (wP (v := .pointer (some ⟨b1, 2, none⟩)) rfl rfl (wl_val (v := .int .i32 p0.VX) (val_load tt_ok rfl (mT (mH)) rfl) rfl ?_)))))))))))))
  replace h := bsome h; obtain ⟨⟨zc, zd⟩, x8, h⟩ := h; try dsimp only at h
  refine wl_cq Tryd.call74 rfl rfl rfl (q_pf (k_geom_Move x8) (fun _ _ => trivial)) rfl ?_
  iterate 3 refine wP rfl rfl ?_
  refine wP (v := .pointer (some ⟨b1, 0, none⟩)) rfl rfl ?_
  apply wl_store tt_ok; rfl; exact (Upd.there Upd.here); rfl; rfl; rfl; rfl; rfl; rfl
  refine wP (v := .pointer (some ⟨b1, 2, none⟩)) rfl rfl ?_
  apply wl_store tt_ok; rfl; exact (Upd.there Upd.here); rfl; rfl; rfl; rfl; rfl; rfl
  refine wl_nil (wx_then (wc_seq (wc_region (wP (v := .pointer (some ⟨b1, 1, none⟩)) rfl rfl (wl_val (v := .int .i32 p0.Y) (val_load tt_ok rfl (mT (mH)) rfl) rfl (wP (v := .pointer (some ⟨b1, 3, none⟩)) rfl rfl (wl_val (v := .int .i32 p0.VY) (val_load tt_ok rfl (mT (mH)) rfl) rfl ?_)))))))
  replace h := bsome h; obtain ⟨⟨za, zb⟩, x18, h⟩ := h; try dsimp only at h
  refine wl_cq Tryd.call74 rfl rfl rfl (q_pf (k_geom_Move x18) (fun _ _ => trivial)) rfl ?_
  iterate 3 refine wP rfl rfl ?_
  refine wP (v := .pointer (some ⟨b1, 1, none⟩)) rfl rfl ?_
  apply wl_store tt_ok; rfl; exact (Upd.there Upd.here); rfl; rfl; rfl; rfl; rfl; rfl
  refine wP (v := .pointer (some ⟨b1, 3, none⟩)) rfl rfl ?_
  apply wl_store tt_ok; rfl; exact (Upd.there Upd.here); rfl; rfl; rfl; rfl; rfl; rfl
  refine wl_nil (wx_then (wc_seq (wc_region (wl_val (v := .agg #[.int .i32 zc, .int .i32 za, .int .i32 zd, .int .i32 zb, .int .u8 p0.Health, .int .u8 p0.Cool, .int .u8 p0.Face]) (val_load tt_ok rfl (mT (mH)) rfl) rfl ?_))))
  apply wl_store tt_ok; rfl; exact Upd.here; rfl; rfl; rfl; rfl; rfl; rfl
  refine wl_nil (wx_then (wc_ret ?_))
  obtain rfl := sI h
  exact wx_pf tt_ok (.inl rfl) Tryd.results54 (Res.cell rfl (mH) rfl Res.nil) rfl

theorem k_step_box {F : Nat} {p0 : T_api_Player} {r0 : T_api_Box} (h : m_step_box F p0 = some r0) :
    Pf Tryd.prog 56 [agP p0] (fun w => True) (.agg #[.int .i32 r0.X, .int .i32 r0.Y, .int .i32 r0.W, .int .i32 r0.H]) := by
  unfold m_step_box at h
  refine pf_of_wc Tryd.func56 rfl Tryd.ntmps56 rfl rfl (fun w0 hR => ?_)
  refine wc_seq (wc_region (wl_box rfl rfl rfl (fun b1 => (wl_alloc tt_ok rfl rfl (fun b2 => (wl_nil (wx_then (wc_seq (wc_region (wP (v := .pointer (some ⟨b1, 0, none⟩)) rfl rfl (wl_val (v := .int .i32 p0.X) (val_load tt_ok rfl (mT (mH)) rfl) rfl (wP (v := .pointer (some ⟨b1, 1, none⟩)) rfl rfl (wl_val (v := .int .i32 p0.Y) (val_load tt_ok rfl (mT (mH)) rfl) rfl (wP (v := .agg #[.int .i32 p0.X, .int .i32 p0.Y, .int .i32 (4096 : Int), .int .i32 (4096 : Int)]) rfl rfl ?_))))))))))))))
  apply wl_store tt_ok; rfl; exact Upd.here; rfl; rfl; rfl; rfl; rfl; rfl
  refine wl_nil (wx_then (wc_ret ?_))
  obtain rfl := sI h
  exact wx_pf tt_ok (.inl rfl) Tryd.results56 (Res.cell rfl (mH) rfl Res.nil) rfl

theorem k_geom_of {F : Nat} {p0 : Int} {p1 : Int} {r0 : T_geom_row} (h : m_geom_of F p0 p1 = some r0) :
    Pf Tryd.prog 85 [.int .i32 p0, .int .i32 p1] (fun w => True) (.agg #[.int .i64 r0.from_, .int .i64 r0.to_]) := by
  unfold m_geom_of at h
  refine pf_of_wc Tryd.func85 rfl Tryd.ntmps85 rfl rfl (fun w0 hR => ?_)
  refine wc_seq (wc_region (wl_alloc tt_ok rfl rfl (fun b4 => (wl_nil (wx_then (wc_seq (wc_region (wP rfl rfl (wP (v := .int .i64 (IntKind.wrap .i64 p0)) rfl rfl (wP rfl rfl (wP (v := .int .i64 (IntKind.wrap .i64 p0)) rfl rfl (wP rfl rfl (wP (v := .int .i32 (max (0 : Int) p1)) rfl rfl (wP (v := .int .i64 (IntKind.wrap .i64 (max (0 : Int) p1))) rfl rfl (wP (v := .int .i64 (IntKind.wrap .i64 ((IntKind.wrap .i64 p0) + (IntKind.wrap .i64 (max (0 : Int) p1))))) rfl rfl (wP (v := .agg #[.int .i64 (IntKind.wrap .i64 p0), .int .i64 (IntKind.wrap .i64 ((IntKind.wrap .i64 p0) + (IntKind.wrap .i64 (max (0 : Int) p1))))]) rfl rfl ?_))))))))))))))))
  apply wl_store tt_ok; rfl; exact Upd.here; rfl; rfl; rfl; rfl; rfl; rfl
  refine wl_nil (wx_then (wc_ret ?_))
  obtain rfl := sI h
  exact wx_pf tt_ok (.inl rfl) Tryd.results85 (Res.cell rfl (mH) rfl Res.nil) rfl

theorem k_geom_rows {F : Nat} {p0 : T_api_Box} {r0 : T_geom_row} {r1 : T_geom_row} (h : m_geom_rows F p0 = some (r0, r1)) :
    Pf Tryd.prog 82 [.agg #[.int .i32 p0.X, .int .i32 p0.Y, .int .i32 p0.W, .int .i32 p0.H]] (fun w => True) (.tuple #[.agg #[.int .i64 r0.from_, .int .i64 r0.to_], .agg #[.int .i64 r1.from_, .int .i64 r1.to_]]) := by
  unfold m_geom_rows at h
  refine pf_of_wc Tryd.func82 rfl Tryd.ntmps82 rfl rfl (fun w0 hR => ?_)
  refine wc_seq (wc_region (wl_box rfl rfl rfl (fun b1 => (wl_alloc tt_ok rfl rfl (fun b2 => (wl_alloc tt_ok rfl rfl (fun b3 => (wl_nil (wx_then (wc_seq (wc_k2 (Ls := (⟨b3, [.int .i64 (0 : Int), .int .i64 (0 : Int)], 133, (0, 0)⟩ :: (⟨b2, [.int .i64 (0 : Int), .int .i64 (0 : Int)], 133, (0, 0)⟩ :: (⟨b1, [.int .i32 p0.X, .int .i32 p0.Y, .int .i32 p0.W, .int .i32 p0.H], 97, (0, 0)⟩ :: [])))) [4, 9, 10, 11] [9, 10, 11] [0, 1, 0, 4, 15, 0, 32, 0, 128, 511, 1023, 2047] [0, 1, 2, 3, 5, 6, 7, 8, 4, 9, 10, 11] (by kernel_rfl) (by kernel_rfl) (by kernel_rfl) (k_val (v := .pointer (some ⟨b1, 0, none⟩)) rfl rfl rfl (pSub (pH (pH (pH pNil)))) (stepV_ok tt_ok rfl) rfl ?_))))))))))))
  refine k_val (v := .int .i32 p0.X) rfl rfl rfl (pSub (pH (pH (pH pNil)))) (val_load tt_ok rfl (mT (mT (mH))) rfl) rfl ?_
  refine k_val (v := .pointer (some ⟨b1, 2, none⟩)) rfl rfl rfl (pSub (pH (pH (pH pNil)))) (stepV_ok tt_ok rfl) rfl ?_
  refine k_val (v := .int .i32 p0.W) rfl rfl rfl (pSub (pH (pH (pH pNil)))) (val_load tt_ok rfl (mT (mT (mH))) rfl) rfl ?_
  refine k_val (v := .pointer (some ⟨b1, 1, none⟩)) rfl rfl rfl (pSub (pH (pH (pH pNil)))) (stepV_ok tt_ok rfl) rfl ?_
  refine k_val (v := .int .i32 p0.Y) rfl rfl rfl (pSub (pH (pH (pH pNil)))) (val_load tt_ok rfl (mT (mT (mH))) rfl) rfl ?_
  refine k_val (v := .pointer (some ⟨b1, 3, none⟩)) rfl rfl rfl (pSub (pH (pH (pH pNil)))) (stepV_ok tt_ok rfl) rfl ?_
  refine k_val (v := .int .i32 p0.H) rfl rfl rfl (pSub (pH (pH (pH pNil)))) (val_load tt_ok rfl (mT (mT (mH))) rfl) rfl ?_
  replace h := bsome h; obtain ⟨v8, x8, h⟩ := h
  refine k_cq rfl rfl rfl Tryd.call85 rfl rfl rfl (q_pf (k_geom_of x8) (fun _ _ => trivial)) rfl (pSub (pH (pH (pH pNil)))) ?_
  replace h := bsome h; obtain ⟨v13, x13, h⟩ := h
  refine k_cq rfl rfl rfl Tryd.call85 rfl rfl rfl (q_pf (k_geom_of x13) (fun _ _ => trivial)) rfl (pSub (pH (pH (pH pNil)))) ?_
  refine k_chg0 rfl rfl rfl (chg_store tt_ok rfl (Upd.there Upd.here) rfl rfl rfl rfl rfl rfl) (.inl rfl) ?_
  rintro _ _ rfl
  refine k_chg0 rfl rfl rfl (chg_store tt_ok rfl Upd.here rfl rfl rfl rfl rfl rfl) (.inl rfl) ?_
  rintro _ _ rfl
  refine k_end (by kernel_rfl) ?_
  refine wx_then (wc_ret ?_)
  simp only [Option.some.injEq, Prod.mk.injEq] at h
  obtain ⟨rfl, rfl⟩ := h
  exact wx_pf tt_ok (.inl rfl) Tryd.results82 (Res.cell rfl (mT (mH)) rfl (Res.cell rfl (mH) rfl Res.nil)) rfl

theorem k_geom_row_over {F : Nat} {p0 : T_geom_row} {p1 : T_geom_row} {r0 : Bool} (h : m_geom_row_over F p0 p1 = some r0) :
    Pf Tryd.prog 76 [.agg #[.int .i64 p0.from_, .int .i64 p0.to_], .agg #[.int .i64 p1.from_, .int .i64 p1.to_]] (fun w => True) (.bool r0) := by
  unfold m_geom_row_over at h
  refine pf_of_wc Tryd.func76 rfl Tryd.ntmps76 rfl rfl (fun w0 hR => ?_)
  refine wc_seq (wc_region (wl_box rfl rfl rfl (fun b2 => (wl_box rfl rfl rfl (fun b3 => (wP rfl rfl (wl_nil (wx_then (wc_seq (wc_region (wP (v := .pointer (some ⟨b2, 0, none⟩)) rfl rfl (wl_val (v := .int .i64 p0.from_) (val_load tt_ok rfl (mT (mH)) rfl) rfl (wP (v := .pointer (some ⟨b3, 0, none⟩)) rfl rfl (wl_val (v := .int .i64 p1.from_) (val_load tt_ok rfl (mH) rfl) rfl (wP (v := .int .i64 (max p0.from_ p1.from_)) rfl rfl (wP (v := .pointer (some ⟨b2, 1, none⟩)) rfl rfl (wl_val (v := .int .i64 p0.to_) (val_load tt_ok rfl (mT (mH)) rfl) rfl (wP (v := .pointer (some ⟨b3, 1, none⟩)) rfl rfl ?_))))))))))))))))))
  refine wl_val (v := .int .i64 p1.to_) (val_load tt_ok rfl (mH) rfl) rfl ?_
  refine wP (v := .int .i64 (min p0.to_ p1.to_)) rfl rfl (wP (v := .bool (decide ((max p0.from_ p1.from_) < (min p0.to_ p1.to_)))) rfl rfl (wP rfl rfl (wl_nil (wx_then (wc_ret ?_)))))
  obtain rfl := sI h
  exact wx_pf tt_ok (.inl rfl) Tryd.results76 (Res.tmp rfl Res.nil) rfl

theorem k_geom_both_f2_geom_row_over {F : Nat} {p0 : T_api_Box} {p1 : T_api_Box} {r0 : Bool} (h : m_geom_both_f2_geom_row_over F p0 p1 = some r0) :
    Pf Tryd.prog 75 [.agg #[.int .i32 p0.X, .int .i32 p0.Y, .int .i32 p0.W, .int .i32 p0.H], .agg #[.int .i32 p1.X, .int .i32 p1.Y, .int .i32 p1.W, .int .i32 p1.H], .func (.func 76) #[] #[]] (fun w => True) (.bool r0) := by
  unfold m_geom_both_f2_geom_row_over at h
  refine pf_of_wc Tryd.func75 rfl Tryd.ntmps75 rfl rfl (fun w0 hR => ?_)
  refine wc_seq (wc_region (wl_box rfl rfl rfl (fun b3 => (wl_box rfl rfl rfl (fun b4 => (wP rfl rfl (wl_nil (wx_then (wc_seq (wc_region (wl_val (v := .agg #[.int .i32 p0.X, .int .i32 p0.Y, .int .i32 p0.W, .int .i32 p0.H]) (val_load tt_ok rfl (mT (mH)) rfl) rfl ?_)))))))))))
  replace h := bsome h; obtain ⟨⟨za, zb⟩, x13, h⟩ := h; try dsimp only at h
  refine wl_cq Tryd.call82 rfl rfl rfl (q_pf (k_geom_rows x13) (fun _ _ => trivial)) rfl ?_
  iterate 3 refine wP rfl rfl ?_
  refine wl_alloc tt_ok rfl rfl (fun b7 => ?_)
  refine wl_alloc tt_ok rfl rfl (fun b8 => ?_)
  apply wl_store tt_ok; rfl; exact (Upd.there Upd.here); rfl; rfl; rfl; rfl; rfl; rfl
  apply wl_store tt_ok; rfl; exact Upd.here; rfl; rfl; rfl; rfl; rfl; rfl
  refine wl_nil (wx_then (wc_seq (wc_region (wl_val (v := .agg #[.int .i32 p1.X, .int .i32 p1.Y, .int .i32 p1.W, .int .i32 p1.H]) (val_load tt_ok rfl (mT (mT (mH))) rfl) rfl ?_))))
  replace h := bsome h; obtain ⟨⟨zc, zd⟩, x18, h⟩ := h; try dsimp only at h
  refine wl_cq Tryd.call82 rfl rfl rfl (q_pf (k_geom_rows x18) (fun _ _ => trivial)) rfl ?_
  iterate 3 refine wP rfl rfl ?_
  refine wl_alloc tt_ok rfl rfl (fun b9 => ?_)
  refine wl_alloc tt_ok rfl rfl (fun b10 => ?_)
  apply wl_store tt_ok; rfl; exact (Upd.there Upd.here); rfl; rfl; rfl; rfl; rfl; rfl
  apply wl_store tt_ok; rfl; exact Upd.here; rfl; rfl; rfl; rfl; rfl; rfl
  refine wl_nil (wx_then (wc_seq (wc_region (wP rfl rfl (wl_val (v := .agg #[.int .i64 za.from_, .int .i64 za.to_]) (val_load tt_ok rfl (mT (mT (mT (mH)))) rfl) rfl (wl_val (v := .agg #[.int .i64 zc.from_, .int .i64 zc.to_]) (val_load tt_ok rfl (mT (mH)) rfl) rfl ?_))))))
  replace h := bsome h; obtain ⟨v24, x24, h⟩ := h
  refine wl_cq Tryd.call76 rfl rfl rfl (q_pf (k_geom_row_over x24) (fun _ _ => trivial)) rfl ?_
  refine wP rfl rfl ?_
  replace h := bsome h; obtain ⟨v30, h, hg30⟩ := h
  refine wl_split (t := 25) rfl (fun hc => ?_) (fun hc => ?_)
  · replace h := ct hc h
    refine wl_run rfl (wP rfl rfl (wl_run rfl (wl_val (v := .agg #[.int .i64 zb.from_, .int .i64 zb.to_]) (val_load tt_ok rfl (mT (mT (mH))) rfl) rfl (wl_run rfl (wl_val (v := .agg #[.int .i64 zd.from_, .int .i64 zd.to_]) (val_load tt_ok rfl (mH) rfl) rfl ?_)))))
    replace h := bsome h; obtain ⟨v29, x29, h⟩ := h
    refine wl_run rfl (wl_cq Tryd.call76 rfl rfl rfl (q_pf (k_geom_row_over x29) (fun _ _ => trivial)) rfl ?_)
    obtain rfl := sI h
    have h := hg30; clear hg30
    refine wP (v := .bool v29) rfl rfl (wP rfl rfl (wl_nil (wx_then (wc_ret ?_))))
    obtain rfl := sI h
    exact wx_pf tt_ok (.inl rfl) Tryd.results75 (Res.tmp rfl Res.nil) rfl
  replace h := cf hc h
  refine wl_skip rfl rfl (wl_skip rfl rfl (wl_skip rfl rfl (wl_skip rfl rfl ?_)))
  obtain rfl := sI h
  have h := hg30; clear hg30
  refine wP (v := .bool false) rfl rfl (wP rfl rfl (wl_nil (wx_then (wc_ret ?_))))
  obtain rfl := sI h
  exact wx_pf tt_ok (.inl rfl) Tryd.results75 (Res.tmp rfl Res.nil) rfl

theorem k_geom_Over {F : Nat} {p0 : T_api_Box} {p1 : T_api_Box} {r0 : Bool} (h : m_geom_Over F p0 p1 = some r0) :
    Pf Tryd.prog 55 [.agg #[.int .i32 p0.X, .int .i32 p0.Y, .int .i32 p0.W, .int .i32 p0.H], .agg #[.int .i32 p1.X, .int .i32 p1.Y, .int .i32 p1.W, .int .i32 p1.H]] (fun w => True) (.bool r0) := by
  unfold m_geom_Over at h
  refine pf_of_wc Tryd.func55 rfl Tryd.ntmps55 rfl rfl (fun w0 hR => ?_)
  refine wc_seq (wc_region (wl_box rfl rfl rfl (fun b2 => (wl_box rfl rfl rfl (fun b3 => (wP rfl rfl (wl_nil (wx_then (wc_seq (wc_region (wl_val (v := .agg #[.int .i32 p0.X, .int .i32 p0.Y, .int .i32 p0.W, .int .i32 p0.H]) (val_load tt_ok rfl (mT (mH)) rfl) rfl (wl_val (v := .agg #[.int .i32 p1.X, .int .i32 p1.Y, .int .i32 p1.W, .int .i32 p1.H]) (val_load tt_ok rfl (mH) rfl) rfl ?_))))))))))))
  replace h := bsome h; obtain ⟨v7, x7, h⟩ := h
  refine wl_cq Tryd.call75 rfl rfl rfl (q_pf (k_geom_both_f2_geom_row_over x7) (fun _ _ => trivial)) rfl ?_
  refine wP rfl rfl (wl_nil (wx_then (wc_ret ?_)))
  obtain rfl := sI h
  exact wx_pf tt_ok (.inl rfl) Tryd.results55 (Res.tmp rfl Res.nil) rfl

theorem k_step_stopped {F : Nat} {p0 : T_api_Player} {r0 : T_api_Player} (h : m_step_stopped F p0 = some r0) :
    Pf Tryd.prog 57 [agP p0] (fun w => True) (agP r0) := by
  unfold m_step_stopped at h
  refine pf_of_wc Tryd.func57 rfl Tryd.ntmps57 rfl rfl (fun w0 hR => ?_)
  refine wc_seq (wc_region (wl_box rfl rfl rfl (fun b1 => (wl_alloc tt_ok rfl rfl (fun b2 => (wl_nil (wx_then (wc_seq (wc_region (wP (v := .pointer (some ⟨b1, 2, none⟩)) rfl rfl ?_))))))))))
  apply wl_store tt_ok; rfl; exact (Upd.there Upd.here); rfl; rfl; rfl; rfl; rfl; rfl
  refine wP (v := .pointer (some ⟨b1, 3, none⟩)) rfl rfl ?_
  apply wl_store tt_ok; rfl; exact (Upd.there Upd.here); rfl; rfl; rfl; rfl; rfl; rfl
  refine wl_nil (wx_then (wc_seq (wc_region (wl_val (v := .agg #[.int .i32 p0.X, .int .i32 p0.Y, .int .i32 (0 : Int), .int .i32 (0 : Int), .int .u8 p0.Health, .int .u8 p0.Cool, .int .u8 p0.Face]) (val_load tt_ok rfl (mT (mH)) rfl) rfl ?_))))
  apply wl_store tt_ok; rfl; exact Upd.here; rfl; rfl; rfl; rfl; rfl; rfl
  refine wl_nil (wx_then (wc_ret ?_))
  obtain rfl := sI h
  exact wx_pf tt_ok (.inl rfl) Tryd.results57 (Res.cell rfl (mH) rfl Res.nil) rfl

theorem k_geom_row_inside {F : Nat} {p0 : T_geom_row} {p1 : T_geom_row} {r0 : Bool} (h : m_geom_row_inside F p0 p1 = some r0) :
    Pf Tryd.prog 83 [.agg #[.int .i64 p0.from_, .int .i64 p0.to_], .agg #[.int .i64 p1.from_, .int .i64 p1.to_]] (fun w => True) (.bool r0) := by
  unfold m_geom_row_inside at h
  refine pf_of_wc Tryd.func83 rfl Tryd.ntmps83 rfl rfl (fun w0 hR => ?_)
  refine wc_seq (wc_region (wl_box rfl rfl rfl (fun b2 => (wl_box rfl rfl rfl (fun b3 => (wP rfl rfl (wl_nil (wx_then (wc_seq (wc_region (wP (v := .pointer (some ⟨b2, 0, none⟩)) rfl rfl (wl_val (v := .int .i64 p0.from_) (val_load tt_ok rfl (mT (mH)) rfl) rfl (wP (v := .pointer (some ⟨b2, 1, none⟩)) rfl rfl (wl_val (v := .int .i64 p0.to_) (val_load tt_ok rfl (mT (mH)) rfl) rfl (wP (v := .bool (decide (p0.from_ < p0.to_))) rfl rfl (wP rfl rfl ?_))))))))))))))))
  replace h := bsome h; obtain ⟨v16, h, hg16⟩ := h
  refine wl_split (t := 10) rfl (fun hc => ?_) (fun hc => ?_)
  · replace h := ct hc h
    refine wl_run rfl (wP (v := .pointer (some ⟨b2, 0, none⟩)) rfl rfl (wl_run rfl (wl_val (v := .int .i64 p0.from_) (val_load tt_ok rfl (mT (mH)) rfl) rfl (wl_run rfl (wP (v := .pointer (some ⟨b3, 0, none⟩)) rfl rfl (wl_run rfl (wl_val (v := .int .i64 p1.from_) (val_load tt_ok rfl (mH) rfl) rfl (wl_run rfl (wP (v := .bool (decide (p1.from_ ≤ p0.from_))) rfl rfl ?_)))))))))
    obtain rfl := sI h
    have h := hg16; clear hg16
    refine wP (v := .bool (decide (p1.from_ ≤ p0.from_))) rfl rfl (wP rfl rfl ?_)
    replace h := bsome h; obtain ⟨v23, h, hg23⟩ := h
    refine wl_split (t := 17) rfl (fun hc => ?_) (fun hc => ?_)
    · replace h := ct hc h
      refine wl_run rfl (wP (v := .pointer (some ⟨b2, 1, none⟩)) rfl rfl (wl_run rfl (wl_val (v := .int .i64 p0.to_) (val_load tt_ok rfl (mT (mH)) rfl) rfl (wl_run rfl (wP (v := .pointer (some ⟨b3, 1, none⟩)) rfl rfl (wl_run rfl (wl_val (v := .int .i64 p1.to_) (val_load tt_ok rfl (mH) rfl) rfl (wl_run rfl (wP (v := .bool (decide (p0.to_ ≤ p1.to_))) rfl rfl ?_)))))))))
      obtain rfl := sI h
      have h := hg23; clear hg23
      refine wP (v := .bool (decide (p0.to_ ≤ p1.to_))) rfl rfl (wP rfl rfl (wl_nil (wx_then (wc_ret ?_))))
      obtain rfl := sI h
      exact wx_pf tt_ok (.inl rfl) Tryd.results83 (Res.tmp rfl Res.nil) rfl
    replace h := cf hc h
    refine wl_skip rfl rfl (wl_skip rfl rfl (wl_skip rfl rfl (wl_skip rfl rfl (wl_skip rfl rfl ?_))))
    obtain rfl := sI h
    have h := hg23; clear hg23
    refine wP (v := .bool false) rfl rfl (wP rfl rfl (wl_nil (wx_then (wc_ret ?_))))
    obtain rfl := sI h
    exact wx_pf tt_ok (.inl rfl) Tryd.results83 (Res.tmp rfl Res.nil) rfl
  replace h := cf hc h
  refine wl_skip rfl rfl (wl_skip rfl rfl (wl_skip rfl rfl (wl_skip rfl rfl (wl_skip rfl rfl ?_))))
  obtain rfl := sI h
  have h := hg16; clear hg16
  refine wP (v := .bool false) rfl rfl (wP rfl rfl ?_)
  replace h := bsome h; obtain ⟨v23, h, hg23⟩ := h
  replace h := cf rfl h
  refine wl_skip rfl rfl (wl_skip rfl rfl (wl_skip rfl rfl (wl_skip rfl rfl (wl_skip rfl rfl ?_))))
  obtain rfl := sI h
  have h := hg23; clear hg23
  refine wP (v := .bool false) rfl rfl (wP rfl rfl (wl_nil (wx_then (wc_ret ?_))))
  obtain rfl := sI h
  exact wx_pf tt_ok (.inl rfl) Tryd.results83 (Res.tmp rfl Res.nil) rfl

theorem k_geom_both_f2_geom_row_inside {F : Nat} {p0 : T_api_Box} {p1 : T_api_Box} {r0 : Bool} (h : m_geom_both_f2_geom_row_inside F p0 p1 = some r0) :
    Pf Tryd.prog 75 [.agg #[.int .i32 p0.X, .int .i32 p0.Y, .int .i32 p0.W, .int .i32 p0.H], .agg #[.int .i32 p1.X, .int .i32 p1.Y, .int .i32 p1.W, .int .i32 p1.H], .func (.func 83) #[] #[]] (fun w => True) (.bool r0) := by
  unfold m_geom_both_f2_geom_row_inside at h
  refine pf_of_wc Tryd.func75 rfl Tryd.ntmps75 rfl rfl (fun w0 hR => ?_)
  refine wc_seq (wc_region (wl_box rfl rfl rfl (fun b3 => (wl_box rfl rfl rfl (fun b4 => (wP rfl rfl (wl_nil (wx_then (wc_seq (wc_region (wl_val (v := .agg #[.int .i32 p0.X, .int .i32 p0.Y, .int .i32 p0.W, .int .i32 p0.H]) (val_load tt_ok rfl (mT (mH)) rfl) rfl ?_)))))))))))
  replace h := bsome h; obtain ⟨⟨za, zb⟩, x13, h⟩ := h; try dsimp only at h
  refine wl_cq Tryd.call82 rfl rfl rfl (q_pf (k_geom_rows x13) (fun _ _ => trivial)) rfl ?_
  iterate 3 refine wP rfl rfl ?_
  refine wl_alloc tt_ok rfl rfl (fun b7 => ?_)
  refine wl_alloc tt_ok rfl rfl (fun b8 => ?_)
  apply wl_store tt_ok; rfl; exact (Upd.there Upd.here); rfl; rfl; rfl; rfl; rfl; rfl
  apply wl_store tt_ok; rfl; exact Upd.here; rfl; rfl; rfl; rfl; rfl; rfl
  refine wl_nil (wx_then (wc_seq (wc_region (wl_val (v := .agg #[.int .i32 p1.X, .int .i32 p1.Y, .int .i32 p1.W, .int .i32 p1.H]) (val_load tt_ok rfl (mT (mT (mH))) rfl) rfl ?_))))
  replace h := bsome h; obtain ⟨⟨zc, zd⟩, x18, h⟩ := h; try dsimp only at h
  refine wl_cq Tryd.call82 rfl rfl rfl (q_pf (k_geom_rows x18) (fun _ _ => trivial)) rfl ?_
  iterate 3 refine wP rfl rfl ?_
  refine wl_alloc tt_ok rfl rfl (fun b9 => ?_)
  refine wl_alloc tt_ok rfl rfl (fun b10 => ?_)
  apply wl_store tt_ok; rfl; exact (Upd.there Upd.here); rfl; rfl; rfl; rfl; rfl; rfl
  apply wl_store tt_ok; rfl; exact Upd.here; rfl; rfl; rfl; rfl; rfl; rfl
  refine wl_nil (wx_then (wc_seq (wc_region (wP rfl rfl (wl_val (v := .agg #[.int .i64 za.from_, .int .i64 za.to_]) (val_load tt_ok rfl (mT (mT (mT (mH)))) rfl) rfl (wl_val (v := .agg #[.int .i64 zc.from_, .int .i64 zc.to_]) (val_load tt_ok rfl (mT (mH)) rfl) rfl ?_))))))
  replace h := bsome h; obtain ⟨v24, x24, h⟩ := h
  refine wl_cq Tryd.call83 rfl rfl rfl (q_pf (k_geom_row_inside x24) (fun _ _ => trivial)) rfl ?_
  refine wP rfl rfl ?_
  replace h := bsome h; obtain ⟨v30, h, hg30⟩ := h
  refine wl_split (t := 25) rfl (fun hc => ?_) (fun hc => ?_)
  · replace h := ct hc h
    refine wl_run rfl (wP rfl rfl (wl_run rfl (wl_val (v := .agg #[.int .i64 zb.from_, .int .i64 zb.to_]) (val_load tt_ok rfl (mT (mT (mH))) rfl) rfl (wl_run rfl (wl_val (v := .agg #[.int .i64 zd.from_, .int .i64 zd.to_]) (val_load tt_ok rfl (mH) rfl) rfl ?_)))))
    replace h := bsome h; obtain ⟨v29, x29, h⟩ := h
    refine wl_run rfl (wl_cq Tryd.call83 rfl rfl rfl (q_pf (k_geom_row_inside x29) (fun _ _ => trivial)) rfl ?_)
    obtain rfl := sI h
    have h := hg30; clear hg30
    refine wP (v := .bool v29) rfl rfl (wP rfl rfl (wl_nil (wx_then (wc_ret ?_))))
    obtain rfl := sI h
    exact wx_pf tt_ok (.inl rfl) Tryd.results75 (Res.tmp rfl Res.nil) rfl
  replace h := cf hc h
  refine wl_skip rfl rfl (wl_skip rfl rfl (wl_skip rfl rfl (wl_skip rfl rfl ?_)))
  obtain rfl := sI h
  have h := hg30; clear hg30
  refine wP (v := .bool false) rfl rfl (wP rfl rfl (wl_nil (wx_then (wc_ret ?_))))
  obtain rfl := sI h
  exact wx_pf tt_ok (.inl rfl) Tryd.results75 (Res.tmp rfl Res.nil) rfl

theorem k_geom_Inside {F : Nat} {p0 : T_api_Box} {p1 : T_api_Box} {r0 : Bool} (h : m_geom_Inside F p0 p1 = some r0) :
    Pf Tryd.prog 77 [.agg #[.int .i32 p0.X, .int .i32 p0.Y, .int .i32 p0.W, .int .i32 p0.H], .agg #[.int .i32 p1.X, .int .i32 p1.Y, .int .i32 p1.W, .int .i32 p1.H]] (fun w => True) (.bool r0) := by
  unfold m_geom_Inside at h
  refine pf_of_wc Tryd.func77 rfl Tryd.ntmps77 rfl rfl (fun w0 hR => ?_)
  refine wc_seq (wc_region (wl_box rfl rfl rfl (fun b2 => (wl_box rfl rfl rfl (fun b3 => (wP rfl rfl (wl_nil (wx_then (wc_seq (wc_region (wl_val (v := .agg #[.int .i32 p0.X, .int .i32 p0.Y, .int .i32 p0.W, .int .i32 p0.H]) (val_load tt_ok rfl (mT (mH)) rfl) rfl (wl_val (v := .agg #[.int .i32 p1.X, .int .i32 p1.Y, .int .i32 p1.W, .int .i32 p1.H]) (val_load tt_ok rfl (mH) rfl) rfl ?_))))))))))))
  replace h := bsome h; obtain ⟨v7, x7, h⟩ := h
  refine wl_cq Tryd.call75 rfl rfl rfl (q_pf (k_geom_both_f2_geom_row_inside x7) (fun _ _ => trivial)) rfl ?_
  refine wP rfl rfl (wl_nil (wx_then (wc_ret ?_)))
  obtain rfl := sI h
  exact wx_pf tt_ok (.inl rfl) Tryd.results77 (Res.tmp rfl Res.nil) rfl

theorem k_step_fly {F : Nat} {p0 : T_api_State} {p0b p0t : Nat} {p0a0 : Option Addr} {p0n0 : Nat} {p0c0 : Nat} {p0B0 : List Blk} {r0 : T_api_State} (p0N0 : p0n0 = p0.Shots.length) (p0V0 : Own 92 6 p0a0 p0n0 p0c0 (flat c_T_api_Shot p0.Shots) p0B0) (h : m_step_fly F p0 = some r0) :
    SpD Tryd.prog 58 [.pointer (some ⟨p0b, 0, none⟩)] (⟨p0b, (st19 p0 p0a0 p0n0 p0c0 []), p0t, (0, 0)⟩ :: (p0B0 ++ [])) (fun w => True) (fun v D => ∃ (r0a0 : Option Addr) (r0n0 : Nat) (r0c0 : Nat) (r0B0 : List Blk), r0n0 = r0.Shots.length ∧ Own 92 6 r0a0 r0n0 r0c0 (flat c_T_api_Shot r0.Shots) r0B0 ∧ v = .tuple #[] ∧ D = fun F => (⟨p0b, (st19 r0 r0a0 r0n0 r0c0 []), p0t, (0, 0)⟩ :: (r0B0 ++ F))) := by
  unfold m_step_fly at h
  refine sp_of_wc Tryd.func58 rfl Tryd.ntmps58 rfl rfl (fun w0 hR => ?_)
  refine wc_seq (wc_region (wP (v := .agg #[.int .i32 (0 : Int), .int .i32 (0 : Int), .int .i32 (65536 : Int), .int .i32 (32768 : Int)]) rfl rfl (wl_alloc tt_ok rfl rfl (fun b2 => ?_))))
  apply wl_store tt_ok; rfl; exact Upd.here; rfl; rfl; rfl; rfl; rfl; rfl
  refine wl_nil (wx_then (wc_seq (wc_region (wP rfl rfl (wl_nil (wx_then (wc_seq (wc_seq (wc_region ?_)))))))))
  iterate 2 refine wP rfl rfl ?_
  refine wP (v := .pointer (some ⟨p0b, 16, none⟩)) rfl rfl (wl_val (v := .slice p0a0 p0n0 p0c0) (val_load tt_ok rfl (mT (mH)) rfl) rfl (wl_val (v := .int .i64 (p0.Shots.length : Int)) (val_len tt_ok rfl rfl p0N0) rfl (wP rfl rfl (wl_nil (wx_then (wc_block ?_))))))
  replace h := bsome h; obtain ⟨⟨zm, zk, zl⟩, h, hl9⟩ := h; try dsimp only at hl9
  refine wc_loop (fun m E L => ∃ (zb : (List T_api_Shot)) (zd : Int) (za : (T_api_Player × T_api_Player)) (zc : (Int × Int)) (zg : Option Addr) (zf : Nat) (zh : Nat) (ze : List Blk), m_step_fly_L8 F p0 m zb zd za zc = some (zm, zk, zl) ∧ zf = zb.length ∧ Own 92 6 zg zf zh (flat c_T_api_Shot zb) ze ∧ E = [(0, .pointer (some ⟨p0b, 0, none⟩)), (2, .pointer (some ⟨b2, 0, none⟩)), (3, .slice zg zf zh), (12, .slice p0a0 p0n0 p0c0), (13, .int .i64 (p0.Shots.length : Int)), (14, .int .i64 zd)] ∧ L = (⟨p0b, (.int .u64 p0.Frame :: .int .u64 p0.Seed :: pl14 za [.slice p0a0 p0n0 p0c0, .int .u16 zc.1, .int .u16 zc.2]), p0t, (0, 0)⟩ :: (⟨b2, [.int .i32 (0 : Int), .int .i32 (0 : Int), .int .i32 (65536 : Int), .int .i32 (32768 : Int)], 97, (0, 0)⟩ :: (p0B0 ++ (ze ++ []))))) F ⟨([] : List T_api_Shot), (0 : Int), p0.Players, p0.Score, none, 0, 0, [], h, rfl, Own.zero, rfl, rfl⟩ (agree_cons rfl (agree_cons rfl (agree_cons rfl (agree_cons rfl (agree_cons rfl (agree_cons rfl agree_nil)))))) (pSub (pCons (sC hC) (pH (pA (pNo pNil))))) ?_
  clear h
  rintro m9 _ _ ⟨zb, zd, za, zc, zg, zf, zh, ze, h, zi, zj, rfl, rfl⟩
  rcases m9 with _ | m9
  · rw [m_step_fly_L8.eq_1] at h; cases h
  rw [m_step_fly_L8.eq_2] at h
  refine wc_seq (wc_region (wP (v := .bool (decide (zd < (p0.Shots.length : Int)))) rfl rfl (wl_nil (wx_then (wc_seq (wc_cond rfl (fun hc => ?_) (fun hc => ?_)))))))
  · replace h := ct hc h
    refine wc_skip (wx_then (wc_seq (wc_block (wc_seq (wc_region ?_)))))
    replace h := bsome h; obtain ⟨v16, x16, h⟩ := h
    refine wl_val (v := .pointer (some ((adOf p0a0).add (zd.toNat * 6 + 0)))) (val_ix (enc := c_T_api_Shot) tt_ok rfl rfl rfl rfl p0N0 (Rds.of_vec p0V0) c_T_api_Shot_len rfl x16) rfl ?_
    refine wl_val (v := .agg #[.int .i32 v16.X, .int .i32 v16.Y, .int .i32 v16.VX, .int .i32 v16.VY, .int .u8 v16.Owner, .int .u8 v16.Life]) (val_le (enc := c_T_api_Shot) (xs := p0.Shots) tt_ok rfl (Rds.of_vec p0V0) ⟨_, (sC (sC hA'))⟩ c_T_api_Shot_len x16 rfl) rfl ?_
    refine wl_alloc tt_ok rfl rfl (fun b5 => ?_)
    apply wl_store tt_ok; rfl; exact Upd.here; rfl; rfl; rfl; rfl; rfl; rfl
    refine wl_nil (wx_then (wc_seq (wc_region (wP (v := .pointer (some ⟨b5, 0, none⟩)) rfl rfl (wl_val (v := .int .i32 v16.X) (val_load tt_ok rfl (mH) rfl) rfl (wP (v := .pointer (some ⟨b5, 2, none⟩)) rfl rfl (wl_val (v := .int .i32 v16.VX) (val_load tt_ok rfl (mH) rfl) rfl (wP (v := .int .i32 (IntKind.wrap .i32 (v16.X + v16.VX))) rfl rfl (wP (v := .pointer (some ⟨b5, 1, none⟩)) rfl rfl (wl_val (v := .int .i32 v16.Y) (val_load tt_ok rfl (mH) rfl) rfl (wP (v := .pointer (some ⟨b5, 3, none⟩)) rfl rfl (wl_val (v := .int .i32 v16.VY) (val_load tt_ok rfl (mH) rfl) rfl (wP (v := .int .i32 (IntKind.wrap .i32 (v16.Y + v16.VY))) rfl rfl ?_)))))))))))))
    refine wP (v := .pointer (some ⟨b5, 0, none⟩)) rfl rfl ?_
    apply wl_store tt_ok; rfl; exact Upd.here; rfl; rfl; rfl; rfl; rfl; rfl
    refine wP (v := .pointer (some ⟨b5, 1, none⟩)) rfl rfl ?_
    apply wl_store tt_ok; rfl; exact Upd.here; rfl; rfl; rfl; rfl; rfl; rfl
    refine wl_nil (wx_then (wc_seq (wc_region (wP (v := .pointer (some ⟨b5, 5, none⟩)) rfl rfl (wl_val (v := .int .u8 v16.Life) (val_load tt_ok rfl (mH) rfl) rfl (wP (v := .int .u8 (IntKind.wrap .u8 (v16.Life - (1 : Int)))) rfl rfl (wP (v := .pointer (some ⟨b5, 5, none⟩)) rfl rfl ?_)))))))
    apply wl_store tt_ok; rfl; exact Upd.here; rfl; rfl; rfl; rfl; rfl; rfl
    refine wl_nil (wx_then (wc_seq (wc_region (wP (v := .pointer (some ⟨b5, 0, none⟩)) rfl rfl (wl_val (v := .int .i32 (IntKind.wrap .i32 (v16.X + v16.VX))) (val_load tt_ok rfl (mH) rfl) rfl (wP (v := .pointer (some ⟨b5, 1, none⟩)) rfl rfl (wl_val (v := .int .i32 (IntKind.wrap .i32 (v16.Y + v16.VY))) (val_load tt_ok rfl (mH) rfl) rfl (wP (v := .agg #[.int .i32 (IntKind.wrap .i32 (v16.X + v16.VX)), .int .i32 (IntKind.wrap .i32 (v16.Y + v16.VY)), .int .i32 (512 : Int), .int .i32 (512 : Int)]) rfl rfl (wl_alloc tt_ok rfl rfl (fun b6 => ?_))))))))))
    apply wl_store tt_ok; rfl; exact Upd.here; rfl; rfl; rfl; rfl; rfl; rfl
    refine wl_nil (wx_then (wc_seq (wc_quiet (by kernel_rfl) (by kernel_rfl) (qP rfl rfl (qP (v := .pointer (some ⟨b5, 4, none⟩)) rfl rfl (wq_val (v := .int .u8 v16.Owner) (val_load tt_ok rfl (mT (mH)) rfl) rfl (qP (v := .int .u8 (IntKind.wrap .u8 ((1 : Int) - v16.Owner))) rfl rfl (qP rfl rfl (qP (v := .pointer (some ⟨p0b, 2, none⟩)) rfl rfl ?_)))))))))
    rcases Bool.eq_false_or_eq_true ((IntKind.wrap .u8 ((1 : Int) - v16.Owner)) == (0 : Int)) with hx450 | hx450
    · replace h := ct hx450 h
      refine wq_val (v := .pointer (some ⟨p0b, 2, none⟩)) (val_ia (j := 0) tt_ok rfl rfl rfl rfl (by simpa using hx450) rfl rfl) rfl ?_
      refine qP rfl rfl (wq_nil (wx_then (wc_block (wc_seq (wc_region (wl_val (v := .agg #[.int .i32 (IntKind.wrap .i32 (v16.X + v16.VX)), .int .i32 (IntKind.wrap .i32 (v16.Y + v16.VY)), .int .i32 (512 : Int), .int .i32 (512 : Int)]) (val_load tt_ok rfl (mH) rfl) rfl (wl_val (v := .agg #[.int .i32 (0 : Int), .int .i32 (0 : Int), .int .i32 (65536 : Int), .int .i32 (32768 : Int)]) (val_load tt_ok rfl (mT (mT (mT (mH)))) rfl) rfl ?_)))))))
      replace h := bsome h; obtain ⟨v49, x49, h⟩ := h
      refine wl_cq Tryd.call77 rfl rfl rfl (q_pf (k_geom_Inside x49) (fun _ _ => trivial)) rfl ?_
      refine wP (v := .bool (!v49)) rfl rfl (wP rfl rfl (wl_nil (wx_then (wc_cond rfl (fun hc => ?_) (fun hc => ?_)))))
      · replace h := ct hc h
        refine wc_skip (wx_block (wx_block (wx_then (wc_region (wP (v := .int .i64 (IntKind.wrap .i64 (zd + (1 : Int)))) rfl rfl (wP rfl rfl (wl_nil ?_)))))))
        exact wx_round m9 (Nat.lt_succ_self m9) ⟨zb, (IntKind.wrap .i64 (zd + (1 : Int))), za, zc, zg, zf, zh, ze, h, zi, zj, rfl, rfl⟩ (agree_cons rfl (agree_cons rfl (agree_cons rfl (agree_cons rfl (agree_cons rfl (agree_cons rfl agree_nil)))))) (pSub (pCons (sC (sC hC)) (pCons (sC (sC hC)) (pApp (sC (sC hA')) (pApp (sC (sC hA')) pNil)))))
      replace h := cf hc h
      refine wc_seq (wc_quiet (by kernel_rfl) (by kernel_rfl) (wq_val (v := .agg #[.int .i32 (IntKind.wrap .i32 (v16.X + v16.VX)), .int .i32 (IntKind.wrap .i32 (v16.Y + v16.VY)), .int .i32 (512 : Int), .int .i32 (512 : Int)]) (val_load tt_ok rfl (mH) rfl) rfl (qP rfl rfl (qP rfl rfl (wq_val (v := agP za.1) (val_load tt_ok rfl (mT (mT (mH))) rfl) rfl ?_)))))
      replace h := bsome h; obtain ⟨v56, x56, h⟩ := h
      refine wq_cq Tryd.call56 rfl rfl rfl (q_pf (k_step_box x56) (fun _ _ => trivial)) rfl ?_
      replace h := bsome h; obtain ⟨v57, x57, h⟩ := h
      refine wq_cq Tryd.call55 rfl rfl rfl (q_pf (k_geom_Over x57) (fun _ _ => trivial)) rfl ?_
      refine qP rfl rfl (wq_nil (wx_then (wc_cond rfl (fun hc => ?_) (fun hc => ?_))))
      · replace h := ct hc h
        refine wc_seq (wc_k2 (Ls := (⟨b6, [.int .i32 (IntKind.wrap .i32 (v16.X + v16.VX)), .int .i32 (IntKind.wrap .i32 (v16.Y + v16.VY)), .int .i32 (512 : Int), .int .i32 (512 : Int)], 97, (0, 0)⟩ :: (⟨b5, [.int .i32 (IntKind.wrap .i32 (v16.X + v16.VX)), .int .i32 (IntKind.wrap .i32 (v16.Y + v16.VY)), .int .i32 v16.VX, .int .i32 v16.VY, .int .u8 v16.Owner, .int .u8 (IntKind.wrap .u8 (v16.Life - (1 : Int)))], 92, (0, 0)⟩ :: (⟨p0b, (.int .u64 p0.Frame :: .int .u64 p0.Seed :: pl14 za [.slice p0a0 p0n0 p0c0, .int .u16 zc.1, .int .u16 zc.2]), p0t, (0, 0)⟩ :: (⟨b2, [.int .i32 (0 : Int), .int .i32 (0 : Int), .int .i32 (65536 : Int), .int .i32 (32768 : Int)], 97, (0, 0)⟩ :: (p0B0 ++ (ze ++ []))))))) [12] [12] [0, 1, 3, 7, 0, 16, 48, 112, 240, 511, 1023, 2047, 4095] [0, 1, 2, 3, 4, 5, 6, 7, 8, 9, 10, 11, 12] (by kernel_rfl) (by kernel_rfl) (by kernel_rfl) ?_)
        refine k_val rfl rfl rfl (pSub (pH (pH (pH (pH (pA (pA pNil))))))) (stepV_ok tt_ok rfl) rfl ?_
        refine k_val rfl rfl rfl (pSub (pH (pH (pH (pH (pA (pA pNil))))))) (stepV_ok tt_ok rfl) rfl ?_
        refine k_val (v := .pointer (some ⟨p0b, 6, none⟩)) rfl rfl rfl (pSub (pH (pH (pH (pH (pA (pA pNil))))))) (stepV_ok tt_ok rfl) rfl ?_
        refine k_val (v := .int .u8 za.1.Health) rfl rfl rfl (pSub (pH (pH (pH (pH (pA (pA pNil))))))) (val_load tt_ok rfl (mT (mT (mH))) rfl) rfl ?_
        refine k_val rfl rfl rfl (pSub (pH (pH (pH (pH (pA (pA pNil))))))) (stepV_ok tt_ok rfl) rfl ?_
        refine k_val rfl rfl rfl (pSub (pH (pH (pH (pH (pA (pA pNil))))))) (stepV_ok tt_ok rfl) rfl ?_
        refine k_val (v := .pointer (some ⟨p0b, 6, none⟩)) rfl rfl rfl (pSub (pH (pH (pH (pH (pA (pA pNil))))))) (stepV_ok tt_ok rfl) rfl ?_
        refine k_val (v := .int .u8 za.1.Health) rfl rfl rfl (pSub (pH (pH (pH (pH (pA (pA pNil))))))) (val_load tt_ok rfl (mT (mT (mH))) rfl) rfl ?_
        refine k_val (v := .int .u8 (min za.1.Health (10 : Int))) rfl rfl rfl (pSub (pH (pH (pH (pH (pA (pA pNil))))))) (stepV_ok tt_ok rfl) rfl ?_
        refine k_val (v := .int .u8 (IntKind.wrap .u8 (za.1.Health - (min za.1.Health (10 : Int))))) rfl rfl rfl (pSub (pH (pH (pH (pH (pA (pA pNil))))))) (stepV_ok tt_ok rfl) rfl ?_
        refine k_val rfl rfl rfl (pSub (pH (pH (pH (pH (pA (pA pNil))))))) (stepV_ok tt_ok rfl) rfl ?_
        refine k_val (v := .pointer (some ⟨p0b, 6, none⟩)) rfl rfl rfl (pSub (pH (pH (pH (pH (pA (pA pNil))))))) (stepV_ok tt_ok rfl) rfl ?_
        refine k_chg0 rfl rfl rfl (chg_store tt_ok rfl (Upd.there (Upd.there Upd.here)) rfl rfl rfl rfl rfl rfl) (.inl rfl) ?_
        rintro _ _ rfl
        refine k_end (by kernel_rfl) ?_
        refine wx_then (wc_k2 (Ls := (⟨b6, [.int .i32 (IntKind.wrap .i32 (v16.X + v16.VX)), .int .i32 (IntKind.wrap .i32 (v16.Y + v16.VY)), .int .i32 (512 : Int), .int .i32 (512 : Int)], 97, (0, 0)⟩ :: (⟨b5, [.int .i32 (IntKind.wrap .i32 (v16.X + v16.VX)), .int .i32 (IntKind.wrap .i32 (v16.Y + v16.VY)), .int .i32 v16.VX, .int .i32 v16.VY, .int .u8 v16.Owner, .int .u8 (IntKind.wrap .u8 (v16.Life - (1 : Int)))], 92, (0, 0)⟩ :: (⟨p0b, (.int .u64 p0.Frame :: .int .u64 p0.Seed :: .int .i32 za.1.X :: .int .i32 za.1.Y :: .int .i32 za.1.VX :: .int .i32 za.1.VY :: .int .u8 (IntKind.wrap .u8 (za.1.Health - (min za.1.Health (10 : Int)))) :: .int .u8 za.1.Cool :: .int .u8 za.1.Face :: pl7 za.2 [.slice p0a0 p0n0 p0c0, .int .u16 zc.1, .int .u16 zc.2]), p0t, (0, 0)⟩ :: (⟨b2, [.int .i32 (0 : Int), .int .i32 (0 : Int), .int .i32 (65536 : Int), .int .i32 (32768 : Int)], 97, (0, 0)⟩ :: (p0B0 ++ (ze ++ []))))))) [15] [15] [0, 0, 2, 0, 0, 16, 8, 72, 248, 504, 1016, 2040, 1, 4097, 16383, 32767] [0, 1, 2, 3, 4, 5, 6, 7, 8, 9, 10, 11, 12, 13, 14, 15] (by kernel_rfl) (by kernel_rfl) (by kernel_rfl) ?_)
        refine k_val rfl rfl rfl (pSub (pH (pH (pH (pH (pA (pA pNil))))))) (stepV_ok tt_ok rfl) rfl ?_
        refine k_val (v := .pointer (some ⟨b5, 4, none⟩)) rfl rfl rfl (pSub (pH (pH (pH (pH (pA (pA pNil))))))) (stepV_ok tt_ok rfl) rfl ?_
        refine k_val (v := .int .u8 v16.Owner) rfl rfl rfl (pSub (pH (pH (pH (pH (pA (pA pNil))))))) (val_load tt_ok rfl (mT (mH)) rfl) rfl ?_
        refine k_val rfl rfl rfl (pSub (pH (pH (pH (pH (pA (pA pNil))))))) (stepV_ok tt_ok rfl) rfl ?_
        refine k_val (v := .pointer (some ⟨b5, 4, none⟩)) rfl rfl rfl (pSub (pH (pH (pH (pH (pA (pA pNil))))))) (stepV_ok tt_ok rfl) rfl ?_
        refine k_val (v := .int .u8 v16.Owner) rfl rfl rfl (pSub (pH (pH (pH (pH (pA (pA pNil))))))) (val_load tt_ok rfl (mT (mH)) rfl) rfl ?_
        refine k_val rfl rfl rfl (pSub (pH (pH (pH (pH (pA (pA pNil))))))) (stepV_ok tt_ok rfl) rfl ?_
        refine k_val (v := .pointer (some ⟨p0b, 17, none⟩)) rfl rfl rfl (pSub (pH (pH (pH (pH (pA (pA pNil))))))) (stepV_ok tt_ok rfl) rfl ?_
        rcases Bool.eq_false_or_eq_true (v16.Owner == (0 : Int)) with hx780 | hx780
        · replace h := ct hx780 h
          refine k_val (v := .pointer (some ⟨p0b, 17, none⟩)) rfl rfl rfl (pSub (pH (pH (pH (pH (pA (pA pNil))))))) (val_ia (j := 0) tt_ok rfl rfl rfl rfl (by simpa using hx780) rfl rfl) rfl ?_
          refine k_val (v := .int .u16 zc.1) rfl rfl rfl (pSub (pH (pH (pH (pH (pA (pA pNil))))))) (val_load tt_ok rfl (mT (mT (mH))) rfl) rfl ?_
          refine k_val (v := .int .u16 (min zc.1 (65534 : Int))) rfl rfl rfl (pSub (pH (pH (pH (pH (pA (pA pNil))))))) (stepV_ok tt_ok rfl) rfl ?_
          refine k_val (v := .int .u16 (IntKind.wrap .u16 ((min zc.1 (65534 : Int)) + (1 : Int)))) rfl rfl rfl (pSub (pH (pH (pH (pH (pA (pA pNil))))))) (stepV_ok tt_ok rfl) rfl ?_
          refine k_val rfl rfl rfl (pSub (pH (pH (pH (pH (pA (pA pNil))))))) (stepV_ok tt_ok rfl) rfl ?_
          refine k_val (v := .pointer (some ⟨p0b, 17, none⟩)) rfl rfl rfl (pSub (pH (pH (pH (pH (pA (pA pNil))))))) (stepV_ok tt_ok rfl) rfl ?_
          refine k_val (v := .pointer (some ⟨p0b, 17, none⟩)) rfl rfl rfl (pSub (pH (pH (pH (pH (pA (pA pNil))))))) (val_ia (j := 0) tt_ok rfl rfl rfl rfl (by simpa using hx780) rfl rfl) rfl ?_
          refine k_chg0 rfl rfl rfl (chg_store tt_ok rfl (Upd.there (Upd.there Upd.here)) rfl rfl rfl rfl rfl rfl) (.inl rfl) ?_
          rintro _ _ rfl
          refine k_end (by kernel_rfl) ?_
          refine wx_block (wx_block (wx_then (wc_region (wP (v := .int .i64 (IntKind.wrap .i64 (zd + (1 : Int)))) rfl rfl (wP rfl rfl (wl_nil ?_))))))
          exact wx_round m9 (Nat.lt_succ_self m9) ⟨zb, (IntKind.wrap .i64 (zd + (1 : Int))), ((T_api_Player.mk za.1.X za.1.Y za.1.VX za.1.VY (IntKind.wrap .u8 (za.1.Health - (min za.1.Health (10 : Int)))) za.1.Cool za.1.Face), za.2), ((IntKind.wrap .u16 ((min zc.1 (65534 : Int)) + (1 : Int))), zc.2), zg, zf, zh, ze, h, zi, zj, rfl, rfl⟩ (agree_cons rfl (agree_cons rfl (agree_cons rfl (agree_cons rfl (agree_cons rfl (agree_cons rfl agree_nil)))))) (pSub (pCons (sC (sC hC)) (pCons (sC (sC hC)) (pApp (sC (sC hA')) (pApp (sC (sC hA')) pNil)))))
        replace h := cf hx780 h
        rcases Bool.eq_false_or_eq_true (v16.Owner == (1 : Int)) with hx781 | hx781
        · replace h := ct hx781 h
          refine k_val (v := .pointer (some ⟨p0b, 18, none⟩)) rfl rfl rfl (pSub (pH (pH (pH (pH (pA (pA pNil))))))) (val_ia (j := 1) tt_ok rfl rfl rfl rfl (by simpa using hx781) rfl rfl) rfl ?_
          refine k_val (v := .int .u16 zc.2) rfl rfl rfl (pSub (pH (pH (pH (pH (pA (pA pNil))))))) (val_load tt_ok rfl (mT (mT (mH))) rfl) rfl ?_
          refine k_val (v := .int .u16 (min zc.2 (65534 : Int))) rfl rfl rfl (pSub (pH (pH (pH (pH (pA (pA pNil))))))) (stepV_ok tt_ok rfl) rfl ?_
          refine k_val (v := .int .u16 (IntKind.wrap .u16 ((min zc.2 (65534 : Int)) + (1 : Int)))) rfl rfl rfl (pSub (pH (pH (pH (pH (pA (pA pNil))))))) (stepV_ok tt_ok rfl) rfl ?_
          refine k_val rfl rfl rfl (pSub (pH (pH (pH (pH (pA (pA pNil))))))) (stepV_ok tt_ok rfl) rfl ?_
          refine k_val (v := .pointer (some ⟨p0b, 17, none⟩)) rfl rfl rfl (pSub (pH (pH (pH (pH (pA (pA pNil))))))) (stepV_ok tt_ok rfl) rfl ?_
          refine k_val (v := .pointer (some ⟨p0b, 18, none⟩)) rfl rfl rfl (pSub (pH (pH (pH (pH (pA (pA pNil))))))) (val_ia (j := 1) tt_ok rfl rfl rfl rfl (by simpa using hx781) rfl rfl) rfl ?_
          refine k_chg0 rfl rfl rfl (chg_store tt_ok rfl (Upd.there (Upd.there Upd.here)) rfl rfl rfl rfl rfl rfl) (.inl rfl) ?_
          rintro _ _ rfl
          refine k_end (by kernel_rfl) ?_
          refine wx_block (wx_block (wx_then (wc_region (wP (v := .int .i64 (IntKind.wrap .i64 (zd + (1 : Int)))) rfl rfl (wP rfl rfl (wl_nil ?_))))))
          exact wx_round m9 (Nat.lt_succ_self m9) ⟨zb, (IntKind.wrap .i64 (zd + (1 : Int))), ((T_api_Player.mk za.1.X za.1.Y za.1.VX za.1.VY (IntKind.wrap .u8 (za.1.Health - (min za.1.Health (10 : Int)))) za.1.Cool za.1.Face), za.2), (zc.1, (IntKind.wrap .u16 ((min zc.2 (65534 : Int)) + (1 : Int)))), zg, zf, zh, ze, h, zi, zj, rfl, rfl⟩ (agree_cons rfl (agree_cons rfl (agree_cons rfl (agree_cons rfl (agree_cons rfl (agree_cons rfl agree_nil)))))) (pSub (pCons (sC (sC hC)) (pCons (sC (sC hC)) (pApp (sC (sC hA')) (pApp (sC (sC hA')) pNil)))))
        replace h := cf hx781 h
        cases h
      replace h := cf hc h
      refine wc_seq (wc_region (wP (v := .pointer (some ⟨b5, 5, none⟩)) rfl rfl (wl_val (v := .int .u8 (IntKind.wrap .u8 (v16.Life - (1 : Int)))) (val_load tt_ok rfl (mT (mH)) rfl) rfl (wP (v := .bool (decide ((0 : Int) < (IntKind.wrap .u8 (v16.Life - (1 : Int)))))) rfl rfl (wP rfl rfl (wl_nil (wx_then (wc_cond rfl (fun hc => ?_) (fun hc => ?_)))))))))
      · replace h := ct hc h
        refine wc_region (wP rfl rfl (wl_val (v := .agg #[.int .i32 (IntKind.wrap .i32 (v16.X + v16.VX)), .int .i32 (IntKind.wrap .i32 (v16.Y + v16.VY)), .int .i32 v16.VX, .int .i32 v16.VY, .int .u8 v16.Owner, .int .u8 (IntKind.wrap .u8 (v16.Life - (1 : Int)))]) (val_load tt_ok rfl (mT (mH)) rfl) rfl (wl_chg (chg_bsv (enc := c_T_api_Shot) (xs := ([(T_api_Shot.mk (IntKind.wrap .i32 (v16.X + v16.VX)) (IntKind.wrap .i32 (v16.Y + v16.VY)) v16.VX v16.VY v16.Owner (IntKind.wrap .u8 (v16.Life - (1 : Int))))] : List T_api_Shot)) tt_ok rfl rfl rfl rfl rfl rfl rfl rfl c_T_api_Shot_len) rfl ?_)))
        rintro _ _ ⟨a91, n91_, c91, B91, rfl, N91, V91, rfl⟩
        replace h := bsome h; obtain ⟨v92, x92, h⟩ := h
        refine wl_chg (chg_app (enc := c_T_api_Shot) (ys := ([(T_api_Shot.mk (IntKind.wrap .i32 (v16.X + v16.VX)) (IntKind.wrap .i32 (v16.Y + v16.VY)) v16.VX v16.VY v16.Owner (IntKind.wrap .u8 (v16.Life - (1 : Int))))] : List T_api_Shot)) tt_ok rfl rfl rfl rfl rfl rfl zi N91 zj (sA (sC (sC (sC (sC (sA hA')))))) (Rds.of_vec V91) ⟨_, hA'⟩ c_T_api_Shot_len (fun _ => rfl) rfl x92) rfl ?_
        rintro _ _ ⟨a92, n92_, c92, B92, rfl, N92, V92, rfl⟩
        refine wP rfl rfl (wl_nil (wx_block (wx_block (wx_then (wc_region (wP (v := .int .i64 (IntKind.wrap .i64 (zd + (1 : Int)))) rfl rfl (wP rfl rfl (wl_nil ?_))))))))
        exact wx_round m9 (Nat.lt_succ_self m9) ⟨v92, (IntKind.wrap .i64 (zd + (1 : Int))), za, zc, a92, n92_, c92, B92, h, N92, V92, rfl, rfl⟩ (agree_cons rfl (agree_cons rfl (agree_cons rfl (agree_cons rfl (agree_cons rfl (agree_cons rfl agree_nil)))))) (pSub (pCons (sA (sA (sC (sC hC)))) (pCons (sA (sA (sC (sC hC)))) (pApp (sA (sA (sC (sC hA')))) (pA pNil)))))
      replace h := cf hc h
      refine wc_skip (wx_block (wx_block (wx_then (wc_region (wP (v := .int .i64 (IntKind.wrap .i64 (zd + (1 : Int)))) rfl rfl (wP rfl rfl (wl_nil ?_)))))))
      exact wx_round m9 (Nat.lt_succ_self m9) ⟨zb, (IntKind.wrap .i64 (zd + (1 : Int))), za, zc, zg, zf, zh, ze, h, zi, zj, rfl, rfl⟩ (agree_cons rfl (agree_cons rfl (agree_cons rfl (agree_cons rfl (agree_cons rfl (agree_cons rfl agree_nil)))))) (pSub (pCons (sC (sC hC)) (pCons (sC (sC hC)) (pApp (sC (sC hA')) (pApp (sC (sC hA')) pNil)))))
    replace h := cf hx450 h
    rcases Bool.eq_false_or_eq_true ((IntKind.wrap .u8 ((1 : Int) - v16.Owner)) == (1 : Int)) with hx451 | hx451
    · replace h := ct hx451 h
      refine wq_val (v := .pointer (some ⟨p0b, 9, none⟩)) (val_ia (j := 1) tt_ok rfl rfl rfl rfl (by simpa using hx451) rfl rfl) rfl ?_
      refine qP rfl rfl (wq_nil (wx_then (wc_block (wc_seq (wc_region (wl_val (v := .agg #[.int .i32 (IntKind.wrap .i32 (v16.X + v16.VX)), .int .i32 (IntKind.wrap .i32 (v16.Y + v16.VY)), .int .i32 (512 : Int), .int .i32 (512 : Int)]) (val_load tt_ok rfl (mH) rfl) rfl (wl_val (v := .agg #[.int .i32 (0 : Int), .int .i32 (0 : Int), .int .i32 (65536 : Int), .int .i32 (32768 : Int)]) (val_load tt_ok rfl (mT (mT (mT (mH)))) rfl) rfl ?_)))))))
      replace h := bsome h; obtain ⟨v49, x49, h⟩ := h
      refine wl_cq Tryd.call77 rfl rfl rfl (q_pf (k_geom_Inside x49) (fun _ _ => trivial)) rfl ?_
      refine wP (v := .bool (!v49)) rfl rfl (wP rfl rfl (wl_nil (wx_then (wc_cond rfl (fun hc => ?_) (fun hc => ?_)))))
      · replace h := ct hc h
        refine wc_skip (wx_block (wx_block (wx_then (wc_region (wP (v := .int .i64 (IntKind.wrap .i64 (zd + (1 : Int)))) rfl rfl (wP rfl rfl (wl_nil ?_)))))))
        exact wx_round m9 (Nat.lt_succ_self m9) ⟨zb, (IntKind.wrap .i64 (zd + (1 : Int))), za, zc, zg, zf, zh, ze, h, zi, zj, rfl, rfl⟩ (agree_cons rfl (agree_cons rfl (agree_cons rfl (agree_cons rfl (agree_cons rfl (agree_cons rfl agree_nil)))))) (pSub (pCons (sC (sC hC)) (pCons (sC (sC hC)) (pApp (sC (sC hA')) (pApp (sC (sC hA')) pNil)))))
      replace h := cf hc h
      refine wc_seq (wc_quiet (by kernel_rfl) (by kernel_rfl) (wq_val (v := .agg #[.int .i32 (IntKind.wrap .i32 (v16.X + v16.VX)), .int .i32 (IntKind.wrap .i32 (v16.Y + v16.VY)), .int .i32 (512 : Int), .int .i32 (512 : Int)]) (val_load tt_ok rfl (mH) rfl) rfl (qP rfl rfl (qP rfl rfl (wq_val (v := agP za.2) (val_load tt_ok rfl (mT (mT (mH))) rfl) rfl ?_)))))
      replace h := bsome h; obtain ⟨v56, x56, h⟩ := h
      refine wq_cq Tryd.call56 rfl rfl rfl (q_pf (k_step_box x56) (fun _ _ => trivial)) rfl ?_
      replace h := bsome h; obtain ⟨v57, x57, h⟩ := h
      refine wq_cq Tryd.call55 rfl rfl rfl (q_pf (k_geom_Over x57) (fun _ _ => trivial)) rfl ?_
      refine qP rfl rfl (wq_nil (wx_then (wc_cond rfl (fun hc => ?_) (fun hc => ?_))))
      · replace h := ct hc h
        refine wc_seq (wc_k2 (Ls := (⟨b6, [.int .i32 (IntKind.wrap .i32 (v16.X + v16.VX)), .int .i32 (IntKind.wrap .i32 (v16.Y + v16.VY)), .int .i32 (512 : Int), .int .i32 (512 : Int)], 97, (0, 0)⟩ :: (⟨b5, [.int .i32 (IntKind.wrap .i32 (v16.X + v16.VX)), .int .i32 (IntKind.wrap .i32 (v16.Y + v16.VY)), .int .i32 v16.VX, .int .i32 v16.VY, .int .u8 v16.Owner, .int .u8 (IntKind.wrap .u8 (v16.Life - (1 : Int)))], 92, (0, 0)⟩ :: (⟨p0b, (.int .u64 p0.Frame :: .int .u64 p0.Seed :: pl14 za [.slice p0a0 p0n0 p0c0, .int .u16 zc.1, .int .u16 zc.2]), p0t, (0, 0)⟩ :: (⟨b2, [.int .i32 (0 : Int), .int .i32 (0 : Int), .int .i32 (65536 : Int), .int .i32 (32768 : Int)], 97, (0, 0)⟩ :: (p0B0 ++ (ze ++ []))))))) [12] [12] [0, 1, 3, 7, 0, 16, 48, 112, 240, 511, 1023, 2047, 4095] [0, 1, 2, 3, 4, 5, 6, 7, 8, 9, 10, 11, 12] (by kernel_rfl) (by kernel_rfl) (by kernel_rfl) ?_)
        refine k_val rfl rfl rfl (pSub (pH (pH (pH (pH (pA (pA pNil))))))) (stepV_ok tt_ok rfl) rfl ?_
        refine k_val rfl rfl rfl (pSub (pH (pH (pH (pH (pA (pA pNil))))))) (stepV_ok tt_ok rfl) rfl ?_
        refine k_val (v := .pointer (some ⟨p0b, 13, none⟩)) rfl rfl rfl (pSub (pH (pH (pH (pH (pA (pA pNil))))))) (stepV_ok tt_ok rfl) rfl ?_
        refine k_val (v := .int .u8 za.2.Health) rfl rfl rfl (pSub (pH (pH (pH (pH (pA (pA pNil))))))) (val_load tt_ok rfl (mT (mT (mH))) rfl) rfl ?_
        refine k_val rfl rfl rfl (pSub (pH (pH (pH (pH (pA (pA pNil))))))) (stepV_ok tt_ok rfl) rfl ?_
        refine k_val rfl rfl rfl (pSub (pH (pH (pH (pH (pA (pA pNil))))))) (stepV_ok tt_ok rfl) rfl ?_
        refine k_val (v := .pointer (some ⟨p0b, 13, none⟩)) rfl rfl rfl (pSub (pH (pH (pH (pH (pA (pA pNil))))))) (stepV_ok tt_ok rfl) rfl ?_
        refine k_val (v := .int .u8 za.2.Health) rfl rfl rfl (pSub (pH (pH (pH (pH (pA (pA pNil))))))) (val_load tt_ok rfl (mT (mT (mH))) rfl) rfl ?_
        refine k_val (v := .int .u8 (min za.2.Health (10 : Int))) rfl rfl rfl (pSub (pH (pH (pH (pH (pA (pA pNil))))))) (stepV_ok tt_ok rfl) rfl ?_
        refine k_val (v := .int .u8 (IntKind.wrap .u8 (za.2.Health - (min za.2.Health (10 : Int))))) rfl rfl rfl (pSub (pH (pH (pH (pH (pA (pA pNil))))))) (stepV_ok tt_ok rfl) rfl ?_
        refine k_val rfl rfl rfl (pSub (pH (pH (pH (pH (pA (pA pNil))))))) (stepV_ok tt_ok rfl) rfl ?_
        refine k_val (v := .pointer (some ⟨p0b, 13, none⟩)) rfl rfl rfl (pSub (pH (pH (pH (pH (pA (pA pNil))))))) (stepV_ok tt_ok rfl) rfl ?_
        refine k_chg0 rfl rfl rfl (chg_store tt_ok rfl (Upd.there (Upd.there Upd.here)) rfl rfl rfl rfl rfl rfl) (.inl rfl) ?_
        rintro _ _ rfl
        refine k_end (by kernel_rfl) ?_
        refine wx_then (wc_k2 (Ls := (⟨b6, [.int .i32 (IntKind.wrap .i32 (v16.X + v16.VX)), .int .i32 (IntKind.wrap .i32 (v16.Y + v16.VY)), .int .i32 (512 : Int), .int .i32 (512 : Int)], 97, (0, 0)⟩ :: (⟨b5, [.int .i32 (IntKind.wrap .i32 (v16.X + v16.VX)), .int .i32 (IntKind.wrap .i32 (v16.Y + v16.VY)), .int .i32 v16.VX, .int .i32 v16.VY, .int .u8 v16.Owner, .int .u8 (IntKind.wrap .u8 (v16.Life - (1 : Int)))], 92, (0, 0)⟩ :: (⟨p0b, (.int .u64 p0.Frame :: .int .u64 p0.Seed :: pl7 za.1 [.int .i32 za.2.X, .int .i32 za.2.Y, .int .i32 za.2.VX, .int .i32 za.2.VY, .int .u8 (IntKind.wrap .u8 (za.2.Health - (min za.2.Health (10 : Int)))), .int .u8 za.2.Cool, .int .u8 za.2.Face, .slice p0a0 p0n0 p0c0, .int .u16 zc.1, .int .u16 zc.2]), p0t, (0, 0)⟩ :: (⟨b2, [.int .i32 (0 : Int), .int .i32 (0 : Int), .int .i32 (65536 : Int), .int .i32 (32768 : Int)], 97, (0, 0)⟩ :: (p0B0 ++ (ze ++ []))))))) [15] [15] [0, 0, 2, 0, 0, 16, 8, 72, 248, 504, 1016, 2040, 1, 4097, 16383, 32767] [0, 1, 2, 3, 4, 5, 6, 7, 8, 9, 10, 11, 12, 13, 14, 15] (by kernel_rfl) (by kernel_rfl) (by kernel_rfl) ?_)
        refine k_val rfl rfl rfl (pSub (pH (pH (pH (pH (pA (pA pNil))))))) (stepV_ok tt_ok rfl) rfl ?_
        refine k_val (v := .pointer (some ⟨b5, 4, none⟩)) rfl rfl rfl (pSub (pH (pH (pH (pH (pA (pA pNil))))))) (stepV_ok tt_ok rfl) rfl ?_
        refine k_val (v := .int .u8 v16.Owner) rfl rfl rfl (pSub (pH (pH (pH (pH (pA (pA pNil))))))) (val_load tt_ok rfl (mT (mH)) rfl) rfl ?_
        refine k_val rfl rfl rfl (pSub (pH (pH (pH (pH (pA (pA pNil))))))) (stepV_ok tt_ok rfl) rfl ?_
        refine k_val (v := .pointer (some ⟨b5, 4, none⟩)) rfl rfl rfl (pSub (pH (pH (pH (pH (pA (pA pNil))))))) (stepV_ok tt_ok rfl) rfl ?_
        refine k_val (v := .int .u8 v16.Owner) rfl rfl rfl (pSub (pH (pH (pH (pH (pA (pA pNil))))))) (val_load tt_ok rfl (mT (mH)) rfl) rfl ?_
        refine k_val rfl rfl rfl (pSub (pH (pH (pH (pH (pA (pA pNil))))))) (stepV_ok tt_ok rfl) rfl ?_
        refine k_val (v := .pointer (some ⟨p0b, 17, none⟩)) rfl rfl rfl (pSub (pH (pH (pH (pH (pA (pA pNil))))))) (stepV_ok tt_ok rfl) rfl ?_
        rcases Bool.eq_false_or_eq_true (v16.Owner == (0 : Int)) with hx780 | hx780
        · replace h := ct hx780 h
          refine k_val (v := .pointer (some ⟨p0b, 17, none⟩)) rfl rfl rfl (pSub (pH (pH (pH (pH (pA (pA pNil))))))) (val_ia (j := 0) tt_ok rfl rfl rfl rfl (by simpa using hx780) rfl rfl) rfl ?_
          refine k_val (v := .int .u16 zc.1) rfl rfl rfl (pSub (pH (pH (pH (pH (pA (pA pNil))))))) (val_load tt_ok rfl (mT (mT (mH))) rfl) rfl ?_
          refine k_val (v := .int .u16 (min zc.1 (65534 : Int))) rfl rfl rfl (pSub (pH (pH (pH (pH (pA (pA pNil))))))) (stepV_ok tt_ok rfl) rfl ?_
          refine k_val (v := .int .u16 (IntKind.wrap .u16 ((min zc.1 (65534 : Int)) + (1 : Int)))) rfl rfl rfl (pSub (pH (pH (pH (pH (pA (pA pNil))))))) (stepV_ok tt_ok rfl) rfl ?_
          refine k_val rfl rfl rfl (pSub (pH (pH (pH (pH (pA (pA pNil))))))) (stepV_ok tt_ok rfl) rfl ?_
          refine k_val (v := .pointer (some ⟨p0b, 17, none⟩)) rfl rfl rfl (pSub (pH (pH (pH (pH (pA (pA pNil))))))) (stepV_ok tt_ok rfl) rfl ?_
          refine k_val (v := .pointer (some ⟨p0b, 17, none⟩)) rfl rfl rfl (pSub (pH (pH (pH (pH (pA (pA pNil))))))) (val_ia (j := 0) tt_ok rfl rfl rfl rfl (by simpa using hx780) rfl rfl) rfl ?_
          refine k_chg0 rfl rfl rfl (chg_store tt_ok rfl (Upd.there (Upd.there Upd.here)) rfl rfl rfl rfl rfl rfl) (.inl rfl) ?_
          rintro _ _ rfl
          refine k_end (by kernel_rfl) ?_
          refine wx_block (wx_block (wx_then (wc_region (wP (v := .int .i64 (IntKind.wrap .i64 (zd + (1 : Int)))) rfl rfl (wP rfl rfl (wl_nil ?_))))))
          exact wx_round m9 (Nat.lt_succ_self m9) ⟨zb, (IntKind.wrap .i64 (zd + (1 : Int))), (za.1, (T_api_Player.mk za.2.X za.2.Y za.2.VX za.2.VY (IntKind.wrap .u8 (za.2.Health - (min za.2.Health (10 : Int)))) za.2.Cool za.2.Face)), ((IntKind.wrap .u16 ((min zc.1 (65534 : Int)) + (1 : Int))), zc.2), zg, zf, zh, ze, h, zi, zj, rfl, rfl⟩ (agree_cons rfl (agree_cons rfl (agree_cons rfl (agree_cons rfl (agree_cons rfl (agree_cons rfl agree_nil)))))) (pSub (pCons (sC (sC hC)) (pCons (sC (sC hC)) (pApp (sC (sC hA')) (pApp (sC (sC hA')) pNil)))))
        replace h := cf hx780 h
        rcases Bool.eq_false_or_eq_true (v16.Owner == (1 : Int)) with hx781 | hx781
        · replace h := ct hx781 h
          refine k_val (v := .pointer (some ⟨p0b, 18, none⟩)) rfl rfl rfl (pSub (pH (pH (pH (pH (pA (pA pNil))))))) (val_ia (j := 1) tt_ok rfl rfl rfl rfl (by simpa using hx781) rfl rfl) rfl ?_
          refine k_val (v := .int .u16 zc.2) rfl rfl rfl (pSub (pH (pH (pH (pH (pA (pA pNil))))))) (val_load tt_ok rfl (mT (mT (mH))) rfl) rfl ?_
          refine k_val (v := .int .u16 (min zc.2 (65534 : Int))) rfl rfl rfl (pSub (pH (pH (pH (pH (pA (pA pNil))))))) (stepV_ok tt_ok rfl) rfl ?_
          refine k_val (v := .int .u16 (IntKind.wrap .u16 ((min zc.2 (65534 : Int)) + (1 : Int)))) rfl rfl rfl (pSub (pH (pH (pH (pH (pA (pA pNil))))))) (stepV_ok tt_ok rfl) rfl ?_
          refine k_val rfl rfl rfl (pSub (pH (pH (pH (pH (pA (pA pNil))))))) (stepV_ok tt_ok rfl) rfl ?_
          refine k_val (v := .pointer (some ⟨p0b, 17, none⟩)) rfl rfl rfl (pSub (pH (pH (pH (pH (pA (pA pNil))))))) (stepV_ok tt_ok rfl) rfl ?_
          refine k_val (v := .pointer (some ⟨p0b, 18, none⟩)) rfl rfl rfl (pSub (pH (pH (pH (pH (pA (pA pNil))))))) (val_ia (j := 1) tt_ok rfl rfl rfl rfl (by simpa using hx781) rfl rfl) rfl ?_
          refine k_chg0 rfl rfl rfl (chg_store tt_ok rfl (Upd.there (Upd.there Upd.here)) rfl rfl rfl rfl rfl rfl) (.inl rfl) ?_
          rintro _ _ rfl
          refine k_end (by kernel_rfl) ?_
          refine wx_block (wx_block (wx_then (wc_region (wP (v := .int .i64 (IntKind.wrap .i64 (zd + (1 : Int)))) rfl rfl (wP rfl rfl (wl_nil ?_))))))
          exact wx_round m9 (Nat.lt_succ_self m9) ⟨zb, (IntKind.wrap .i64 (zd + (1 : Int))), (za.1, (T_api_Player.mk za.2.X za.2.Y za.2.VX za.2.VY (IntKind.wrap .u8 (za.2.Health - (min za.2.Health (10 : Int)))) za.2.Cool za.2.Face)), (zc.1, (IntKind.wrap .u16 ((min zc.2 (65534 : Int)) + (1 : Int)))), zg, zf, zh, ze, h, zi, zj, rfl, rfl⟩ (agree_cons rfl (agree_cons rfl (agree_cons rfl (agree_cons rfl (agree_cons rfl (agree_cons rfl agree_nil)))))) (pSub (pCons (sC (sC hC)) (pCons (sC (sC hC)) (pApp (sC (sC hA')) (pApp (sC (sC hA')) pNil)))))
        replace h := cf hx781 h
        cases h
      replace h := cf hc h
      refine wc_seq (wc_region (wP (v := .pointer (some ⟨b5, 5, none⟩)) rfl rfl (wl_val (v := .int .u8 (IntKind.wrap .u8 (v16.Life - (1 : Int)))) (val_load tt_ok rfl (mT (mH)) rfl) rfl (wP (v := .bool (decide ((0 : Int) < (IntKind.wrap .u8 (v16.Life - (1 : Int)))))) rfl rfl (wP rfl rfl (wl_nil (wx_then (wc_cond rfl (fun hc => ?_) (fun hc => ?_)))))))))
      · replace h := ct hc h
        refine wc_region (wP rfl rfl (wl_val (v := .agg #[.int .i32 (IntKind.wrap .i32 (v16.X + v16.VX)), .int .i32 (IntKind.wrap .i32 (v16.Y + v16.VY)), .int .i32 v16.VX, .int .i32 v16.VY, .int .u8 v16.Owner, .int .u8 (IntKind.wrap .u8 (v16.Life - (1 : Int)))]) (val_load tt_ok rfl (mT (mH)) rfl) rfl (wl_chg (chg_bsv (enc := c_T_api_Shot) (xs := ([(T_api_Shot.mk (IntKind.wrap .i32 (v16.X + v16.VX)) (IntKind.wrap .i32 (v16.Y + v16.VY)) v16.VX v16.VY v16.Owner (IntKind.wrap .u8 (v16.Life - (1 : Int))))] : List T_api_Shot)) tt_ok rfl rfl rfl rfl rfl rfl rfl rfl c_T_api_Shot_len) rfl ?_)))
        rintro _ _ ⟨a91, n91_, c91, B91, rfl, N91, V91, rfl⟩
        replace h := bsome h; obtain ⟨v92, x92, h⟩ := h
        refine wl_chg (chg_app (enc := c_T_api_Shot) (ys := ([(T_api_Shot.mk (IntKind.wrap .i32 (v16.X + v16.VX)) (IntKind.wrap .i32 (v16.Y + v16.VY)) v16.VX v16.VY v16.Owner (IntKind.wrap .u8 (v16.Life - (1 : Int))))] : List T_api_Shot)) tt_ok rfl rfl rfl rfl rfl rfl zi N91 zj (sA (sC (sC (sC (sC (sA hA')))))) (Rds.of_vec V91) ⟨_, hA'⟩ c_T_api_Shot_len (fun _ => rfl) rfl x92) rfl ?_
        rintro _ _ ⟨a92, n92_, c92, B92, rfl, N92, V92, rfl⟩
        refine wP rfl rfl (wl_nil (wx_block (wx_block (wx_then (wc_region (wP (v := .int .i64 (IntKind.wrap .i64 (zd + (1 : Int)))) rfl rfl (wP rfl rfl (wl_nil ?_))))))))
        exact wx_round m9 (Nat.lt_succ_self m9) ⟨v92, (IntKind.wrap .i64 (zd + (1 : Int))), za, zc, a92, n92_, c92, B92, h, N92, V92, rfl, rfl⟩ (agree_cons rfl (agree_cons rfl (agree_cons rfl (agree_cons rfl (agree_cons rfl (agree_cons rfl agree_nil)))))) (pSub (pCons (sA (sA (sC (sC hC)))) (pCons (sA (sA (sC (sC hC)))) (pApp (sA (sA (sC (sC hA')))) (pA pNil)))))
      replace h := cf hc h
      refine wc_skip (wx_block (wx_block (wx_then (wc_region (wP (v := .int .i64 (IntKind.wrap .i64 (zd + (1 : Int)))) rfl rfl (wP rfl rfl (wl_nil ?_)))))))
      exact wx_round m9 (Nat.lt_succ_self m9) ⟨zb, (IntKind.wrap .i64 (zd + (1 : Int))), za, zc, zg, zf, zh, ze, h, zi, zj, rfl, rfl⟩ (agree_cons rfl (agree_cons rfl (agree_cons rfl (agree_cons rfl (agree_cons rfl (agree_cons rfl agree_nil)))))) (pSub (pCons (sC (sC hC)) (pCons (sC (sC hC)) (pApp (sC (sC hA')) (pApp (sC (sC hA')) pNil)))))
    replace h := cf hx451 h
    cases h
  replace h := cf hc h
  refine wc_exit (wx_then_exit ?_)
  simp only [Option.some.injEq, Prod.mk.injEq] at h
  obtain ⟨rfl, rfl, rfl⟩ := h
  have h := hl9; clear hl9; try dsimp only [orE_l, orE_r] at h
  refine wx_then_exit (wx_block_exit (wx_then (wc_region ?_)))
  iterate 3 refine wP rfl rfl ?_
  refine wP (v := .pointer (some ⟨p0b, 16, none⟩)) rfl rfl ?_
  apply wl_store tt_ok; rfl; exact Upd.here; rfl; rfl; rfl; rfl; rfl; rfl
  refine wl_nil ?_
  obtain rfl := sI h
  exact wx_spD tt_ok (.inr rfl) Tryd.results58 Res.nil ⟨zg, zf, zh, ze, zi, zj, rfl, rfl⟩ (fun F => by simp) (pSub (pH (pApp (sC (sA hA')) pNil)))

theorem k_rng_Source_Skip {F : Nat} {p0 : T_rng_Source} {p1 : Int} {r0 : T_rng_Source} (h : m_rng_Source_Skip F p0 p1 = some r0) :
    Pf Tryd.prog 86 [.agg #[.int .u64 p0.S], .int .u64 p1] (fun w => True) (.agg #[.int .u64 r0.S]) := by
  unfold m_rng_Source_Skip at h
  refine pf_of_wc Tryd.func86 rfl Tryd.ntmps86 rfl rfl (fun w0 hR => ?_)
  refine wc_seq (wc_region (wl_box rfl rfl rfl (fun b2 => (wl_alloc tt_ok rfl rfl (fun b4 => (wl_nil (wx_then (wc_seq (wc_region (wP (v := .pointer (some ⟨b2, 0, none⟩)) rfl rfl (wl_val (v := .int .u64 p0.S) (val_load tt_ok rfl (mT (mH)) rfl) rfl (wP rfl rfl (wP (v := .int .u64 (IntKind.wrap .u64 (p1 * (11400714819323198485 : Int)))) rfl rfl (wP (v := .int .u64 (IntKind.wrap .u64 (p0.S + (IntKind.wrap .u64 (p1 * (11400714819323198485 : Int)))))) rfl rfl (wP (v := .agg #[.int .u64 (IntKind.wrap .u64 (p0.S + (IntKind.wrap .u64 (p1 * (11400714819323198485 : Int)))))]) rfl rfl ?_)))))))))))))))
  apply wl_store tt_ok; rfl; exact Upd.here; rfl; rfl; rfl; rfl; rfl; rfl
  refine wl_nil (wx_then (wc_ret ?_))
  obtain rfl := sI h
  exact wx_pf tt_ok (.inl rfl) Tryd.results86 (Res.cell rfl (mH) rfl Res.nil) rfl

theorem k_rng_Mix {F : Nat} {p0 : Int} {r0 : Int} (h : m_rng_Mix F p0 = some r0) :
    Pf Tryd.prog 87 [.int .u64 p0] (fun w => True) (.int .u64 r0) := by
  unfold m_rng_Mix at h
  refine pf_of_wc Tryd.func87 rfl Tryd.ntmps87 rfl rfl (fun w0 hR => ?_)
  refine wc_seq (wc_region (wP rfl rfl (wl_nil (wx_then (wc_seq (wc_region ?_))))))
  iterate 2 refine wP rfl rfl ?_
  refine wP (v := .int .u64 (p0 / 2 ^ (min 30 (IntKind.bits .u64)))) rfl rfl (wP (v := .int .u64 (bits .xor .u64 p0 (p0 / 2 ^ (min 30 (IntKind.bits .u64))))) rfl rfl (wP (v := .int .u64 (IntKind.wrap .u64 ((bits .xor .u64 p0 (p0 / 2 ^ (min 30 (IntKind.bits .u64)))) * (13787848793156543929 : Int)))) rfl rfl (wP rfl rfl (wl_nil (wx_then (wc_seq (wc_region ?_)))))))
  iterate 2 refine wP rfl rfl ?_
  refine wP (v := .int .u64 ((IntKind.wrap .u64 ((bits .xor .u64 p0 (p0 / 2 ^ (min 30 (IntKind.bits .u64)))) * (13787848793156543929 : Int))) / 2 ^ (min 27 (IntKind.bits .u64)))) rfl rfl (wP (v := .int .u64 (bits .xor .u64 (IntKind.wrap .u64 ((bits .xor .u64 p0 (p0 / 2 ^ (min 30 (IntKind.bits .u64)))) * (13787848793156543929 : Int))) ((IntKind.wrap .u64 ((bits .xor .u64 p0 (p0 / 2 ^ (min 30 (IntKind.bits .u64)))) * (13787848793156543929 : Int))) / 2 ^ (min 27 (IntKind.bits .u64))))) rfl rfl (wP (v := .int .u64 (IntKind.wrap .u64 ((bits .xor .u64 (IntKind.wrap .u64 ((bits .xor .u64 p0 (p0 / 2 ^ (min 30 (IntKind.bits .u64)))) * (13787848793156543929 : Int))) ((IntKind.wrap .u64 ((bits .xor .u64 p0 (p0 / 2 ^ (min 30 (IntKind.bits .u64)))) * (13787848793156543929 : Int))) / 2 ^ (min 27 (IntKind.bits .u64)))) * (10723151780598845931 : Int)))) rfl rfl ?_))
  refine wP rfl rfl (wl_nil (wx_then (wc_seq (wc_region ?_))))
  iterate 2 refine wP rfl rfl ?_
  refine wP (v := .int .u64 ((IntKind.wrap .u64 ((bits .xor .u64 (IntKind.wrap .u64 ((bits .xor .u64 p0 (p0 / 2 ^ (min 30 (IntKind.bits .u64)))) * (13787848793156543929 : Int))) ((IntKind.wrap .u64 ((bits .xor .u64 p0 (p0 / 2 ^ (min 30 (IntKind.bits .u64)))) * (13787848793156543929 : Int))) / 2 ^ (min 27 (IntKind.bits .u64)))) * (10723151780598845931 : Int))) / 2 ^ (min 31 (IntKind.bits .u64)))) rfl rfl (wP (v := .int .u64 (bits .xor .u64 (IntKind.wrap .u64 ((bits .xor .u64 (IntKind.wrap .u64 ((bits .xor .u64 p0 (p0 / 2 ^ (min 30 (IntKind.bits .u64)))) * (13787848793156543929 : Int))) ((IntKind.wrap .u64 ((bits .xor .u64 p0 (p0 / 2 ^ (min 30 (IntKind.bits .u64)))) * (13787848793156543929 : Int))) / 2 ^ (min 27 (IntKind.bits .u64)))) * (10723151780598845931 : Int))) ((IntKind.wrap .u64 ((bits .xor .u64 (IntKind.wrap .u64 ((bits .xor .u64 p0 (p0 / 2 ^ (min 30 (IntKind.bits .u64)))) * (13787848793156543929 : Int))) ((IntKind.wrap .u64 ((bits .xor .u64 p0 (p0 / 2 ^ (min 30 (IntKind.bits .u64)))) * (13787848793156543929 : Int))) / 2 ^ (min 27 (IntKind.bits .u64)))) * (10723151780598845931 : Int))) / 2 ^ (min 31 (IntKind.bits .u64))))) rfl rfl ?_)
  refine wP rfl rfl (wl_nil (wx_then (wc_ret ?_)))
  obtain rfl := sI h
  exact wx_pf tt_ok (.inl rfl) Tryd.results87 (Res.tmp rfl Res.nil) rfl

theorem k_rng_Source_Next {F : Nat} {p0 : T_rng_Source} {r0 : Int} {r1 : T_rng_Source} (h : m_rng_Source_Next F p0 = some (r0, r1)) :
    Pf Tryd.prog 84 [.agg #[.int .u64 p0.S]] (fun w => True) (.tuple #[.int .u64 r0, .agg #[.int .u64 r1.S]]) := by
  unfold m_rng_Source_Next at h
  refine pf_of_wc Tryd.func84 rfl Tryd.ntmps84 rfl rfl (fun w0 hR => ?_)
  refine wc_seq (wc_region (wl_box rfl rfl rfl (fun b1 => (wP rfl rfl (wl_alloc tt_ok rfl rfl (fun b3 => (wl_nil (wx_then (wc_seq (wc_region (wl_val (v := .agg #[.int .u64 p0.S]) (val_load tt_ok rfl (mT (mH)) rfl) rfl ?_)))))))))))
  replace h := bsome h; obtain ⟨v5, x5, h⟩ := h
  refine wl_cq Tryd.call86 rfl rfl rfl (q_pf (k_rng_Source_Skip x5) (fun _ _ => trivial)) rfl ?_
  apply wl_store tt_ok; rfl; exact (Upd.there Upd.here); rfl; rfl; rfl; rfl; rfl; rfl
  refine wl_nil (wx_then (wc_seq (wc_k2 (Ls := (⟨b3, [.int .u64 (0 : Int)], 135, (0, 0)⟩ :: (⟨b1, [.int .u64 v5.S], 135, (0, 0)⟩ :: []))) [2, 4, 5] [5] [0, 1, 3, 0, 7, 31] [0, 1, 3, 2, 4, 5] (by kernel_rfl) (by kernel_rfl) (by kernel_rfl) (k_val (v := .pointer (some ⟨b1, 0, none⟩)) rfl rfl rfl (pSub (pH (pH pNil))) (stepV_ok tt_ok rfl) rfl (k_val (v := .int .u64 v5.S) rfl rfl rfl (pSub (pH (pH pNil))) (val_load tt_ok rfl (mT (mH)) rfl) rfl (k_val (v := .agg #[.int .u64 v5.S]) rfl rfl rfl (pSub (pH (pH pNil))) (val_load tt_ok rfl (mT (mH)) rfl) rfl ?_))))))
  replace h := bsome h; obtain ⟨v8, x8, h⟩ := h
  refine k_cq rfl rfl rfl Tryd.call87 rfl rfl rfl (q_pf (k_rng_Mix x8) (fun _ _ => trivial)) rfl (pSub (pH (pH pNil))) ?_
  refine k_chg rfl rfl rfl (Chg.of_val (stepV_ok tt_ok rfl)) rfl (.inr (by rintro _ _ ⟨rfl, rfl⟩; exact (pSub (pH (pH pNil))))) ?_
  rintro _ _ ⟨rfl, rfl⟩
  refine k_chg0 rfl rfl rfl (chg_store tt_ok rfl Upd.here rfl rfl rfl rfl rfl rfl) (.inl rfl) ?_
  rintro _ _ rfl
  refine k_end (by kernel_rfl) ?_
  refine wx_then (wc_ret ?_)
  simp only [Option.some.injEq, Prod.mk.injEq] at h
  obtain ⟨rfl, rfl⟩ := h
  exact wx_pf tt_ok (.inl rfl) Tryd.results84 (Res.tmp rfl (Res.cell rfl (mH) rfl Res.nil)) rfl

end Go.Proofs.YtkdbpenjkcjimaaDoor
