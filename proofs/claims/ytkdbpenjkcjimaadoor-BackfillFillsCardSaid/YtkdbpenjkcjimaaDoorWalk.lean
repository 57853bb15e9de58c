/-
  Each function computes what its model says. Printed by a program of this claim's own.
-/
import Derived.Test.YtkdbpenjkcjimaaDoorTab
import Derived.Test.YtkdbpenjkcjimaaDoorMod
import Derived.Test.YtkdbpenjkcjimaaDoorWalk3
namespace Go.Proofs.YtkdbpenjkcjimaaDoor
open Go.Proofs.YtkdbpenjkcjimaaDoor.Eng
set_option linter.unusedVariables false
set_option linter.unusedSimpArgs false
set_option maxHeartbeats 4000000
set_option maxRecDepth 20000

theorem k_hindcastlaw28_BackfillFills {F : Nat} {p0 : T_hindcastlaw28_Setup} {p0a0 : Option Addr} {p0n0 p0c0 : Nat} {p0a1 : Option Addr} {p0n1 p0c1 : Nat} {p1 : Int} {p2 : Bool} {r0 : Bool} (p0N0 : p0n0 = p0.Mine.length) (p0H0 : p0n0 ≤ p0c0) (p0N1 : p0n1 = p0.Theirs.length) (p0H1 : p0n1 ≤ p0c1) (h : m_hindcastlaw28_BackfillFills F p0 p1 p2 = some r0) :
    Pf Tryd.prog 3 [.agg #[.int .u64 p0.Seed, .int .u8 p0.Player, .int .u8 p0.Window, .int .u8 p0.Sure, .int .u8 p0.Ahead, .int .u8 p0.Told, .int .u8 p0.From, .slice p0a0 p0n0 p0c0, .slice p0a1 p0n1 p0c1], .int .u8 p1, .bool p2] (fun w => Rds w [] [] p0a0 (flat (e1 .u8) p0.Mine) ∧ Rds w [] [] p0a1 (flat (e1 .u8) p0.Theirs) ∧ Rds w [] [] (some ⟨0, 0, none⟩) (flat (fun _ : Unit => gl_state_playerBounds) [()]) ∧ Rds w [] [] (some ⟨1, 0, none⟩) (flat (fun _ : Unit => gl_state_shotBounds) [()])) (.bool r0) := by
  unfold m_hindcastlaw28_BackfillFills at h
  refine pf_of_wc Tryd.func3 rfl Tryd.ntmps3 rfl rfl (fun w0 hR => ?_)
  obtain ⟨p0S0, p0S1, G0S, G1S⟩ := hR
  refine wc_seq (wc_region (wl_box rfl rfl rfl (fun b3 => (wP rfl rfl (wl_nil (wx_then (wc_seq (wc_seq (wc_region (wP (v := .pointer (some ⟨b3, 7, none⟩)) rfl rfl (wl_val (v := .slice p0a0 p0n0 p0c0) (val_load tt_ok rfl (mH) rfl) rfl (wl_val (v := .int .i64 (p0.Mine.length : Int)) (val_len tt_ok rfl rfl p0N0) rfl (wP (v := .bool (decide ((100 : Int) < (p0.Mine.length : Int)))) rfl rfl (wP rfl rfl ?_))))))))))))))
  replace h := bsome h; obtain ⟨v33, h, hg33⟩ := h
  refine wl_split (t := 28) rfl (fun hc => ?_) (fun hc => ?_)
  · replace h := ct hc h
    refine wl_skip rfl rfl (wl_skip rfl rfl (wl_skip rfl rfl (wl_skip rfl rfl ?_)))
    obtain rfl := sI h
    have h := hg33; clear hg33
    refine wP (v := .bool true) rfl rfl (wl_nil (wx_then ?_))
    replace h := ct rfl h
    refine wc_cond_true rfl ?_
    refine wc_seq (wc_region ?_)
    replace h := bsome h; obtain ⟨v34, x34, h⟩ := h
    refine wl_cq Tryd.call5 rfl rfl rfl (q_pf (k_hindcastlaw28_works x34) (fun w hI => ⟨(Rds.call G0S pNil rsub_nil) w hI, (Rds.call G1S pNil rsub_nil) w hI⟩)) rfl ?_
    refine wP rfl rfl (wl_nil (wx_then (wc_ret (wx_then_ret ?_))))
    obtain rfl := sI h
    exact wx_pf tt_ok (.inl rfl) Tryd.results3 (Res.tmp rfl Res.nil) rfl
  replace h := cf hc h
  refine wl_run rfl (wP (v := .pointer (some ⟨b3, 8, none⟩)) rfl rfl (wl_run rfl (wl_val (v := .slice p0a1 p0n1 p0c1) (val_load tt_ok rfl (mH) rfl) rfl (wl_run rfl (wl_val (v := .int .i64 (p0.Theirs.length : Int)) (val_len tt_ok rfl rfl p0N1) rfl (wl_run rfl (wP (v := .bool (decide ((100 : Int) < (p0.Theirs.length : Int)))) rfl rfl ?_)))))))
  obtain rfl := sI h
  have h := hg33; clear hg33
  refine wP (v := .bool (decide ((100 : Int) < (p0.Theirs.length : Int)))) rfl rfl (wl_nil (wx_then (wc_cond rfl (fun hc => ?_) (fun hc => ?_))))
  · replace h := ct hc h
    refine wc_seq (wc_region ?_)
    replace h := bsome h; obtain ⟨v34, x34, h⟩ := h
    refine wl_cq Tryd.call5 rfl rfl rfl (q_pf (k_hindcastlaw28_works x34) (fun w hI => ⟨(Rds.call G0S pNil rsub_nil) w hI, (Rds.call G1S pNil rsub_nil) w hI⟩)) rfl ?_
    refine wP rfl rfl (wl_nil (wx_then (wc_ret (wx_then_ret ?_))))
    obtain rfl := sI h
    exact wx_pf tt_ok (.inl rfl) Tryd.results3 (Res.tmp rfl Res.nil) rfl
  replace h := cf hc h
  refine wc_skip (wx_then (wc_seq (wc_region (wP (v := .pointer (some ⟨b3, 2, none⟩)) rfl rfl (wl_val (v := .int .u8 p0.Window) (val_load tt_ok rfl (mH) rfl) rfl (wP (v := .int .u8 (Int.tmod p0.Window 12)) rfl rfl (wP (v := .int .i64 (IntKind.wrap .i64 (Int.tmod p0.Window 12))) rfl rfl (wP (v := .int .i64 (IntKind.wrap .i64 ((1 : Int) + (IntKind.wrap .i64 (Int.tmod p0.Window 12))))) rfl rfl (wP rfl rfl (wl_nil (wx_then (wc_seq (wc_region (wl_val (v := .agg #[.int .u64 p0.Seed, .int .u8 p0.Player, .int .u8 p0.Window, .int .u8 p0.Sure, .int .u8 p0.Ahead, .int .u8 p0.Told, .int .u8 p0.From, .slice p0a0 p0n0 p0c0, .slice p0a1 p0n1 p0c1]) (val_load tt_ok rfl (mH) rfl) rfl ?_))))))))))))))
  refine wl_alloc tt_ok rfl rfl (fun b8 => ?_)
  apply wl_store tt_ok; rfl; exact Upd.here; rfl; rfl; rfl; rfl; rfl; rfl
  refine wl_nil (wx_then (wc_seq (wc_region (wP rfl rfl (wP (v := .int .u8 (IntKind.wrap .u8 (IntKind.wrap .i64 ((1 : Int) + (IntKind.wrap .i64 (Int.tmod p0.Window 12)))))) rfl rfl (wP (v := .pointer (some ⟨b8, 4, none⟩)) rfl rfl ?_))))))
  apply wl_store tt_ok; rfl; exact Upd.here; rfl; rfl; rfl; rfl; rfl; rfl
  refine wP (v := .pointer (some ⟨b8, 5, none⟩)) rfl rfl ?_
  apply wl_store tt_ok; rfl; exact Upd.here; rfl; rfl; rfl; rfl; rfl; rfl
  refine wP (v := .pointer (some ⟨b8, 6, none⟩)) rfl rfl ?_
  apply wl_store tt_ok; rfl; exact Upd.here; rfl; rfl; rfl; rfl; rfl; rfl
  refine wl_nil (wx_then (wc_seq (wc_region (wl_val (v := .agg #[.int .u64 p0.Seed, .int .u8 p0.Player, .int .u8 p0.Window, .int .u8 p0.Sure, .int .u8 (IntKind.wrap .u8 (IntKind.wrap .i64 ((1 : Int) + (IntKind.wrap .i64 (Int.tmod p0.Window 12))))), .int .u8 (0 : Int), .int .u8 (0 : Int), .slice p0a0 p0n0 p0c0, .slice p0a1 p0n1 p0c1]) (val_load tt_ok rfl (mH) rfl) rfl (wl_inl Tryd.call6 rfl rfl rfl Tryd.func6 rfl Tryd.ntmps6 rfl rfl rfl (wc_seq (wc_region (wl_box rfl rfl rfl (fun b100001 => ?_)))))))))
  iterate 2 refine wP rfl rfl ?_
  refine wl_nil (wx_then (wc_seq (wc_k2 (Ls := (⟨b100001, [.int .u64 p0.Seed, .int .u8 p0.Player, .int .u8 p0.Window, .int .u8 p0.Sure, .int .u8 (IntKind.wrap .u8 (IntKind.wrap .i64 ((1 : Int) + (IntKind.wrap .i64 (Int.tmod p0.Window 12))))), .int .u8 (0 : Int), .int .u8 (0 : Int), .slice p0a0 p0n0 p0c0, .slice p0a1 p0n1 p0c1], 25, (0, 0)⟩ :: (⟨b8, [.int .u64 p0.Seed, .int .u8 p0.Player, .int .u8 p0.Window, .int .u8 p0.Sure, .int .u8 (IntKind.wrap .u8 (IntKind.wrap .i64 ((1 : Int) + (IntKind.wrap .i64 (Int.tmod p0.Window 12))))), .int .u8 (0 : Int), .int .u8 (0 : Int), .slice p0a0 p0n0 p0c0, .slice p0a1 p0n1 p0c1], 25, (0, 0)⟩ :: (⟨b3, [.int .u64 p0.Seed, .int .u8 p0.Player, .int .u8 p0.Window, .int .u8 p0.Sure, .int .u8 p0.Ahead, .int .u8 p0.Told, .int .u8 p0.From, .slice p0a0 p0n0 p0c0, .slice p0a1 p0n1 p0c1], 25, (0, 0)⟩ :: [])))) [2, 11, 12] [11, 12] [0, 1, 3, 0, 8, 24, 0, 64, 192, 448, 960, 2047, 4095] [0, 1, 3, 4, 5, 6, 7, 8, 9, 10, 2, 11, 12] (by kernel_rfl) (by kernel_rfl) (by kernel_rfl) ?_)))
  refine k_val (v := .pointer (some ⟨b100001, 0, none⟩)) rfl rfl rfl (pSub (pH (pH (pH pNil)))) (stepV_ok tt_ok rfl) rfl ?_
  refine k_val (v := .int .u64 p0.Seed) rfl rfl rfl (pSub (pH (pH (pH pNil)))) (val_load tt_ok rfl (mH) rfl) rfl ?_
  refine k_val (v := .pointer (some ⟨b100001, 1, none⟩)) rfl rfl rfl (pSub (pH (pH (pH pNil)))) (stepV_ok tt_ok rfl) rfl ?_
  refine k_val (v := .int .u8 p0.Player) rfl rfl rfl (pSub (pH (pH (pH pNil)))) (val_load tt_ok rfl (mH) rfl) rfl ?_
  refine k_val (v := .int .u8 (Int.tmod p0.Player 2)) rfl rfl rfl (pSub (pH (pH (pH pNil)))) (stepV_ok tt_ok rfl) rfl ?_
  refine k_val (v := .pointer (some ⟨b100001, 2, none⟩)) rfl rfl rfl (pSub (pH (pH (pH pNil)))) (stepV_ok tt_ok rfl) rfl ?_
  refine k_val (v := .int .u8 p0.Window) rfl rfl rfl (pSub (pH (pH (pH pNil)))) (val_load tt_ok rfl (mH) rfl) rfl ?_
  refine k_val (v := .int .u8 (Int.tmod p0.Window 12)) rfl rfl rfl (pSub (pH (pH (pH pNil)))) (stepV_ok tt_ok rfl) rfl ?_
  refine k_val (v := .int .i64 (IntKind.wrap .i64 (Int.tmod p0.Window 12))) rfl rfl rfl (pSub (pH (pH (pH pNil)))) (stepV_ok tt_ok rfl) rfl ?_
  refine k_val (v := .int .i64 (IntKind.wrap .i64 ((1 : Int) + (IntKind.wrap .i64 (Int.tmod p0.Window 12))))) rfl rfl rfl (pSub (pH (pH (pH pNil)))) (stepV_ok tt_ok rfl) rfl ?_
  replace h := bsome h; obtain ⟨v100012, x100012, h⟩ := h
  refine k_cs rfl rfl rfl Tryd.call23 rfl rfl rfl (s_sp (k_state_Start x100012) pNil (fun _ _ => trivial)) rfl (.inr (by rintro _ _ ⟨_, ⟨_, _, _, _, _, _, rfl, rfl⟩, rfl⟩; exact ⟨_, (pCons (sA hC) (pCons (sA hC) (pCons (sA hC) pNil)))⟩)) ?_
  rintro _ _ ⟨_, ⟨v100012a0, v100012n0, v100012c0, v100012B0, v100012N0, v100012V0, rfl, rfl⟩, rfl⟩
  replace h := bsome h; obtain ⟨v100021, x100021, h⟩ := h
  rcases v100021 with _ | v100021s
  · replace h := poN h
    refine k_cs rfl rfl rfl Tryd.call22 rfl rfl rfl (s_sp (k_rollback_New_none (p0 := v100012) v100012N0 (vec_cap v100012V0) (own_Z v100012V0) x100021) pNil (fun w hI => ⟨(Rds.call (Rds.of_vec v100012V0) pNil ⟨_, hA'⟩) w hI, (Rds.call G0S pNil rsub_nil) w hI, (Rds.call G1S pNil rsub_nil) w hI⟩)) rfl (.inl rfl) ?_
    rintro _ _ ⟨_, ⟨rfl, rfl⟩, rfl⟩
    refine k_chg rfl rfl rfl (Chg.of_val (stepV_ok tt_ok rfl)) rfl (.inl rfl) ?_
    rintro _ _ ⟨rfl, rfl⟩
    refine k_end (by kernel_rfl) ?_
    refine wx_then (wc_seq (wc_region ?_))
    replace h := bsome h; obtain ⟨v100022, x100022, h⟩ := h
    rcases v100022 with _ | v100022s
    · replace h := poN h
      refine wl_cs Tryd.call7 rfl rfl rfl (s_sp (k_fold_New_none x100022) pNil (fun _ _ => trivial)) rfl ?_
      rintro _ _ ⟨_, ⟨rfl, rfl⟩, rfl⟩
      refine wP rfl rfl (wl_nil (wx_then (wc_seq (wc_region (wP (v := .pointer (some ⟨b100001, 3, none⟩)) rfl rfl (wl_val (v := .int .u8 p0.Sure) (val_load tt_ok rfl (mR (mH)) rfl) rfl (wP (v := .int .u8 (Int.tmod p0.Sure 60)) rfl rfl (wP (v := .int .i64 (IntKind.wrap .i64 (Int.tmod p0.Sure 60))) rfl rfl (wP rfl rfl (wl_nil (wx_then (wc_seq (wc_seq (wc_region (wP rfl rfl (wl_nil (wx_then (wc_block ?_))))))))))))))))))
      replace h := bsome h; obtain ⟨_, h, hl100013⟩ := h
      refine wc_loop (fun m E L => ∃ (zaw : Int), m_hindcastlaw28_BackfillFills_L100012 F p0 m zaw = some () ∧ E = [(1, .pointer (some ⟨b100001, 0, none⟩)), (4, .pointer none), (5, .pointer none), (6, .int .i64 (IntKind.wrap .i64 (Int.tmod p0.Sure 60))), (7, .int .i64 zaw)] ∧ L = (⟨b3, [.int .u64 p0.Seed, .int .u8 p0.Player, .int .u8 p0.Window, .int .u8 p0.Sure, .int .u8 p0.Ahead, .int .u8 p0.Told, .int .u8 p0.From, .slice p0a0 p0n0 p0c0, .slice p0a1 p0n1 p0c1], 25, (0, 0)⟩ :: (⟨b8, [.int .u64 p0.Seed, .int .u8 p0.Player, .int .u8 p0.Window, .int .u8 p0.Sure, .int .u8 (IntKind.wrap .u8 (IntKind.wrap .i64 ((1 : Int) + (IntKind.wrap .i64 (Int.tmod p0.Window 12))))), .int .u8 (0 : Int), .int .u8 (0 : Int), .slice p0a0 p0n0 p0c0, .slice p0a1 p0n1 p0c1], 25, (0, 0)⟩ :: (⟨b100001, [.int .u64 p0.Seed, .int .u8 p0.Player, .int .u8 p0.Window, .int .u8 p0.Sure, .int .u8 (IntKind.wrap .u8 (IntKind.wrap .i64 ((1 : Int) + (IntKind.wrap .i64 (Int.tmod p0.Window 12))))), .int .u8 (0 : Int), .int .u8 (0 : Int), .slice p0a0 p0n0 p0c0, .slice p0a1 p0n1 p0c1], 25, (0, 0)⟩ :: [])))) F ⟨(0 : Int), h, rfl, rfl⟩ (agree_cons rfl (agree_cons rfl (agree_cons rfl (agree_cons rfl (agree_cons rfl agree_nil))))) (pSub (pCons (sA (sC (sC hC))) (pCons (sA (sC hC)) (pCons (sA hC) pNil)))) ?_
      clear h
      rintro m100013 _ _ ⟨zaw, h, rfl, rfl⟩
      rcases m100013 with _ | m100013
      · rw [m_hindcastlaw28_BackfillFills_L100012.eq_1] at h; cases h
      rw [m_hindcastlaw28_BackfillFills_L100012.eq_2] at h
      refine wc_seq (wc_seq (wc_region ?_))
      iterate 2 refine wP rfl rfl ?_
      refine wP (v := .bool (decide (zaw < (IntKind.wrap .i64 (Int.tmod p0.Sure 60))))) rfl rfl (wl_nil (wx_then (wc_cond rfl (fun hc => ?_) (fun hc => ?_))))
      · replace h := ct hc h
        refine wc_skip (wx_then (wc_seq (wc_block (wc_seq (wc_region (wP rfl rfl (wP (v := .pointer (some ⟨b100001, 7, none⟩)) rfl rfl (wl_val (v := .slice p0a0 p0n0 p0c0) (val_load tt_ok rfl (mT (mT (mH))) rfl) rfl (wP rfl rfl ?_)))))))))
        replace h := bsome h; obtain ⟨v100036, x100036, h⟩ := h
        refine wl_cq Tryd.call25 rfl rfl rfl (q_pf (k_hindcastlaw28_at (p0 := p0.Mine) p0N0 p0H0 x100036) (Rds.call p0S0 pNil rsub_nil)) rfl ?_
        replace h := bsome h; obtain ⟨v100037, x100037, h⟩ := h
        refine wl_cq Tryd.call24 rfl rfl rfl (q_pf (k_rollback_Engine_Local_nil0 x100037) (fun _ _ => trivial)) rfl ?_
        refine wl_nil (wx_then (wc_seq (wc_region ?_)))
        iterate 2 refine wP rfl rfl ?_
        refine wP (v := .int .u64 (IntKind.wrap .u64 zaw)) rfl rfl (wP (v := .pointer (some ⟨b100001, 8, none⟩)) rfl rfl (wl_val (v := .slice p0a1 p0n1 p0c1) (val_load tt_ok rfl (mT (mT (mH))) rfl) rfl (wP rfl rfl ?_)))
        replace h := bsome h; obtain ⟨v100044, x100044, h⟩ := h
        refine wl_cq Tryd.call25 rfl rfl rfl (q_pf (k_hindcastlaw28_at (p0 := p0.Theirs) p0N1 p0H1 x100044) (Rds.call p0S1 pNil rsub_nil)) rfl ?_
        replace h := bsome h; obtain ⟨v100045, x100045, h⟩ := h
        refine wl_cq Tryd.call26 rfl rfl rfl (q_pf (k_rollback_Engine_Remote_nil0 x100045) (fun _ _ => trivial)) rfl ?_
        refine wl_nil (wx_then (wc_seq (wc_region ?_)))
        iterate 2 refine wP rfl rfl ?_
        refine wP (v := .int .i64 (IntKind.wrap .i64 (zaw + (1 : Int)))) rfl rfl (wP (v := .int .u64 (IntKind.wrap .u64 (IntKind.wrap .i64 (zaw + (1 : Int))))) rfl rfl ?_)
        replace h := bsome h; obtain ⟨⟨zku, zkv⟩, x100050, h⟩ := h; try dsimp only at h
        refine wl_cq Tryd.call14 rfl rfl rfl (q_pf (k_rollback_Engine_Confirm_nil0 x100050) (fun _ _ => trivial)) rfl ?_
        refine wl_nil (wx_then (wc_region (wP rfl rfl (wl_val (v := .agg #[.int .u64 p0.Seed, .int .u8 p0.Player, .int .u8 p0.Window, .int .u8 p0.Sure, .int .u8 (IntKind.wrap .u8 (IntKind.wrap .i64 ((1 : Int) + (IntKind.wrap .i64 (Int.tmod p0.Window 12))))), .int .u8 (0 : Int), .int .u8 (0 : Int), .slice p0a0 p0n0 p0c0, .slice p0a1 p0n1 p0c1]) (val_load tt_ok rfl (mT (mT (mH))) rfl) rfl (wP rfl rfl ?_)))))
        replace h := bsome h; obtain ⟨v100054, x100054, h⟩ := h
        refine wl_cq Tryd.call9 rfl rfl rfl (q_pf (k_hindcastlaw28_Setup_pair (p0 := (T_hindcastlaw28_Setup.mk p0.Seed p0.Player p0.Window p0.Sure (IntKind.wrap .u8 (IntKind.wrap .i64 ((1 : Int) + (IntKind.wrap .i64 (Int.tmod p0.Window 12))))) (0 : Int) (0 : Int) p0.Mine p0.Theirs)) p0N0 p0H0 p0N1 p0H1 x100054) (fun w hI => ⟨(Rds.call p0S0 pNil rsub_nil) w hI, (Rds.call p0S1 pNil rsub_nil) w hI⟩)) rfl ?_
        replace h := bsome h; obtain ⟨v100055, x100055, h⟩ := h
        refine wl_cq Tryd.call8 rfl rfl rfl (q_pf (k_fold_History_Add_nil0 x100055) (fun _ _ => trivial)) rfl ?_
        refine wl_nil (wx_block (wx_then (wc_region (wP rfl rfl (wP (v := .int .i64 (IntKind.wrap .i64 (zaw + (1 : Int)))) rfl rfl (wP rfl rfl (wl_nil ?_)))))))
        exact wx_round m100013 (Nat.lt_succ_self m100013) ⟨(IntKind.wrap .i64 (zaw + (1 : Int))), h, rfl, rfl⟩ (agree_cons rfl (agree_cons rfl (agree_cons rfl (agree_cons rfl (agree_cons rfl agree_nil))))) (pSub (pH (pH (pH pNil))))
      replace h := cf hc h
      refine wc_exit (wx_then_exit ?_)
      have h := hl100013; clear hl100013; try dsimp only [orE_l, orE_r] at h
      refine wx_then_exit (wx_block_exit (wx_then (wc_seq (wc_seq (wc_region ?_)))))
      iterate 2 refine wP rfl rfl ?_
      refine wl_nil (wx_then (wc_block ?_))
      replace h := bsome h; obtain ⟨_, h, hl100034⟩ := h
      refine wc_loop (fun m E L => ∃ (zci : Int), m_hindcastlaw28_BackfillFills_L100033 F p0 m zci = some () ∧ E = [(1, .pointer (some ⟨b100001, 0, none⟩)), (4, .pointer none), (5, .pointer none), (6, .int .i64 (IntKind.wrap .i64 (Int.tmod p0.Sure 60))), (8, .int .i64 zci)] ∧ L = (⟨b3, [.int .u64 p0.Seed, .int .u8 p0.Player, .int .u8 p0.Window, .int .u8 p0.Sure, .int .u8 p0.Ahead, .int .u8 p0.Told, .int .u8 p0.From, .slice p0a0 p0n0 p0c0, .slice p0a1 p0n1 p0c1], 25, (0, 0)⟩ :: (⟨b8, [.int .u64 p0.Seed, .int .u8 p0.Player, .int .u8 p0.Window, .int .u8 p0.Sure, .int .u8 (IntKind.wrap .u8 (IntKind.wrap .i64 ((1 : Int) + (IntKind.wrap .i64 (Int.tmod p0.Window 12))))), .int .u8 (0 : Int), .int .u8 (0 : Int), .slice p0a0 p0n0 p0c0, .slice p0a1 p0n1 p0c1], 25, (0, 0)⟩ :: (⟨b100001, [.int .u64 p0.Seed, .int .u8 p0.Player, .int .u8 p0.Window, .int .u8 p0.Sure, .int .u8 (IntKind.wrap .u8 (IntKind.wrap .i64 ((1 : Int) + (IntKind.wrap .i64 (Int.tmod p0.Window 12))))), .int .u8 (0 : Int), .int .u8 (0 : Int), .slice p0a0 p0n0 p0c0, .slice p0a1 p0n1 p0c1], 25, (0, 0)⟩ :: [])))) F ⟨(IntKind.wrap .i64 (Int.tmod p0.Sure 60)), h, rfl, rfl⟩ (agree_cons rfl (agree_cons rfl (agree_cons rfl (agree_cons rfl (agree_cons rfl agree_nil))))) (pSub (pH (pH (pH pNil)))) ?_
      clear h
      rintro m100034 _ _ ⟨zci, h, rfl, rfl⟩
      rcases m100034 with _ | m100034
      · rw [m_hindcastlaw28_BackfillFills_L100033.eq_1] at h; cases h
      rw [m_hindcastlaw28_BackfillFills_L100033.eq_2] at h
      refine wc_seq (wc_seq (wc_region ?_))
      iterate 2 refine wP rfl rfl ?_
      refine wP (v := .pointer (some ⟨b100001, 4, none⟩)) rfl rfl (wl_val (v := .int .u8 (IntKind.wrap .u8 (IntKind.wrap .i64 ((1 : Int) + (IntKind.wrap .i64 (Int.tmod p0.Window 12)))))) (val_load tt_ok rfl (mT (mT (mH))) rfl) rfl (wP (v := .int .u8 (Int.tmod (IntKind.wrap .u8 (IntKind.wrap .i64 ((1 : Int) + (IntKind.wrap .i64 (Int.tmod p0.Window 12))))) 13)) rfl rfl (wP (v := .int .i64 (IntKind.wrap .i64 (Int.tmod (IntKind.wrap .u8 (IntKind.wrap .i64 ((1 : Int) + (IntKind.wrap .i64 (Int.tmod p0.Window 12))))) 13))) rfl rfl (wP (v := .int .i64 (IntKind.wrap .i64 ((IntKind.wrap .i64 (Int.tmod p0.Sure 60)) + (IntKind.wrap .i64 (Int.tmod (IntKind.wrap .u8 (IntKind.wrap .i64 ((1 : Int) + (IntKind.wrap .i64 (Int.tmod p0.Window 12))))) 13))))) rfl rfl ?_))))
      refine wP (v := .bool (decide (zci < (IntKind.wrap .i64 ((IntKind.wrap .i64 (Int.tmod p0.Sure 60)) + (IntKind.wrap .i64 (Int.tmod (IntKind.wrap .u8 (IntKind.wrap .i64 ((1 : Int) + (IntKind.wrap .i64 (Int.tmod p0.Window 12))))) 13))))))) rfl rfl (wl_nil (wx_then (wc_cond rfl (fun hc => ?_) (fun hc => ?_))))
      · replace h := ct hc h
        refine wc_skip (wx_then (wc_seq (wc_block (wc_region (wP rfl rfl (wP (v := .pointer (some ⟨b100001, 7, none⟩)) rfl rfl (wl_val (v := .slice p0a0 p0n0 p0c0) (val_load tt_ok rfl (mT (mT (mH))) rfl) rfl (wP rfl rfl ?_))))))))
        replace h := bsome h; obtain ⟨v100071, x100071, h⟩ := h
        refine wl_cq Tryd.call25 rfl rfl rfl (q_pf (k_hindcastlaw28_at (p0 := p0.Mine) p0N0 p0H0 x100071) (Rds.call p0S0 pNil rsub_nil)) rfl ?_
        replace h := bsome h; obtain ⟨v100072, x100072, h⟩ := h
        refine wl_cq Tryd.call24 rfl rfl rfl (q_pf (k_rollback_Engine_Local_nil0 x100072) (fun _ _ => trivial)) rfl ?_
        refine wl_nil (wx_block (wx_then (wc_region (wP rfl rfl (wP (v := .int .i64 (IntKind.wrap .i64 (zci + (1 : Int)))) rfl rfl (wP rfl rfl (wl_nil ?_)))))))
        exact wx_round m100034 (Nat.lt_succ_self m100034) ⟨(IntKind.wrap .i64 (zci + (1 : Int))), h, rfl, rfl⟩ (agree_cons rfl (agree_cons rfl (agree_cons rfl (agree_cons rfl (agree_cons rfl agree_nil))))) (pSub (pH (pH (pH pNil))))
      replace h := cf hc h
      refine wc_exit (wx_then_exit ?_)
      have h := hl100034; clear hl100034; try dsimp only [orE_l, orE_r] at h
      refine wx_then_exit (wx_block_exit (wx_then (wc_seq (wc_seq (wc_region ?_)))))
      iterate 2 refine wP rfl rfl ?_
      refine wl_nil (wx_then (wc_block ?_))
      replace h := bsome h; obtain ⟨_, h, hl100049⟩ := h
      refine wc_loop (fun m E L => ∃ (zbr : Int), m_hindcastlaw28_BackfillFills_L100048 F p0 m zbr = some () ∧ E = [(1, .pointer (some ⟨b100001, 0, none⟩)), (4, .pointer none), (5, .pointer none), (6, .int .i64 (IntKind.wrap .i64 (Int.tmod p0.Sure 60))), (9, .int .i64 zbr)] ∧ L = (⟨b3, [.int .u64 p0.Seed, .int .u8 p0.Player, .int .u8 p0.Window, .int .u8 p0.Sure, .int .u8 p0.Ahead, .int .u8 p0.Told, .int .u8 p0.From, .slice p0a0 p0n0 p0c0, .slice p0a1 p0n1 p0c1], 25, (0, 0)⟩ :: (⟨b8, [.int .u64 p0.Seed, .int .u8 p0.Player, .int .u8 p0.Window, .int .u8 p0.Sure, .int .u8 (IntKind.wrap .u8 (IntKind.wrap .i64 ((1 : Int) + (IntKind.wrap .i64 (Int.tmod p0.Window 12))))), .int .u8 (0 : Int), .int .u8 (0 : Int), .slice p0a0 p0n0 p0c0, .slice p0a1 p0n1 p0c1], 25, (0, 0)⟩ :: (⟨b100001, [.int .u64 p0.Seed, .int .u8 p0.Player, .int .u8 p0.Window, .int .u8 p0.Sure, .int .u8 (IntKind.wrap .u8 (IntKind.wrap .i64 ((1 : Int) + (IntKind.wrap .i64 (Int.tmod p0.Window 12))))), .int .u8 (0 : Int), .int .u8 (0 : Int), .slice p0a0 p0n0 p0c0, .slice p0a1 p0n1 p0c1], 25, (0, 0)⟩ :: [])))) F ⟨(IntKind.wrap .i64 (Int.tmod p0.Sure 60)), h, rfl, rfl⟩ (agree_cons rfl (agree_cons rfl (agree_cons rfl (agree_cons rfl (agree_cons rfl agree_nil))))) (pSub (pH (pH (pH pNil)))) ?_
      clear h
      rintro m100049 _ _ ⟨zbr, h, rfl, rfl⟩
      rcases m100049 with _ | m100049
      · rw [m_hindcastlaw28_BackfillFills_L100048.eq_1] at h; cases h
      rw [m_hindcastlaw28_BackfillFills_L100048.eq_2] at h
      refine wc_seq (wc_seq (wc_region ?_))
      iterate 2 refine wP rfl rfl ?_
      refine wP (v := .pointer (some ⟨b100001, 5, none⟩)) rfl rfl (wl_val (v := .int .u8 (0 : Int)) (val_load tt_ok rfl (mT (mT (mH))) rfl) rfl (wP (v := .int .u8 (Int.tmod (0 : Int) 13)) rfl rfl (wP (v := .int .i64 (IntKind.wrap .i64 (Int.tmod (0 : Int) 13))) rfl rfl (wP (v := .int .i64 (IntKind.wrap .i64 ((IntKind.wrap .i64 (Int.tmod p0.Sure 60)) + (IntKind.wrap .i64 (Int.tmod (0 : Int) 13))))) rfl rfl (wP (v := .bool (decide (zbr < (IntKind.wrap .i64 ((IntKind.wrap .i64 (Int.tmod p0.Sure 60)) + (IntKind.wrap .i64 (Int.tmod (0 : Int) 13))))))) rfl rfl (wl_nil (wx_then (wc_cond rfl (fun hc => ?_) (fun hc => ?_)))))))))
      · replace h := ct hc h
        refine wc_skip (wx_then (wc_seq (wc_block (wc_region ?_))))
        iterate 2 refine wP rfl rfl ?_
        refine wP (v := .int .u64 (IntKind.wrap .u64 zbr)) rfl rfl (wP (v := .pointer (some ⟨b100001, 8, none⟩)) rfl rfl (wl_val (v := .slice p0a1 p0n1 p0c1) (val_load tt_ok rfl (mT (mT (mH))) rfl) rfl (wP rfl rfl ?_)))
        replace h := bsome h; obtain ⟨v100090, x100090, h⟩ := h
        refine wl_cq Tryd.call25 rfl rfl rfl (q_pf (k_hindcastlaw28_at (p0 := p0.Theirs) p0N1 p0H1 x100090) (Rds.call p0S1 pNil rsub_nil)) rfl ?_
        replace h := bsome h; obtain ⟨v100091, x100091, h⟩ := h
        refine wl_cq Tryd.call26 rfl rfl rfl (q_pf (k_rollback_Engine_Remote_nil0 x100091) (fun _ _ => trivial)) rfl ?_
        refine wl_nil (wx_block (wx_then (wc_region (wP rfl rfl (wP (v := .int .i64 (IntKind.wrap .i64 (zbr + (1 : Int)))) rfl rfl (wP rfl rfl (wl_nil ?_)))))))
        exact wx_round m100049 (Nat.lt_succ_self m100049) ⟨(IntKind.wrap .i64 (zbr + (1 : Int))), h, rfl, rfl⟩ (agree_cons rfl (agree_cons rfl (agree_cons rfl (agree_cons rfl (agree_cons rfl agree_nil))))) (pSub (pH (pH (pH pNil))))
      replace h := cf hc h
      refine wc_exit (wx_then_exit ?_)
      have h := hl100049; clear hl100049; try dsimp only [orE_l, orE_r] at h
      refine wx_then_exit (wx_block_exit (wx_then (wc_seq (wc_region ?_))))
      refine wP rfl rfl (wP (v := .pointer (some ⟨b100001, 6, none⟩)) rfl rfl (wl_val (v := .int .u8 (0 : Int)) (val_load tt_ok rfl (mT (mT (mH))) rfl) rfl (wP (v := .int .u8 (Int.tmod (0 : Int) 80)) rfl rfl (wP (v := .int .u64 (IntKind.wrap .u64 (Int.tmod (0 : Int) 80))) rfl rfl ?_))))
      replace h := bsome h; obtain ⟨_, x100097, h⟩ := h
      refine wl_cq Tryd.call20 rfl rfl rfl (q_pf (k_fold_History_Drop_nil0 x100097) (fun _ _ => trivial)) rfl ?_
      refine wl_nil (wx_then (wc_seq (wc_region ?_)))
      iterate 4 refine wP rfl rfl ?_
      refine wl_nil (wx_then (wc_ret (wx_inl (v := .tuple #[.pointer none, .pointer none]) tt_ok (.inl rfl) Tryd.results6 (Res.tmp rfl (Res.tmp rfl Res.nil)) rfl ?_)))
      iterate 5 refine wP rfl rfl ?_
      refine wl_nil (wx_then (wc_seq (wc_seq (wc_region (wP rfl rfl (wP (v := .bool true) rfl rfl (wP rfl rfl (wl_skip rfl rfl (wl_skip rfl rfl (wP (v := .bool true) rfl rfl (wl_nil (wx_then (wc_cond_true rfl (wc_seq (wc_region (wP rfl rfl (wl_nil (wx_then (wc_ret (wx_then_ret ?_))))))))))))))))))))
      obtain rfl := sI h
      exact wx_pf tt_ok (.inl rfl) Tryd.results3 (Res.tmp rfl Res.nil) rfl
    replace h := poS h
    refine wl_cs Tryd.call7 rfl rfl rfl (s_sp (k_fold_New x100022) pNil (fun _ _ => trivial)) rfl ?_
    rintro _ _ ⟨_, ⟨zcl, rfl, rfl⟩, rfl⟩
    refine wP rfl rfl (wl_nil (wx_then (wc_seq (wc_region (wP (v := .pointer (some ⟨b100001, 3, none⟩)) rfl rfl (wl_val (v := .int .u8 p0.Sure) (val_load tt_ok rfl (mT (mR (mH))) rfl) rfl (wP (v := .int .u8 (Int.tmod p0.Sure 60)) rfl rfl (wP (v := .int .i64 (IntKind.wrap .i64 (Int.tmod p0.Sure 60))) rfl rfl (wP rfl rfl (wl_nil (wx_then (wc_seq (wc_seq (wc_region (wP rfl rfl (wl_nil (wx_then (wc_block ?_))))))))))))))))))
    replace h := bsome h; obtain ⟨zhw, h, hl100013⟩ := h
    refine wc_loop (fun m E L => ∃ (zaw : Int) (zbi : T_fold_History), m_hindcastlaw28_BackfillFills_L100012_1 F p0 m zaw zbi = some zhw ∧ E = [(1, .pointer (some ⟨b100001, 0, none⟩)), (4, .pointer none), (5, .pointer (some ⟨zcl, 0, none⟩)), (6, .int .i64 (IntKind.wrap .i64 (Int.tmod p0.Sure 60))), (7, .int .i64 zaw)] ∧ L = (⟨b3, [.int .u64 p0.Seed, .int .u8 p0.Player, .int .u8 p0.Window, .int .u8 p0.Sure, .int .u8 p0.Ahead, .int .u8 p0.Told, .int .u8 p0.From, .slice p0a0 p0n0 p0c0, .slice p0a1 p0n1 p0c1], 25, (0, 0)⟩ :: (⟨b8, [.int .u64 p0.Seed, .int .u8 p0.Player, .int .u8 p0.Window, .int .u8 p0.Sure, .int .u8 (IntKind.wrap .u8 (IntKind.wrap .i64 ((1 : Int) + (IntKind.wrap .i64 (Int.tmod p0.Window 12))))), .int .u8 (0 : Int), .int .u8 (0 : Int), .slice p0a0 p0n0 p0c0, .slice p0a1 p0n1 p0c1], 25, (0, 0)⟩ :: (⟨b100001, [.int .u64 p0.Seed, .int .u8 p0.Player, .int .u8 p0.Window, .int .u8 p0.Sure, .int .u8 (IntKind.wrap .u8 (IntKind.wrap .i64 ((1 : Int) + (IntKind.wrap .i64 (Int.tmod p0.Window 12))))), .int .u8 (0 : Int), .int .u8 (0 : Int), .slice p0a0 p0n0 p0c0, .slice p0a1 p0n1 p0c1], 25, (0, 0)⟩ :: (⟨zcl, ([.int .u64 zbi.from_, .int .u64 zbi.count, .int .u64 zbi.most] ++ flat (e2 .u8) zbi.ring.1), 68, (0, 0)⟩ :: []))))) F ⟨(0 : Int), v100022s, h, rfl, rfl⟩ (agree_cons rfl (agree_cons rfl (agree_cons rfl (agree_cons rfl (agree_cons rfl agree_nil))))) (pSub (pCons (sC (sA (sC (sC hC)))) (pCons (sC (sA (sC hC))) (pCons (sC (sA hC)) (pH pNil))))) ?_
    clear h
    rintro m100013 _ _ ⟨zaw, zbi, h, rfl, rfl⟩
    rcases m100013 with _ | m100013
    · rw [m_hindcastlaw28_BackfillFills_L100012_1.eq_1] at h; cases h
    rw [m_hindcastlaw28_BackfillFills_L100012_1.eq_2] at h
    refine wc_seq (wc_seq (wc_region ?_))
    iterate 2 refine wP rfl rfl ?_
    refine wP (v := .bool (decide (zaw < (IntKind.wrap .i64 (Int.tmod p0.Sure 60))))) rfl rfl (wl_nil (wx_then (wc_cond rfl (fun hc => ?_) (fun hc => ?_))))
    · replace h := ct hc h
      refine wc_skip (wx_then (wc_seq (wc_block (wc_seq (wc_region (wP rfl rfl (wP (v := .pointer (some ⟨b100001, 7, none⟩)) rfl rfl (wl_val (v := .slice p0a0 p0n0 p0c0) (val_load tt_ok rfl (mT (mT (mH))) rfl) rfl (wP rfl rfl ?_)))))))))
      replace h := bsome h; obtain ⟨v100036, x100036, h⟩ := h
      refine wl_cq Tryd.call25 rfl rfl rfl (q_pf (k_hindcastlaw28_at (p0 := p0.Mine) p0N0 p0H0 x100036) (Rds.call p0S0 pNil rsub_nil)) rfl ?_
      replace h := bsome h; obtain ⟨v100037, x100037, h⟩ := h
      refine wl_cq Tryd.call24 rfl rfl rfl (q_pf (k_rollback_Engine_Local_nil0 x100037) (fun _ _ => trivial)) rfl ?_
      refine wl_nil (wx_then (wc_seq (wc_region ?_)))
      iterate 2 refine wP rfl rfl ?_
      refine wP (v := .int .u64 (IntKind.wrap .u64 zaw)) rfl rfl (wP (v := .pointer (some ⟨b100001, 8, none⟩)) rfl rfl (wl_val (v := .slice p0a1 p0n1 p0c1) (val_load tt_ok rfl (mT (mT (mH))) rfl) rfl (wP rfl rfl ?_)))
      replace h := bsome h; obtain ⟨v100044, x100044, h⟩ := h
      refine wl_cq Tryd.call25 rfl rfl rfl (q_pf (k_hindcastlaw28_at (p0 := p0.Theirs) p0N1 p0H1 x100044) (Rds.call p0S1 pNil rsub_nil)) rfl ?_
      replace h := bsome h; obtain ⟨v100045, x100045, h⟩ := h
      refine wl_cq Tryd.call26 rfl rfl rfl (q_pf (k_rollback_Engine_Remote_nil0 x100045) (fun _ _ => trivial)) rfl ?_
      refine wl_nil (wx_then (wc_seq (wc_region ?_)))
      iterate 2 refine wP rfl rfl ?_
      refine wP (v := .int .i64 (IntKind.wrap .i64 (zaw + (1 : Int)))) rfl rfl (wP (v := .int .u64 (IntKind.wrap .u64 (IntKind.wrap .i64 (zaw + (1 : Int))))) rfl rfl ?_)
      replace h := bsome h; obtain ⟨⟨zku, zkv⟩, x100050, h⟩ := h; try dsimp only at h
      refine wl_cq Tryd.call14 rfl rfl rfl (q_pf (k_rollback_Engine_Confirm_nil0 x100050) (fun _ _ => trivial)) rfl ?_
      refine wl_nil (wx_then (wc_region (wP rfl rfl (wl_val (v := .agg #[.int .u64 p0.Seed, .int .u8 p0.Player, .int .u8 p0.Window, .int .u8 p0.Sure, .int .u8 (IntKind.wrap .u8 (IntKind.wrap .i64 ((1 : Int) + (IntKind.wrap .i64 (Int.tmod p0.Window 12))))), .int .u8 (0 : Int), .int .u8 (0 : Int), .slice p0a0 p0n0 p0c0, .slice p0a1 p0n1 p0c1]) (val_load tt_ok rfl (mT (mT (mH))) rfl) rfl (wP rfl rfl ?_)))))
      replace h := bsome h; obtain ⟨v100054, x100054, h⟩ := h
      refine wl_cq Tryd.call9 rfl rfl rfl (q_pf (k_hindcastlaw28_Setup_pair (p0 := (T_hindcastlaw28_Setup.mk p0.Seed p0.Player p0.Window p0.Sure (IntKind.wrap .u8 (IntKind.wrap .i64 ((1 : Int) + (IntKind.wrap .i64 (Int.tmod p0.Window 12))))) (0 : Int) (0 : Int) p0.Mine p0.Theirs)) p0N0 p0H0 p0N1 p0H1 x100054) (fun w hI => ⟨(Rds.call p0S0 pNil rsub_nil) w hI, (Rds.call p0S1 pNil rsub_nil) w hI⟩)) rfl ?_
      replace h := bsome h; obtain ⟨⟨zkt, v100055⟩, x100055, h⟩ := h; try dsimp only at h
      refine wl_cs Tryd.call8 rfl rfl rfl (s_sp (k_fold_History_Add x100055) (pCons (sC (sC (sC hC))) pNil) (fun _ _ => trivial)) rfl ?_
      rintro _ _ ⟨_, ⟨rfl, rfl⟩, rfl⟩
      refine wl_nil (wx_block (wx_then (wc_region (wP rfl rfl (wP (v := .int .i64 (IntKind.wrap .i64 (zaw + (1 : Int)))) rfl rfl (wP rfl rfl (wl_nil ?_)))))))
      exact wx_round m100013 (Nat.lt_succ_self m100013) ⟨(IntKind.wrap .i64 (zaw + (1 : Int))), zkt, h, rfl, rfl⟩ (agree_cons rfl (agree_cons rfl (agree_cons rfl (agree_cons rfl (agree_cons rfl agree_nil))))) (pSub (pCons (sC hC) (pCons (sC hC) (pCons (sC hC) (pH pNil)))))
    replace h := cf hc h
    refine wc_exit (wx_then_exit ?_)
    obtain rfl := sI h
    have h := hl100013; clear hl100013; try dsimp only [orE_l, orE_r] at h
    refine wx_then_exit (wx_block_exit (wx_then (wc_seq (wc_seq (wc_region ?_)))))
    iterate 2 refine wP rfl rfl ?_
    refine wl_nil (wx_then (wc_block ?_))
    replace h := bsome h; obtain ⟨_, h, hl100034⟩ := h
    refine wc_loop (fun m E L => ∃ (zci : Int), m_hindcastlaw28_BackfillFills_L100033_1 F p0 m zci = some () ∧ E = [(1, .pointer (some ⟨b100001, 0, none⟩)), (4, .pointer none), (5, .pointer (some ⟨zcl, 0, none⟩)), (6, .int .i64 (IntKind.wrap .i64 (Int.tmod p0.Sure 60))), (8, .int .i64 zci)] ∧ L = (⟨b3, [.int .u64 p0.Seed, .int .u8 p0.Player, .int .u8 p0.Window, .int .u8 p0.Sure, .int .u8 p0.Ahead, .int .u8 p0.Told, .int .u8 p0.From, .slice p0a0 p0n0 p0c0, .slice p0a1 p0n1 p0c1], 25, (0, 0)⟩ :: (⟨b8, [.int .u64 p0.Seed, .int .u8 p0.Player, .int .u8 p0.Window, .int .u8 p0.Sure, .int .u8 (IntKind.wrap .u8 (IntKind.wrap .i64 ((1 : Int) + (IntKind.wrap .i64 (Int.tmod p0.Window 12))))), .int .u8 (0 : Int), .int .u8 (0 : Int), .slice p0a0 p0n0 p0c0, .slice p0a1 p0n1 p0c1], 25, (0, 0)⟩ :: (⟨b100001, [.int .u64 p0.Seed, .int .u8 p0.Player, .int .u8 p0.Window, .int .u8 p0.Sure, .int .u8 (IntKind.wrap .u8 (IntKind.wrap .i64 ((1 : Int) + (IntKind.wrap .i64 (Int.tmod p0.Window 12))))), .int .u8 (0 : Int), .int .u8 (0 : Int), .slice p0a0 p0n0 p0c0, .slice p0a1 p0n1 p0c1], 25, (0, 0)⟩ :: (⟨zcl, ([.int .u64 zbi.from_, .int .u64 zbi.count, .int .u64 zbi.most] ++ flat (e2 .u8) zbi.ring.1), 68, (0, 0)⟩ :: []))))) F ⟨(IntKind.wrap .i64 (Int.tmod p0.Sure 60)), h, rfl, rfl⟩ (agree_cons rfl (agree_cons rfl (agree_cons rfl (agree_cons rfl (agree_cons rfl agree_nil))))) (pSub (pH (pH (pH (pH pNil))))) ?_
    clear h
    rintro m100034 _ _ ⟨zci, h, rfl, rfl⟩
    rcases m100034 with _ | m100034
    · rw [m_hindcastlaw28_BackfillFills_L100033_1.eq_1] at h; cases h
    rw [m_hindcastlaw28_BackfillFills_L100033_1.eq_2] at h
    refine wc_seq (wc_seq (wc_region ?_))
    iterate 2 refine wP rfl rfl ?_
    refine wP (v := .pointer (some ⟨b100001, 4, none⟩)) rfl rfl (wl_val (v := .int .u8 (IntKind.wrap .u8 (IntKind.wrap .i64 ((1 : Int) + (IntKind.wrap .i64 (Int.tmod p0.Window 12)))))) (val_load tt_ok rfl (mT (mT (mH))) rfl) rfl (wP (v := .int .u8 (Int.tmod (IntKind.wrap .u8 (IntKind.wrap .i64 ((1 : Int) + (IntKind.wrap .i64 (Int.tmod p0.Window 12))))) 13)) rfl rfl (wP (v := .int .i64 (IntKind.wrap .i64 (Int.tmod (IntKind.wrap .u8 (IntKind.wrap .i64 ((1 : Int) + (IntKind.wrap .i64 (Int.tmod p0.Window 12))))) 13))) rfl rfl (wP (v := .int .i64 (IntKind.wrap .i64 ((IntKind.wrap .i64 (Int.tmod p0.Sure 60)) + (IntKind.wrap .i64 (Int.tmod (IntKind.wrap .u8 (IntKind.wrap .i64 ((1 : Int) + (IntKind.wrap .i64 (Int.tmod p0.Window 12))))) 13))))) rfl rfl ?_))))
    refine wP (v := .bool (decide (zci < (IntKind.wrap .i64 ((IntKind.wrap .i64 (Int.tmod p0.Sure 60)) + (IntKind.wrap .i64 (Int.tmod (IntKind.wrap .u8 (IntKind.wrap .i64 ((1 : Int) + (IntKind.wrap .i64 (Int.tmod p0.Window 12))))) 13))))))) rfl rfl (wl_nil (wx_then (wc_cond rfl (fun hc => ?_) (fun hc => ?_))))
    · replace h := ct hc h
      refine wc_skip (wx_then (wc_seq (wc_block (wc_region (wP rfl rfl (wP (v := .pointer (some ⟨b100001, 7, none⟩)) rfl rfl (wl_val (v := .slice p0a0 p0n0 p0c0) (val_load tt_ok rfl (mT (mT (mH))) rfl) rfl (wP rfl rfl ?_))))))))
      replace h := bsome h; obtain ⟨v100071, x100071, h⟩ := h
      refine wl_cq Tryd.call25 rfl rfl rfl (q_pf (k_hindcastlaw28_at (p0 := p0.Mine) p0N0 p0H0 x100071) (Rds.call p0S0 pNil rsub_nil)) rfl ?_
      replace h := bsome h; obtain ⟨v100072, x100072, h⟩ := h
      refine wl_cq Tryd.call24 rfl rfl rfl (q_pf (k_rollback_Engine_Local_nil0 x100072) (fun _ _ => trivial)) rfl ?_
      refine wl_nil (wx_block (wx_then (wc_region (wP rfl rfl (wP (v := .int .i64 (IntKind.wrap .i64 (zci + (1 : Int)))) rfl rfl (wP rfl rfl (wl_nil ?_)))))))
      exact wx_round m100034 (Nat.lt_succ_self m100034) ⟨(IntKind.wrap .i64 (zci + (1 : Int))), h, rfl, rfl⟩ (agree_cons rfl (agree_cons rfl (agree_cons rfl (agree_cons rfl (agree_cons rfl agree_nil))))) (pSub (pH (pH (pH (pH pNil)))))
    replace h := cf hc h
    refine wc_exit (wx_then_exit ?_)
    have h := hl100034; clear hl100034; try dsimp only [orE_l, orE_r] at h
    refine wx_then_exit (wx_block_exit (wx_then (wc_seq (wc_seq (wc_region ?_)))))
    iterate 2 refine wP rfl rfl ?_
    refine wl_nil (wx_then (wc_block ?_))
    replace h := bsome h; obtain ⟨_, h, hl100049⟩ := h
    refine wc_loop (fun m E L => ∃ (zbr : Int), m_hindcastlaw28_BackfillFills_L100048_1 F p0 m zbr = some () ∧ E = [(1, .pointer (some ⟨b100001, 0, none⟩)), (4, .pointer none), (5, .pointer (some ⟨zcl, 0, none⟩)), (6, .int .i64 (IntKind.wrap .i64 (Int.tmod p0.Sure 60))), (9, .int .i64 zbr)] ∧ L = (⟨b3, [.int .u64 p0.Seed, .int .u8 p0.Player, .int .u8 p0.Window, .int .u8 p0.Sure, .int .u8 p0.Ahead, .int .u8 p0.Told, .int .u8 p0.From, .slice p0a0 p0n0 p0c0, .slice p0a1 p0n1 p0c1], 25, (0, 0)⟩ :: (⟨b8, [.int .u64 p0.Seed, .int .u8 p0.Player, .int .u8 p0.Window, .int .u8 p0.Sure, .int .u8 (IntKind.wrap .u8 (IntKind.wrap .i64 ((1 : Int) + (IntKind.wrap .i64 (Int.tmod p0.Window 12))))), .int .u8 (0 : Int), .int .u8 (0 : Int), .slice p0a0 p0n0 p0c0, .slice p0a1 p0n1 p0c1], 25, (0, 0)⟩ :: (⟨b100001, [.int .u64 p0.Seed, .int .u8 p0.Player, .int .u8 p0.Window, .int .u8 p0.Sure, .int .u8 (IntKind.wrap .u8 (IntKind.wrap .i64 ((1 : Int) + (IntKind.wrap .i64 (Int.tmod p0.Window 12))))), .int .u8 (0 : Int), .int .u8 (0 : Int), .slice p0a0 p0n0 p0c0, .slice p0a1 p0n1 p0c1], 25, (0, 0)⟩ :: (⟨zcl, ([.int .u64 zbi.from_, .int .u64 zbi.count, .int .u64 zbi.most] ++ flat (e2 .u8) zbi.ring.1), 68, (0, 0)⟩ :: []))))) F ⟨(IntKind.wrap .i64 (Int.tmod p0.Sure 60)), h, rfl, rfl⟩ (agree_cons rfl (agree_cons rfl (agree_cons rfl (agree_cons rfl (agree_cons rfl agree_nil))))) (pSub (pH (pH (pH (pH pNil))))) ?_
    clear h
    rintro m100049 _ _ ⟨zbr, h, rfl, rfl⟩
    rcases m100049 with _ | m100049
    · rw [m_hindcastlaw28_BackfillFills_L100048_1.eq_1] at h; cases h
    rw [m_hindcastlaw28_BackfillFills_L100048_1.eq_2] at h
    refine wc_seq (wc_seq (wc_region ?_))
    iterate 2 refine wP rfl rfl ?_
    refine wP (v := .pointer (some ⟨b100001, 5, none⟩)) rfl rfl (wl_val (v := .int .u8 (0 : Int)) (val_load tt_ok rfl (mT (mT (mH))) rfl) rfl (wP (v := .int .u8 (Int.tmod (0 : Int) 13)) rfl rfl (wP (v := .int .i64 (IntKind.wrap .i64 (Int.tmod (0 : Int) 13))) rfl rfl (wP (v := .int .i64 (IntKind.wrap .i64 ((IntKind.wrap .i64 (Int.tmod p0.Sure 60)) + (IntKind.wrap .i64 (Int.tmod (0 : Int) 13))))) rfl rfl (wP (v := .bool (decide (zbr < (IntKind.wrap .i64 ((IntKind.wrap .i64 (Int.tmod p0.Sure 60)) + (IntKind.wrap .i64 (Int.tmod (0 : Int) 13))))))) rfl rfl (wl_nil (wx_then (wc_cond rfl (fun hc => ?_) (fun hc => ?_)))))))))
    · replace h := ct hc h
      refine wc_skip (wx_then (wc_seq (wc_block (wc_region ?_))))
      iterate 2 refine wP rfl rfl ?_
      refine wP (v := .int .u64 (IntKind.wrap .u64 zbr)) rfl rfl (wP (v := .pointer (some ⟨b100001, 8, none⟩)) rfl rfl (wl_val (v := .slice p0a1 p0n1 p0c1) (val_load tt_ok rfl (mT (mT (mH))) rfl) rfl (wP rfl rfl ?_)))
      replace h := bsome h; obtain ⟨v100090, x100090, h⟩ := h
      refine wl_cq Tryd.call25 rfl rfl rfl (q_pf (k_hindcastlaw28_at (p0 := p0.Theirs) p0N1 p0H1 x100090) (Rds.call p0S1 pNil rsub_nil)) rfl ?_
      replace h := bsome h; obtain ⟨v100091, x100091, h⟩ := h
      refine wl_cq Tryd.call26 rfl rfl rfl (q_pf (k_rollback_Engine_Remote_nil0 x100091) (fun _ _ => trivial)) rfl ?_
      refine wl_nil (wx_block (wx_then (wc_region (wP rfl rfl (wP (v := .int .i64 (IntKind.wrap .i64 (zbr + (1 : Int)))) rfl rfl (wP rfl rfl (wl_nil ?_)))))))
      exact wx_round m100049 (Nat.lt_succ_self m100049) ⟨(IntKind.wrap .i64 (zbr + (1 : Int))), h, rfl, rfl⟩ (agree_cons rfl (agree_cons rfl (agree_cons rfl (agree_cons rfl (agree_cons rfl agree_nil))))) (pSub (pH (pH (pH (pH pNil)))))
    replace h := cf hc h
    refine wc_exit (wx_then_exit ?_)
    have h := hl100049; clear hl100049; try dsimp only [orE_l, orE_r] at h
    refine wx_then_exit (wx_block_exit (wx_then (wc_seq (wc_region ?_))))
    refine wP rfl rfl (wP (v := .pointer (some ⟨b100001, 6, none⟩)) rfl rfl (wl_val (v := .int .u8 (0 : Int)) (val_load tt_ok rfl (mT (mT (mH))) rfl) rfl (wP (v := .int .u8 (Int.tmod (0 : Int) 80)) rfl rfl (wP (v := .int .u64 (IntKind.wrap .u64 (Int.tmod (0 : Int) 80))) rfl rfl ?_))))
    replace h := bsome h; obtain ⟨zge, x100097, h⟩ := h
    refine wl_cs Tryd.call20 rfl rfl rfl (s_sp (k_fold_History_Drop x100097) (pCons (sC (sC (sC hC))) pNil) (fun _ _ => trivial)) rfl ?_
    rintro _ _ ⟨_, ⟨rfl, rfl⟩, rfl⟩
    refine wl_nil (wx_then (wc_seq (wc_region ?_)))
    iterate 4 refine wP rfl rfl ?_
    refine wl_nil (wx_then (wc_ret (wx_inl (v := .tuple #[.pointer none, .pointer (some ⟨zcl, 0, none⟩)]) tt_ok (.inl rfl) Tryd.results6 (Res.tmp rfl (Res.tmp rfl Res.nil)) rfl ?_)))
    iterate 5 refine wP rfl rfl ?_
    refine wl_nil (wx_then (wc_seq (wc_seq (wc_region (wP rfl rfl (wP (v := .bool true) rfl rfl (wP rfl rfl (wl_skip rfl rfl (wl_skip rfl rfl (wP (v := .bool true) rfl rfl (wl_nil (wx_then (wc_cond_true rfl (wc_seq (wc_region (wP rfl rfl (wl_nil (wx_then (wc_ret (wx_then_ret ?_))))))))))))))))))))
    obtain rfl := sI h
    exact wx_pf tt_ok (.inl rfl) Tryd.results3 (Res.tmp rfl Res.nil) rfl
  replace h := poS h
  refine k_cs rfl rfl rfl Tryd.call22 rfl rfl rfl (s_sp (k_rollback_New (p0 := v100012) v100012N0 (vec_cap v100012V0) (own_Z v100012V0) x100021) pNil (fun w hI => ⟨(Rds.call (Rds.of_vec v100012V0) pNil ⟨_, hA'⟩) w hI, (Rds.call G0S pNil rsub_nil) w hI, (Rds.call G1S pNil rsub_nil) w hI⟩)) rfl (.inl rfl) ?_
  rintro _ _ ⟨_, ⟨zr, zbm, zbn, v100021sa0, v100021sn0, v100021sc0, v100021sB0, v100021sa1, v100021sn1, v100021sc1, v100021sB1, v100021s_4a0, v100021s_4n0, v100021s_4c0, v100021s_4B0, v100021s_5g0, v100021s_5P0, v100021sN0, v100021sV0, v100021sN1, v100021sV1, v100021s_4N0, v100021s_4V0, v100021s_5G0, v100021s_5A0, rfl, rfl⟩, rfl⟩
  refine k_chg rfl rfl rfl (Chg.of_val (stepV_ok tt_ok rfl)) rfl (.inl rfl) ?_
  rintro _ _ ⟨rfl, rfl⟩
  refine k_end (by kernel_rfl) ?_
  refine wx_then (wc_seq (wc_region ?_))
  replace h := bsome h; obtain ⟨v100022, x100022, h⟩ := h
  rcases v100022 with _ | v100022s
  · replace h := poN h
    refine wl_cs Tryd.call7 rfl rfl rfl (s_sp (k_fold_New_none x100022) pNil (fun _ _ => trivial)) rfl ?_
    rintro _ _ ⟨_, ⟨rfl, rfl⟩, rfl⟩
    refine wP rfl rfl (wl_nil (wx_then (wc_seq (wc_region (wP (v := .pointer (some ⟨b100001, 3, none⟩)) rfl rfl (wl_val (v := .int .u8 p0.Sure) (val_load tt_ok rfl (mT (mR (mR (mT (mR (mT (mR (mR (mH))))))))) rfl) rfl (wP (v := .int .u8 (Int.tmod p0.Sure 60)) rfl rfl (wP (v := .int .i64 (IntKind.wrap .i64 (Int.tmod p0.Sure 60))) rfl rfl (wP rfl rfl (wl_nil (wx_then (wc_seq (wc_seq (wc_region (wP rfl rfl (wl_nil (wx_then (wc_block ?_))))))))))))))))))
    replace h := bsome h; obtain ⟨⟨zho, zhp, zgy, zgz, zha, zhb, zhc, zhq, zgt, zgu, zgv, zgw, zgx⟩, h, hl100013⟩ := h; try dsimp only at hl100013
    refine wc_loop (fun m E L => ∃ (zaw : Int) (zeu : Int) (zev : Int) (zek : Int) (zel : Int) (zem : (T_api_Player × T_api_Player)) (zn : (List T_api_Shot)) (zdj : (Int × Int)) (zp : (List Int)) (zbs : Int) (zi : (List Int)) (zbt : Int) (zbu : Int) (zo : (Arr T_ring_place 14)) (zex : Option Addr) (zdu : Nat) (zey : Nat) (zew : List Blk) (zfi : Option Addr) (zen : Nat) (zfj : Nat) (zfh : List Blk) (zdr : Option Addr) (zct : Nat) (zds : Nat) (zdq : List Blk) (zcu : List (T_ring_place × G)) (zdt : List Blk), m_hindcastlaw28_BackfillFills_L100012_2 F p0 m zaw zeu zev zek zel zem zn zdj zp zbs zi zbt zbu zo = some (zho, zhp, zgy, zgz, zha, zhb, zhc, zhq, zgt, zgu, zgv, zgw, zgx) ∧ zdu = zn.length ∧ Own 92 6 zex zdu zey (flat c_T_api_Shot zn) zew ∧ zen = zp.length ∧ Own 34 1 zfi zen zfj (flat (e1 .u8) zp) zfh ∧ zct = zi.length ∧ Own 34 1 zdr zct zds (flat (e1 .u8) zi) zdq ∧ zo.1 = unG zcu ∧ AllP sh_T_ring_place c_T_api_Shot zdt zcu ∧ E = [(1, .pointer (some ⟨b100001, 0, none⟩)), (4, .pointer (some ⟨zr, 0, none⟩)), (5, .pointer none), (6, .int .i64 (IntKind.wrap .i64 (Int.tmod p0.Sure 60))), (7, .int .i64 zaw)] ∧ L = (⟨b3, [.int .u64 p0.Seed, .int .u8 p0.Player, .int .u8 p0.Window, .int .u8 p0.Sure, .int .u8 p0.Ahead, .int .u8 p0.Told, .int .u8 p0.From, .slice p0a0 p0n0 p0c0, .slice p0a1 p0n1 p0c1], 25, (0, 0)⟩ :: (⟨b8, [.int .u64 p0.Seed, .int .u8 p0.Player, .int .u8 p0.Window, .int .u8 p0.Sure, .int .u8 (IntKind.wrap .u8 (IntKind.wrap .i64 ((1 : Int) + (IntKind.wrap .i64 (Int.tmod p0.Window 12))))), .int .u8 (0 : Int), .int .u8 (0 : Int), .slice p0a0 p0n0 p0c0, .slice p0a1 p0n1 p0c1], 25, (0, 0)⟩ :: (⟨b100001, [.int .u64 p0.Seed, .int .u8 p0.Player, .int .u8 p0.Window, .int .u8 p0.Sure, .int .u8 (IntKind.wrap .u8 (IntKind.wrap .i64 ((1 : Int) + (IntKind.wrap .i64 (Int.tmod p0.Window 12))))), .int .u8 (0 : Int), .int .u8 (0 : Int), .slice p0a0 p0n0 p0c0, .slice p0a1 p0n1 p0c1], 25, (0, 0)⟩ :: (⟨zr, (.int .u8 zeu :: .int .i64 zev :: .int .u64 zek :: .int .u64 zel :: pl14 zem [.slice zex zdu zey, .int .u16 zdj.1, .int .u16 zdj.2, .slice zfi zen zfj, .pointer (some ⟨zbm, 0, none⟩), .pointer (some ⟨zbn, 0, none⟩)]), 73, (0, 0)⟩ :: (⟨zbm, [.int .u64 zbs, .slice zdr zct zds, .int .u8 zbt], 103, (0, 0)⟩ :: (⟨zbn, ([.int .i64 zbu] ++ flat cg_T_ring_place zcu), 121, (0, 0)⟩ :: (zew ++ (zfh ++ (zdq ++ (zdt ++ []))))))))))) F ⟨(0 : Int), v100021s.1.player, v100021s.1.window, v100021s.1.sure.Frame, v100021s.1.sure.Seed, v100021s.1.sure.Players, v100021s.1.sure.Shots, v100021s.1.sure.Score, v100021s.1.own, v100021s.2.1.first_, v100021s.2.1.l, v100021s.2.1.last, v100021s.2.2.size, v100021s.2.2.places, v100021sa0, v100021sn0, v100021sc0, v100021sB0, v100021sa1, v100021sn1, v100021sc1, v100021sB1, v100021s_4a0, v100021s_4n0, v100021s_4c0, v100021s_4B0, v100021s_5g0, v100021s_5P0, h, v100021sN0, v100021sV0, v100021sN1, v100021sV1, v100021s_4N0, v100021s_4V0, v100021s_5G0, v100021s_5A0, rfl, rfl⟩ (agree_cons rfl (agree_cons rfl (agree_cons rfl (agree_cons rfl (agree_cons rfl agree_nil))))) (pSub (pCons (sC (sA (sA (sC (sA (sC (sA (sA (sC (sC hC)))))))))) (pCons (sC (sA (sA (sC (sA (sC (sA (sA (sC hC))))))))) (pCons (sC (sA (sA (sC (sA (sC (sA (sA hC)))))))) (pH (pCons (sA (sA hC)) (pCons (sA (sA (sA hC))) (pA (pA (pA (pA pNil))))))))))) ?_
    clear h
    rintro m100013 _ _ ⟨zaw, zeu, zev, zek, zel, zem, zn, zdj, zp, zbs, zi, zbt, zbu, zo, zex, zdu, zey, zew, zfi, zen, zfj, zfh, zdr, zct, zds, zdq, zcu, zdt, h, zfu, zfv, zgb, zgc, zeq, zer, zet, zes, rfl, rfl⟩
    rcases m100013 with _ | m100013
    · rw [m_hindcastlaw28_BackfillFills_L100012_2.eq_1] at h; cases h
    rw [m_hindcastlaw28_BackfillFills_L100012_2.eq_2] at h
    refine wc_seq (wc_seq (wc_region ?_))
    iterate 2 refine wP rfl rfl ?_
    refine wP (v := .bool (decide (zaw < (IntKind.wrap .i64 (Int.tmod p0.Sure 60))))) rfl rfl (wl_nil (wx_then (wc_cond rfl (fun hc => ?_) (fun hc => ?_))))
    · replace h := ct hc h
      refine wc_skip (wx_then (wc_seq (wc_block (wc_seq (wc_region (wP rfl rfl (wP (v := .pointer (some ⟨b100001, 7, none⟩)) rfl rfl (wl_val (v := .slice p0a0 p0n0 p0c0) (val_load tt_ok rfl (mT (mT (mH))) rfl) rfl (wP rfl rfl ?_)))))))))
      replace h := bsome h; obtain ⟨v100036, x100036, h⟩ := h
      refine wl_cq Tryd.call25 rfl rfl rfl (q_pf (k_hindcastlaw28_at (p0 := p0.Mine) p0N0 p0H0 x100036) (Rds.call p0S0 pNil rsub_nil)) rfl ?_
      replace h := bsome h; obtain ⟨⟨zcb, v100037⟩, x100037, h⟩ := h; try dsimp only at h
      refine wl_cs Tryd.call24 rfl rfl rfl (s_sp (k_rollback_Engine_Local (p0 := (T_rollback_Engine.mk zeu zev (T_api_State.mk zek zel zem zn zdj) zp)) (p0_4 := (T_queue_Queue.mk zbs zi zbt)) (p0_5 := (T_ring_Ring.mk zbu zo)) zfu zfv zgb zgc zeq zer zet zes x100037) (pCons (sC (sC (sC hC))) (pApp (sC (sC (sC (sC (sC hA'))))) (pApp (sC (sC (sC (sC (sC hA'))))) (pCons (sC (sC (sC hC))) (pApp (sC (sC (sC (sC hA')))) (pCons (sC (sC (sC hC))) (pApp (sC (sC (sC hA'))) pNil))))))) (fun _ _ => trivial)) rfl ?_
      rintro _ _ ⟨_, ⟨zky, zlc, zla, zkw, zkz, zld, zlb, zkx, zhx, zhz, zhy, zia, rfl, rfl⟩, rfl⟩
      refine wl_nil (wx_then (wc_seq (wc_region ?_)))
      iterate 2 refine wP rfl rfl ?_
      refine wP (v := .int .u64 (IntKind.wrap .u64 zaw)) rfl rfl (wP (v := .pointer (some ⟨b100001, 8, none⟩)) rfl rfl (wl_val (v := .slice p0a1 p0n1 p0c1) (val_load tt_ok rfl (mT (mR (mR (mT (mR (mT (mR (mT (mT (mH)))))))))) rfl) rfl (wP rfl rfl ?_)))
      replace h := bsome h; obtain ⟨v100044, x100044, h⟩ := h
      refine wl_cq Tryd.call25 rfl rfl rfl (q_pf (k_hindcastlaw28_at (p0 := p0.Theirs) p0N1 p0H1 x100044) (Rds.call p0S1 pNil rsub_nil)) rfl ?_
      replace h := bsome h; obtain ⟨⟨zfp, zga, v100045⟩, x100045, h⟩ := h; try dsimp only at h
      refine wl_cs Tryd.call26 rfl rfl rfl (s_sp (k_rollback_Engine_Remote (p0 := zcb) (p0_4 := (T_queue_Queue.mk zbs zi zbt)) (p0_5 := (T_ring_Ring.mk zbu zo)) zhx zhz zhy zia zeq zer zet zes x100045) (pH (pA (pA (pH (pA (pH (pA pNil))))))) (fun _ _ => trivial)) rfl ?_
      rintro _ _ ⟨_, ⟨zlf, zlh, zlg, zle, zlj, zli, zix, ziy, zja, ziz, rfl, rfl⟩, rfl⟩
      refine wl_nil (wx_then (wc_seq (wc_region ?_)))
      iterate 2 refine wP rfl rfl ?_
      refine wP (v := .int .i64 (IntKind.wrap .i64 (zaw + (1 : Int)))) rfl rfl (wP (v := .int .u64 (IntKind.wrap .u64 (IntKind.wrap .i64 (zaw + (1 : Int))))) rfl rfl ?_)
      replace h := bsome h; obtain ⟨⟨zap, zec, zfk, zku, zkv⟩, x100050, h⟩ := h; try dsimp only at h
      refine wl_cs Tryd.call14 rfl rfl rfl (s_sp (k_rollback_Engine_Confirm (p0 := zcb) (p0_4 := zfp) (p0_5 := zga) zhx zhz zhy zia zix ziy zja ziz x100050) (pH (pA (pA (pH (pA (pH (pA pNil))))))) (fun w hI => ⟨(Rds.call G0S (pH (pA (pA (pH (pA (pH (pA pNil))))))) rsub_nil) w hI, (Rds.call G1S (pH (pA (pA (pH (pA (pH (pA pNil))))))) rsub_nil) w hI⟩)) rfl ?_
      rintro _ _ ⟨_, ⟨zjh, zjl, zjj, zjb, zji, zjm, zjk, zjc, zjq, zjs, zjr, zjn, zjw, zjv, zjd, zjf, zje, zjg, zjo, zjp, zju, zjt, rfl, rfl⟩, rfl⟩
      refine wl_nil (wx_then (wc_region (wP rfl rfl (wl_val (v := .agg #[.int .u64 p0.Seed, .int .u8 p0.Player, .int .u8 p0.Window, .int .u8 p0.Sure, .int .u8 (IntKind.wrap .u8 (IntKind.wrap .i64 ((1 : Int) + (IntKind.wrap .i64 (Int.tmod p0.Window 12))))), .int .u8 (0 : Int), .int .u8 (0 : Int), .slice p0a0 p0n0 p0c0, .slice p0a1 p0n1 p0c1]) (val_load tt_ok rfl (mT (mR (mR (mT (mR (mT (mR (mT (mT (mH)))))))))) rfl) rfl (wP rfl rfl ?_)))))
      replace h := bsome h; obtain ⟨v100054, x100054, h⟩ := h
      refine wl_cq Tryd.call9 rfl rfl rfl (q_pf (k_hindcastlaw28_Setup_pair (p0 := (T_hindcastlaw28_Setup.mk p0.Seed p0.Player p0.Window p0.Sure (IntKind.wrap .u8 (IntKind.wrap .i64 ((1 : Int) + (IntKind.wrap .i64 (Int.tmod p0.Window 12))))) (0 : Int) (0 : Int) p0.Mine p0.Theirs)) p0N0 p0H0 p0N1 p0H1 x100054) (fun w hI => ⟨(Rds.call p0S0 pNil rsub_nil) w hI, (Rds.call p0S1 pNil rsub_nil) w hI⟩)) rfl ?_
      replace h := bsome h; obtain ⟨v100055, x100055, h⟩ := h
      refine wl_cq Tryd.call8 rfl rfl rfl (q_pf (k_fold_History_Add_nil0 x100055) (fun _ _ => trivial)) rfl ?_
      refine wl_nil (wx_block (wx_then (wc_region (wP rfl rfl (wP (v := .int .i64 (IntKind.wrap .i64 (zaw + (1 : Int)))) rfl rfl (wP rfl rfl (wl_nil ?_)))))))
      exact wx_round m100013 (Nat.lt_succ_self m100013) ⟨(IntKind.wrap .i64 (zaw + (1 : Int))), zap.player, zap.window, zap.sure.Frame, zap.sure.Seed, zap.sure.Players, zap.sure.Shots, zap.sure.Score, zap.own, zec.first_, zec.l, zec.last, zfk.size, zfk.places, zjh, zjl, zjj, zjb, zji, zjm, zjk, zjc, zjq, zjs, zjr, zjn, zjw, zjv, h, zjd, zjf, zje, zjg, zjo, zjp, zju, zjt, rfl, rfl⟩ (agree_cons rfl (agree_cons rfl (agree_cons rfl (agree_cons rfl (agree_cons rfl agree_nil))))) (pSub (pCons (sC (sA (sA (sC (sA (sC (sA hC))))))) (pCons (sC (sA (sA (sC (sA (sC (sA hC))))))) (pCons (sC (sA (sA (sC (sA (sC (sA hC))))))) (pH (pCons (sA (sA hC)) (pCons (sA (sA (sA hC))) (pA (pA (pA (pA pNil)))))))))))
    replace h := cf hc h
    refine wc_exit (wx_then_exit ?_)
    simp only [Option.some.injEq, Prod.mk.injEq] at h
    obtain ⟨rfl, rfl, rfl, rfl, rfl, rfl, rfl, rfl, rfl, rfl, rfl, rfl, rfl⟩ := h
    have h := hl100013; clear hl100013; try dsimp only [orE_l, orE_r] at h
    refine wx_then_exit (wx_block_exit (wx_then (wc_seq (wc_seq (wc_region ?_)))))
    iterate 2 refine wP rfl rfl ?_
    refine wl_nil (wx_then (wc_block ?_))
    replace h := bsome h; obtain ⟨⟨zhr, zhs, zhd, zhe, zhf, zhg, zhh, zht⟩, h, hl100034⟩ := h; try dsimp only at hl100034
    refine wc_loop (fun m E L => ∃ (zci : Int) (zcc : Int) (zcd : Int) (zbv : Int) (zbw : Int) (zbx : (T_api_Player × T_api_Player)) (zh : (List T_api_Shot)) (zav : (Int × Int)) (zj : (List Int)) (zcw : Option Addr) (zcj : Nat) (zcx : Nat) (zcv : List Blk) (zdl : Option Addr) (zcs : Nat) (zdm : Nat) (zdk : List Blk), m_hindcastlaw28_BackfillFills_L100033_2 F p0 zbs zi zbt zbu zo m zci zcc zcd zbv zbw zbx zh zav zj = some (zhr, zhs, zhd, zhe, zhf, zhg, zhh, zht) ∧ zcj = zh.length ∧ Own 92 6 zcw zcj zcx (flat c_T_api_Shot zh) zcv ∧ zcs = zj.length ∧ Own 34 1 zdl zcs zdm (flat (e1 .u8) zj) zdk ∧ E = [(1, .pointer (some ⟨b100001, 0, none⟩)), (4, .pointer (some ⟨zr, 0, none⟩)), (5, .pointer none), (6, .int .i64 (IntKind.wrap .i64 (Int.tmod p0.Sure 60))), (8, .int .i64 zci)] ∧ L = (⟨b3, [.int .u64 p0.Seed, .int .u8 p0.Player, .int .u8 p0.Window, .int .u8 p0.Sure, .int .u8 p0.Ahead, .int .u8 p0.Told, .int .u8 p0.From, .slice p0a0 p0n0 p0c0, .slice p0a1 p0n1 p0c1], 25, (0, 0)⟩ :: (⟨b8, [.int .u64 p0.Seed, .int .u8 p0.Player, .int .u8 p0.Window, .int .u8 p0.Sure, .int .u8 (IntKind.wrap .u8 (IntKind.wrap .i64 ((1 : Int) + (IntKind.wrap .i64 (Int.tmod p0.Window 12))))), .int .u8 (0 : Int), .int .u8 (0 : Int), .slice p0a0 p0n0 p0c0, .slice p0a1 p0n1 p0c1], 25, (0, 0)⟩ :: (⟨b100001, [.int .u64 p0.Seed, .int .u8 p0.Player, .int .u8 p0.Window, .int .u8 p0.Sure, .int .u8 (IntKind.wrap .u8 (IntKind.wrap .i64 ((1 : Int) + (IntKind.wrap .i64 (Int.tmod p0.Window 12))))), .int .u8 (0 : Int), .int .u8 (0 : Int), .slice p0a0 p0n0 p0c0, .slice p0a1 p0n1 p0c1], 25, (0, 0)⟩ :: (⟨zr, (.int .u8 zcc :: .int .i64 zcd :: .int .u64 zbv :: .int .u64 zbw :: pl14 zbx [.slice zcw zcj zcx, .int .u16 zav.1, .int .u16 zav.2, .slice zdl zcs zdm, .pointer (some ⟨zbm, 0, none⟩), .pointer (some ⟨zbn, 0, none⟩)]), 73, (0, 0)⟩ :: (⟨zbm, [.int .u64 zbs, .slice zdr zct zds, .int .u8 zbt], 103, (0, 0)⟩ :: (⟨zbn, ([.int .i64 zbu] ++ flat cg_T_ring_place zcu), 121, (0, 0)⟩ :: (zcv ++ (zdk ++ (zdq ++ (zdt ++ []))))))))))) F ⟨(IntKind.wrap .i64 (Int.tmod p0.Sure 60)), zeu, zev, zek, zel, zem, zn, zdj, zp, zex, zdu, zey, zew, zfi, zen, zfj, zfh, h, zfu, zfv, zgb, zgc, rfl, rfl⟩ (agree_cons rfl (agree_cons rfl (agree_cons rfl (agree_cons rfl (agree_cons rfl agree_nil))))) (pSub (pH (pH (pH (pH (pH (pH (pA (pA (pA (pA pNil))))))))))) ?_
    clear h
    rintro m100034 _ _ ⟨zci, zcc, zcd, zbv, zbw, zbx, zh, zav, zj, zcw, zcj, zcx, zcv, zdl, zcs, zdm, zdk, h, zfm, zfn, zfq, zfr, rfl, rfl⟩
    rcases m100034 with _ | m100034
    · rw [m_hindcastlaw28_BackfillFills_L100033_2.eq_1] at h; cases h
    rw [m_hindcastlaw28_BackfillFills_L100033_2.eq_2] at h
    refine wc_seq (wc_seq (wc_region ?_))
    iterate 2 refine wP rfl rfl ?_
    refine wP (v := .pointer (some ⟨b100001, 4, none⟩)) rfl rfl (wl_val (v := .int .u8 (IntKind.wrap .u8 (IntKind.wrap .i64 ((1 : Int) + (IntKind.wrap .i64 (Int.tmod p0.Window 12)))))) (val_load tt_ok rfl (mT (mT (mH))) rfl) rfl (wP (v := .int .u8 (Int.tmod (IntKind.wrap .u8 (IntKind.wrap .i64 ((1 : Int) + (IntKind.wrap .i64 (Int.tmod p0.Window 12))))) 13)) rfl rfl (wP (v := .int .i64 (IntKind.wrap .i64 (Int.tmod (IntKind.wrap .u8 (IntKind.wrap .i64 ((1 : Int) + (IntKind.wrap .i64 (Int.tmod p0.Window 12))))) 13))) rfl rfl (wP (v := .int .i64 (IntKind.wrap .i64 ((IntKind.wrap .i64 (Int.tmod p0.Sure 60)) + (IntKind.wrap .i64 (Int.tmod (IntKind.wrap .u8 (IntKind.wrap .i64 ((1 : Int) + (IntKind.wrap .i64 (Int.tmod p0.Window 12))))) 13))))) rfl rfl ?_))))
    refine wP (v := .bool (decide (zci < (IntKind.wrap .i64 ((IntKind.wrap .i64 (Int.tmod p0.Sure 60)) + (IntKind.wrap .i64 (Int.tmod (IntKind.wrap .u8 (IntKind.wrap .i64 ((1 : Int) + (IntKind.wrap .i64 (Int.tmod p0.Window 12))))) 13))))))) rfl rfl (wl_nil (wx_then (wc_cond rfl (fun hc => ?_) (fun hc => ?_))))
    · replace h := ct hc h
      refine wc_skip (wx_then (wc_seq (wc_block (wc_region (wP rfl rfl (wP (v := .pointer (some ⟨b100001, 7, none⟩)) rfl rfl (wl_val (v := .slice p0a0 p0n0 p0c0) (val_load tt_ok rfl (mT (mT (mH))) rfl) rfl (wP rfl rfl ?_))))))))
      replace h := bsome h; obtain ⟨v100071, x100071, h⟩ := h
      refine wl_cq Tryd.call25 rfl rfl rfl (q_pf (k_hindcastlaw28_at (p0 := p0.Mine) p0N0 p0H0 x100071) (Rds.call p0S0 pNil rsub_nil)) rfl ?_
      replace h := bsome h; obtain ⟨⟨zaq, v100072⟩, x100072, h⟩ := h; try dsimp only at h
      refine wl_cs Tryd.call24 rfl rfl rfl (s_sp (k_rollback_Engine_Local (p0 := (T_rollback_Engine.mk zcc zcd (T_api_State.mk zbv zbw zbx zh zav) zj)) (p0_4 := (T_queue_Queue.mk zbs zi zbt)) (p0_5 := (T_ring_Ring.mk zbu zo)) zfm zfn zfq zfr zeq zer zet zes x100072) (pCons (sC (sC (sC hC))) (pApp (sC (sC (sC (sC (sC hA'))))) (pApp (sC (sC (sC (sC (sC hA'))))) (pCons (sC (sC (sC hC))) (pApp (sC (sC (sC (sC hA')))) (pCons (sC (sC (sC hC))) (pApp (sC (sC (sC hA'))) pNil))))))) (fun _ _ => trivial)) rfl ?_
      rintro _ _ ⟨_, ⟨zkd, zkh, zkf, zjx, zke, zki, zkg, zjy, zjz, zkb, zka, zkc, rfl, rfl⟩, rfl⟩
      refine wl_nil (wx_block (wx_then (wc_region (wP rfl rfl (wP (v := .int .i64 (IntKind.wrap .i64 (zci + (1 : Int)))) rfl rfl (wP rfl rfl (wl_nil ?_)))))))
      exact wx_round m100034 (Nat.lt_succ_self m100034) ⟨(IntKind.wrap .i64 (zci + (1 : Int))), zaq.player, zaq.window, zaq.sure.Frame, zaq.sure.Seed, zaq.sure.Players, zaq.sure.Shots, zaq.sure.Score, zaq.own, zkd, zkh, zkf, zjx, zke, zki, zkg, zjy, h, zjz, zkb, zka, zkc, rfl, rfl⟩ (agree_cons rfl (agree_cons rfl (agree_cons rfl (agree_cons rfl (agree_cons rfl agree_nil))))) (pSub (pCons (sC (sA (sA (sC (sA (sC (sA hC))))))) (pCons (sC (sA (sA (sC (sA (sC (sA hC))))))) (pCons (sC (sA (sA (sC (sA (sC (sA hC))))))) (pH (pCons (sA (sA hC)) (pCons (sA (sA (sA hC))) (pA (pA (pA (pA pNil)))))))))))
    replace h := cf hc h
    refine wc_exit (wx_then_exit ?_)
    simp only [Option.some.injEq, Prod.mk.injEq] at h
    obtain ⟨rfl, rfl, rfl, rfl, rfl, rfl, rfl, rfl⟩ := h
    have h := hl100034; clear hl100034; try dsimp only [orE_l, orE_r] at h
    refine wx_then_exit (wx_block_exit (wx_then (wc_seq (wc_seq (wc_region ?_)))))
    iterate 2 refine wP rfl rfl ?_
    refine wl_nil (wx_then (wc_block ?_))
    replace h := bsome h; obtain ⟨⟨zhi, zhj, zhk, zhl, zhm⟩, h, hl100049⟩ := h; try dsimp only at hl100049
    refine wc_loop (fun m E L => ∃ (zbr : Int) (zdn : Int) (zl : (List Int)) (zdo : Int) (zdp : Int) (zs : (Arr T_ring_place 14)) (zdw : Option Addr) (zcy : Nat) (zdx : Nat) (zdv : List Blk) (zcz : List (T_ring_place × G)) (zdy : List Blk), m_hindcastlaw28_BackfillFills_L100048_2 F p0 zcc zcd zbv zbw zbx zh zav zj m zbr zdn zl zdo zdp zs = some (zhi, zhj, zhk, zhl, zhm) ∧ zcy = zl.length ∧ Own 34 1 zdw zcy zdx (flat (e1 .u8) zl) zdv ∧ zs.1 = unG zcz ∧ AllP sh_T_ring_place c_T_api_Shot zdy zcz ∧ E = [(1, .pointer (some ⟨b100001, 0, none⟩)), (4, .pointer (some ⟨zr, 0, none⟩)), (5, .pointer none), (6, .int .i64 (IntKind.wrap .i64 (Int.tmod p0.Sure 60))), (9, .int .i64 zbr)] ∧ L = (⟨b3, [.int .u64 p0.Seed, .int .u8 p0.Player, .int .u8 p0.Window, .int .u8 p0.Sure, .int .u8 p0.Ahead, .int .u8 p0.Told, .int .u8 p0.From, .slice p0a0 p0n0 p0c0, .slice p0a1 p0n1 p0c1], 25, (0, 0)⟩ :: (⟨b8, [.int .u64 p0.Seed, .int .u8 p0.Player, .int .u8 p0.Window, .int .u8 p0.Sure, .int .u8 (IntKind.wrap .u8 (IntKind.wrap .i64 ((1 : Int) + (IntKind.wrap .i64 (Int.tmod p0.Window 12))))), .int .u8 (0 : Int), .int .u8 (0 : Int), .slice p0a0 p0n0 p0c0, .slice p0a1 p0n1 p0c1], 25, (0, 0)⟩ :: (⟨b100001, [.int .u64 p0.Seed, .int .u8 p0.Player, .int .u8 p0.Window, .int .u8 p0.Sure, .int .u8 (IntKind.wrap .u8 (IntKind.wrap .i64 ((1 : Int) + (IntKind.wrap .i64 (Int.tmod p0.Window 12))))), .int .u8 (0 : Int), .int .u8 (0 : Int), .slice p0a0 p0n0 p0c0, .slice p0a1 p0n1 p0c1], 25, (0, 0)⟩ :: (⟨zr, (.int .u8 zcc :: .int .i64 zcd :: .int .u64 zbv :: .int .u64 zbw :: pl14 zbx [.slice zcw zcj zcx, .int .u16 zav.1, .int .u16 zav.2, .slice zdl zcs zdm, .pointer (some ⟨zbm, 0, none⟩), .pointer (some ⟨zbn, 0, none⟩)]), 73, (0, 0)⟩ :: (⟨zbm, [.int .u64 zdn, .slice zdw zcy zdx, .int .u8 zdo], 103, (0, 0)⟩ :: (⟨zbn, ([.int .i64 zdp] ++ flat cg_T_ring_place zcz), 121, (0, 0)⟩ :: (zcv ++ (zdk ++ (zdv ++ (zdy ++ []))))))))))) F ⟨(IntKind.wrap .i64 (Int.tmod p0.Sure 60)), zbs, zi, zbt, zbu, zo, zdr, zct, zds, zdq, zcu, zdt, h, zeq, zer, zet, zes, rfl, rfl⟩ (agree_cons rfl (agree_cons rfl (agree_cons rfl (agree_cons rfl (agree_cons rfl agree_nil))))) (pSub (pH (pH (pH (pH (pH (pH (pA (pA (pA (pA pNil))))))))))) ?_
    clear h
    rintro m100049 _ _ ⟨zbr, zdn, zl, zdo, zdp, zs, zdw, zcy, zdx, zdv, zcz, zdy, h, zfw, zfx, zfz, zfy, rfl, rfl⟩
    rcases m100049 with _ | m100049
    · rw [m_hindcastlaw28_BackfillFills_L100048_2.eq_1] at h; cases h
    rw [m_hindcastlaw28_BackfillFills_L100048_2.eq_2] at h
    refine wc_seq (wc_seq (wc_region ?_))
    iterate 2 refine wP rfl rfl ?_
    refine wP (v := .pointer (some ⟨b100001, 5, none⟩)) rfl rfl (wl_val (v := .int .u8 (0 : Int)) (val_load tt_ok rfl (mT (mT (mH))) rfl) rfl (wP (v := .int .u8 (Int.tmod (0 : Int) 13)) rfl rfl (wP (v := .int .i64 (IntKind.wrap .i64 (Int.tmod (0 : Int) 13))) rfl rfl (wP (v := .int .i64 (IntKind.wrap .i64 ((IntKind.wrap .i64 (Int.tmod p0.Sure 60)) + (IntKind.wrap .i64 (Int.tmod (0 : Int) 13))))) rfl rfl (wP (v := .bool (decide (zbr < (IntKind.wrap .i64 ((IntKind.wrap .i64 (Int.tmod p0.Sure 60)) + (IntKind.wrap .i64 (Int.tmod (0 : Int) 13))))))) rfl rfl (wl_nil (wx_then (wc_cond rfl (fun hc => ?_) (fun hc => ?_)))))))))
    · replace h := ct hc h
      refine wc_skip (wx_then (wc_seq (wc_block (wc_region ?_))))
      iterate 2 refine wP rfl rfl ?_
      refine wP (v := .int .u64 (IntKind.wrap .u64 zbr)) rfl rfl (wP (v := .pointer (some ⟨b100001, 8, none⟩)) rfl rfl (wl_val (v := .slice p0a1 p0n1 p0c1) (val_load tt_ok rfl (mT (mT (mH))) rfl) rfl (wP rfl rfl ?_)))
      replace h := bsome h; obtain ⟨v100090, x100090, h⟩ := h
      refine wl_cq Tryd.call25 rfl rfl rfl (q_pf (k_hindcastlaw28_at (p0 := p0.Theirs) p0N1 p0H1 x100090) (Rds.call p0S1 pNil rsub_nil)) rfl ?_
      replace h := bsome h; obtain ⟨⟨zed, zfl, v100091⟩, x100091, h⟩ := h; try dsimp only at h
      refine wl_cs Tryd.call26 rfl rfl rfl (s_sp (k_rollback_Engine_Remote (p0 := (T_rollback_Engine.mk zcc zcd (T_api_State.mk zbv zbw zbx zh zav) zj)) (p0_4 := (T_queue_Queue.mk zdn zl zdo)) (p0_5 := (T_ring_Ring.mk zdp zs)) zfm zfn zfq zfr zfw zfx zfz zfy x100091) (pCons (sC (sC (sC hC))) (pApp (sC (sC (sC (sC (sC hA'))))) (pApp (sC (sC (sC (sC (sC hA'))))) (pCons (sC (sC (sC hC))) (pApp (sC (sC (sC (sC hA')))) (pCons (sC (sC (sC hC))) (pApp (sC (sC (sC hA'))) pNil))))))) (fun _ _ => trivial)) rfl ?_
      rintro _ _ ⟨_, ⟨zkm, zko, zkn, zkj, zks, zkr, zkk, zkl, zkq, zkp, rfl, rfl⟩, rfl⟩
      refine wl_nil (wx_block (wx_then (wc_region (wP rfl rfl (wP (v := .int .i64 (IntKind.wrap .i64 (zbr + (1 : Int)))) rfl rfl (wP rfl rfl (wl_nil ?_)))))))
      exact wx_round m100049 (Nat.lt_succ_self m100049) ⟨(IntKind.wrap .i64 (zbr + (1 : Int))), zed.first_, zed.l, zed.last, zfl.size, zfl.places, zkm, zko, zkn, zkj, zks, zkr, h, zkk, zkl, zkq, zkp, rfl, rfl⟩ (agree_cons rfl (agree_cons rfl (agree_cons rfl (agree_cons rfl (agree_cons rfl agree_nil))))) (pSub (pCons (sC (sA (sA (sC (sA (sC (sA hC))))))) (pCons (sC (sA (sA (sC (sA (sC (sA hC))))))) (pCons (sC (sA (sA (sC (sA (sC (sA hC))))))) (pH (pCons (sA (sA hC)) (pCons (sA (sA (sA hC))) (pA (pA (pA (pA pNil)))))))))))
    replace h := cf hc h
    refine wc_exit (wx_then_exit ?_)
    simp only [Option.some.injEq, Prod.mk.injEq] at h
    obtain ⟨rfl, rfl, rfl, rfl, rfl⟩ := h
    have h := hl100049; clear hl100049; try dsimp only [orE_l, orE_r] at h
    refine wx_then_exit (wx_block_exit (wx_then (wc_seq (wc_region ?_))))
    refine wP rfl rfl (wP (v := .pointer (some ⟨b100001, 6, none⟩)) rfl rfl (wl_val (v := .int .u8 (0 : Int)) (val_load tt_ok rfl (mT (mT (mH))) rfl) rfl (wP (v := .int .u8 (Int.tmod (0 : Int) 80)) rfl rfl (wP (v := .int .u64 (IntKind.wrap .u64 (Int.tmod (0 : Int) 80))) rfl rfl ?_))))
    replace h := bsome h; obtain ⟨_, x100097, h⟩ := h
    refine wl_cq Tryd.call20 rfl rfl rfl (q_pf (k_fold_History_Drop_nil0 x100097) (fun _ _ => trivial)) rfl ?_
    refine wl_nil (wx_then (wc_seq (wc_region ?_)))
    iterate 4 refine wP rfl rfl ?_
    refine wl_nil (wx_then (wc_ret (wx_inl (v := .tuple #[.pointer (some ⟨zr, 0, none⟩), .pointer none]) tt_ok (.inl rfl) Tryd.results6 (Res.tmp rfl (Res.tmp rfl Res.nil)) rfl ?_)))
    iterate 5 refine wP rfl rfl ?_
    refine wl_nil (wx_then (wc_seq (wc_seq (wc_region (wP rfl rfl (wP (v := .bool false) rfl rfl (wP rfl rfl (wl_run rfl (wP rfl rfl (wl_run rfl (wP (v := .bool true) rfl rfl (wP (v := .bool true) rfl rfl (wl_nil (wx_then (wc_cond_true rfl (wc_seq (wc_region (wP rfl rfl (wl_nil (wx_then (wc_ret (wx_then_ret ?_))))))))))))))))))))))
    obtain rfl := sI h
    exact wx_pf tt_ok (.inl rfl) Tryd.results3 (Res.tmp rfl Res.nil) rfl
  replace h := poS h
  refine wl_cs Tryd.call7 rfl rfl rfl (s_sp (k_fold_New x100022) pNil (fun _ _ => trivial)) rfl ?_
  rintro _ _ ⟨_, ⟨zcl, rfl, rfl⟩, rfl⟩
  refine wP rfl rfl (wl_nil (wx_then (wc_seq (wc_region (wP (v := .pointer (some ⟨b100001, 3, none⟩)) rfl rfl (wl_val (v := .int .u8 p0.Sure) (val_load tt_ok rfl (mT (mT (mR (mR (mT (mR (mT (mR (mR (mH)))))))))) rfl) rfl (wP (v := .int .u8 (Int.tmod p0.Sure 60)) rfl rfl (wP (v := .int .i64 (IntKind.wrap .i64 (Int.tmod p0.Sure 60))) rfl rfl (wP rfl rfl (wl_nil (wx_then (wc_seq (wc_seq (wc_region (wP rfl rfl (wl_nil (wx_then (wc_block ?_))))))))))))))))))
  replace h := bsome h; obtain ⟨⟨zho, zhp, zgy, zgz, zha, zhb, zhc, zhq, zgt, zgu, zgv, zgw, zgx, zhw⟩, h, hl100013⟩ := h; try dsimp only at hl100013
  refine wc_loop (fun m E L => ∃ (zaw : Int) (zeu : Int) (zev : Int) (zek : Int) (zel : Int) (zem : (T_api_Player × T_api_Player)) (zn : (List T_api_Shot)) (zdj : (Int × Int)) (zp : (List Int)) (zbs : Int) (zi : (List Int)) (zbt : Int) (zbu : Int) (zo : (Arr T_ring_place 14)) (zbi : T_fold_History) (zex : Option Addr) (zdu : Nat) (zey : Nat) (zew : List Blk) (zfi : Option Addr) (zen : Nat) (zfj : Nat) (zfh : List Blk) (zdr : Option Addr) (zct : Nat) (zds : Nat) (zdq : List Blk) (zcu : List (T_ring_place × G)) (zdt : List Blk), m_hindcastlaw28_BackfillFills_L100012_3 F p0 m zaw zeu zev zek zel zem zn zdj zp zbs zi zbt zbu zo zbi = some (zho, zhp, zgy, zgz, zha, zhb, zhc, zhq, zgt, zgu, zgv, zgw, zgx, zhw) ∧ zdu = zn.length ∧ Own 92 6 zex zdu zey (flat c_T_api_Shot zn) zew ∧ zen = zp.length ∧ Own 34 1 zfi zen zfj (flat (e1 .u8) zp) zfh ∧ zct = zi.length ∧ Own 34 1 zdr zct zds (flat (e1 .u8) zi) zdq ∧ zo.1 = unG zcu ∧ AllP sh_T_ring_place c_T_api_Shot zdt zcu ∧ E = [(1, .pointer (some ⟨b100001, 0, none⟩)), (4, .pointer (some ⟨zr, 0, none⟩)), (5, .pointer (some ⟨zcl, 0, none⟩)), (6, .int .i64 (IntKind.wrap .i64 (Int.tmod p0.Sure 60))), (7, .int .i64 zaw)] ∧ L = (⟨b3, [.int .u64 p0.Seed, .int .u8 p0.Player, .int .u8 p0.Window, .int .u8 p0.Sure, .int .u8 p0.Ahead, .int .u8 p0.Told, .int .u8 p0.From, .slice p0a0 p0n0 p0c0, .slice p0a1 p0n1 p0c1], 25, (0, 0)⟩ :: (⟨b8, [.int .u64 p0.Seed, .int .u8 p0.Player, .int .u8 p0.Window, .int .u8 p0.Sure, .int .u8 (IntKind.wrap .u8 (IntKind.wrap .i64 ((1 : Int) + (IntKind.wrap .i64 (Int.tmod p0.Window 12))))), .int .u8 (0 : Int), .int .u8 (0 : Int), .slice p0a0 p0n0 p0c0, .slice p0a1 p0n1 p0c1], 25, (0, 0)⟩ :: (⟨b100001, [.int .u64 p0.Seed, .int .u8 p0.Player, .int .u8 p0.Window, .int .u8 p0.Sure, .int .u8 (IntKind.wrap .u8 (IntKind.wrap .i64 ((1 : Int) + (IntKind.wrap .i64 (Int.tmod p0.Window 12))))), .int .u8 (0 : Int), .int .u8 (0 : Int), .slice p0a0 p0n0 p0c0, .slice p0a1 p0n1 p0c1], 25, (0, 0)⟩ :: (⟨zr, (.int .u8 zeu :: .int .i64 zev :: .int .u64 zek :: .int .u64 zel :: pl14 zem [.slice zex zdu zey, .int .u16 zdj.1, .int .u16 zdj.2, .slice zfi zen zfj, .pointer (some ⟨zbm, 0, none⟩), .pointer (some ⟨zbn, 0, none⟩)]), 73, (0, 0)⟩ :: (⟨zbm, [.int .u64 zbs, .slice zdr zct zds, .int .u8 zbt], 103, (0, 0)⟩ :: (⟨zbn, ([.int .i64 zbu] ++ flat cg_T_ring_place zcu), 121, (0, 0)⟩ :: (⟨zcl, ([.int .u64 zbi.from_, .int .u64 zbi.count, .int .u64 zbi.most] ++ flat (e2 .u8) zbi.ring.1), 68, (0, 0)⟩ :: (zew ++ (zfh ++ (zdq ++ (zdt ++ [])))))))))))) F ⟨(0 : Int), v100021s.1.player, v100021s.1.window, v100021s.1.sure.Frame, v100021s.1.sure.Seed, v100021s.1.sure.Players, v100021s.1.sure.Shots, v100021s.1.sure.Score, v100021s.1.own, v100021s.2.1.first_, v100021s.2.1.l, v100021s.2.1.last, v100021s.2.2.size, v100021s.2.2.places, v100022s, v100021sa0, v100021sn0, v100021sc0, v100021sB0, v100021sa1, v100021sn1, v100021sc1, v100021sB1, v100021s_4a0, v100021s_4n0, v100021s_4c0, v100021s_4B0, v100021s_5g0, v100021s_5P0, h, v100021sN0, v100021sV0, v100021sN1, v100021sV1, v100021s_4N0, v100021s_4V0, v100021s_5G0, v100021s_5A0, rfl, rfl⟩ (agree_cons rfl (agree_cons rfl (agree_cons rfl (agree_cons rfl (agree_cons rfl agree_nil))))) (pSub (pCons (sC (sC (sA (sA (sC (sA (sC (sA (sA (sC (sC hC))))))))))) (pCons (sC (sC (sA (sA (sC (sA (sC (sA (sA (sC hC)))))))))) (pCons (sC (sC (sA (sA (sC (sA (sC (sA (sA hC))))))))) (pCons (sC hC) (pCons (sC (sA (sA hC))) (pCons (sC (sA (sA (sA hC)))) (pH (pA (pA (pA (pA pNil)))))))))))) ?_
  clear h
  rintro m100013 _ _ ⟨zaw, zeu, zev, zek, zel, zem, zn, zdj, zp, zbs, zi, zbt, zbu, zo, zbi, zex, zdu, zey, zew, zfi, zen, zfj, zfh, zdr, zct, zds, zdq, zcu, zdt, h, zfu, zfv, zgb, zgc, zeq, zer, zet, zes, rfl, rfl⟩
  rcases m100013 with _ | m100013
  · rw [m_hindcastlaw28_BackfillFills_L100012_3.eq_1] at h; cases h
  rw [m_hindcastlaw28_BackfillFills_L100012_3.eq_2] at h
  refine wc_seq (wc_seq (wc_region ?_))
  iterate 2 refine wP rfl rfl ?_
  refine wP (v := .bool (decide (zaw < (IntKind.wrap .i64 (Int.tmod p0.Sure 60))))) rfl rfl (wl_nil (wx_then (wc_cond rfl (fun hc => ?_) (fun hc => ?_))))
  · replace h := ct hc h
    refine wc_skip (wx_then (wc_seq (wc_block (wc_seq (wc_region (wP rfl rfl (wP (v := .pointer (some ⟨b100001, 7, none⟩)) rfl rfl (wl_val (v := .slice p0a0 p0n0 p0c0) (val_load tt_ok rfl (mT (mT (mH))) rfl) rfl (wP rfl rfl ?_)))))))))
    replace h := bsome h; obtain ⟨v100036, x100036, h⟩ := h
    refine wl_cq Tryd.call25 rfl rfl rfl (q_pf (k_hindcastlaw28_at (p0 := p0.Mine) p0N0 p0H0 x100036) (Rds.call p0S0 pNil rsub_nil)) rfl ?_
    replace h := bsome h; obtain ⟨⟨zcb, v100037⟩, x100037, h⟩ := h; try dsimp only at h
    refine wl_cs Tryd.call24 rfl rfl rfl (s_sp (k_rollback_Engine_Local (p0 := (T_rollback_Engine.mk zeu zev (T_api_State.mk zek zel zem zn zdj) zp)) (p0_4 := (T_queue_Queue.mk zbs zi zbt)) (p0_5 := (T_ring_Ring.mk zbu zo)) zfu zfv zgb zgc zeq zer zet zes x100037) (pCons (sC (sC (sC hC))) (pApp (sC (sC (sC (sC (sC (sC hA')))))) (pApp (sC (sC (sC (sC (sC (sC hA')))))) (pCons (sC (sC (sC hC))) (pApp (sC (sC (sC (sC (sC hA'))))) (pCons (sC (sC (sC hC))) (pApp (sC (sC (sC (sC hA')))) pNil))))))) (fun _ _ => trivial)) rfl ?_
    rintro _ _ ⟨_, ⟨zky, zlc, zla, zkw, zkz, zld, zlb, zkx, zhx, zhz, zhy, zia, rfl, rfl⟩, rfl⟩
    refine wl_nil (wx_then (wc_seq (wc_region ?_)))
    iterate 2 refine wP rfl rfl ?_
    refine wP (v := .int .u64 (IntKind.wrap .u64 zaw)) rfl rfl (wP (v := .pointer (some ⟨b100001, 8, none⟩)) rfl rfl (wl_val (v := .slice p0a1 p0n1 p0c1) (val_load tt_ok rfl (mT (mR (mR (mT (mR (mT (mR (mT (mT (mH)))))))))) rfl) rfl (wP rfl rfl ?_)))
    replace h := bsome h; obtain ⟨v100044, x100044, h⟩ := h
    refine wl_cq Tryd.call25 rfl rfl rfl (q_pf (k_hindcastlaw28_at (p0 := p0.Theirs) p0N1 p0H1 x100044) (Rds.call p0S1 pNil rsub_nil)) rfl ?_
    replace h := bsome h; obtain ⟨⟨zfp, zga, v100045⟩, x100045, h⟩ := h; try dsimp only at h
    refine wl_cs Tryd.call26 rfl rfl rfl (s_sp (k_rollback_Engine_Remote (p0 := zcb) (p0_4 := (T_queue_Queue.mk zbs zi zbt)) (p0_5 := (T_ring_Ring.mk zbu zo)) zhx zhz zhy zia zeq zer zet zes x100045) (pH (pA (pA (pH (pA (pH (pA pNil))))))) (fun _ _ => trivial)) rfl ?_
    rintro _ _ ⟨_, ⟨zlf, zlh, zlg, zle, zlj, zli, zix, ziy, zja, ziz, rfl, rfl⟩, rfl⟩
    refine wl_nil (wx_then (wc_seq (wc_region ?_)))
    iterate 2 refine wP rfl rfl ?_
    refine wP (v := .int .i64 (IntKind.wrap .i64 (zaw + (1 : Int)))) rfl rfl (wP (v := .int .u64 (IntKind.wrap .u64 (IntKind.wrap .i64 (zaw + (1 : Int))))) rfl rfl ?_)
    replace h := bsome h; obtain ⟨⟨zap, zec, zfk, zku, zkv⟩, x100050, h⟩ := h; try dsimp only at h
    refine wl_cs Tryd.call14 rfl rfl rfl (s_sp (k_rollback_Engine_Confirm (p0 := zcb) (p0_4 := zfp) (p0_5 := zga) zhx zhz zhy zia zix ziy zja ziz x100050) (pH (pA (pA (pH (pA (pH (pA pNil))))))) (fun w hI => ⟨(Rds.call G0S (pH (pA (pA (pH (pA (pH (pA pNil))))))) rsub_nil) w hI, (Rds.call G1S (pH (pA (pA (pH (pA (pH (pA pNil))))))) rsub_nil) w hI⟩)) rfl ?_
    rintro _ _ ⟨_, ⟨zjh, zjl, zjj, zjb, zji, zjm, zjk, zjc, zjq, zjs, zjr, zjn, zjw, zjv, zjd, zjf, zje, zjg, zjo, zjp, zju, zjt, rfl, rfl⟩, rfl⟩
    refine wl_nil (wx_then (wc_region (wP rfl rfl (wl_val (v := .agg #[.int .u64 p0.Seed, .int .u8 p0.Player, .int .u8 p0.Window, .int .u8 p0.Sure, .int .u8 (IntKind.wrap .u8 (IntKind.wrap .i64 ((1 : Int) + (IntKind.wrap .i64 (Int.tmod p0.Window 12))))), .int .u8 (0 : Int), .int .u8 (0 : Int), .slice p0a0 p0n0 p0c0, .slice p0a1 p0n1 p0c1]) (val_load tt_ok rfl (mT (mR (mR (mT (mR (mT (mR (mT (mT (mH)))))))))) rfl) rfl (wP rfl rfl ?_)))))
    replace h := bsome h; obtain ⟨v100054, x100054, h⟩ := h
    refine wl_cq Tryd.call9 rfl rfl rfl (q_pf (k_hindcastlaw28_Setup_pair (p0 := (T_hindcastlaw28_Setup.mk p0.Seed p0.Player p0.Window p0.Sure (IntKind.wrap .u8 (IntKind.wrap .i64 ((1 : Int) + (IntKind.wrap .i64 (Int.tmod p0.Window 12))))) (0 : Int) (0 : Int) p0.Mine p0.Theirs)) p0N0 p0H0 p0N1 p0H1 x100054) (fun w hI => ⟨(Rds.call p0S0 pNil rsub_nil) w hI, (Rds.call p0S1 pNil rsub_nil) w hI⟩)) rfl ?_
    replace h := bsome h; obtain ⟨⟨zkt, v100055⟩, x100055, h⟩ := h; try dsimp only at h
    refine wl_cs Tryd.call8 rfl rfl rfl (s_sp (k_fold_History_Add x100055) (pCons (sC (sA (sA (sC (sA (sC (sA (sC (sC (sC hC)))))))))) pNil) (fun _ _ => trivial)) rfl ?_
    rintro _ _ ⟨_, ⟨rfl, rfl⟩, rfl⟩
    refine wl_nil (wx_block (wx_then (wc_region (wP rfl rfl (wP (v := .int .i64 (IntKind.wrap .i64 (zaw + (1 : Int)))) rfl rfl (wP rfl rfl (wl_nil ?_)))))))
    exact wx_round m100013 (Nat.lt_succ_self m100013) ⟨(IntKind.wrap .i64 (zaw + (1 : Int))), zap.player, zap.window, zap.sure.Frame, zap.sure.Seed, zap.sure.Players, zap.sure.Shots, zap.sure.Score, zap.own, zec.first_, zec.l, zec.last, zfk.size, zfk.places, zkt, zjh, zjl, zjj, zjb, zji, zjm, zjk, zjc, zjq, zjs, zjr, zjn, zjw, zjv, h, zjd, zjf, zje, zjg, zjo, zjp, zju, zjt, rfl, rfl⟩ (agree_cons rfl (agree_cons rfl (agree_cons rfl (agree_cons rfl (agree_cons rfl agree_nil))))) (pSub (pCons (sC (sC (sA (sA (sC (sA (sC (sA hC)))))))) (pCons (sC (sC (sA (sA (sC (sA (sC (sA hC)))))))) (pCons (sC (sC (sA (sA (sC (sA (sC (sA hC)))))))) (pCons (sC hC) (pCons (sC (sA (sA hC))) (pCons (sC (sA (sA (sA hC)))) (pH (pA (pA (pA (pA pNil))))))))))))
  replace h := cf hc h
  refine wc_exit (wx_then_exit ?_)
  simp only [Option.some.injEq, Prod.mk.injEq] at h
  obtain ⟨rfl, rfl, rfl, rfl, rfl, rfl, rfl, rfl, rfl, rfl, rfl, rfl, rfl, rfl⟩ := h
  have h := hl100013; clear hl100013; try dsimp only [orE_l, orE_r] at h
  refine wx_then_exit (wx_block_exit (wx_then (wc_seq (wc_seq (wc_region ?_)))))
  iterate 2 refine wP rfl rfl ?_
  refine wl_nil (wx_then (wc_block ?_))
  replace h := bsome h; obtain ⟨⟨zhr, zhs, zhd, zhe, zhf, zhg, zhh, zht⟩, h, hl100034⟩ := h; try dsimp only at hl100034
  refine wc_loop (fun m E L => ∃ (zci : Int) (zcc : Int) (zcd : Int) (zbv : Int) (zbw : Int) (zbx : (T_api_Player × T_api_Player)) (zh : (List T_api_Shot)) (zav : (Int × Int)) (zj : (List Int)) (zcw : Option Addr) (zcj : Nat) (zcx : Nat) (zcv : List Blk) (zdl : Option Addr) (zcs : Nat) (zdm : Nat) (zdk : List Blk), m_hindcastlaw28_BackfillFills_L100033_3 F p0 zbs zi zbt zbu zo m zci zcc zcd zbv zbw zbx zh zav zj = some (zhr, zhs, zhd, zhe, zhf, zhg, zhh, zht) ∧ zcj = zh.length ∧ Own 92 6 zcw zcj zcx (flat c_T_api_Shot zh) zcv ∧ zcs = zj.length ∧ Own 34 1 zdl zcs zdm (flat (e1 .u8) zj) zdk ∧ E = [(1, .pointer (some ⟨b100001, 0, none⟩)), (4, .pointer (some ⟨zr, 0, none⟩)), (5, .pointer (some ⟨zcl, 0, none⟩)), (6, .int .i64 (IntKind.wrap .i64 (Int.tmod p0.Sure 60))), (8, .int .i64 zci)] ∧ L = (⟨b3, [.int .u64 p0.Seed, .int .u8 p0.Player, .int .u8 p0.Window, .int .u8 p0.Sure, .int .u8 p0.Ahead, .int .u8 p0.Told, .int .u8 p0.From, .slice p0a0 p0n0 p0c0, .slice p0a1 p0n1 p0c1], 25, (0, 0)⟩ :: (⟨b8, [.int .u64 p0.Seed, .int .u8 p0.Player, .int .u8 p0.Window, .int .u8 p0.Sure, .int .u8 (IntKind.wrap .u8 (IntKind.wrap .i64 ((1 : Int) + (IntKind.wrap .i64 (Int.tmod p0.Window 12))))), .int .u8 (0 : Int), .int .u8 (0 : Int), .slice p0a0 p0n0 p0c0, .slice p0a1 p0n1 p0c1], 25, (0, 0)⟩ :: (⟨b100001, [.int .u64 p0.Seed, .int .u8 p0.Player, .int .u8 p0.Window, .int .u8 p0.Sure, .int .u8 (IntKind.wrap .u8 (IntKind.wrap .i64 ((1 : Int) + (IntKind.wrap .i64 (Int.tmod p0.Window 12))))), .int .u8 (0 : Int), .int .u8 (0 : Int), .slice p0a0 p0n0 p0c0, .slice p0a1 p0n1 p0c1], 25, (0, 0)⟩ :: (⟨zr, (.int .u8 zcc :: .int .i64 zcd :: .int .u64 zbv :: .int .u64 zbw :: pl14 zbx [.slice zcw zcj zcx, .int .u16 zav.1, .int .u16 zav.2, .slice zdl zcs zdm, .pointer (some ⟨zbm, 0, none⟩), .pointer (some ⟨zbn, 0, none⟩)]), 73, (0, 0)⟩ :: (⟨zbm, [.int .u64 zbs, .slice zdr zct zds, .int .u8 zbt], 103, (0, 0)⟩ :: (⟨zbn, ([.int .i64 zbu] ++ flat cg_T_ring_place zcu), 121, (0, 0)⟩ :: (⟨zcl, ([.int .u64 zbi.from_, .int .u64 zbi.count, .int .u64 zbi.most] ++ flat (e2 .u8) zbi.ring.1), 68, (0, 0)⟩ :: (zcv ++ (zdk ++ (zdq ++ (zdt ++ [])))))))))))) F ⟨(IntKind.wrap .i64 (Int.tmod p0.Sure 60)), zeu, zev, zek, zel, zem, zn, zdj, zp, zex, zdu, zey, zew, zfi, zen, zfj, zfh, h, zfu, zfv, zgb, zgc, rfl, rfl⟩ (agree_cons rfl (agree_cons rfl (agree_cons rfl (agree_cons rfl (agree_cons rfl agree_nil))))) (pSub (pH (pH (pH (pH (pH (pH (pH (pA (pA (pA (pA pNil)))))))))))) ?_
  clear h
  rintro m100034 _ _ ⟨zci, zcc, zcd, zbv, zbw, zbx, zh, zav, zj, zcw, zcj, zcx, zcv, zdl, zcs, zdm, zdk, h, zfm, zfn, zfq, zfr, rfl, rfl⟩
  rcases m100034 with _ | m100034
  · rw [m_hindcastlaw28_BackfillFills_L100033_3.eq_1] at h; cases h
  rw [m_hindcastlaw28_BackfillFills_L100033_3.eq_2] at h
  refine wc_seq (wc_seq (wc_region ?_))
  iterate 2 refine wP rfl rfl ?_
  refine wP (v := .pointer (some ⟨b100001, 4, none⟩)) rfl rfl (wl_val (v := .int .u8 (IntKind.wrap .u8 (IntKind.wrap .i64 ((1 : Int) + (IntKind.wrap .i64 (Int.tmod p0.Window 12)))))) (val_load tt_ok rfl (mT (mT (mH))) rfl) rfl (wP (v := .int .u8 (Int.tmod (IntKind.wrap .u8 (IntKind.wrap .i64 ((1 : Int) + (IntKind.wrap .i64 (Int.tmod p0.Window 12))))) 13)) rfl rfl (wP (v := .int .i64 (IntKind.wrap .i64 (Int.tmod (IntKind.wrap .u8 (IntKind.wrap .i64 ((1 : Int) + (IntKind.wrap .i64 (Int.tmod p0.Window 12))))) 13))) rfl rfl (wP (v := .int .i64 (IntKind.wrap .i64 ((IntKind.wrap .i64 (Int.tmod p0.Sure 60)) + (IntKind.wrap .i64 (Int.tmod (IntKind.wrap .u8 (IntKind.wrap .i64 ((1 : Int) + (IntKind.wrap .i64 (Int.tmod p0.Window 12))))) 13))))) rfl rfl ?_))))
  refine wP (v := .bool (decide (zci < (IntKind.wrap .i64 ((IntKind.wrap .i64 (Int.tmod p0.Sure 60)) + (IntKind.wrap .i64 (Int.tmod (IntKind.wrap .u8 (IntKind.wrap .i64 ((1 : Int) + (IntKind.wrap .i64 (Int.tmod p0.Window 12))))) 13))))))) rfl rfl (wl_nil (wx_then (wc_cond rfl (fun hc => ?_) (fun hc => ?_))))
  · replace h := ct hc h
    refine wc_skip (wx_then (wc_seq (wc_block (wc_region (wP rfl rfl (wP (v := .pointer (some ⟨b100001, 7, none⟩)) rfl rfl (wl_val (v := .slice p0a0 p0n0 p0c0) (val_load tt_ok rfl (mT (mT (mH))) rfl) rfl (wP rfl rfl ?_))))))))
    replace h := bsome h; obtain ⟨v100071, x100071, h⟩ := h
    refine wl_cq Tryd.call25 rfl rfl rfl (q_pf (k_hindcastlaw28_at (p0 := p0.Mine) p0N0 p0H0 x100071) (Rds.call p0S0 pNil rsub_nil)) rfl ?_
    replace h := bsome h; obtain ⟨⟨zaq, v100072⟩, x100072, h⟩ := h; try dsimp only at h
    refine wl_cs Tryd.call24 rfl rfl rfl (s_sp (k_rollback_Engine_Local (p0 := (T_rollback_Engine.mk zcc zcd (T_api_State.mk zbv zbw zbx zh zav) zj)) (p0_4 := (T_queue_Queue.mk zbs zi zbt)) (p0_5 := (T_ring_Ring.mk zbu zo)) zfm zfn zfq zfr zeq zer zet zes x100072) (pCons (sC (sC (sC hC))) (pApp (sC (sC (sC (sC (sC (sC hA')))))) (pApp (sC (sC (sC (sC (sC (sC hA')))))) (pCons (sC (sC (sC hC))) (pApp (sC (sC (sC (sC (sC hA'))))) (pCons (sC (sC (sC hC))) (pApp (sC (sC (sC (sC hA')))) pNil))))))) (fun _ _ => trivial)) rfl ?_
    rintro _ _ ⟨_, ⟨zkd, zkh, zkf, zjx, zke, zki, zkg, zjy, zjz, zkb, zka, zkc, rfl, rfl⟩, rfl⟩
    refine wl_nil (wx_block (wx_then (wc_region (wP rfl rfl (wP (v := .int .i64 (IntKind.wrap .i64 (zci + (1 : Int)))) rfl rfl (wP rfl rfl (wl_nil ?_)))))))
    exact wx_round m100034 (Nat.lt_succ_self m100034) ⟨(IntKind.wrap .i64 (zci + (1 : Int))), zaq.player, zaq.window, zaq.sure.Frame, zaq.sure.Seed, zaq.sure.Players, zaq.sure.Shots, zaq.sure.Score, zaq.own, zkd, zkh, zkf, zjx, zke, zki, zkg, zjy, h, zjz, zkb, zka, zkc, rfl, rfl⟩ (agree_cons rfl (agree_cons rfl (agree_cons rfl (agree_cons rfl (agree_cons rfl agree_nil))))) (pSub (pCons (sC (sA (sA (sC (sA (sC (sA hC))))))) (pCons (sC (sA (sA (sC (sA (sC (sA hC))))))) (pCons (sC (sA (sA (sC (sA (sC (sA hC))))))) (pH (pCons (sA (sA hC)) (pCons (sA (sA (sA hC))) (pCons (sA (sA (sA (sA hC)))) (pA (pA (pA (pA pNil))))))))))))
  replace h := cf hc h
  refine wc_exit (wx_then_exit ?_)
  simp only [Option.some.injEq, Prod.mk.injEq] at h
  obtain ⟨rfl, rfl, rfl, rfl, rfl, rfl, rfl, rfl⟩ := h
  have h := hl100034; clear hl100034; try dsimp only [orE_l, orE_r] at h
  refine wx_then_exit (wx_block_exit (wx_then (wc_seq (wc_seq (wc_region ?_)))))
  iterate 2 refine wP rfl rfl ?_
  refine wl_nil (wx_then (wc_block ?_))
  replace h := bsome h; obtain ⟨⟨zhi, zhj, zhk, zhl, zhm⟩, h, hl100049⟩ := h; try dsimp only at hl100049
  refine wc_loop (fun m E L => ∃ (zbr : Int) (zdn : Int) (zl : (List Int)) (zdo : Int) (zdp : Int) (zs : (Arr T_ring_place 14)) (zdw : Option Addr) (zcy : Nat) (zdx : Nat) (zdv : List Blk) (zcz : List (T_ring_place × G)) (zdy : List Blk), m_hindcastlaw28_BackfillFills_L100048_3 F p0 zcc zcd zbv zbw zbx zh zav zj m zbr zdn zl zdo zdp zs = some (zhi, zhj, zhk, zhl, zhm) ∧ zcy = zl.length ∧ Own 34 1 zdw zcy zdx (flat (e1 .u8) zl) zdv ∧ zs.1 = unG zcz ∧ AllP sh_T_ring_place c_T_api_Shot zdy zcz ∧ E = [(1, .pointer (some ⟨b100001, 0, none⟩)), (4, .pointer (some ⟨zr, 0, none⟩)), (5, .pointer (some ⟨zcl, 0, none⟩)), (6, .int .i64 (IntKind.wrap .i64 (Int.tmod p0.Sure 60))), (9, .int .i64 zbr)] ∧ L = (⟨b3, [.int .u64 p0.Seed, .int .u8 p0.Player, .int .u8 p0.Window, .int .u8 p0.Sure, .int .u8 p0.Ahead, .int .u8 p0.Told, .int .u8 p0.From, .slice p0a0 p0n0 p0c0, .slice p0a1 p0n1 p0c1], 25, (0, 0)⟩ :: (⟨b8, [.int .u64 p0.Seed, .int .u8 p0.Player, .int .u8 p0.Window, .int .u8 p0.Sure, .int .u8 (IntKind.wrap .u8 (IntKind.wrap .i64 ((1 : Int) + (IntKind.wrap .i64 (Int.tmod p0.Window 12))))), .int .u8 (0 : Int), .int .u8 (0 : Int), .slice p0a0 p0n0 p0c0, .slice p0a1 p0n1 p0c1], 25, (0, 0)⟩ :: (⟨b100001, [.int .u64 p0.Seed, .int .u8 p0.Player, .int .u8 p0.Window, .int .u8 p0.Sure, .int .u8 (IntKind.wrap .u8 (IntKind.wrap .i64 ((1 : Int) + (IntKind.wrap .i64 (Int.tmod p0.Window 12))))), .int .u8 (0 : Int), .int .u8 (0 : Int), .slice p0a0 p0n0 p0c0, .slice p0a1 p0n1 p0c1], 25, (0, 0)⟩ :: (⟨zr, (.int .u8 zcc :: .int .i64 zcd :: .int .u64 zbv :: .int .u64 zbw :: pl14 zbx [.slice zcw zcj zcx, .int .u16 zav.1, .int .u16 zav.2, .slice zdl zcs zdm, .pointer (some ⟨zbm, 0, none⟩), .pointer (some ⟨zbn, 0, none⟩)]), 73, (0, 0)⟩ :: (⟨zbm, [.int .u64 zdn, .slice zdw zcy zdx, .int .u8 zdo], 103, (0, 0)⟩ :: (⟨zbn, ([.int .i64 zdp] ++ flat cg_T_ring_place zcz), 121, (0, 0)⟩ :: (⟨zcl, ([.int .u64 zbi.from_, .int .u64 zbi.count, .int .u64 zbi.most] ++ flat (e2 .u8) zbi.ring.1), 68, (0, 0)⟩ :: (zcv ++ (zdk ++ (zdv ++ (zdy ++ [])))))))))))) F ⟨(IntKind.wrap .i64 (Int.tmod p0.Sure 60)), zbs, zi, zbt, zbu, zo, zdr, zct, zds, zdq, zcu, zdt, h, zeq, zer, zet, zes, rfl, rfl⟩ (agree_cons rfl (agree_cons rfl (agree_cons rfl (agree_cons rfl (agree_cons rfl agree_nil))))) (pSub (pH (pH (pH (pH (pH (pH (pH (pA (pA (pA (pA pNil)))))))))))) ?_
  clear h
  rintro m100049 _ _ ⟨zbr, zdn, zl, zdo, zdp, zs, zdw, zcy, zdx, zdv, zcz, zdy, h, zfw, zfx, zfz, zfy, rfl, rfl⟩
  rcases m100049 with _ | m100049
  · rw [m_hindcastlaw28_BackfillFills_L100048_3.eq_1] at h; cases h
  rw [m_hindcastlaw28_BackfillFills_L100048_3.eq_2] at h
  refine wc_seq (wc_seq (wc_region ?_))
  iterate 2 refine wP rfl rfl ?_
  refine wP (v := .pointer (some ⟨b100001, 5, none⟩)) rfl rfl (wl_val (v := .int .u8 (0 : Int)) (val_load tt_ok rfl (mT (mT (mH))) rfl) rfl (wP (v := .int .u8 (Int.tmod (0 : Int) 13)) rfl rfl (wP (v := .int .i64 (IntKind.wrap .i64 (Int.tmod (0 : Int) 13))) rfl rfl (wP (v := .int .i64 (IntKind.wrap .i64 ((IntKind.wrap .i64 (Int.tmod p0.Sure 60)) + (IntKind.wrap .i64 (Int.tmod (0 : Int) 13))))) rfl rfl (wP (v := .bool (decide (zbr < (IntKind.wrap .i64 ((IntKind.wrap .i64 (Int.tmod p0.Sure 60)) + (IntKind.wrap .i64 (Int.tmod (0 : Int) 13))))))) rfl rfl (wl_nil (wx_then (wc_cond rfl (fun hc => ?_) (fun hc => ?_)))))))))
  · replace h := ct hc h
    refine wc_skip (wx_then (wc_seq (wc_block (wc_region ?_))))
    iterate 2 refine wP rfl rfl ?_
    refine wP (v := .int .u64 (IntKind.wrap .u64 zbr)) rfl rfl (wP (v := .pointer (some ⟨b100001, 8, none⟩)) rfl rfl (wl_val (v := .slice p0a1 p0n1 p0c1) (val_load tt_ok rfl (mT (mT (mH))) rfl) rfl (wP rfl rfl ?_)))
    replace h := bsome h; obtain ⟨v100090, x100090, h⟩ := h
    refine wl_cq Tryd.call25 rfl rfl rfl (q_pf (k_hindcastlaw28_at (p0 := p0.Theirs) p0N1 p0H1 x100090) (Rds.call p0S1 pNil rsub_nil)) rfl ?_
    replace h := bsome h; obtain ⟨⟨zed, zfl, v100091⟩, x100091, h⟩ := h; try dsimp only at h
    refine wl_cs Tryd.call26 rfl rfl rfl (s_sp (k_rollback_Engine_Remote (p0 := (T_rollback_Engine.mk zcc zcd (T_api_State.mk zbv zbw zbx zh zav) zj)) (p0_4 := (T_queue_Queue.mk zdn zl zdo)) (p0_5 := (T_ring_Ring.mk zdp zs)) zfm zfn zfq zfr zfw zfx zfz zfy x100091) (pCons (sC (sC (sC hC))) (pApp (sC (sC (sC (sC (sC (sC hA')))))) (pApp (sC (sC (sC (sC (sC (sC hA')))))) (pCons (sC (sC (sC hC))) (pApp (sC (sC (sC (sC (sC hA'))))) (pCons (sC (sC (sC hC))) (pApp (sC (sC (sC (sC hA')))) pNil))))))) (fun _ _ => trivial)) rfl ?_
    rintro _ _ ⟨_, ⟨zkm, zko, zkn, zkj, zks, zkr, zkk, zkl, zkq, zkp, rfl, rfl⟩, rfl⟩
    refine wl_nil (wx_block (wx_then (wc_region (wP rfl rfl (wP (v := .int .i64 (IntKind.wrap .i64 (zbr + (1 : Int)))) rfl rfl (wP rfl rfl (wl_nil ?_)))))))
    exact wx_round m100049 (Nat.lt_succ_self m100049) ⟨(IntKind.wrap .i64 (zbr + (1 : Int))), zed.first_, zed.l, zed.last, zfl.size, zfl.places, zkm, zko, zkn, zkj, zks, zkr, h, zkk, zkl, zkq, zkp, rfl, rfl⟩ (agree_cons rfl (agree_cons rfl (agree_cons rfl (agree_cons rfl (agree_cons rfl agree_nil))))) (pSub (pCons (sC (sA (sA (sC (sA (sC (sA hC))))))) (pCons (sC (sA (sA (sC (sA (sC (sA hC))))))) (pCons (sC (sA (sA (sC (sA (sC (sA hC))))))) (pH (pCons (sA (sA hC)) (pCons (sA (sA (sA hC))) (pCons (sA (sA (sA (sA hC)))) (pA (pA (pA (pA pNil))))))))))))
  replace h := cf hc h
  refine wc_exit (wx_then_exit ?_)
  simp only [Option.some.injEq, Prod.mk.injEq] at h
  obtain ⟨rfl, rfl, rfl, rfl, rfl⟩ := h
  have h := hl100049; clear hl100049; try dsimp only [orE_l, orE_r] at h
  refine wx_then_exit (wx_block_exit (wx_then (wc_seq (wc_region ?_))))
  refine wP rfl rfl (wP (v := .pointer (some ⟨b100001, 6, none⟩)) rfl rfl (wl_val (v := .int .u8 (0 : Int)) (val_load tt_ok rfl (mT (mT (mH))) rfl) rfl (wP (v := .int .u8 (Int.tmod (0 : Int) 80)) rfl rfl (wP (v := .int .u64 (IntKind.wrap .u64 (Int.tmod (0 : Int) 80))) rfl rfl ?_))))
  replace h := bsome h; obtain ⟨zge, x100097, h⟩ := h
  refine wl_cs Tryd.call20 rfl rfl rfl (s_sp (k_fold_History_Drop x100097) (pCons (sC (sC (sC (sC (sC (sC hC)))))) pNil) (fun _ _ => trivial)) rfl ?_
  rintro _ _ ⟨_, ⟨rfl, rfl⟩, rfl⟩
  refine wl_nil (wx_then (wc_seq (wc_region ?_)))
  iterate 4 refine wP rfl rfl ?_
  refine wl_nil (wx_then (wc_ret (wx_inl (v := .tuple #[.pointer (some ⟨zr, 0, none⟩), .pointer (some ⟨zcl, 0, none⟩)]) tt_ok (.inl rfl) Tryd.results6 (Res.tmp rfl (Res.tmp rfl Res.nil)) rfl ?_)))
  iterate 5 refine wP rfl rfl ?_
  refine wl_nil (wx_then (wc_seq (wc_seq (wc_region (wP rfl rfl (wP (v := .bool false) rfl rfl (wP rfl rfl (wl_run rfl (wP rfl rfl (wl_run rfl (wP (v := .bool false) rfl rfl (wP (v := .bool false) rfl rfl (wl_nil (wx_then (wc_cond_false rfl (wc_skip (wx_then (wc_seq (wc_quiet (by kernel_rfl) (by kernel_rfl) (qP (v := .pointer (some ⟨b3, 3, none⟩)) rfl rfl (wq_val (v := .int .u8 p0.Sure) (val_load tt_ok rfl (mT (mH)) rfl) rfl (qP (v := .int .u8 (Int.tmod p0.Sure 60)) rfl rfl (qP (v := .int .i64 (IntKind.wrap .i64 (Int.tmod p0.Sure 60))) rfl rfl (qP rfl rfl ?_))))))))))))))))))))))))
  refine qP (v := .int .i64 (IntKind.wrap .i64 p1)) rfl rfl (qP rfl rfl ?_)
  replace h := bsome h; obtain ⟨v64, x64, h⟩ := h
  refine wq_val (v := .int .i64 v64) (val_rem rfl rfl x64) rfl ?_
  refine qP (v := .int .i64 (IntKind.wrap .i64 ((IntKind.wrap .i64 (Int.tmod p0.Sure 60)) + v64))) rfl rfl (qP rfl rfl (wq_nil (wx_then (wc_seq (wc_region ?_)))))
  replace h := bsome h; obtain ⟨v66, x66, h⟩ := h
  rcases v66 with _ | v66s
  · replace h := poN h
    refine wl_cs Tryd.call7 rfl rfl rfl (s_sp (k_fold_New_none x66) pNil (fun _ _ => trivial)) rfl ?_
    rintro _ _ ⟨_, ⟨rfl, rfl⟩, rfl⟩
    refine wP rfl rfl (wl_nil (wx_then (wc_seq (wc_seq (wc_region (wP rfl rfl (wl_nil (wx_then (wc_block ?_)))))))))
    replace h := bsome h; obtain ⟨_, h, hl35⟩ := h
    refine wc_loop (fun m E L => ∃ (zhn : Int), m_hindcastlaw28_BackfillFills_L34 F p0 v64 m zhn = some () ∧ E = [(2, .bool p2), (3, .pointer (some ⟨b3, 0, none⟩)), (6, .bool false), (9, .pointer (some ⟨zr, 0, none⟩)), (10, .pointer (some ⟨zcl, 0, none⟩)), (11, .int .i64 (IntKind.wrap .i64 ((IntKind.wrap .i64 (Int.tmod p0.Sure 60)) + v64))), (12, .pointer none), (13, .int .i64 zhn)] ∧ L = (⟨b3, [.int .u64 p0.Seed, .int .u8 p0.Player, .int .u8 p0.Window, .int .u8 p0.Sure, .int .u8 p0.Ahead, .int .u8 p0.Told, .int .u8 p0.From, .slice p0a0 p0n0 p0c0, .slice p0a1 p0n1 p0c1], 25, (0, 0)⟩ :: (⟨zr, (.int .u8 zcc :: .int .i64 zcd :: .int .u64 zbv :: .int .u64 zbw :: pl14 zbx [.slice zcw zcj zcx, .int .u16 zav.1, .int .u16 zav.2, .slice zdl zcs zdm, .pointer (some ⟨zbm, 0, none⟩), .pointer (some ⟨zbn, 0, none⟩)]), 73, (0, 0)⟩ :: (⟨zbm, [.int .u64 zdn, .slice zdw zcy zdx, .int .u8 zdo], 103, (0, 0)⟩ :: (⟨zbn, ([.int .i64 zdp] ++ flat cg_T_ring_place zcz), 121, (0, 0)⟩ :: (⟨zcl, ([.int .u64 zge.from_, .int .u64 zge.count, .int .u64 zge.most] ++ flat (e2 .u8) zge.ring.1), 68, (0, 0)⟩ :: (zcv ++ (zdk ++ (zdv ++ (zdy ++ [])))))))))) F ⟨(0 : Int), h, rfl, rfl⟩ (agree_cons rfl (agree_cons rfl (agree_cons rfl (agree_cons rfl (agree_cons rfl (agree_cons rfl (agree_cons rfl (agree_cons rfl agree_nil)))))))) (pSub (pCons (sC hC) (pCons (sC (sC (sC hC))) (pCons (sC (sC (sC hC))) (pCons (sC (sC (sC hC))) (pH (pApp (sC (sC hA')) (pApp (sC (sC hA')) (pApp (sC (sC hA')) (pApp (sC (sC hA')) pNil)))))))))) ?_
    clear h
    rintro m35 _ _ ⟨zhn, h, rfl, rfl⟩
    rcases m35 with _ | m35
    · rw [m_hindcastlaw28_BackfillFills_L34.eq_1] at h; cases h
    rw [m_hindcastlaw28_BackfillFills_L34.eq_2] at h
    refine wc_seq (wc_seq (wc_region ?_))
    iterate 2 refine wP rfl rfl ?_
    refine wP (v := .bool (decide (zhn < (IntKind.wrap .i64 ((IntKind.wrap .i64 (Int.tmod p0.Sure 60)) + v64))))) rfl rfl (wl_nil (wx_then (wc_cond rfl (fun hc => ?_) (fun hc => ?_))))
    · replace h := ct hc h
      refine wc_skip (wx_then (wc_seq (wc_block (wc_region (wP rfl rfl (wl_val (v := .agg #[.int .u64 p0.Seed, .int .u8 p0.Player, .int .u8 p0.Window, .int .u8 p0.Sure, .int .u8 p0.Ahead, .int .u8 p0.Told, .int .u8 p0.From, .slice p0a0 p0n0 p0c0, .slice p0a1 p0n1 p0c1]) (val_load tt_ok rfl (mH) rfl) rfl (wP rfl rfl ?_)))))))
      replace h := bsome h; obtain ⟨v75, x75, h⟩ := h
      refine wl_cq Tryd.call9 rfl rfl rfl (q_pf (k_hindcastlaw28_Setup_pair (p0 := p0) p0N0 p0H0 p0N1 p0H1 x75) (fun w hI => ⟨(Rds.call p0S0 pNil rsub_nil) w hI, (Rds.call p0S1 pNil rsub_nil) w hI⟩)) rfl ?_
      replace h := bsome h; obtain ⟨v76, x76, h⟩ := h
      refine wl_cq Tryd.call8 rfl rfl rfl (q_pf (k_fold_History_Add_nil0 x76) (fun _ _ => trivial)) rfl ?_
      refine wl_nil (wx_block (wx_then (wc_region (wP rfl rfl (wP (v := .int .i64 (IntKind.wrap .i64 (zhn + (1 : Int)))) rfl rfl (wP rfl rfl (wl_nil ?_)))))))
      exact wx_round m35 (Nat.lt_succ_self m35) ⟨(IntKind.wrap .i64 (zhn + (1 : Int))), h, rfl, rfl⟩ (agree_cons rfl (agree_cons rfl (agree_cons rfl (agree_cons rfl (agree_cons rfl (agree_cons rfl (agree_cons rfl (agree_cons rfl agree_nil)))))))) (pSub (pH (pH (pH (pH (pH (pA (pA (pA (pA pNil))))))))))
    replace h := cf hc h
    refine wc_exit (wx_then_exit ?_)
    have h := hl35; clear hl35; try dsimp only [orE_l, orE_r] at h
    refine wx_then_exit (wx_block_exit (wx_then (wc_seq (wc_seq (wc_region ?_)))))
    refine wP rfl rfl (wl_nil (wx_then (wc_block ?_)))
    replace h := bsome h; obtain ⟨o50, h, hl50⟩ := h
    refine wc_loop (fun m E L => ∃ (zdc : Int) (zbg : Int) (zbh : Int) (zar : Int) (zas : Int) (zat : (T_api_Player × T_api_Player)) (zf : (List T_api_Shot)) (zaj : (Int × Int)) (zg : (List Int)) (zcm : Int) (zk : (List Int)) (zcn : Int) (zco : Int) (zq : (Arr T_ring_place 14)) (zbo : T_fold_History) (zdh : Option Addr) (zcr : Nat) (zdi : Nat) (zdg : List Blk) (zea : Option Addr) (zdf : Nat) (zeb : Nat) (zdz : List Blk) (zfa : Option Addr) (zeg : Nat) (zfb : Nat) (zez : List Blk) (zej : List (T_ring_place × G)) (zfc : List Blk), m_hindcastlaw28_BackfillFills_L49 F p0 p2 v64 m zdc zbg zbh zar zas zat zf zaj zg zcm zk zcn zco zq zbo = some o50 ∧ zcr = zf.length ∧ Own 92 6 zdh zcr zdi (flat c_T_api_Shot zf) zdg ∧ zdf = zg.length ∧ Own 34 1 zea zdf zeb (flat (e1 .u8) zg) zdz ∧ zeg = zk.length ∧ Own 34 1 zfa zeg zfb (flat (e1 .u8) zk) zez ∧ zq.1 = unG zej ∧ AllP sh_T_ring_place c_T_api_Shot zfc zej ∧ E = [(2, .bool p2), (3, .pointer (some ⟨b3, 0, none⟩)), (6, .bool false), (9, .pointer (some ⟨zr, 0, none⟩)), (10, .pointer (some ⟨zcl, 0, none⟩)), (11, .int .i64 (IntKind.wrap .i64 ((IntKind.wrap .i64 (Int.tmod p0.Sure 60)) + v64))), (12, .pointer none), (14, .int .i64 zdc)] ∧ L = (⟨b3, [.int .u64 p0.Seed, .int .u8 p0.Player, .int .u8 p0.Window, .int .u8 p0.Sure, .int .u8 p0.Ahead, .int .u8 p0.Told, .int .u8 p0.From, .slice p0a0 p0n0 p0c0, .slice p0a1 p0n1 p0c1], 25, (0, 0)⟩ :: (⟨zr, (.int .u8 zbg :: .int .i64 zbh :: .int .u64 zar :: .int .u64 zas :: pl14 zat [.slice zdh zcr zdi, .int .u16 zaj.1, .int .u16 zaj.2, .slice zea zdf zeb, .pointer (some ⟨zbm, 0, none⟩), .pointer (some ⟨zbn, 0, none⟩)]), 73, (0, 0)⟩ :: (⟨zbm, [.int .u64 zcm, .slice zfa zeg zfb, .int .u8 zcn], 103, (0, 0)⟩ :: (⟨zbn, ([.int .i64 zco] ++ flat cg_T_ring_place zej), 121, (0, 0)⟩ :: (⟨zcl, ([.int .u64 zbo.from_, .int .u64 zbo.count, .int .u64 zbo.most] ++ flat (e2 .u8) zbo.ring.1), 68, (0, 0)⟩ :: (zdg ++ (zdz ++ (zez ++ (zfc ++ [])))))))))) F ⟨(0 : Int), zcc, zcd, zbv, zbw, zbx, zh, zav, zj, zdn, zl, zdo, zdp, zs, zge, zcw, zcj, zcx, zcv, zdl, zcs, zdm, zdk, zdw, zcy, zdx, zdv, zcz, zdy, h, zfm, zfn, zfq, zfr, zfw, zfx, zfz, zfy, rfl, rfl⟩ (agree_cons rfl (agree_cons rfl (agree_cons rfl (agree_cons rfl (agree_cons rfl (agree_cons rfl (agree_cons rfl (agree_cons rfl agree_nil)))))))) (pSub (pH (pH (pH (pH (pH (pA (pA (pA (pA pNil)))))))))) ?_
    clear h
    rintro m50 _ _ ⟨zdc, zbg, zbh, zar, zas, zat, zf, zaj, zg, zcm, zk, zcn, zco, zq, zbo, zdh, zcr, zdi, zdg, zea, zdf, zeb, zdz, zfa, zeg, zfb, zez, zej, zfc, h, zcp, zcq, zdd, zde, zee, zef, zei, zeh, rfl, rfl⟩
    rcases m50 with _ | m50
    · rw [m_hindcastlaw28_BackfillFills_L49.eq_1] at h; cases h
    rw [m_hindcastlaw28_BackfillFills_L49.eq_2] at h
    refine wc_seq (wc_seq (wc_region (wP rfl rfl (wP (v := .bool (decide (zdc < (3 : Int)))) rfl rfl (wl_nil (wx_then (wc_cond rfl (fun hc => ?_) (fun hc => ?_))))))))
    · replace h := ct hc h
      refine wc_skip (wx_then (wc_seq (wc_block (wc_seq (wc_region ?_)))))
      iterate 2 refine wP rfl rfl ?_
      replace h := bsome h; obtain ⟨v84, x84, h⟩ := h
      refine wl_cq Tryd.call11 rfl rfl rfl (q_rd (k_rollback_Engine_C (p0 := (T_rollback_Engine.mk zbg zbh (T_api_State.mk zar zas zat zf zaj) zg)) (p0_4 := (T_queue_Queue.mk zcm zk zcn)) (p0_5 := (T_ring_Ring.mk zco zq)) zcp zcq zdd zde zee zef zei zeh x84) (pCons (sC hC) (pApp (sC (sC (sC (sC hA')))) (pApp (sC (sC (sC (sC hA')))) (pCons (sC hC) (pApp (sC (sC (sC hA'))) (pCons (sC hC) (pApp (sC (sC hA')) pNil))))))) (fun _ _ => trivial)) rfl ?_
      replace h := bsome h; obtain ⟨⟨zit, zfo⟩, x85, h⟩ := h; try dsimp only at h
      refine wl_cq Tryd.call10 rfl rfl rfl (q_pf (k_backfill_Plan_nil0 x85) (fun _ _ => trivial)) rfl ?_
      iterate 5 refine wP rfl rfl ?_
      refine wl_nil (wx_then (wc_seq (wc_seq (wc_region ?_))))
      iterate 2 refine wP rfl rfl ?_
      replace h := bsome h; obtain ⟨v90, x90, h⟩ := h
      refine wl_cq Tryd.call11 rfl rfl rfl (q_rd (k_rollback_Engine_C (p0 := (T_rollback_Engine.mk zbg zbh (T_api_State.mk zar zas zat zf zaj) zg)) (p0_4 := (T_queue_Queue.mk zcm zk zcn)) (p0_5 := (T_ring_Ring.mk zco zq)) zcp zcq zdd zde zee zef zei zeh x90) (pCons (sC hC) (pApp (sC (sC (sC (sC hA')))) (pApp (sC (sC (sC (sC hA')))) (pCons (sC hC) (pApp (sC (sC (sC hA'))) (pCons (sC hC) (pApp (sC (sC hA')) pNil))))))) (fun _ _ => trivial)) rfl ?_
      refine wP (v := .bool (zit != v90)) rfl rfl (wP rfl rfl ?_)
      replace h := bsome h; obtain ⟨v95, h, hg95⟩ := h
      refine wl_split (t := 92) rfl (fun hc => ?_) (fun hc => ?_)
      · replace h := ct hc h
        refine wl_run rfl (wP rfl rfl (wl_run rfl (wP (v := .bool (decide ((0 : Int) < zfo))) rfl rfl ?_)))
        obtain rfl := sI h
        have h := hg95; clear hg95
        refine wP (v := .bool (decide ((0 : Int) < zfo))) rfl rfl (wP rfl rfl ?_)
        replace h := bsome h; obtain ⟨v99, h, hg99⟩ := h
        refine wl_split (t := 96) rfl (fun hc => ?_) (fun hc => ?_)
        · replace h := ct hc h
          refine wl_skip rfl rfl (wl_skip rfl rfl ?_)
          obtain rfl := sI h
          have h := hg99; clear hg99
          refine wP (v := .bool true) rfl rfl (wP rfl rfl ?_)
          replace h := bsome h; obtain ⟨v110, h, hg110⟩ := h
          replace h := ct rfl h
          refine wl_skip rfl rfl (wl_skip rfl rfl (wl_skip rfl rfl (wl_skip rfl rfl (wl_skip rfl rfl (wl_skip rfl rfl (wl_skip rfl rfl (wl_skip rfl rfl (wl_skip rfl rfl ?_))))))))
          obtain rfl := sI h
          have h := hg110; clear hg110
          refine wP (v := .bool true) rfl rfl (wl_nil (wx_then ?_))
          replace h := ct rfl h
          refine wc_cond_true rfl ?_
          refine wc_seq (wc_region (wP rfl rfl (wl_nil (wx_then (wc_ret (wx_then_ret (wx_block_ret (wx_then_ret ?_))))))))
          obtain rfl := Option.some.inj h
          have h := hl50; clear hl50; try dsimp only [orE_l, orE_r] at h
          refine wx_then_ret (wx_block_ret (wx_then_ret ?_))
          obtain rfl := sI h
          exact wx_pf tt_ok (.inl rfl) Tryd.results3 (Res.tmp rfl Res.nil) rfl
        replace h := cf hc h
        refine wl_run rfl (wP rfl rfl (wl_run rfl (wP (v := .bool (decide ((32 : Int) < zfo))) rfl rfl ?_)))
        obtain rfl := sI h
        have h := hg99; clear hg99
        refine wP (v := .bool (decide ((32 : Int) < zfo))) rfl rfl (wP rfl rfl ?_)
        replace h := bsome h; obtain ⟨v110, h, hg110⟩ := h
        refine wl_split (t := 100) rfl (fun hc => ?_) (fun hc => ?_)
        · replace h := ct hc h
          refine wl_skip rfl rfl (wl_skip rfl rfl (wl_skip rfl rfl (wl_skip rfl rfl (wl_skip rfl rfl (wl_skip rfl rfl (wl_skip rfl rfl (wl_skip rfl rfl (wl_skip rfl rfl ?_))))))))
          obtain rfl := sI h
          have h := hg110; clear hg110
          refine wP (v := .bool true) rfl rfl (wl_nil (wx_then ?_))
          replace h := ct rfl h
          refine wc_cond_true rfl ?_
          refine wc_seq (wc_region (wP rfl rfl (wl_nil (wx_then (wc_ret (wx_then_ret (wx_block_ret (wx_then_ret ?_))))))))
          obtain rfl := Option.some.inj h
          have h := hl50; clear hl50; try dsimp only [orE_l, orE_r] at h
          refine wx_then_ret (wx_block_ret (wx_then_ret ?_))
          obtain rfl := sI h
          exact wx_pf tt_ok (.inl rfl) Tryd.results3 (Res.tmp rfl Res.nil) rfl
        replace h := cf hc h
        refine wl_run rfl (wP rfl rfl (wl_run rfl (wP (v := .int .u64 (IntKind.wrap .u64 zfo)) rfl rfl (wl_run rfl (wP rfl rfl (wl_run rfl (wP (v := .int .u64 (IntKind.wrap .u64 (IntKind.wrap .i64 ((IntKind.wrap .i64 (Int.tmod p0.Sure 60)) + v64)))) rfl rfl (wl_run rfl (wP rfl rfl ?_)))))))))
        replace h := bsome h; obtain ⟨v106, x106, h⟩ := h
        refine wl_run rfl (wl_cq Tryd.call11 rfl rfl rfl (q_rd (k_rollback_Engine_C (p0 := (T_rollback_Engine.mk zbg zbh (T_api_State.mk zar zas zat zf zaj) zg)) (p0_4 := (T_queue_Queue.mk zcm zk zcn)) (p0_5 := (T_ring_Ring.mk zco zq)) zcp zcq zdd zde zee zef zei zeh x106) (pCons (sC hC) (pApp (sC (sC (sC (sC hA')))) (pApp (sC (sC (sC (sC hA')))) (pCons (sC hC) (pApp (sC (sC (sC hA'))) (pCons (sC hC) (pApp (sC (sC hA')) pNil))))))) (fun _ _ => trivial)) rfl ?_)
        refine wl_run rfl (wP (v := .int .u64 (IntKind.wrap .u64 ((IntKind.wrap .u64 (IntKind.wrap .i64 ((IntKind.wrap .i64 (Int.tmod p0.Sure 60)) + v64))) - v106))) rfl rfl (wl_run rfl (wP (v := .int .u64 (min (32 : Int) (IntKind.wrap .u64 ((IntKind.wrap .u64 (IntKind.wrap .i64 ((IntKind.wrap .i64 (Int.tmod p0.Sure 60)) + v64))) - v106)))) rfl rfl (wl_run rfl (wP (v := .bool ((IntKind.wrap .u64 zfo) != (min (32 : Int) (IntKind.wrap .u64 ((IntKind.wrap .u64 (IntKind.wrap .i64 ((IntKind.wrap .i64 (Int.tmod p0.Sure 60)) + v64))) - v106))))) rfl rfl ?_)))))
        obtain rfl := sI h
        have h := hg110; clear hg110
        refine wP (v := .bool ((IntKind.wrap .u64 zfo) != (min (32 : Int) (IntKind.wrap .u64 ((IntKind.wrap .u64 (IntKind.wrap .i64 ((IntKind.wrap .i64 (Int.tmod p0.Sure 60)) + v64))) - v106))))) rfl rfl (wl_nil (wx_then (wc_cond rfl (fun hc => ?_) (fun hc => ?_))))
        · replace h := ct hc h
          refine wc_seq (wc_region (wP rfl rfl (wl_nil (wx_then (wc_ret (wx_then_ret (wx_block_ret (wx_then_ret ?_))))))))
          obtain rfl := Option.some.inj h
          have h := hl50; clear hl50; try dsimp only [orE_l, orE_r] at h
          refine wx_then_ret (wx_block_ret (wx_then_ret ?_))
          obtain rfl := sI h
          exact wx_pf tt_ok (.inl rfl) Tryd.results3 (Res.tmp rfl Res.nil) rfl
        replace h := cf hc h
        refine wc_skip (wx_then (wc_seq (wc_region ?_)))
        iterate 3 refine wP rfl rfl ?_
        replace h := bsome h; obtain ⟨v114, x114, h⟩ := h
        refine wl_cs Tryd.call12 rfl rfl rfl (s_sp (k_fold_History_Slice_nil0 x114) pNil (fun _ _ => trivial)) rfl ?_
        rintro _ _ ⟨_, ⟨v114a0, v114n0, v114c0, v114B0, v114N0, v114V0, rfl, rfl⟩, rfl⟩
        refine wP rfl rfl (wl_nil (wx_then (wc_seq (wc_seq (wc_region (wP rfl rfl (wl_nil (wx_then (wc_block ?_)))))))))
        replace h := bsome h; obtain ⟨o75, h, hl75⟩ := h
        refine wc_loop (fun m E L => ∃ (zfs : Int) (zby : Int) (ze : (List Int)) (zbz : Int) (zca : Int) (zm : (Arr T_ring_place 14)) (zcf : Option Addr) (zbp : Nat) (zcg : Nat) (zce : List Blk) (zbq : List (T_ring_place × G)) (zch : List Blk), m_hindcastlaw28_BackfillFills_L74 F p0 zdc zbg zbh zar zas zat zf zaj zg zbo zit zfo v114 m zfs zby ze zbz zca zm = some o75 ∧ zbp = ze.length ∧ Own 34 1 zcf zbp zcg (flat (e1 .u8) ze) zce ∧ zm.1 = unG zbq ∧ AllP sh_T_ring_place c_T_api_Shot zch zbq ∧ E = [(2, .bool p2), (3, .pointer (some ⟨b3, 0, none⟩)), (6, .bool false), (9, .pointer (some ⟨zr, 0, none⟩)), (10, .pointer (some ⟨zcl, 0, none⟩)), (11, .int .i64 (IntKind.wrap .i64 ((IntKind.wrap .i64 (Int.tmod p0.Sure 60)) + v64))), (12, .pointer none), (14, .int .i64 zdc), (15, .int .u64 zit), (16, .int .i64 zfo), (17, .slice v114a0 v114n0 v114c0), (18, .int .i64 zfs)] ∧ L = (⟨b3, [.int .u64 p0.Seed, .int .u8 p0.Player, .int .u8 p0.Window, .int .u8 p0.Sure, .int .u8 p0.Ahead, .int .u8 p0.Told, .int .u8 p0.From, .slice p0a0 p0n0 p0c0, .slice p0a1 p0n1 p0c1], 25, (0, 0)⟩ :: (⟨zr, (.int .u8 zbg :: .int .i64 zbh :: .int .u64 zar :: .int .u64 zas :: pl14 zat [.slice zdh zcr zdi, .int .u16 zaj.1, .int .u16 zaj.2, .slice zea zdf zeb, .pointer (some ⟨zbm, 0, none⟩), .pointer (some ⟨zbn, 0, none⟩)]), 73, (0, 0)⟩ :: (⟨zbm, [.int .u64 zby, .slice zcf zbp zcg, .int .u8 zbz], 103, (0, 0)⟩ :: (⟨zbn, ([.int .i64 zca] ++ flat cg_T_ring_place zbq), 121, (0, 0)⟩ :: (⟨zcl, ([.int .u64 zbo.from_, .int .u64 zbo.count, .int .u64 zbo.most] ++ flat (e2 .u8) zbo.ring.1), 68, (0, 0)⟩ :: (zdg ++ (zdz ++ (zce ++ (zch ++ (v114B0 ++ []))))))))))) F ⟨(0 : Int), zcm, zk, zcn, zco, zq, zfa, zeg, zfb, zez, zej, zfc, h, zee, zef, zei, zeh, rfl, rfl⟩ (agree_cons rfl (agree_cons rfl (agree_cons rfl (agree_cons rfl (agree_cons rfl (agree_cons rfl (agree_cons rfl (agree_cons rfl (agree_cons rfl (agree_cons rfl (agree_cons rfl (agree_cons rfl agree_nil)))))))))))) (pSub (pCons (sA hC) (pCons (sA hC) (pCons (sA hC) (pCons (sA hC) (pCons (sA hC) (pApp (sA hA') (pApp (sA hA') (pApp (sA hA') (pApp (sA hA') (pA pNil))))))))))) ?_
        clear h
        rintro m75 _ _ ⟨zfs, zby, ze, zbz, zca, zm, zcf, zbp, zcg, zce, zbq, zch, h, zfd, zfe, zfg, zff, rfl, rfl⟩
        rcases m75 with _ | m75
        · rw [m_hindcastlaw28_BackfillFills_L74.eq_1] at h; cases h
        rw [m_hindcastlaw28_BackfillFills_L74.eq_2] at h
        refine wc_seq (wc_seq (wc_region ?_))
        iterate 2 refine wP rfl rfl ?_
        refine wP (v := .int .i64 (IntKind.wrap .i64 ((1 : Int) + zdc))) rfl rfl (wP (v := .bool (decide (zfs < (IntKind.wrap .i64 ((1 : Int) + zdc))))) rfl rfl (wl_nil (wx_then (wc_cond rfl (fun hc => ?_) (fun hc => ?_)))))
        · replace h := ct hc h
          refine wc_skip (wx_then (wc_seq (wc_block (wc_seq (wc_region ?_)))))
          iterate 2 refine wP rfl rfl ?_
          refine wP (v := .pointer (some ⟨b3, 1, none⟩)) rfl rfl (wl_val (v := .int .u8 p0.Player) (val_load tt_ok rfl (mH) rfl) rfl (wP (v := .int .u8 (Int.tmod p0.Player 2)) rfl rfl ?_))
          iterate 2 refine wP rfl rfl ?_
          replace h := bsome h; obtain ⟨⟨zck, zeo, ziv, zhv⟩, x129, h⟩ := h; try dsimp only at h
          refine wl_cs Tryd.call13 rfl rfl rfl (s_sp (k_backfill_Pairs (p0 := (T_rollback_Engine.mk zbg zbh (T_api_State.mk zar zas zat zf zaj) zg)) (p0_4 := (T_queue_Queue.mk zby ze zbz)) (p0_5 := (T_ring_Ring.mk zca zm)) (p4 := v114) zcp zcq zdd zde zfd zfe zfg zff v114N0 (vec_cap v114V0) x129) (pCons (sC hC) (pApp (sC (sC (sC (sC hA')))) (pApp (sC (sC (sC (sC hA')))) (pCons (sC hC) (pApp (sC (sC (sC hA'))) (pCons (sC hC) (pApp (sC (sC hA')) (pCons (sC hC) pNil)))))))) (Rds.call (Rds.of_vec v114V0) (pCons (sC hC) (pApp (sC (sC (sC (sC hA')))) (pApp (sC (sC (sC (sC hA')))) (pCons (sC hC) (pApp (sC (sC (sC hA'))) (pCons (sC hC) (pApp (sC (sC hA')) (pCons (sC hC) pNil)))))))) ⟨_, (sC hA')⟩)) rfl ?_
          rintro _ _ ⟨_, ⟨zie, zig, zif, zib, zik, zij, zic, zid, zii, zih, rfl, rfl⟩, rfl⟩
          iterate 5 refine wP rfl rfl ?_
          refine wl_nil (wx_then (wc_seq (wc_region ?_)))
          iterate 2 refine wP rfl rfl ?_
          refine wP (v := .bool (ziv != zfo)) rfl rfl (wP rfl rfl ?_)
          replace h := bsome h; obtain ⟨v138, h, hg138⟩ := h
          refine wl_split (t := 135) rfl (fun hc => ?_) (fun hc => ?_)
          · replace h := ct hc h
            refine wl_skip rfl rfl (wl_skip rfl rfl ?_)
            obtain rfl := sI h
            have h := hg138; clear hg138
            refine wP (v := .bool true) rfl rfl (wl_nil (wx_then ?_))
            replace h := ct rfl h
            refine wc_cond_true rfl ?_
            refine wc_seq (wc_region (wP rfl rfl (wl_nil (wx_then (wc_ret (wx_block_ret (wx_then_ret ?_)))))))
            obtain rfl := Option.some.inj h
            have h := hl75; clear hl75; try dsimp only [orE_l, orE_r] at h
            refine wx_then_ret (wx_block_ret (wx_then_ret (wx_block_ret (wx_then_ret ?_))))
            obtain rfl := Option.some.inj h
            have h := hl50; clear hl50; try dsimp only [orE_l, orE_r] at h
            refine wx_then_ret (wx_block_ret (wx_then_ret ?_))
            obtain rfl := sI h
            exact wx_pf tt_ok (.inl rfl) Tryd.results3 (Res.tmp rfl Res.nil) rfl
          replace h := cf hc h
          refine wl_run rfl (wP rfl rfl (wl_run rfl (wP (v := .bool (zhv != (0 : Int))) rfl rfl ?_)))
          obtain rfl := sI h
          have h := hg138; clear hg138
          refine wP (v := .bool (zhv != (0 : Int))) rfl rfl (wl_nil (wx_then (wc_cond rfl (fun hc => ?_) (fun hc => ?_))))
          · replace h := ct hc h
            refine wc_seq (wc_region (wP rfl rfl (wl_nil (wx_then (wc_ret (wx_block_ret (wx_then_ret ?_)))))))
            obtain rfl := Option.some.inj h
            have h := hl75; clear hl75; try dsimp only [orE_l, orE_r] at h
            refine wx_then_ret (wx_block_ret (wx_then_ret (wx_block_ret (wx_then_ret ?_))))
            obtain rfl := Option.some.inj h
            have h := hl50; clear hl50; try dsimp only [orE_l, orE_r] at h
            refine wx_then_ret (wx_block_ret (wx_then_ret ?_))
            obtain rfl := sI h
            exact wx_pf tt_ok (.inl rfl) Tryd.results3 (Res.tmp rfl Res.nil) rfl
          replace h := cf hc h
          refine wc_skip (wx_block (wx_then (wc_region (wP rfl rfl (wP (v := .int .i64 (IntKind.wrap .i64 (zfs + (1 : Int)))) rfl rfl (wP rfl rfl (wl_nil ?_)))))))
          exact wx_round m75 (Nat.lt_succ_self m75) ⟨(IntKind.wrap .i64 (zfs + (1 : Int))), zck.first_, zck.l, zck.last, zeo.size, zeo.places, zie, zig, zif, zib, zik, zij, h, zic, zid, zii, zih, rfl, rfl⟩ (agree_cons rfl (agree_cons rfl (agree_cons rfl (agree_cons rfl (agree_cons rfl (agree_cons rfl (agree_cons rfl (agree_cons rfl (agree_cons rfl (agree_cons rfl (agree_cons rfl (agree_cons rfl agree_nil)))))))))))) (pSub (pCons (sC (sA (sA (sC (sA (sC (sA (sC hC)))))))) (pH (pCons (sA (sA hC)) (pCons (sA (sA (sA hC))) (pCons (sA (sA (sA (sA hC)))) (pA (pA (pA (pA (pA pNil)))))))))))
        replace h := cf hc h
        refine wc_exit (wx_then_exit ?_)
        obtain rfl := Option.some.inj h
        have h := hl75; clear hl75; try dsimp only [orE_l, orE_r] at h
        refine wx_then_exit (wx_block_exit (wx_then (wc_seq (wc_seq (wc_region ?_)))))
        refine wP rfl rfl (wl_nil (wx_then (wc_block ?_)))
        replace h := bsome h; obtain ⟨o98, h, hl98⟩ := h
        refine wc_loop (fun m E L => ∃ (zft : Int) (zab : Int) (zac : Int) (zy : Int) (zz : Int) (zaa : (T_api_Player × T_api_Player)) (zb : (List T_api_Shot)) (zu : (Int × Int)) (zc : (List Int)) (zv : Int) (za : (List Int)) (zw : Int) (zx : Int) (zd : (Arr T_ring_place 14)) (zbf : T_fold_History) (zbc : Option Addr) (zao : Nat) (zbd : Nat) (zbb : List Blk) (zbk : Option Addr) (zau : Nat) (zbl : Nat) (zbj : List Blk) (zay : Option Addr) (zam : Nat) (zaz : Nat) (zax : List Blk) (zan : List (T_ring_place × G)) (zba : List Blk), m_hindcastlaw28_BackfillFills_L97 F p0 p2 v64 false m zft zab zac zy zz zaa zb zu zc zv za zw zx zd zbf = some o98 ∧ zao = zb.length ∧ Own 92 6 zbc zao zbd (flat c_T_api_Shot zb) zbb ∧ zau = zc.length ∧ Own 34 1 zbk zau zbl (flat (e1 .u8) zc) zbj ∧ zam = za.length ∧ Own 34 1 zay zam zaz (flat (e1 .u8) za) zax ∧ zd.1 = unG zan ∧ AllP sh_T_ring_place c_T_api_Shot zba zan ∧ E = [(2, .bool p2), (3, .pointer (some ⟨b3, 0, none⟩)), (6, .bool false), (9, .pointer (some ⟨zr, 0, none⟩)), (10, .pointer (some ⟨zcl, 0, none⟩)), (11, .int .i64 (IntKind.wrap .i64 ((IntKind.wrap .i64 (Int.tmod p0.Sure 60)) + v64))), (12, .pointer none), (14, .int .i64 zdc), (21, .int .i64 zft)] ∧ L = (⟨b3, [.int .u64 p0.Seed, .int .u8 p0.Player, .int .u8 p0.Window, .int .u8 p0.Sure, .int .u8 p0.Ahead, .int .u8 p0.Told, .int .u8 p0.From, .slice p0a0 p0n0 p0c0, .slice p0a1 p0n1 p0c1], 25, (0, 0)⟩ :: (⟨zr, (.int .u8 zab :: .int .i64 zac :: .int .u64 zy :: .int .u64 zz :: pl14 zaa [.slice zbc zao zbd, .int .u16 zu.1, .int .u16 zu.2, .slice zbk zau zbl, .pointer (some ⟨zbm, 0, none⟩), .pointer (some ⟨zbn, 0, none⟩)]), 73, (0, 0)⟩ :: (⟨zbm, [.int .u64 zv, .slice zay zam zaz, .int .u8 zw], 103, (0, 0)⟩ :: (⟨zbn, ([.int .i64 zx] ++ flat cg_T_ring_place zan), 121, (0, 0)⟩ :: (⟨zcl, ([.int .u64 zbf.from_, .int .u64 zbf.count, .int .u64 zbf.most] ++ flat (e2 .u8) zbf.ring.1), 68, (0, 0)⟩ :: (zbb ++ (zbj ++ (zax ++ (zba ++ [])))))))))) F ⟨(0 : Int), zbg, zbh, zar, zas, zat, zf, zaj, zg, zby, ze, zbz, zca, zm, zbo, zdh, zcr, zdi, zdg, zea, zdf, zeb, zdz, zcf, zbp, zcg, zce, zbq, zch, h, zcp, zcq, zdd, zde, zfd, zfe, zfg, zff, rfl, rfl⟩ (agree_cons rfl (agree_cons rfl (agree_cons rfl (agree_cons rfl (agree_cons rfl (agree_cons rfl (agree_cons rfl (agree_cons rfl (agree_cons rfl agree_nil))))))))) (pSub (pH (pH (pH (pH (pH (pA (pA (pA (pA pNil)))))))))) ?_
        clear h
        rintro m98 _ _ ⟨zft, zab, zac, zy, zz, zaa, zb, zu, zc, zv, za, zw, zx, zd, zbf, zbc, zao, zbd, zbb, zbk, zau, zbl, zbj, zay, zam, zaz, zax, zan, zba, h, zah, zai, zak, zal, zad, zae, zag, zaf, rfl, rfl⟩
        rcases m98 with _ | m98
        · rw [m_hindcastlaw28_BackfillFills_L97.eq_1] at h; cases h
        rw [m_hindcastlaw28_BackfillFills_L97.eq_2] at h
        refine wc_seq (wc_seq (wc_region (wP rfl rfl (wP (v := .bool (decide (zft < (20 : Int)))) rfl rfl (wP rfl rfl ?_)))))
        replace h := bsome h; obtain ⟨v147, h, hg147⟩ := h
        refine wl_split (t := 141) rfl (fun hc => ?_) (fun hc => ?_)
        · replace h := ct hc h
          refine wl_run rfl (wP rfl rfl ?_)
          replace h := bsome h; obtain ⟨v143, x143, h⟩ := h
          refine wl_run rfl (wl_cq Tryd.call11 rfl rfl rfl (q_rd (k_rollback_Engine_C (p0 := (T_rollback_Engine.mk zab zac (T_api_State.mk zy zz zaa zb zu) zc)) (p0_4 := (T_queue_Queue.mk zv za zw)) (p0_5 := (T_ring_Ring.mk zx zd)) zah zai zak zal zad zae zag zaf x143) (pCons (sC hC) (pApp (sC (sC (sC (sC hA')))) (pApp (sC (sC (sC (sC hA')))) (pCons (sC hC) (pApp (sC (sC (sC hA'))) (pCons (sC hC) (pApp (sC (sC hA')) pNil))))))) (fun _ _ => trivial)) rfl ?_)
          refine wl_run rfl (wP rfl rfl (wl_run rfl (wP (v := .int .u64 (IntKind.wrap .u64 (IntKind.wrap .i64 ((IntKind.wrap .i64 (Int.tmod p0.Sure 60)) + v64)))) rfl rfl (wl_run rfl (wP (v := .bool (decide (v143 < (IntKind.wrap .u64 (IntKind.wrap .i64 ((IntKind.wrap .i64 (Int.tmod p0.Sure 60)) + v64)))))) rfl rfl ?_)))))
          obtain rfl := sI h
          have h := hg147; clear hg147
          refine wP (v := .bool (decide (v143 < (IntKind.wrap .u64 (IntKind.wrap .i64 ((IntKind.wrap .i64 (Int.tmod p0.Sure 60)) + v64)))))) rfl rfl (wP rfl rfl ?_)
          replace h := bsome h; obtain ⟨v150, h, hg150⟩ := h
          refine wl_split (t := 148) rfl (fun hc => ?_) (fun hc => ?_)
          · replace h := ct hc h
            refine wl_run rfl (wP rfl rfl ?_)
            obtain rfl := sI h
            have h := hg150; clear hg150
            refine wP (v := .bool p2) rfl rfl (wl_nil (wx_then (wc_cond rfl (fun hc => ?_) (fun hc => ?_))))
            · replace h := ct hc h
              refine wc_skip (wx_then (wc_seq (wc_block (wc_seq (wc_region ?_)))))
              iterate 2 refine wP rfl rfl ?_
              refine wP (v := .int .u64 (IntKind.wrap .u64 (IntKind.wrap .i64 ((IntKind.wrap .i64 (Int.tmod p0.Sure 60)) + v64)))) rfl rfl ?_
              replace h := bsome h; obtain ⟨⟨zt, zbe, zda, zep, ziw⟩, x157, h⟩ := h; try dsimp only at h
              refine wl_cs Tryd.call14 rfl rfl rfl (s_sp (k_rollback_Engine_Confirm (p0 := (T_rollback_Engine.mk zab zac (T_api_State.mk zy zz zaa zb zu) zc)) (p0_4 := (T_queue_Queue.mk zv za zw)) (p0_5 := (T_ring_Ring.mk zx zd)) zah zai zak zal zad zae zag zaf x157) (pCons (sC hC) (pApp (sC (sC (sC (sC hA')))) (pApp (sC (sC (sC (sC hA')))) (pCons (sC hC) (pApp (sC (sC (sC hA'))) (pCons (sC hC) (pApp (sC (sC hA')) pNil))))))) (fun w hI => ⟨(Rds.call G0S (pCons (sC hC) (pApp (sC (sC (sC (sC hA')))) (pApp (sC (sC (sC (sC hA')))) (pCons (sC hC) (pApp (sC (sC (sC hA'))) (pCons (sC hC) (pApp (sC (sC hA')) pNil))))))) rsub_nil) w hI, (Rds.call G1S (pCons (sC hC) (pApp (sC (sC (sC (sC hA')))) (pApp (sC (sC (sC (sC hA')))) (pCons (sC hC) (pApp (sC (sC (sC hA'))) (pCons (sC hC) (pApp (sC (sC hA')) pNil))))))) rsub_nil) w hI⟩)) rfl ?_
              rintro _ _ ⟨_, ⟨zgh, zgl, zgj, zgf, zgi, zgm, zgk, zgg, zgo, zgq, zgp, zgn, zgs, zgr, zil, zin, zim, zio, zip, ziq, zis, zir, rfl, rfl⟩, rfl⟩
              iterate 3 refine wP rfl rfl ?_
              refine wl_alloc tt_ok rfl rfl (fun b22 => ?_)
              apply wl_store tt_ok; rfl; exact Upd.here; rfl; rfl; rfl; rfl; rfl; rfl
              refine wP rfl rfl (wl_nil (wx_then (wc_seq (wc_k2 (Ls := (⟨b22, [.int .u8 zep.1, .int .u8 zep.2], 36, (0, 0)⟩ :: (⟨zr, (.int .u8 zt.player :: .int .i64 zt.window :: st19 zt.sure zgh zgl zgj [.slice zgi zgm zgk, .pointer (some ⟨zbm, 0, none⟩), .pointer (some ⟨zbn, 0, none⟩)]), 73, (0, 0)⟩ :: (zgf ++ (zgg ++ (⟨zbm, [.int .u64 zbe.first_, .slice zgo zgq zgp, .int .u8 zbe.last], 103, (0, 0)⟩ :: (zgn ++ (⟨zbn, ([.int .i64 zda.size] ++ flat cg_T_ring_place zgs), 121, (0, 0)⟩ :: (zgr ++ (⟨b3, [.int .u64 p0.Seed, .int .u8 p0.Player, .int .u8 p0.Window, .int .u8 p0.Sure, .int .u8 p0.Ahead, .int .u8 p0.Told, .int .u8 p0.From, .slice p0a0 p0n0 p0c0, .slice p0a1 p0n1 p0c1], 25, (0, 0)⟩ :: [])))))))))) [6, 8, 14] [] [0, 1, 3, 7, 7, 7, 39, 103, 247, 511, 1023, 2047, 4095, 4095, 16383, 32767, 65535] [0, 1, 2, 3, 4, 5, 6, 7, 8, 9, 10, 11, 12, 13, 14, 15, 16] (by kernel_rfl) (by kernel_rfl) (by kernel_rfl) ?_))))
              refine k_val rfl rfl rfl (pSub (pH (pH (pA (pA (pH (pA (pH (pA (pH pNil)))))))))) (stepV_ok tt_ok rfl) rfl ?_
              refine k_val (v := .bool (!ziw)) rfl rfl rfl (pSub (pH (pH (pA (pA (pH (pA (pH (pA (pH pNil)))))))))) (stepV_ok tt_ok rfl) rfl ?_
              refine k_val rfl rfl rfl (pSub (pH (pH (pA (pA (pH (pA (pH (pA (pH pNil)))))))))) (stepV_ok tt_ok rfl) rfl ?_
              replace h := bsome h; obtain ⟨v170, h, hg170⟩ := h
              refine k_split (t := 162) rfl (fun hc => ?_) (fun hc => ?_)
              · replace h := ct hc h
                refine k_skip rfl rfl (pSub (pH (pH (pA (pA (pH (pA (pH (pA (pH pNil)))))))))) rfl ?_
                refine k_skip rfl rfl (pSub (pH (pH (pA (pA (pH (pA (pH (pA (pH pNil)))))))))) rfl ?_
                refine k_skip rfl rfl (pSub (pH (pH (pA (pA (pH (pA (pH (pA (pH pNil)))))))))) rfl ?_
                refine k_skip rfl rfl (pSub (pH (pH (pA (pA (pH (pA (pH (pA (pH pNil)))))))))) rfl ?_
                refine k_skip rfl rfl (pSub (pH (pH (pA (pA (pH (pA (pH (pA (pH pNil)))))))))) rfl ?_
                refine k_skip rfl rfl (pSub (pH (pH (pA (pA (pH (pA (pH (pA (pH pNil)))))))))) rfl ?_
                refine k_skip rfl rfl (pSub (pH (pH (pA (pA (pH (pA (pH (pA (pH pNil)))))))))) rfl ?_
                obtain rfl := sI h
                have h := hg170; clear hg170
                refine k_val (v := .bool true) rfl rfl rfl (pSub (pH (pH (pA (pA (pH (pA (pH (pA (pH pNil)))))))))) (stepV_ok tt_ok rfl) rfl ?_
                refine k_val rfl rfl rfl (pSub (pH (pH (pA (pA (pH (pA (pH (pA (pH pNil)))))))))) (stepV_ok tt_ok rfl) rfl ?_
                replace h := bsome h; obtain ⟨⟨v176, zgd⟩, h, hg176⟩ := h
                replace h := ct rfl h
                refine k_skip rfl rfl (pSub (pH (pH (pA (pA (pH (pA (pH (pA (pH pNil)))))))))) rfl ?_
                refine k_skip rfl rfl (pSub (pH (pH (pA (pA (pH (pA (pH (pA (pH pNil)))))))))) rfl ?_
                refine k_skip rfl rfl (pSub (pH (pH (pA (pA (pH (pA (pH (pA (pH pNil)))))))))) rfl ?_
                refine k_skip rfl rfl (pSub (pH (pH (pA (pA (pH (pA (pH (pA (pH pNil)))))))))) rfl ?_
                simp only [Option.some.injEq, Prod.mk.injEq] at h
                obtain ⟨rfl, rfl⟩ := h
                have h := hg176; clear hg176; try dsimp only at h
                refine k_val (v := .bool true) rfl rfl rfl (pSub (pH (pH (pA (pA (pH (pA (pH (pA (pH pNil)))))))))) (stepV_ok tt_ok rfl) rfl ?_
                refine k_end (by kernel_rfl) ?_
                refine wx_then ?_
                replace h := ct rfl h
                refine wc_cond_true rfl ?_
                refine wc_seq (wc_region (wP rfl rfl (wl_nil (wx_then (wc_ret (wx_block_ret (wx_then_ret ?_)))))))
                obtain rfl := Option.some.inj h
                have h := hl98; clear hl98; try dsimp only [orE_l, orE_r] at h
                refine wx_then_ret (wx_block_ret (wx_then_ret (wx_block_ret (wx_then_ret ?_))))
                obtain rfl := Option.some.inj h
                have h := hl50; clear hl50; try dsimp only [orE_l, orE_r] at h
                refine wx_then_ret (wx_block_ret (wx_then_ret ?_))
                obtain rfl := sI h
                exact wx_pf tt_ok (.inl rfl) Tryd.results3 (Res.tmp rfl Res.nil) rfl
              replace h := cf hc h
              refine k_val (v := .agg #[.int .u8 zep.1, .int .u8 zep.2]) rfl rfl rfl (pSub (pH (pH (pA (pA (pH (pA (pH (pA (pH pNil)))))))))) (val_load tt_ok rfl (mH) rfl) rfl ?_
              refine k_val (v := .agg #[.int .u64 p0.Seed, .int .u8 p0.Player, .int .u8 p0.Window, .int .u8 p0.Sure, .int .u8 p0.Ahead, .int .u8 p0.Told, .int .u8 p0.From, .slice p0a0 p0n0 p0c0, .slice p0a1 p0n1 p0c1]) rfl rfl rfl (pSub (pH (pH (pA (pA (pH (pA (pH (pA (pH pNil)))))))))) (val_load tt_ok rfl (mT (mT (mR (mR (mT (mR (mT (mR (mH))))))))) rfl) rfl ?_
              refine k_val rfl rfl rfl (pSub (pH (pH (pA (pA (pH (pA (pH (pA (pH pNil)))))))))) (stepV_ok tt_ok rfl) rfl ?_
              replace h := bsome h; obtain ⟨v166, x166, h⟩ := h
              refine k_cq rfl rfl rfl Tryd.call15 rfl rfl rfl (q_rd (k_fold_History_Count x166) (pCons (sC (sC (sA (sA (sC (sA (sC (sA (sC hC))))))))) pNil) (fun _ _ => trivial)) rfl (pSub (pH (pH (pA (pA (pH (pA (pH (pA (pH pNil)))))))))) ?_
              refine k_val (v := .int .i64 (IntKind.wrap .i64 v166)) rfl rfl rfl (pSub (pH (pH (pA (pA (pH (pA (pH (pA (pH pNil)))))))))) (stepV_ok tt_ok rfl) rfl ?_
              replace h := bsome h; obtain ⟨v168, x168, h⟩ := h
              refine k_cq rfl rfl rfl Tryd.call9 rfl rfl rfl (q_pf (k_hindcastlaw28_Setup_pair (p0 := p0) p0N0 p0H0 p0N1 p0H1 x168) (fun w hI => ⟨(Rds.call p0S0 pNil rsub_nil) w hI, (Rds.call p0S1 pNil rsub_nil) w hI⟩)) rfl (pSub (pH (pH (pA (pA (pH (pA (pH (pA (pH pNil)))))))))) ?_
              refine k_val (v := .bool (!((zep.1 == v168.1) && (zep.2 == v168.2)))) rfl rfl rfl (pSub (pH (pH (pA (pA (pH (pA (pH (pA (pH pNil)))))))))) (val_nes tt_ok tt_eq tt_one Tryd.eqGuardType36 rfl rfl rfl rfl rfl) rfl ?_
              obtain rfl := sI h
              have h := hg170; clear hg170
              refine k_val (v := .bool (!((zep.1 == v168.1) && (zep.2 == v168.2)))) rfl rfl rfl (pSub (pH (pH (pA (pA (pH (pA (pH (pA (pH pNil)))))))))) (stepV_ok tt_ok rfl) rfl ?_
              refine k_val rfl rfl rfl (pSub (pH (pH (pA (pA (pH (pA (pH (pA (pH pNil)))))))))) (stepV_ok tt_ok rfl) rfl ?_
              replace h := bsome h; obtain ⟨⟨v176, zgd⟩, h, hg176⟩ := h
              refine k_split (t := 171) rfl (fun hc => ?_) (fun hc => ?_)
              · replace h := ct hc h
                refine k_skip rfl rfl (pSub (pH (pH (pA (pA (pH (pA (pH (pA (pH pNil)))))))))) rfl ?_
                refine k_skip rfl rfl (pSub (pH (pH (pA (pA (pH (pA (pH (pA (pH pNil)))))))))) rfl ?_
                refine k_skip rfl rfl (pSub (pH (pH (pA (pA (pH (pA (pH (pA (pH pNil)))))))))) rfl ?_
                refine k_skip rfl rfl (pSub (pH (pH (pA (pA (pH (pA (pH (pA (pH pNil)))))))))) rfl ?_
                simp only [Option.some.injEq, Prod.mk.injEq] at h
                obtain ⟨rfl, rfl⟩ := h
                have h := hg176; clear hg176; try dsimp only at h
                refine k_val (v := .bool true) rfl rfl rfl (pSub (pH (pH (pA (pA (pH (pA (pH (pA (pH pNil)))))))))) (stepV_ok tt_ok rfl) rfl ?_
                refine k_end (by kernel_rfl) ?_
                refine wx_then ?_
                replace h := ct rfl h
                refine wc_cond_true rfl ?_
                refine wc_seq (wc_region (wP rfl rfl (wl_nil (wx_then (wc_ret (wx_block_ret (wx_then_ret ?_)))))))
                obtain rfl := Option.some.inj h
                have h := hl98; clear hl98; try dsimp only [orE_l, orE_r] at h
                refine wx_then_ret (wx_block_ret (wx_then_ret (wx_block_ret (wx_then_ret ?_))))
                obtain rfl := Option.some.inj h
                have h := hl50; clear hl50; try dsimp only [orE_l, orE_r] at h
                refine wx_then_ret (wx_block_ret (wx_then_ret ?_))
                obtain rfl := sI h
                exact wx_pf tt_ok (.inl rfl) Tryd.results3 (Res.tmp rfl Res.nil) rfl
              replace h := cf hc h
              refine k_val rfl rfl rfl (pSub (pH (pH (pA (pA (pH (pA (pH (pA (pH pNil)))))))))) (stepV_ok tt_ok rfl) rfl ?_
              refine k_val (v := .agg #[.int .u8 zep.1, .int .u8 zep.2]) rfl rfl rfl (pSub (pH (pH (pA (pA (pH (pA (pH (pA (pH pNil)))))))))) (val_load tt_ok rfl (mH) rfl) rfl ?_
              replace h := bsome h; obtain ⟨⟨ziu, v174⟩, x174, h⟩ := h; try dsimp only at h
              refine k_cs rfl rfl rfl Tryd.call8 rfl rfl rfl (s_sp (k_fold_History_Add x174) (pCons (sC (sC (sA (sA (sC (sA (sC (sA (sC hC))))))))) pNil) (fun _ _ => trivial)) rfl (.inr (by rintro _ _ ⟨_, ⟨rfl, rfl⟩, rfl⟩; exact ⟨_, (pCons (sC hC) (pCons (sC hC) (pApp (sC hA') (pApp (sC hA') (pCons (sC hC) (pApp (sC hA') (pCons (sC hC) (pApp (sC hA') (pCons (sC hC) pNil)))))))))⟩)) ?_
              rintro _ _ ⟨_, ⟨rfl, rfl⟩, rfl⟩
              refine k_val (v := .bool (v174 != (0 : Int))) rfl rfl rfl (pSub (pCons (sC hC) (pCons (sC hC) (pApp (sC hA') (pApp (sC hA') (pCons (sC hC) (pApp (sC hA') (pCons (sC hC) (pApp (sC hA') (pCons (sC hC) pNil)))))))))) (stepV_ok tt_ok rfl) rfl ?_
              simp only [Option.some.injEq, Prod.mk.injEq] at h
              obtain ⟨rfl, rfl⟩ := h
              have h := hg176; clear hg176; try dsimp only at h
              refine k_val (v := .bool (v174 != (0 : Int))) rfl rfl rfl (pSub (pCons (sC hC) (pCons (sC hC) (pApp (sC hA') (pApp (sC hA') (pCons (sC hC) (pApp (sC hA') (pCons (sC hC) (pApp (sC hA') (pCons (sC hC) pNil)))))))))) (stepV_ok tt_ok rfl) rfl ?_
              refine k_end (by kernel_rfl) ?_
              refine wx_then (wc_cond rfl (fun hc => ?_) (fun hc => ?_))
              · replace h := ct hc h
                refine wc_seq (wc_region (wP rfl rfl (wl_nil (wx_then (wc_ret (wx_block_ret (wx_then_ret ?_)))))))
                obtain rfl := Option.some.inj h
                have h := hl98; clear hl98; try dsimp only [orE_l, orE_r] at h
                refine wx_then_ret (wx_block_ret (wx_then_ret (wx_block_ret (wx_then_ret ?_))))
                obtain rfl := Option.some.inj h
                have h := hl50; clear hl50; try dsimp only [orE_l, orE_r] at h
                refine wx_then_ret (wx_block_ret (wx_then_ret ?_))
                obtain rfl := sI h
                exact wx_pf tt_ok (.inl rfl) Tryd.results3 (Res.tmp rfl Res.nil) rfl
              replace h := cf hc h
              refine wc_skip (wx_block (wx_then (wc_region (wP rfl rfl (wP (v := .int .i64 (IntKind.wrap .i64 (zft + (1 : Int)))) rfl rfl (wP rfl rfl (wl_nil ?_)))))))
              exact wx_round m98 (Nat.lt_succ_self m98) ⟨(IntKind.wrap .i64 (zft + (1 : Int))), zt.player, zt.window, zt.sure.Frame, zt.sure.Seed, zt.sure.Players, zt.sure.Shots, zt.sure.Score, zt.own, zbe.first_, zbe.l, zbe.last, zda.size, zda.places, ziu, zgh, zgl, zgj, zgf, zgi, zgm, zgk, zgg, zgo, zgq, zgp, zgn, zgs, zgr, h, zil, zin, zim, zio, zip, ziq, zis, zir, rfl, rfl⟩ (agree_cons rfl (agree_cons rfl (agree_cons rfl (agree_cons rfl (agree_cons rfl (agree_cons rfl (agree_cons rfl (agree_cons rfl (agree_cons rfl agree_nil))))))))) (pSub (pCons (sC (sC (sC (sA (sA (sC (sA (sC (sA hC))))))))) (pCons (sC (sC hC)) (pCons (sC (sC (sA (sA hC)))) (pCons (sC (sC (sA (sA (sA hC))))) (pH (pApp (sC hA') (pApp (sC hA') (pApp (sC hA') (pApp (sC hA') pNil))))))))))
            replace h := cf hc h
            refine wc_exit (wx_then_exit ?_)
            obtain rfl := Option.some.inj h
            have h := hl98; clear hl98; try dsimp only [orE_l, orE_r] at h
            refine wx_then_exit (wx_block_exit (wx_then (wc_seq (wc_region ?_))))
            refine wP rfl rfl ?_
            replace h := bsome h; obtain ⟨v178, x178, h⟩ := h
            refine wl_cq Tryd.call16 rfl rfl rfl (q_rd (k_rollback_Engine_Known (p0 := (T_rollback_Engine.mk zab zac (T_api_State.mk zy zz zaa zb zu) zc)) (p0_4 := (T_queue_Queue.mk zv za zw)) (p0_5 := (T_ring_Ring.mk zx zd)) zah zai zak zal zad zae zag zaf x178) (pCons (sC hC) (pApp (sC (sC (sC (sC hA')))) (pApp (sC (sC (sC (sC hA')))) (pCons (sC hC) (pApp (sC (sC (sC hA'))) (pCons (sC hC) (pApp (sC (sC hA')) pNil))))))) (fun _ _ => trivial)) rfl ?_
            refine wP rfl rfl (wP (v := .int .u64 (IntKind.wrap .u64 (IntKind.wrap .i64 ((IntKind.wrap .i64 (Int.tmod p0.Sure 60)) + v64)))) rfl rfl (wP (v := .bool (v178 != (IntKind.wrap .u64 (IntKind.wrap .i64 ((IntKind.wrap .i64 (Int.tmod p0.Sure 60)) + v64))))) rfl rfl (wl_nil (wx_then (wc_cond rfl (fun hc => ?_) (fun hc => ?_))))))
            · replace h := ct hc h
              refine wc_seq (wc_region (wP rfl rfl (wl_nil (wx_then (wc_ret (wx_block_ret (wx_then_ret ?_)))))))
              obtain rfl := Option.some.inj h
              have h := hl50; clear hl50; try dsimp only [orE_l, orE_r] at h
              refine wx_then_ret (wx_block_ret (wx_then_ret ?_))
              obtain rfl := sI h
              exact wx_pf tt_ok (.inl rfl) Tryd.results3 (Res.tmp rfl Res.nil) rfl
            replace h := cf hc h
            refine wc_skip (wx_block (wx_then (wc_region (wP rfl rfl (wP (v := .int .i64 (IntKind.wrap .i64 (zdc + (1 : Int)))) rfl rfl (wP rfl rfl (wl_nil ?_)))))))
            exact wx_round m50 (Nat.lt_succ_self m50) ⟨(IntKind.wrap .i64 (zdc + (1 : Int))), zab, zac, zy, zz, zaa, zb, zu, zc, zv, za, zw, zx, zd, zbf, zbc, zao, zbd, zbb, zbk, zau, zbl, zbj, zay, zam, zaz, zax, zan, zba, h, zah, zai, zak, zal, zad, zae, zag, zaf, rfl, rfl⟩ (agree_cons rfl (agree_cons rfl (agree_cons rfl (agree_cons rfl (agree_cons rfl (agree_cons rfl (agree_cons rfl (agree_cons rfl agree_nil)))))))) (pSub (pH (pH (pH (pH (pH (pA (pA (pA (pA pNil))))))))))
          replace h := cf hc h
          refine wl_skip rfl rfl ?_
          obtain rfl := sI h
          have h := hg150; clear hg150
          refine wP (v := .bool false) rfl rfl (wl_nil (wx_then ?_))
          replace h := cf rfl h
          refine wc_cond_false rfl ?_
          refine wc_exit (wx_then_exit ?_)
          obtain rfl := Option.some.inj h
          have h := hl98; clear hl98; try dsimp only [orE_l, orE_r] at h
          refine wx_then_exit (wx_block_exit (wx_then (wc_seq (wc_region ?_))))
          refine wP rfl rfl ?_
          replace h := bsome h; obtain ⟨v178, x178, h⟩ := h
          refine wl_cq Tryd.call16 rfl rfl rfl (q_rd (k_rollback_Engine_Known (p0 := (T_rollback_Engine.mk zab zac (T_api_State.mk zy zz zaa zb zu) zc)) (p0_4 := (T_queue_Queue.mk zv za zw)) (p0_5 := (T_ring_Ring.mk zx zd)) zah zai zak zal zad zae zag zaf x178) (pCons (sC hC) (pApp (sC (sC (sC (sC hA')))) (pApp (sC (sC (sC (sC hA')))) (pCons (sC hC) (pApp (sC (sC (sC hA'))) (pCons (sC hC) (pApp (sC (sC hA')) pNil))))))) (fun _ _ => trivial)) rfl ?_
          refine wP rfl rfl (wP (v := .int .u64 (IntKind.wrap .u64 (IntKind.wrap .i64 ((IntKind.wrap .i64 (Int.tmod p0.Sure 60)) + v64)))) rfl rfl (wP (v := .bool (v178 != (IntKind.wrap .u64 (IntKind.wrap .i64 ((IntKind.wrap .i64 (Int.tmod p0.Sure 60)) + v64))))) rfl rfl (wl_nil (wx_then (wc_cond rfl (fun hc => ?_) (fun hc => ?_))))))
          · replace h := ct hc h
            refine wc_seq (wc_region (wP rfl rfl (wl_nil (wx_then (wc_ret (wx_block_ret (wx_then_ret ?_)))))))
            obtain rfl := Option.some.inj h
            have h := hl50; clear hl50; try dsimp only [orE_l, orE_r] at h
            refine wx_then_ret (wx_block_ret (wx_then_ret ?_))
            obtain rfl := sI h
            exact wx_pf tt_ok (.inl rfl) Tryd.results3 (Res.tmp rfl Res.nil) rfl
          replace h := cf hc h
          refine wc_skip (wx_block (wx_then (wc_region (wP rfl rfl (wP (v := .int .i64 (IntKind.wrap .i64 (zdc + (1 : Int)))) rfl rfl (wP rfl rfl (wl_nil ?_)))))))
          exact wx_round m50 (Nat.lt_succ_self m50) ⟨(IntKind.wrap .i64 (zdc + (1 : Int))), zab, zac, zy, zz, zaa, zb, zu, zc, zv, za, zw, zx, zd, zbf, zbc, zao, zbd, zbb, zbk, zau, zbl, zbj, zay, zam, zaz, zax, zan, zba, h, zah, zai, zak, zal, zad, zae, zag, zaf, rfl, rfl⟩ (agree_cons rfl (agree_cons rfl (agree_cons rfl (agree_cons rfl (agree_cons rfl (agree_cons rfl (agree_cons rfl (agree_cons rfl agree_nil)))))))) (pSub (pH (pH (pH (pH (pH (pA (pA (pA (pA pNil))))))))))
        replace h := cf hc h
        refine wl_skip rfl rfl (wl_skip rfl rfl (wl_skip rfl rfl (wl_skip rfl rfl (wl_skip rfl rfl ?_))))
        obtain rfl := sI h
        have h := hg147; clear hg147
        refine wP (v := .bool false) rfl rfl (wP rfl rfl ?_)
        replace h := bsome h; obtain ⟨v150, h, hg150⟩ := h
        replace h := cf rfl h
        refine wl_skip rfl rfl ?_
        obtain rfl := sI h
        have h := hg150; clear hg150
        refine wP (v := .bool false) rfl rfl (wl_nil (wx_then ?_))
        replace h := cf rfl h
        refine wc_cond_false rfl ?_
        refine wc_exit (wx_then_exit ?_)
        obtain rfl := Option.some.inj h
        have h := hl98; clear hl98; try dsimp only [orE_l, orE_r] at h
        refine wx_then_exit (wx_block_exit (wx_then (wc_seq (wc_region ?_))))
        refine wP rfl rfl ?_
        replace h := bsome h; obtain ⟨v178, x178, h⟩ := h
        refine wl_cq Tryd.call16 rfl rfl rfl (q_rd (k_rollback_Engine_Known (p0 := (T_rollback_Engine.mk zab zac (T_api_State.mk zy zz zaa zb zu) zc)) (p0_4 := (T_queue_Queue.mk zv za zw)) (p0_5 := (T_ring_Ring.mk zx zd)) zah zai zak zal zad zae zag zaf x178) (pCons (sC hC) (pApp (sC (sC (sC (sC hA')))) (pApp (sC (sC (sC (sC hA')))) (pCons (sC hC) (pApp (sC (sC (sC hA'))) (pCons (sC hC) (pApp (sC (sC hA')) pNil))))))) (fun _ _ => trivial)) rfl ?_
        refine wP rfl rfl (wP (v := .int .u64 (IntKind.wrap .u64 (IntKind.wrap .i64 ((IntKind.wrap .i64 (Int.tmod p0.Sure 60)) + v64)))) rfl rfl (wP (v := .bool (v178 != (IntKind.wrap .u64 (IntKind.wrap .i64 ((IntKind.wrap .i64 (Int.tmod p0.Sure 60)) + v64))))) rfl rfl (wl_nil (wx_then (wc_cond rfl (fun hc => ?_) (fun hc => ?_))))))
        · replace h := ct hc h
          refine wc_seq (wc_region (wP rfl rfl (wl_nil (wx_then (wc_ret (wx_block_ret (wx_then_ret ?_)))))))
          obtain rfl := Option.some.inj h
          have h := hl50; clear hl50; try dsimp only [orE_l, orE_r] at h
          refine wx_then_ret (wx_block_ret (wx_then_ret ?_))
          obtain rfl := sI h
          exact wx_pf tt_ok (.inl rfl) Tryd.results3 (Res.tmp rfl Res.nil) rfl
        replace h := cf hc h
        refine wc_skip (wx_block (wx_then (wc_region (wP rfl rfl (wP (v := .int .i64 (IntKind.wrap .i64 (zdc + (1 : Int)))) rfl rfl (wP rfl rfl (wl_nil ?_)))))))
        exact wx_round m50 (Nat.lt_succ_self m50) ⟨(IntKind.wrap .i64 (zdc + (1 : Int))), zab, zac, zy, zz, zaa, zb, zu, zc, zv, za, zw, zx, zd, zbf, zbc, zao, zbd, zbb, zbk, zau, zbl, zbj, zay, zam, zaz, zax, zan, zba, h, zah, zai, zak, zal, zad, zae, zag, zaf, rfl, rfl⟩ (agree_cons rfl (agree_cons rfl (agree_cons rfl (agree_cons rfl (agree_cons rfl (agree_cons rfl (agree_cons rfl (agree_cons rfl agree_nil)))))))) (pSub (pH (pH (pH (pH (pH (pA (pA (pA (pA pNil))))))))))
      replace h := cf hc h
      refine wl_skip rfl rfl (wl_skip rfl rfl ?_)
      obtain rfl := sI h
      have h := hg95; clear hg95
      refine wP (v := .bool false) rfl rfl (wP rfl rfl ?_)
      replace h := bsome h; obtain ⟨v99, h, hg99⟩ := h
      replace h := cf rfl h
      refine wl_run rfl (wP rfl rfl (wl_run rfl (wP (v := .bool (decide ((32 : Int) < zfo))) rfl rfl ?_)))
      obtain rfl := sI h
      have h := hg99; clear hg99
      refine wP (v := .bool (decide ((32 : Int) < zfo))) rfl rfl (wP rfl rfl ?_)
      replace h := bsome h; obtain ⟨v110, h, hg110⟩ := h
      refine wl_split (t := 100) rfl (fun hc => ?_) (fun hc => ?_)
      · replace h := ct hc h
        refine wl_skip rfl rfl (wl_skip rfl rfl (wl_skip rfl rfl (wl_skip rfl rfl (wl_skip rfl rfl (wl_skip rfl rfl (wl_skip rfl rfl (wl_skip rfl rfl (wl_skip rfl rfl ?_))))))))
        obtain rfl := sI h
        have h := hg110; clear hg110
        refine wP (v := .bool true) rfl rfl (wl_nil (wx_then ?_))
        replace h := ct rfl h
        refine wc_cond_true rfl ?_
        refine wc_seq (wc_region (wP rfl rfl (wl_nil (wx_then (wc_ret (wx_then_ret (wx_block_ret (wx_then_ret ?_))))))))
        obtain rfl := Option.some.inj h
        have h := hl50; clear hl50; try dsimp only [orE_l, orE_r] at h
        refine wx_then_ret (wx_block_ret (wx_then_ret ?_))
        obtain rfl := sI h
        exact wx_pf tt_ok (.inl rfl) Tryd.results3 (Res.tmp rfl Res.nil) rfl
      replace h := cf hc h
      refine wl_run rfl (wP rfl rfl (wl_run rfl (wP (v := .int .u64 (IntKind.wrap .u64 zfo)) rfl rfl (wl_run rfl (wP rfl rfl (wl_run rfl (wP (v := .int .u64 (IntKind.wrap .u64 (IntKind.wrap .i64 ((IntKind.wrap .i64 (Int.tmod p0.Sure 60)) + v64)))) rfl rfl (wl_run rfl (wP rfl rfl ?_)))))))))
      replace h := bsome h; obtain ⟨v106, x106, h⟩ := h
      refine wl_run rfl (wl_cq Tryd.call11 rfl rfl rfl (q_rd (k_rollback_Engine_C (p0 := (T_rollback_Engine.mk zbg zbh (T_api_State.mk zar zas zat zf zaj) zg)) (p0_4 := (T_queue_Queue.mk zcm zk zcn)) (p0_5 := (T_ring_Ring.mk zco zq)) zcp zcq zdd zde zee zef zei zeh x106) (pCons (sC hC) (pApp (sC (sC (sC (sC hA')))) (pApp (sC (sC (sC (sC hA')))) (pCons (sC hC) (pApp (sC (sC (sC hA'))) (pCons (sC hC) (pApp (sC (sC hA')) pNil))))))) (fun _ _ => trivial)) rfl ?_)
      refine wl_run rfl (wP (v := .int .u64 (IntKind.wrap .u64 ((IntKind.wrap .u64 (IntKind.wrap .i64 ((IntKind.wrap .i64 (Int.tmod p0.Sure 60)) + v64))) - v106))) rfl rfl (wl_run rfl (wP (v := .int .u64 (min (32 : Int) (IntKind.wrap .u64 ((IntKind.wrap .u64 (IntKind.wrap .i64 ((IntKind.wrap .i64 (Int.tmod p0.Sure 60)) + v64))) - v106)))) rfl rfl (wl_run rfl (wP (v := .bool ((IntKind.wrap .u64 zfo) != (min (32 : Int) (IntKind.wrap .u64 ((IntKind.wrap .u64 (IntKind.wrap .i64 ((IntKind.wrap .i64 (Int.tmod p0.Sure 60)) + v64))) - v106))))) rfl rfl ?_)))))
      obtain rfl := sI h
      have h := hg110; clear hg110
      refine wP (v := .bool ((IntKind.wrap .u64 zfo) != (min (32 : Int) (IntKind.wrap .u64 ((IntKind.wrap .u64 (IntKind.wrap .i64 ((IntKind.wrap .i64 (Int.tmod p0.Sure 60)) + v64))) - v106))))) rfl rfl (wl_nil (wx_then (wc_cond rfl (fun hc => ?_) (fun hc => ?_))))
      · replace h := ct hc h
        refine wc_seq (wc_region (wP rfl rfl (wl_nil (wx_then (wc_ret (wx_then_ret (wx_block_ret (wx_then_ret ?_))))))))
        obtain rfl := Option.some.inj h
        have h := hl50; clear hl50; try dsimp only [orE_l, orE_r] at h
        refine wx_then_ret (wx_block_ret (wx_then_ret ?_))
        obtain rfl := sI h
        exact wx_pf tt_ok (.inl rfl) Tryd.results3 (Res.tmp rfl Res.nil) rfl
      replace h := cf hc h
      refine wc_skip (wx_then (wc_seq (wc_region ?_)))
      iterate 3 refine wP rfl rfl ?_
      replace h := bsome h; obtain ⟨v114, x114, h⟩ := h
      refine wl_cs Tryd.call12 rfl rfl rfl (s_sp (k_fold_History_Slice_nil0 x114) pNil (fun _ _ => trivial)) rfl ?_
      rintro _ _ ⟨_, ⟨v114a0, v114n0, v114c0, v114B0, v114N0, v114V0, rfl, rfl⟩, rfl⟩
      refine wP rfl rfl (wl_nil (wx_then (wc_seq (wc_seq (wc_region (wP rfl rfl (wl_nil (wx_then (wc_block ?_)))))))))
      replace h := bsome h; obtain ⟨o75, h, hl75⟩ := h
      refine wc_loop (fun m E L => ∃ (zfs : Int) (zby : Int) (ze : (List Int)) (zbz : Int) (zca : Int) (zm : (Arr T_ring_place 14)) (zcf : Option Addr) (zbp : Nat) (zcg : Nat) (zce : List Blk) (zbq : List (T_ring_place × G)) (zch : List Blk), m_hindcastlaw28_BackfillFills_L74 F p0 zdc zbg zbh zar zas zat zf zaj zg zbo zit zfo v114 m zfs zby ze zbz zca zm = some o75 ∧ zbp = ze.length ∧ Own 34 1 zcf zbp zcg (flat (e1 .u8) ze) zce ∧ zm.1 = unG zbq ∧ AllP sh_T_ring_place c_T_api_Shot zch zbq ∧ E = [(2, .bool p2), (3, .pointer (some ⟨b3, 0, none⟩)), (6, .bool false), (9, .pointer (some ⟨zr, 0, none⟩)), (10, .pointer (some ⟨zcl, 0, none⟩)), (11, .int .i64 (IntKind.wrap .i64 ((IntKind.wrap .i64 (Int.tmod p0.Sure 60)) + v64))), (12, .pointer none), (14, .int .i64 zdc), (15, .int .u64 zit), (16, .int .i64 zfo), (17, .slice v114a0 v114n0 v114c0), (18, .int .i64 zfs)] ∧ L = (⟨b3, [.int .u64 p0.Seed, .int .u8 p0.Player, .int .u8 p0.Window, .int .u8 p0.Sure, .int .u8 p0.Ahead, .int .u8 p0.Told, .int .u8 p0.From, .slice p0a0 p0n0 p0c0, .slice p0a1 p0n1 p0c1], 25, (0, 0)⟩ :: (⟨zr, (.int .u8 zbg :: .int .i64 zbh :: .int .u64 zar :: .int .u64 zas :: pl14 zat [.slice zdh zcr zdi, .int .u16 zaj.1, .int .u16 zaj.2, .slice zea zdf zeb, .pointer (some ⟨zbm, 0, none⟩), .pointer (some ⟨zbn, 0, none⟩)]), 73, (0, 0)⟩ :: (⟨zbm, [.int .u64 zby, .slice zcf zbp zcg, .int .u8 zbz], 103, (0, 0)⟩ :: (⟨zbn, ([.int .i64 zca] ++ flat cg_T_ring_place zbq), 121, (0, 0)⟩ :: (⟨zcl, ([.int .u64 zbo.from_, .int .u64 zbo.count, .int .u64 zbo.most] ++ flat (e2 .u8) zbo.ring.1), 68, (0, 0)⟩ :: (zdg ++ (zdz ++ (zce ++ (zch ++ (v114B0 ++ []))))))))))) F ⟨(0 : Int), zcm, zk, zcn, zco, zq, zfa, zeg, zfb, zez, zej, zfc, h, zee, zef, zei, zeh, rfl, rfl⟩ (agree_cons rfl (agree_cons rfl (agree_cons rfl (agree_cons rfl (agree_cons rfl (agree_cons rfl (agree_cons rfl (agree_cons rfl (agree_cons rfl (agree_cons rfl (agree_cons rfl (agree_cons rfl agree_nil)))))))))))) (pSub (pCons (sA hC) (pCons (sA hC) (pCons (sA hC) (pCons (sA hC) (pCons (sA hC) (pApp (sA hA') (pApp (sA hA') (pApp (sA hA') (pApp (sA hA') (pA pNil))))))))))) ?_
      clear h
      rintro m75 _ _ ⟨zfs, zby, ze, zbz, zca, zm, zcf, zbp, zcg, zce, zbq, zch, h, zfd, zfe, zfg, zff, rfl, rfl⟩
      rcases m75 with _ | m75
      · rw [m_hindcastlaw28_BackfillFills_L74.eq_1] at h; cases h
      rw [m_hindcastlaw28_BackfillFills_L74.eq_2] at h
      refine wc_seq (wc_seq (wc_region ?_))
      iterate 2 refine wP rfl rfl ?_
      refine wP (v := .int .i64 (IntKind.wrap .i64 ((1 : Int) + zdc))) rfl rfl (wP (v := .bool (decide (zfs < (IntKind.wrap .i64 ((1 : Int) + zdc))))) rfl rfl (wl_nil (wx_then (wc_cond rfl (fun hc => ?_) (fun hc => ?_)))))
      · replace h := ct hc h
        refine wc_skip (wx_then (wc_seq (wc_block (wc_seq (wc_region ?_)))))
        iterate 2 refine wP rfl rfl ?_
        refine wP (v := .pointer (some ⟨b3, 1, none⟩)) rfl rfl (wl_val (v := .int .u8 p0.Player) (val_load tt_ok rfl (mH) rfl) rfl (wP (v := .int .u8 (Int.tmod p0.Player 2)) rfl rfl ?_))
        iterate 2 refine wP rfl rfl ?_
        replace h := bsome h; obtain ⟨⟨zck, zeo, ziv, zhv⟩, x129, h⟩ := h; try dsimp only at h
        refine wl_cs Tryd.call13 rfl rfl rfl (s_sp (k_backfill_Pairs (p0 := (T_rollback_Engine.mk zbg zbh (T_api_State.mk zar zas zat zf zaj) zg)) (p0_4 := (T_queue_Queue.mk zby ze zbz)) (p0_5 := (T_ring_Ring.mk zca zm)) (p4 := v114) zcp zcq zdd zde zfd zfe zfg zff v114N0 (vec_cap v114V0) x129) (pCons (sC hC) (pApp (sC (sC (sC (sC hA')))) (pApp (sC (sC (sC (sC hA')))) (pCons (sC hC) (pApp (sC (sC (sC hA'))) (pCons (sC hC) (pApp (sC (sC hA')) (pCons (sC hC) pNil)))))))) (Rds.call (Rds.of_vec v114V0) (pCons (sC hC) (pApp (sC (sC (sC (sC hA')))) (pApp (sC (sC (sC (sC hA')))) (pCons (sC hC) (pApp (sC (sC (sC hA'))) (pCons (sC hC) (pApp (sC (sC hA')) (pCons (sC hC) pNil)))))))) ⟨_, (sC hA')⟩)) rfl ?_
        rintro _ _ ⟨_, ⟨zie, zig, zif, zib, zik, zij, zic, zid, zii, zih, rfl, rfl⟩, rfl⟩
        iterate 5 refine wP rfl rfl ?_
        refine wl_nil (wx_then (wc_seq (wc_region ?_)))
        iterate 2 refine wP rfl rfl ?_
        refine wP (v := .bool (ziv != zfo)) rfl rfl (wP rfl rfl ?_)
        replace h := bsome h; obtain ⟨v138, h, hg138⟩ := h
        refine wl_split (t := 135) rfl (fun hc => ?_) (fun hc => ?_)
        · replace h := ct hc h
          refine wl_skip rfl rfl (wl_skip rfl rfl ?_)
          obtain rfl := sI h
          have h := hg138; clear hg138
          refine wP (v := .bool true) rfl rfl (wl_nil (wx_then ?_))
          replace h := ct rfl h
          refine wc_cond_true rfl ?_
          refine wc_seq (wc_region (wP rfl rfl (wl_nil (wx_then (wc_ret (wx_block_ret (wx_then_ret ?_)))))))
          obtain rfl := Option.some.inj h
          have h := hl75; clear hl75; try dsimp only [orE_l, orE_r] at h
          refine wx_then_ret (wx_block_ret (wx_then_ret (wx_block_ret (wx_then_ret ?_))))
          obtain rfl := Option.some.inj h
          have h := hl50; clear hl50; try dsimp only [orE_l, orE_r] at h
          refine wx_then_ret (wx_block_ret (wx_then_ret ?_))
          obtain rfl := sI h
          exact wx_pf tt_ok (.inl rfl) Tryd.results3 (Res.tmp rfl Res.nil) rfl
        replace h := cf hc h
        refine wl_run rfl (wP rfl rfl (wl_run rfl (wP (v := .bool (zhv != (0 : Int))) rfl rfl ?_)))
        obtain rfl := sI h
        have h := hg138; clear hg138
        refine wP (v := .bool (zhv != (0 : Int))) rfl rfl (wl_nil (wx_then (wc_cond rfl (fun hc => ?_) (fun hc => ?_))))
        · replace h := ct hc h
          refine wc_seq (wc_region (wP rfl rfl (wl_nil (wx_then (wc_ret (wx_block_ret (wx_then_ret ?_)))))))
          obtain rfl := Option.some.inj h
          have h := hl75; clear hl75; try dsimp only [orE_l, orE_r] at h
          refine wx_then_ret (wx_block_ret (wx_then_ret (wx_block_ret (wx_then_ret ?_))))
          obtain rfl := Option.some.inj h
          have h := hl50; clear hl50; try dsimp only [orE_l, orE_r] at h
          refine wx_then_ret (wx_block_ret (wx_then_ret ?_))
          obtain rfl := sI h
          exact wx_pf tt_ok (.inl rfl) Tryd.results3 (Res.tmp rfl Res.nil) rfl
        replace h := cf hc h
        refine wc_skip (wx_block (wx_then (wc_region (wP rfl rfl (wP (v := .int .i64 (IntKind.wrap .i64 (zfs + (1 : Int)))) rfl rfl (wP rfl rfl (wl_nil ?_)))))))
        exact wx_round m75 (Nat.lt_succ_self m75) ⟨(IntKind.wrap .i64 (zfs + (1 : Int))), zck.first_, zck.l, zck.last, zeo.size, zeo.places, zie, zig, zif, zib, zik, zij, h, zic, zid, zii, zih, rfl, rfl⟩ (agree_cons rfl (agree_cons rfl (agree_cons rfl (agree_cons rfl (agree_cons rfl (agree_cons rfl (agree_cons rfl (agree_cons rfl (agree_cons rfl (agree_cons rfl (agree_cons rfl (agree_cons rfl agree_nil)))))))))))) (pSub (pCons (sC (sA (sA (sC (sA (sC (sA (sC hC)))))))) (pH (pCons (sA (sA hC)) (pCons (sA (sA (sA hC))) (pCons (sA (sA (sA (sA hC)))) (pA (pA (pA (pA (pA pNil)))))))))))
      replace h := cf hc h
      refine wc_exit (wx_then_exit ?_)
      obtain rfl := Option.some.inj h
      have h := hl75; clear hl75; try dsimp only [orE_l, orE_r] at h
      refine wx_then_exit (wx_block_exit (wx_then (wc_seq (wc_seq (wc_region ?_)))))
      refine wP rfl rfl (wl_nil (wx_then (wc_block ?_)))
      replace h := bsome h; obtain ⟨o98, h, hl98⟩ := h
      refine wc_loop (fun m E L => ∃ (zft : Int) (zab : Int) (zac : Int) (zy : Int) (zz : Int) (zaa : (T_api_Player × T_api_Player)) (zb : (List T_api_Shot)) (zu : (Int × Int)) (zc : (List Int)) (zv : Int) (za : (List Int)) (zw : Int) (zx : Int) (zd : (Arr T_ring_place 14)) (zbf : T_fold_History) (zbc : Option Addr) (zao : Nat) (zbd : Nat) (zbb : List Blk) (zbk : Option Addr) (zau : Nat) (zbl : Nat) (zbj : List Blk) (zay : Option Addr) (zam : Nat) (zaz : Nat) (zax : List Blk) (zan : List (T_ring_place × G)) (zba : List Blk), m_hindcastlaw28_BackfillFills_L97 F p0 p2 v64 false m zft zab zac zy zz zaa zb zu zc zv za zw zx zd zbf = some o98 ∧ zao = zb.length ∧ Own 92 6 zbc zao zbd (flat c_T_api_Shot zb) zbb ∧ zau = zc.length ∧ Own 34 1 zbk zau zbl (flat (e1 .u8) zc) zbj ∧ zam = za.length ∧ Own 34 1 zay zam zaz (flat (e1 .u8) za) zax ∧ zd.1 = unG zan ∧ AllP sh_T_ring_place c_T_api_Shot zba zan ∧ E = [(2, .bool p2), (3, .pointer (some ⟨b3, 0, none⟩)), (6, .bool false), (9, .pointer (some ⟨zr, 0, none⟩)), (10, .pointer (some ⟨zcl, 0, none⟩)), (11, .int .i64 (IntKind.wrap .i64 ((IntKind.wrap .i64 (Int.tmod p0.Sure 60)) + v64))), (12, .pointer none), (14, .int .i64 zdc), (21, .int .i64 zft)] ∧ L = (⟨b3, [.int .u64 p0.Seed, .int .u8 p0.Player, .int .u8 p0.Window, .int .u8 p0.Sure, .int .u8 p0.Ahead, .int .u8 p0.Told, .int .u8 p0.From, .slice p0a0 p0n0 p0c0, .slice p0a1 p0n1 p0c1], 25, (0, 0)⟩ :: (⟨zr, (.int .u8 zab :: .int .i64 zac :: .int .u64 zy :: .int .u64 zz :: pl14 zaa [.slice zbc zao zbd, .int .u16 zu.1, .int .u16 zu.2, .slice zbk zau zbl, .pointer (some ⟨zbm, 0, none⟩), .pointer (some ⟨zbn, 0, none⟩)]), 73, (0, 0)⟩ :: (⟨zbm, [.int .u64 zv, .slice zay zam zaz, .int .u8 zw], 103, (0, 0)⟩ :: (⟨zbn, ([.int .i64 zx] ++ flat cg_T_ring_place zan), 121, (0, 0)⟩ :: (⟨zcl, ([.int .u64 zbf.from_, .int .u64 zbf.count, .int .u64 zbf.most] ++ flat (e2 .u8) zbf.ring.1), 68, (0, 0)⟩ :: (zbb ++ (zbj ++ (zax ++ (zba ++ [])))))))))) F ⟨(0 : Int), zbg, zbh, zar, zas, zat, zf, zaj, zg, zby, ze, zbz, zca, zm, zbo, zdh, zcr, zdi, zdg, zea, zdf, zeb, zdz, zcf, zbp, zcg, zce, zbq, zch, h, zcp, zcq, zdd, zde, zfd, zfe, zfg, zff, rfl, rfl⟩ (agree_cons rfl (agree_cons rfl (agree_cons rfl (agree_cons rfl (agree_cons rfl (agree_cons rfl (agree_cons rfl (agree_cons rfl (agree_cons rfl agree_nil))))))))) (pSub (pH (pH (pH (pH (pH (pA (pA (pA (pA pNil)))))))))) ?_
      clear h
      rintro m98 _ _ ⟨zft, zab, zac, zy, zz, zaa, zb, zu, zc, zv, za, zw, zx, zd, zbf, zbc, zao, zbd, zbb, zbk, zau, zbl, zbj, zay, zam, zaz, zax, zan, zba, h, zah, zai, zak, zal, zad, zae, zag, zaf, rfl, rfl⟩
      rcases m98 with _ | m98
      · rw [m_hindcastlaw28_BackfillFills_L97.eq_1] at h; cases h
      rw [m_hindcastlaw28_BackfillFills_L97.eq_2] at h
      refine wc_seq (wc_seq (wc_region (wP rfl rfl (wP (v := .bool (decide (zft < (20 : Int)))) rfl rfl (wP rfl rfl ?_)))))
      replace h := bsome h; obtain ⟨v147, h, hg147⟩ := h
      refine wl_split (t := 141) rfl (fun hc => ?_) (fun hc => ?_)
      · replace h := ct hc h
        refine wl_run rfl (wP rfl rfl ?_)
        replace h := bsome h; obtain ⟨v143, x143, h⟩ := h
        refine wl_run rfl (wl_cq Tryd.call11 rfl rfl rfl (q_rd (k_rollback_Engine_C (p0 := (T_rollback_Engine.mk zab zac (T_api_State.mk zy zz zaa zb zu) zc)) (p0_4 := (T_queue_Queue.mk zv za zw)) (p0_5 := (T_ring_Ring.mk zx zd)) zah zai zak zal zad zae zag zaf x143) (pCons (sC hC) (pApp (sC (sC (sC (sC hA')))) (pApp (sC (sC (sC (sC hA')))) (pCons (sC hC) (pApp (sC (sC (sC hA'))) (pCons (sC hC) (pApp (sC (sC hA')) pNil))))))) (fun _ _ => trivial)) rfl ?_)
        refine wl_run rfl (wP rfl rfl (wl_run rfl (wP (v := .int .u64 (IntKind.wrap .u64 (IntKind.wrap .i64 ((IntKind.wrap .i64 (Int.tmod p0.Sure 60)) + v64)))) rfl rfl (wl_run rfl (wP (v := .bool (decide (v143 < (IntKind.wrap .u64 (IntKind.wrap .i64 ((IntKind.wrap .i64 (Int.tmod p0.Sure 60)) + v64)))))) rfl rfl ?_)))))
        obtain rfl := sI h
        have h := hg147; clear hg147
        refine wP (v := .bool (decide (v143 < (IntKind.wrap .u64 (IntKind.wrap .i64 ((IntKind.wrap .i64 (Int.tmod p0.Sure 60)) + v64)))))) rfl rfl (wP rfl rfl ?_)
        replace h := bsome h; obtain ⟨v150, h, hg150⟩ := h
        refine wl_split (t := 148) rfl (fun hc => ?_) (fun hc => ?_)
        · replace h := ct hc h
          refine wl_run rfl (wP rfl rfl ?_)
          obtain rfl := sI h
          have h := hg150; clear hg150
          refine wP (v := .bool p2) rfl rfl (wl_nil (wx_then (wc_cond rfl (fun hc => ?_) (fun hc => ?_))))
          · replace h := ct hc h
            refine wc_skip (wx_then (wc_seq (wc_block (wc_seq (wc_region ?_)))))
            iterate 2 refine wP rfl rfl ?_
            refine wP (v := .int .u64 (IntKind.wrap .u64 (IntKind.wrap .i64 ((IntKind.wrap .i64 (Int.tmod p0.Sure 60)) + v64)))) rfl rfl ?_
            replace h := bsome h; obtain ⟨⟨zt, zbe, zda, zep, ziw⟩, x157, h⟩ := h; try dsimp only at h
            refine wl_cs Tryd.call14 rfl rfl rfl (s_sp (k_rollback_Engine_Confirm (p0 := (T_rollback_Engine.mk zab zac (T_api_State.mk zy zz zaa zb zu) zc)) (p0_4 := (T_queue_Queue.mk zv za zw)) (p0_5 := (T_ring_Ring.mk zx zd)) zah zai zak zal zad zae zag zaf x157) (pCons (sC hC) (pApp (sC (sC (sC (sC hA')))) (pApp (sC (sC (sC (sC hA')))) (pCons (sC hC) (pApp (sC (sC (sC hA'))) (pCons (sC hC) (pApp (sC (sC hA')) pNil))))))) (fun w hI => ⟨(Rds.call G0S (pCons (sC hC) (pApp (sC (sC (sC (sC hA')))) (pApp (sC (sC (sC (sC hA')))) (pCons (sC hC) (pApp (sC (sC (sC hA'))) (pCons (sC hC) (pApp (sC (sC hA')) pNil))))))) rsub_nil) w hI, (Rds.call G1S (pCons (sC hC) (pApp (sC (sC (sC (sC hA')))) (pApp (sC (sC (sC (sC hA')))) (pCons (sC hC) (pApp (sC (sC (sC hA'))) (pCons (sC hC) (pApp (sC (sC hA')) pNil))))))) rsub_nil) w hI⟩)) rfl ?_
            rintro _ _ ⟨_, ⟨zgh, zgl, zgj, zgf, zgi, zgm, zgk, zgg, zgo, zgq, zgp, zgn, zgs, zgr, zil, zin, zim, zio, zip, ziq, zis, zir, rfl, rfl⟩, rfl⟩
            iterate 3 refine wP rfl rfl ?_
            refine wl_alloc tt_ok rfl rfl (fun b22 => ?_)
            apply wl_store tt_ok; rfl; exact Upd.here; rfl; rfl; rfl; rfl; rfl; rfl
            refine wP rfl rfl (wl_nil (wx_then (wc_seq (wc_k2 (Ls := (⟨b22, [.int .u8 zep.1, .int .u8 zep.2], 36, (0, 0)⟩ :: (⟨zr, (.int .u8 zt.player :: .int .i64 zt.window :: st19 zt.sure zgh zgl zgj [.slice zgi zgm zgk, .pointer (some ⟨zbm, 0, none⟩), .pointer (some ⟨zbn, 0, none⟩)]), 73, (0, 0)⟩ :: (zgf ++ (zgg ++ (⟨zbm, [.int .u64 zbe.first_, .slice zgo zgq zgp, .int .u8 zbe.last], 103, (0, 0)⟩ :: (zgn ++ (⟨zbn, ([.int .i64 zda.size] ++ flat cg_T_ring_place zgs), 121, (0, 0)⟩ :: (zgr ++ (⟨b3, [.int .u64 p0.Seed, .int .u8 p0.Player, .int .u8 p0.Window, .int .u8 p0.Sure, .int .u8 p0.Ahead, .int .u8 p0.Told, .int .u8 p0.From, .slice p0a0 p0n0 p0c0, .slice p0a1 p0n1 p0c1], 25, (0, 0)⟩ :: [])))))))))) [6, 8, 14] [] [0, 1, 3, 7, 7, 7, 39, 103, 247, 511, 1023, 2047, 4095, 4095, 16383, 32767, 65535] [0, 1, 2, 3, 4, 5, 6, 7, 8, 9, 10, 11, 12, 13, 14, 15, 16] (by kernel_rfl) (by kernel_rfl) (by kernel_rfl) ?_))))
            refine k_val rfl rfl rfl (pSub (pH (pH (pA (pA (pH (pA (pH (pA (pH pNil)))))))))) (stepV_ok tt_ok rfl) rfl ?_
            refine k_val (v := .bool (!ziw)) rfl rfl rfl (pSub (pH (pH (pA (pA (pH (pA (pH (pA (pH pNil)))))))))) (stepV_ok tt_ok rfl) rfl ?_
            refine k_val rfl rfl rfl (pSub (pH (pH (pA (pA (pH (pA (pH (pA (pH pNil)))))))))) (stepV_ok tt_ok rfl) rfl ?_
            replace h := bsome h; obtain ⟨v170, h, hg170⟩ := h
            refine k_split (t := 162) rfl (fun hc => ?_) (fun hc => ?_)
            · replace h := ct hc h
              refine k_skip rfl rfl (pSub (pH (pH (pA (pA (pH (pA (pH (pA (pH pNil)))))))))) rfl ?_
              refine k_skip rfl rfl (pSub (pH (pH (pA (pA (pH (pA (pH (pA (pH pNil)))))))))) rfl ?_
              refine k_skip rfl rfl (pSub (pH (pH (pA (pA (pH (pA (pH (pA (pH pNil)))))))))) rfl ?_
              refine k_skip rfl rfl (pSub (pH (pH (pA (pA (pH (pA (pH (pA (pH pNil)))))))))) rfl ?_
              refine k_skip rfl rfl (pSub (pH (pH (pA (pA (pH (pA (pH (pA (pH pNil)))))))))) rfl ?_
              refine k_skip rfl rfl (pSub (pH (pH (pA (pA (pH (pA (pH (pA (pH pNil)))))))))) rfl ?_
              refine k_skip rfl rfl (pSub (pH (pH (pA (pA (pH (pA (pH (pA (pH pNil)))))))))) rfl ?_
              obtain rfl := sI h
              have h := hg170; clear hg170
              refine k_val (v := .bool true) rfl rfl rfl (pSub (pH (pH (pA (pA (pH (pA (pH (pA (pH pNil)))))))))) (stepV_ok tt_ok rfl) rfl ?_
              refine k_val rfl rfl rfl (pSub (pH (pH (pA (pA (pH (pA (pH (pA (pH pNil)))))))))) (stepV_ok tt_ok rfl) rfl ?_
              replace h := bsome h; obtain ⟨⟨v176, zgd⟩, h, hg176⟩ := h
              replace h := ct rfl h
              refine k_skip rfl rfl (pSub (pH (pH (pA (pA (pH (pA (pH (pA (pH pNil)))))))))) rfl ?_
              refine k_skip rfl rfl (pSub (pH (pH (pA (pA (pH (pA (pH (pA (pH pNil)))))))))) rfl ?_
              refine k_skip rfl rfl (pSub (pH (pH (pA (pA (pH (pA (pH (pA (pH pNil)))))))))) rfl ?_
              refine k_skip rfl rfl (pSub (pH (pH (pA (pA (pH (pA (pH (pA (pH pNil)))))))))) rfl ?_
              simp only [Option.some.injEq, Prod.mk.injEq] at h
              obtain ⟨rfl, rfl⟩ := h
              have h := hg176; clear hg176; try dsimp only at h
              refine k_val (v := .bool true) rfl rfl rfl (pSub (pH (pH (pA (pA (pH (pA (pH (pA (pH pNil)))))))))) (stepV_ok tt_ok rfl) rfl ?_
              refine k_end (by kernel_rfl) ?_
              refine wx_then ?_
              replace h := ct rfl h
              refine wc_cond_true rfl ?_
              refine wc_seq (wc_region (wP rfl rfl (wl_nil (wx_then (wc_ret (wx_block_ret (wx_then_ret ?_)))))))
              obtain rfl := Option.some.inj h
              have h := hl98; clear hl98; try dsimp only [orE_l, orE_r] at h
              refine wx_then_ret (wx_block_ret (wx_then_ret (wx_block_ret (wx_then_ret ?_))))
              obtain rfl := Option.some.inj h
              have h := hl50; clear hl50; try dsimp only [orE_l, orE_r] at h
              refine wx_then_ret (wx_block_ret (wx_then_ret ?_))
              obtain rfl := sI h
              exact wx_pf tt_ok (.inl rfl) Tryd.results3 (Res.tmp rfl Res.nil) rfl
            replace h := cf hc h
            refine k_val (v := .agg #[.int .u8 zep.1, .int .u8 zep.2]) rfl rfl rfl (pSub (pH (pH (pA (pA (pH (pA (pH (pA (pH pNil)))))))))) (val_load tt_ok rfl (mH) rfl) rfl ?_
            refine k_val (v := .agg #[.int .u64 p0.Seed, .int .u8 p0.Player, .int .u8 p0.Window, .int .u8 p0.Sure, .int .u8 p0.Ahead, .int .u8 p0.Told, .int .u8 p0.From, .slice p0a0 p0n0 p0c0, .slice p0a1 p0n1 p0c1]) rfl rfl rfl (pSub (pH (pH (pA (pA (pH (pA (pH (pA (pH pNil)))))))))) (val_load tt_ok rfl (mT (mT (mR (mR (mT (mR (mT (mR (mH))))))))) rfl) rfl ?_
            refine k_val rfl rfl rfl (pSub (pH (pH (pA (pA (pH (pA (pH (pA (pH pNil)))))))))) (stepV_ok tt_ok rfl) rfl ?_
            replace h := bsome h; obtain ⟨v166, x166, h⟩ := h
            refine k_cq rfl rfl rfl Tryd.call15 rfl rfl rfl (q_rd (k_fold_History_Count x166) (pCons (sC (sC (sA (sA (sC (sA (sC (sA (sC hC))))))))) pNil) (fun _ _ => trivial)) rfl (pSub (pH (pH (pA (pA (pH (pA (pH (pA (pH pNil)))))))))) ?_
            refine k_val (v := .int .i64 (IntKind.wrap .i64 v166)) rfl rfl rfl (pSub (pH (pH (pA (pA (pH (pA (pH (pA (pH pNil)))))))))) (stepV_ok tt_ok rfl) rfl ?_
            replace h := bsome h; obtain ⟨v168, x168, h⟩ := h
            refine k_cq rfl rfl rfl Tryd.call9 rfl rfl rfl (q_pf (k_hindcastlaw28_Setup_pair (p0 := p0) p0N0 p0H0 p0N1 p0H1 x168) (fun w hI => ⟨(Rds.call p0S0 pNil rsub_nil) w hI, (Rds.call p0S1 pNil rsub_nil) w hI⟩)) rfl (pSub (pH (pH (pA (pA (pH (pA (pH (pA (pH pNil)))))))))) ?_
            refine k_val (v := .bool (!((zep.1 == v168.1) && (zep.2 == v168.2)))) rfl rfl rfl (pSub (pH (pH (pA (pA (pH (pA (pH (pA (pH pNil)))))))))) (val_nes tt_ok tt_eq tt_one Tryd.eqGuardType36 rfl rfl rfl rfl rfl) rfl ?_
            obtain rfl := sI h
            have h := hg170; clear hg170
            refine k_val (v := .bool (!((zep.1 == v168.1) && (zep.2 == v168.2)))) rfl rfl rfl (pSub (pH (pH (pA (pA (pH (pA (pH (pA (pH pNil)))))))))) (stepV_ok tt_ok rfl) rfl ?_
            refine k_val rfl rfl rfl (pSub (pH (pH (pA (pA (pH (pA (pH (pA (pH pNil)))))))))) (stepV_ok tt_ok rfl) rfl ?_
            replace h := bsome h; obtain ⟨⟨v176, zgd⟩, h, hg176⟩ := h
            refine k_split (t := 171) rfl (fun hc => ?_) (fun hc => ?_)
            · replace h := ct hc h
              refine k_skip rfl rfl (pSub (pH (pH (pA (pA (pH (pA (pH (pA (pH pNil)))))))))) rfl ?_
              refine k_skip rfl rfl (pSub (pH (pH (pA (pA (pH (pA (pH (pA (pH pNil)))))))))) rfl ?_
              refine k_skip rfl rfl (pSub (pH (pH (pA (pA (pH (pA (pH (pA (pH pNil)))))))))) rfl ?_
              refine k_skip rfl rfl (pSub (pH (pH (pA (pA (pH (pA (pH (pA (pH pNil)))))))))) rfl ?_
              simp only [Option.some.injEq, Prod.mk.injEq] at h
              obtain ⟨rfl, rfl⟩ := h
              have h := hg176; clear hg176; try dsimp only at h
              refine k_val (v := .bool true) rfl rfl rfl (pSub (pH (pH (pA (pA (pH (pA (pH (pA (pH pNil)))))))))) (stepV_ok tt_ok rfl) rfl ?_
              refine k_end (by kernel_rfl) ?_
              refine wx_then ?_
              replace h := ct rfl h
              refine wc_cond_true rfl ?_
              refine wc_seq (wc_region (wP rfl rfl (wl_nil (wx_then (wc_ret (wx_block_ret (wx_then_ret ?_)))))))
              obtain rfl := Option.some.inj h
              have h := hl98; clear hl98; try dsimp only [orE_l, orE_r] at h
              refine wx_then_ret (wx_block_ret (wx_then_ret (wx_block_ret (wx_then_ret ?_))))
              obtain rfl := Option.some.inj h
              have h := hl50; clear hl50; try dsimp only [orE_l, orE_r] at h
              refine wx_then_ret (wx_block_ret (wx_then_ret ?_))
              obtain rfl := sI h
              exact wx_pf tt_ok (.inl rfl) Tryd.results3 (Res.tmp rfl Res.nil) rfl
            replace h := cf hc h
            refine k_val rfl rfl rfl (pSub (pH (pH (pA (pA (pH (pA (pH (pA (pH pNil)))))))))) (stepV_ok tt_ok rfl) rfl ?_
            refine k_val (v := .agg #[.int .u8 zep.1, .int .u8 zep.2]) rfl rfl rfl (pSub (pH (pH (pA (pA (pH (pA (pH (pA (pH pNil)))))))))) (val_load tt_ok rfl (mH) rfl) rfl ?_
            replace h := bsome h; obtain ⟨⟨ziu, v174⟩, x174, h⟩ := h; try dsimp only at h
            refine k_cs rfl rfl rfl Tryd.call8 rfl rfl rfl (s_sp (k_fold_History_Add x174) (pCons (sC (sC (sA (sA (sC (sA (sC (sA (sC hC))))))))) pNil) (fun _ _ => trivial)) rfl (.inr (by rintro _ _ ⟨_, ⟨rfl, rfl⟩, rfl⟩; exact ⟨_, (pCons (sC hC) (pCons (sC hC) (pApp (sC hA') (pApp (sC hA') (pCons (sC hC) (pApp (sC hA') (pCons (sC hC) (pApp (sC hA') (pCons (sC hC) pNil)))))))))⟩)) ?_
            rintro _ _ ⟨_, ⟨rfl, rfl⟩, rfl⟩
            refine k_val (v := .bool (v174 != (0 : Int))) rfl rfl rfl (pSub (pCons (sC hC) (pCons (sC hC) (pApp (sC hA') (pApp (sC hA') (pCons (sC hC) (pApp (sC hA') (pCons (sC hC) (pApp (sC hA') (pCons (sC hC) pNil)))))))))) (stepV_ok tt_ok rfl) rfl ?_
            simp only [Option.some.injEq, Prod.mk.injEq] at h
            obtain ⟨rfl, rfl⟩ := h
            have h := hg176; clear hg176; try dsimp only at h
            refine k_val (v := .bool (v174 != (0 : Int))) rfl rfl rfl (pSub (pCons (sC hC) (pCons (sC hC) (pApp (sC hA') (pApp (sC hA') (pCons (sC hC) (pApp (sC hA') (pCons (sC hC) (pApp (sC hA') (pCons (sC hC) pNil)))))))))) (stepV_ok tt_ok rfl) rfl ?_
            refine k_end (by kernel_rfl) ?_
            refine wx_then (wc_cond rfl (fun hc => ?_) (fun hc => ?_))
            · replace h := ct hc h
              refine wc_seq (wc_region (wP rfl rfl (wl_nil (wx_then (wc_ret (wx_block_ret (wx_then_ret ?_)))))))
              obtain rfl := Option.some.inj h
              have h := hl98; clear hl98; try dsimp only [orE_l, orE_r] at h
              refine wx_then_ret (wx_block_ret (wx_then_ret (wx_block_ret (wx_then_ret ?_))))
              obtain rfl := Option.some.inj h
              have h := hl50; clear hl50; try dsimp only [orE_l, orE_r] at h
              refine wx_then_ret (wx_block_ret (wx_then_ret ?_))
              obtain rfl := sI h
              exact wx_pf tt_ok (.inl rfl) Tryd.results3 (Res.tmp rfl Res.nil) rfl
            replace h := cf hc h
            refine wc_skip (wx_block (wx_then (wc_region (wP rfl rfl (wP (v := .int .i64 (IntKind.wrap .i64 (zft + (1 : Int)))) rfl rfl (wP rfl rfl (wl_nil ?_)))))))
            exact wx_round m98 (Nat.lt_succ_self m98) ⟨(IntKind.wrap .i64 (zft + (1 : Int))), zt.player, zt.window, zt.sure.Frame, zt.sure.Seed, zt.sure.Players, zt.sure.Shots, zt.sure.Score, zt.own, zbe.first_, zbe.l, zbe.last, zda.size, zda.places, ziu, zgh, zgl, zgj, zgf, zgi, zgm, zgk, zgg, zgo, zgq, zgp, zgn, zgs, zgr, h, zil, zin, zim, zio, zip, ziq, zis, zir, rfl, rfl⟩ (agree_cons rfl (agree_cons rfl (agree_cons rfl (agree_cons rfl (agree_cons rfl (agree_cons rfl (agree_cons rfl (agree_cons rfl (agree_cons rfl agree_nil))))))))) (pSub (pCons (sC (sC (sC (sA (sA (sC (sA (sC (sA hC))))))))) (pCons (sC (sC hC)) (pCons (sC (sC (sA (sA hC)))) (pCons (sC (sC (sA (sA (sA hC))))) (pH (pApp (sC hA') (pApp (sC hA') (pApp (sC hA') (pApp (sC hA') pNil))))))))))
          replace h := cf hc h
          refine wc_exit (wx_then_exit ?_)
          obtain rfl := Option.some.inj h
          have h := hl98; clear hl98; try dsimp only [orE_l, orE_r] at h
          refine wx_then_exit (wx_block_exit (wx_then (wc_seq (wc_region ?_))))
          refine wP rfl rfl ?_
          replace h := bsome h; obtain ⟨v178, x178, h⟩ := h
          refine wl_cq Tryd.call16 rfl rfl rfl (q_rd (k_rollback_Engine_Known (p0 := (T_rollback_Engine.mk zab zac (T_api_State.mk zy zz zaa zb zu) zc)) (p0_4 := (T_queue_Queue.mk zv za zw)) (p0_5 := (T_ring_Ring.mk zx zd)) zah zai zak zal zad zae zag zaf x178) (pCons (sC hC) (pApp (sC (sC (sC (sC hA')))) (pApp (sC (sC (sC (sC hA')))) (pCons (sC hC) (pApp (sC (sC (sC hA'))) (pCons (sC hC) (pApp (sC (sC hA')) pNil))))))) (fun _ _ => trivial)) rfl ?_
          refine wP rfl rfl (wP (v := .int .u64 (IntKind.wrap .u64 (IntKind.wrap .i64 ((IntKind.wrap .i64 (Int.tmod p0.Sure 60)) + v64)))) rfl rfl (wP (v := .bool (v178 != (IntKind.wrap .u64 (IntKind.wrap .i64 ((IntKind.wrap .i64 (Int.tmod p0.Sure 60)) + v64))))) rfl rfl (wl_nil (wx_then (wc_cond rfl (fun hc => ?_) (fun hc => ?_))))))
          · replace h := ct hc h
            refine wc_seq (wc_region (wP rfl rfl (wl_nil (wx_then (wc_ret (wx_block_ret (wx_then_ret ?_)))))))
            obtain rfl := Option.some.inj h
            have h := hl50; clear hl50; try dsimp only [orE_l, orE_r] at h
            refine wx_then_ret (wx_block_ret (wx_then_ret ?_))
            obtain rfl := sI h
            exact wx_pf tt_ok (.inl rfl) Tryd.results3 (Res.tmp rfl Res.nil) rfl
          replace h := cf hc h
          refine wc_skip (wx_block (wx_then (wc_region (wP rfl rfl (wP (v := .int .i64 (IntKind.wrap .i64 (zdc + (1 : Int)))) rfl rfl (wP rfl rfl (wl_nil ?_)))))))
          exact wx_round m50 (Nat.lt_succ_self m50) ⟨(IntKind.wrap .i64 (zdc + (1 : Int))), zab, zac, zy, zz, zaa, zb, zu, zc, zv, za, zw, zx, zd, zbf, zbc, zao, zbd, zbb, zbk, zau, zbl, zbj, zay, zam, zaz, zax, zan, zba, h, zah, zai, zak, zal, zad, zae, zag, zaf, rfl, rfl⟩ (agree_cons rfl (agree_cons rfl (agree_cons rfl (agree_cons rfl (agree_cons rfl (agree_cons rfl (agree_cons rfl (agree_cons rfl agree_nil)))))))) (pSub (pH (pH (pH (pH (pH (pA (pA (pA (pA pNil))))))))))
        replace h := cf hc h
        refine wl_skip rfl rfl ?_
        obtain rfl := sI h
        have h := hg150; clear hg150
        refine wP (v := .bool false) rfl rfl (wl_nil (wx_then ?_))
        replace h := cf rfl h
        refine wc_cond_false rfl ?_
        refine wc_exit (wx_then_exit ?_)
        obtain rfl := Option.some.inj h
        have h := hl98; clear hl98; try dsimp only [orE_l, orE_r] at h
        refine wx_then_exit (wx_block_exit (wx_then (wc_seq (wc_region ?_))))
        refine wP rfl rfl ?_
        replace h := bsome h; obtain ⟨v178, x178, h⟩ := h
        refine wl_cq Tryd.call16 rfl rfl rfl (q_rd (k_rollback_Engine_Known (p0 := (T_rollback_Engine.mk zab zac (T_api_State.mk zy zz zaa zb zu) zc)) (p0_4 := (T_queue_Queue.mk zv za zw)) (p0_5 := (T_ring_Ring.mk zx zd)) zah zai zak zal zad zae zag zaf x178) (pCons (sC hC) (pApp (sC (sC (sC (sC hA')))) (pApp (sC (sC (sC (sC hA')))) (pCons (sC hC) (pApp (sC (sC (sC hA'))) (pCons (sC hC) (pApp (sC (sC hA')) pNil))))))) (fun _ _ => trivial)) rfl ?_
        refine wP rfl rfl (wP (v := .int .u64 (IntKind.wrap .u64 (IntKind.wrap .i64 ((IntKind.wrap .i64 (Int.tmod p0.Sure 60)) + v64)))) rfl rfl (wP (v := .bool (v178 != (IntKind.wrap .u64 (IntKind.wrap .i64 ((IntKind.wrap .i64 (Int.tmod p0.Sure 60)) + v64))))) rfl rfl (wl_nil (wx_then (wc_cond rfl (fun hc => ?_) (fun hc => ?_))))))
        · replace h := ct hc h
          refine wc_seq (wc_region (wP rfl rfl (wl_nil (wx_then (wc_ret (wx_block_ret (wx_then_ret ?_)))))))
          obtain rfl := Option.some.inj h
          have h := hl50; clear hl50; try dsimp only [orE_l, orE_r] at h
          refine wx_then_ret (wx_block_ret (wx_then_ret ?_))
          obtain rfl := sI h
          exact wx_pf tt_ok (.inl rfl) Tryd.results3 (Res.tmp rfl Res.nil) rfl
        replace h := cf hc h
        refine wc_skip (wx_block (wx_then (wc_region (wP rfl rfl (wP (v := .int .i64 (IntKind.wrap .i64 (zdc + (1 : Int)))) rfl rfl (wP rfl rfl (wl_nil ?_)))))))
        exact wx_round m50 (Nat.lt_succ_self m50) ⟨(IntKind.wrap .i64 (zdc + (1 : Int))), zab, zac, zy, zz, zaa, zb, zu, zc, zv, za, zw, zx, zd, zbf, zbc, zao, zbd, zbb, zbk, zau, zbl, zbj, zay, zam, zaz, zax, zan, zba, h, zah, zai, zak, zal, zad, zae, zag, zaf, rfl, rfl⟩ (agree_cons rfl (agree_cons rfl (agree_cons rfl (agree_cons rfl (agree_cons rfl (agree_cons rfl (agree_cons rfl (agree_cons rfl agree_nil)))))))) (pSub (pH (pH (pH (pH (pH (pA (pA (pA (pA pNil))))))))))
      replace h := cf hc h
      refine wl_skip rfl rfl (wl_skip rfl rfl (wl_skip rfl rfl (wl_skip rfl rfl (wl_skip rfl rfl ?_))))
      obtain rfl := sI h
      have h := hg147; clear hg147
      refine wP (v := .bool false) rfl rfl (wP rfl rfl ?_)
      replace h := bsome h; obtain ⟨v150, h, hg150⟩ := h
      replace h := cf rfl h
      refine wl_skip rfl rfl ?_
      obtain rfl := sI h
      have h := hg150; clear hg150
      refine wP (v := .bool false) rfl rfl (wl_nil (wx_then ?_))
      replace h := cf rfl h
      refine wc_cond_false rfl ?_
      refine wc_exit (wx_then_exit ?_)
      obtain rfl := Option.some.inj h
      have h := hl98; clear hl98; try dsimp only [orE_l, orE_r] at h
      refine wx_then_exit (wx_block_exit (wx_then (wc_seq (wc_region ?_))))
      refine wP rfl rfl ?_
      replace h := bsome h; obtain ⟨v178, x178, h⟩ := h
      refine wl_cq Tryd.call16 rfl rfl rfl (q_rd (k_rollback_Engine_Known (p0 := (T_rollback_Engine.mk zab zac (T_api_State.mk zy zz zaa zb zu) zc)) (p0_4 := (T_queue_Queue.mk zv za zw)) (p0_5 := (T_ring_Ring.mk zx zd)) zah zai zak zal zad zae zag zaf x178) (pCons (sC hC) (pApp (sC (sC (sC (sC hA')))) (pApp (sC (sC (sC (sC hA')))) (pCons (sC hC) (pApp (sC (sC (sC hA'))) (pCons (sC hC) (pApp (sC (sC hA')) pNil))))))) (fun _ _ => trivial)) rfl ?_
      refine wP rfl rfl (wP (v := .int .u64 (IntKind.wrap .u64 (IntKind.wrap .i64 ((IntKind.wrap .i64 (Int.tmod p0.Sure 60)) + v64)))) rfl rfl (wP (v := .bool (v178 != (IntKind.wrap .u64 (IntKind.wrap .i64 ((IntKind.wrap .i64 (Int.tmod p0.Sure 60)) + v64))))) rfl rfl (wl_nil (wx_then (wc_cond rfl (fun hc => ?_) (fun hc => ?_))))))
      · replace h := ct hc h
        refine wc_seq (wc_region (wP rfl rfl (wl_nil (wx_then (wc_ret (wx_block_ret (wx_then_ret ?_)))))))
        obtain rfl := Option.some.inj h
        have h := hl50; clear hl50; try dsimp only [orE_l, orE_r] at h
        refine wx_then_ret (wx_block_ret (wx_then_ret ?_))
        obtain rfl := sI h
        exact wx_pf tt_ok (.inl rfl) Tryd.results3 (Res.tmp rfl Res.nil) rfl
      replace h := cf hc h
      refine wc_skip (wx_block (wx_then (wc_region (wP rfl rfl (wP (v := .int .i64 (IntKind.wrap .i64 (zdc + (1 : Int)))) rfl rfl (wP rfl rfl (wl_nil ?_)))))))
      exact wx_round m50 (Nat.lt_succ_self m50) ⟨(IntKind.wrap .i64 (zdc + (1 : Int))), zab, zac, zy, zz, zaa, zb, zu, zc, zv, za, zw, zx, zd, zbf, zbc, zao, zbd, zbb, zbk, zau, zbl, zbj, zay, zam, zaz, zax, zan, zba, h, zah, zai, zak, zal, zad, zae, zag, zaf, rfl, rfl⟩ (agree_cons rfl (agree_cons rfl (agree_cons rfl (agree_cons rfl (agree_cons rfl (agree_cons rfl (agree_cons rfl (agree_cons rfl agree_nil)))))))) (pSub (pH (pH (pH (pH (pH (pA (pA (pA (pA pNil))))))))))
    replace h := cf hc h
    refine wc_exit (wx_then_exit ?_)
    obtain rfl := Option.some.inj h
    have h := hl50; clear hl50; try dsimp only [orE_l, orE_r] at h
    refine wx_then_exit (wx_block_exit (wx_then (wc_seq (wc_region ?_))))
    replace h := bsome h; obtain ⟨v182, x182, h⟩ := h
    refine wl_cq Tryd.call5 rfl rfl rfl (q_pf (k_hindcastlaw28_works x182) (fun w hI => ⟨(Rds.call G0S pNil rsub_nil) w hI, (Rds.call G1S pNil rsub_nil) w hI⟩)) rfl ?_
    refine wP rfl rfl (wl_nil (wx_then (wc_ret ?_)))
    obtain rfl := sI h
    exact wx_pf tt_ok (.inl rfl) Tryd.results3 (Res.tmp rfl Res.nil) rfl
  replace h := poS h
  refine wl_cs Tryd.call7 rfl rfl rfl (s_sp (k_fold_New x66) pNil (fun _ _ => trivial)) rfl ?_
  rintro _ _ ⟨_, ⟨zhu, rfl, rfl⟩, rfl⟩
  refine wP rfl rfl (wl_nil (wx_then (wc_seq (wc_seq (wc_region (wP rfl rfl (wl_nil (wx_then (wc_block ?_)))))))))
  replace h := bsome h; obtain ⟨zlk, h, hl35⟩ := h
  refine wc_loop (fun m E L => ∃ (zhn : Int) (zdb : T_fold_History), m_hindcastlaw28_BackfillFills_L34_1 F p0 v64 m zhn zdb = some zlk ∧ E = [(2, .bool p2), (3, .pointer (some ⟨b3, 0, none⟩)), (6, .bool false), (9, .pointer (some ⟨zr, 0, none⟩)), (10, .pointer (some ⟨zcl, 0, none⟩)), (11, .int .i64 (IntKind.wrap .i64 ((IntKind.wrap .i64 (Int.tmod p0.Sure 60)) + v64))), (12, .pointer (some ⟨zhu, 0, none⟩)), (13, .int .i64 zhn)] ∧ L = (⟨b3, [.int .u64 p0.Seed, .int .u8 p0.Player, .int .u8 p0.Window, .int .u8 p0.Sure, .int .u8 p0.Ahead, .int .u8 p0.Told, .int .u8 p0.From, .slice p0a0 p0n0 p0c0, .slice p0a1 p0n1 p0c1], 25, (0, 0)⟩ :: (⟨zr, (.int .u8 zcc :: .int .i64 zcd :: .int .u64 zbv :: .int .u64 zbw :: pl14 zbx [.slice zcw zcj zcx, .int .u16 zav.1, .int .u16 zav.2, .slice zdl zcs zdm, .pointer (some ⟨zbm, 0, none⟩), .pointer (some ⟨zbn, 0, none⟩)]), 73, (0, 0)⟩ :: (⟨zbm, [.int .u64 zdn, .slice zdw zcy zdx, .int .u8 zdo], 103, (0, 0)⟩ :: (⟨zbn, ([.int .i64 zdp] ++ flat cg_T_ring_place zcz), 121, (0, 0)⟩ :: (⟨zcl, ([.int .u64 zge.from_, .int .u64 zge.count, .int .u64 zge.most] ++ flat (e2 .u8) zge.ring.1), 68, (0, 0)⟩ :: (⟨zhu, ([.int .u64 zdb.from_, .int .u64 zdb.count, .int .u64 zdb.most] ++ flat (e2 .u8) zdb.ring.1), 68, (0, 0)⟩ :: (zcv ++ (zdk ++ (zdv ++ (zdy ++ []))))))))))) F ⟨(0 : Int), v66s, h, rfl, rfl⟩ (agree_cons rfl (agree_cons rfl (agree_cons rfl (agree_cons rfl (agree_cons rfl (agree_cons rfl (agree_cons rfl (agree_cons rfl agree_nil)))))))) (pSub (pCons (sC (sC hC)) (pCons (sC (sC (sC (sC hC)))) (pCons (sC (sC (sC (sC hC)))) (pCons (sC (sC (sC (sC hC)))) (pCons (sC hC) (pH (pApp (sC (sC hA')) (pApp (sC (sC hA')) (pApp (sC (sC hA')) (pApp (sC (sC hA')) pNil))))))))))) ?_
  clear h
  rintro m35 _ _ ⟨zhn, zdb, h, rfl, rfl⟩
  rcases m35 with _ | m35
  · rw [m_hindcastlaw28_BackfillFills_L34_1.eq_1] at h; cases h
  rw [m_hindcastlaw28_BackfillFills_L34_1.eq_2] at h
  refine wc_seq (wc_seq (wc_region ?_))
  iterate 2 refine wP rfl rfl ?_
  refine wP (v := .bool (decide (zhn < (IntKind.wrap .i64 ((IntKind.wrap .i64 (Int.tmod p0.Sure 60)) + v64))))) rfl rfl (wl_nil (wx_then (wc_cond rfl (fun hc => ?_) (fun hc => ?_))))
  · replace h := ct hc h
    refine wc_skip (wx_then (wc_seq (wc_block (wc_region (wP rfl rfl (wl_val (v := .agg #[.int .u64 p0.Seed, .int .u8 p0.Player, .int .u8 p0.Window, .int .u8 p0.Sure, .int .u8 p0.Ahead, .int .u8 p0.Told, .int .u8 p0.From, .slice p0a0 p0n0 p0c0, .slice p0a1 p0n1 p0c1]) (val_load tt_ok rfl (mH) rfl) rfl (wP rfl rfl ?_)))))))
    replace h := bsome h; obtain ⟨v75, x75, h⟩ := h
    refine wl_cq Tryd.call9 rfl rfl rfl (q_pf (k_hindcastlaw28_Setup_pair (p0 := p0) p0N0 p0H0 p0N1 p0H1 x75) (fun w hI => ⟨(Rds.call p0S0 pNil rsub_nil) w hI, (Rds.call p0S1 pNil rsub_nil) w hI⟩)) rfl ?_
    replace h := bsome h; obtain ⟨⟨zll, v76⟩, x76, h⟩ := h; try dsimp only at h
    refine wl_cs Tryd.call8 rfl rfl rfl (s_sp (k_fold_History_Add x76) (pCons (sC (sC (sC (sC (sC hC))))) pNil) (fun _ _ => trivial)) rfl ?_
    rintro _ _ ⟨_, ⟨rfl, rfl⟩, rfl⟩
    refine wl_nil (wx_block (wx_then (wc_region (wP rfl rfl (wP (v := .int .i64 (IntKind.wrap .i64 (zhn + (1 : Int)))) rfl rfl (wP rfl rfl (wl_nil ?_)))))))
    exact wx_round m35 (Nat.lt_succ_self m35) ⟨(IntKind.wrap .i64 (zhn + (1 : Int))), zll, h, rfl, rfl⟩ (agree_cons rfl (agree_cons rfl (agree_cons rfl (agree_cons rfl (agree_cons rfl (agree_cons rfl (agree_cons rfl (agree_cons rfl agree_nil)))))))) (pSub (pCons (sC hC) (pCons (sC hC) (pCons (sC hC) (pCons (sC hC) (pCons (sC hC) (pH (pA (pA (pA (pA pNil)))))))))))
  replace h := cf hc h
  refine wc_exit (wx_then_exit ?_)
  obtain rfl := sI h
  have h := hl35; clear hl35; try dsimp only [orE_l, orE_r] at h
  refine wx_then_exit (wx_block_exit (wx_then (wc_seq (wc_seq (wc_region ?_)))))
  refine wP rfl rfl (wl_nil (wx_then (wc_block ?_)))
  replace h := bsome h; obtain ⟨o50, h, hl50⟩ := h
  refine wc_loop (fun m E L => ∃ (zdc : Int) (zbg : Int) (zbh : Int) (zar : Int) (zas : Int) (zat : (T_api_Player × T_api_Player)) (zf : (List T_api_Shot)) (zaj : (Int × Int)) (zg : (List Int)) (zcm : Int) (zk : (List Int)) (zcn : Int) (zco : Int) (zq : (Arr T_ring_place 14)) (zbo : T_fold_History) (zdh : Option Addr) (zcr : Nat) (zdi : Nat) (zdg : List Blk) (zea : Option Addr) (zdf : Nat) (zeb : Nat) (zdz : List Blk) (zfa : Option Addr) (zeg : Nat) (zfb : Nat) (zez : List Blk) (zej : List (T_ring_place × G)) (zfc : List Blk), m_hindcastlaw28_BackfillFills_L49_1 F p0 p2 v64 zdb m zdc zbg zbh zar zas zat zf zaj zg zcm zk zcn zco zq zbo = some o50 ∧ zcr = zf.length ∧ Own 92 6 zdh zcr zdi (flat c_T_api_Shot zf) zdg ∧ zdf = zg.length ∧ Own 34 1 zea zdf zeb (flat (e1 .u8) zg) zdz ∧ zeg = zk.length ∧ Own 34 1 zfa zeg zfb (flat (e1 .u8) zk) zez ∧ zq.1 = unG zej ∧ AllP sh_T_ring_place c_T_api_Shot zfc zej ∧ E = [(2, .bool p2), (3, .pointer (some ⟨b3, 0, none⟩)), (6, .bool false), (9, .pointer (some ⟨zr, 0, none⟩)), (10, .pointer (some ⟨zcl, 0, none⟩)), (11, .int .i64 (IntKind.wrap .i64 ((IntKind.wrap .i64 (Int.tmod p0.Sure 60)) + v64))), (12, .pointer (some ⟨zhu, 0, none⟩)), (14, .int .i64 zdc)] ∧ L = (⟨b3, [.int .u64 p0.Seed, .int .u8 p0.Player, .int .u8 p0.Window, .int .u8 p0.Sure, .int .u8 p0.Ahead, .int .u8 p0.Told, .int .u8 p0.From, .slice p0a0 p0n0 p0c0, .slice p0a1 p0n1 p0c1], 25, (0, 0)⟩ :: (⟨zr, (.int .u8 zbg :: .int .i64 zbh :: .int .u64 zar :: .int .u64 zas :: pl14 zat [.slice zdh zcr zdi, .int .u16 zaj.1, .int .u16 zaj.2, .slice zea zdf zeb, .pointer (some ⟨zbm, 0, none⟩), .pointer (some ⟨zbn, 0, none⟩)]), 73, (0, 0)⟩ :: (⟨zbm, [.int .u64 zcm, .slice zfa zeg zfb, .int .u8 zcn], 103, (0, 0)⟩ :: (⟨zbn, ([.int .i64 zco] ++ flat cg_T_ring_place zej), 121, (0, 0)⟩ :: (⟨zcl, ([.int .u64 zbo.from_, .int .u64 zbo.count, .int .u64 zbo.most] ++ flat (e2 .u8) zbo.ring.1), 68, (0, 0)⟩ :: (⟨zhu, ([.int .u64 zdb.from_, .int .u64 zdb.count, .int .u64 zdb.most] ++ flat (e2 .u8) zdb.ring.1), 68, (0, 0)⟩ :: (zdg ++ (zdz ++ (zez ++ (zfc ++ []))))))))))) F ⟨(0 : Int), zcc, zcd, zbv, zbw, zbx, zh, zav, zj, zdn, zl, zdo, zdp, zs, zge, zcw, zcj, zcx, zcv, zdl, zcs, zdm, zdk, zdw, zcy, zdx, zdv, zcz, zdy, h, zfm, zfn, zfq, zfr, zfw, zfx, zfz, zfy, rfl, rfl⟩ (agree_cons rfl (agree_cons rfl (agree_cons rfl (agree_cons rfl (agree_cons rfl (agree_cons rfl (agree_cons rfl (agree_cons rfl agree_nil)))))))) (pSub (pH (pH (pH (pH (pH (pH (pA (pA (pA (pA pNil))))))))))) ?_
  clear h
  rintro m50 _ _ ⟨zdc, zbg, zbh, zar, zas, zat, zf, zaj, zg, zcm, zk, zcn, zco, zq, zbo, zdh, zcr, zdi, zdg, zea, zdf, zeb, zdz, zfa, zeg, zfb, zez, zej, zfc, h, zcp, zcq, zdd, zde, zee, zef, zei, zeh, rfl, rfl⟩
  rcases m50 with _ | m50
  · rw [m_hindcastlaw28_BackfillFills_L49_1.eq_1] at h; cases h
  rw [m_hindcastlaw28_BackfillFills_L49_1.eq_2] at h
  refine wc_seq (wc_seq (wc_region (wP rfl rfl (wP (v := .bool (decide (zdc < (3 : Int)))) rfl rfl (wl_nil (wx_then (wc_cond rfl (fun hc => ?_) (fun hc => ?_))))))))
  · replace h := ct hc h
    refine wc_skip (wx_then (wc_seq (wc_block (wc_seq (wc_region ?_)))))
    iterate 2 refine wP rfl rfl ?_
    replace h := bsome h; obtain ⟨v84, x84, h⟩ := h
    refine wl_cq Tryd.call11 rfl rfl rfl (q_rd (k_rollback_Engine_C (p0 := (T_rollback_Engine.mk zbg zbh (T_api_State.mk zar zas zat zf zaj) zg)) (p0_4 := (T_queue_Queue.mk zcm zk zcn)) (p0_5 := (T_ring_Ring.mk zco zq)) zcp zcq zdd zde zee zef zei zeh x84) (pCons (sC hC) (pApp (sC (sC (sC (sC (sC hA'))))) (pApp (sC (sC (sC (sC (sC hA'))))) (pCons (sC hC) (pApp (sC (sC (sC (sC hA')))) (pCons (sC hC) (pApp (sC (sC (sC hA'))) pNil))))))) (fun _ _ => trivial)) rfl ?_
    replace h := bsome h; obtain ⟨⟨zit, zfo⟩, x85, h⟩ := h; try dsimp only at h
    refine wl_cq Tryd.call10 rfl rfl rfl (q_rd (k_backfill_Plan x85) (pCons (sC (sC (sC (sC (sC hC))))) pNil) (fun _ _ => trivial)) rfl ?_
    iterate 5 refine wP rfl rfl ?_
    refine wl_nil (wx_then (wc_seq (wc_seq (wc_region ?_))))
    iterate 2 refine wP rfl rfl ?_
    replace h := bsome h; obtain ⟨v90, x90, h⟩ := h
    refine wl_cq Tryd.call11 rfl rfl rfl (q_rd (k_rollback_Engine_C (p0 := (T_rollback_Engine.mk zbg zbh (T_api_State.mk zar zas zat zf zaj) zg)) (p0_4 := (T_queue_Queue.mk zcm zk zcn)) (p0_5 := (T_ring_Ring.mk zco zq)) zcp zcq zdd zde zee zef zei zeh x90) (pCons (sC hC) (pApp (sC (sC (sC (sC (sC hA'))))) (pApp (sC (sC (sC (sC (sC hA'))))) (pCons (sC hC) (pApp (sC (sC (sC (sC hA')))) (pCons (sC hC) (pApp (sC (sC (sC hA'))) pNil))))))) (fun _ _ => trivial)) rfl ?_
    refine wP (v := .bool (zit != v90)) rfl rfl (wP rfl rfl ?_)
    replace h := bsome h; obtain ⟨v95, h, hg95⟩ := h
    refine wl_split (t := 92) rfl (fun hc => ?_) (fun hc => ?_)
    · replace h := ct hc h
      refine wl_run rfl (wP rfl rfl (wl_run rfl (wP (v := .bool (decide ((0 : Int) < zfo))) rfl rfl ?_)))
      obtain rfl := sI h
      have h := hg95; clear hg95
      refine wP (v := .bool (decide ((0 : Int) < zfo))) rfl rfl (wP rfl rfl ?_)
      replace h := bsome h; obtain ⟨v99, h, hg99⟩ := h
      refine wl_split (t := 96) rfl (fun hc => ?_) (fun hc => ?_)
      · replace h := ct hc h
        refine wl_skip rfl rfl (wl_skip rfl rfl ?_)
        obtain rfl := sI h
        have h := hg99; clear hg99
        refine wP (v := .bool true) rfl rfl (wP rfl rfl ?_)
        replace h := bsome h; obtain ⟨v110, h, hg110⟩ := h
        replace h := ct rfl h
        refine wl_skip rfl rfl (wl_skip rfl rfl (wl_skip rfl rfl (wl_skip rfl rfl (wl_skip rfl rfl (wl_skip rfl rfl (wl_skip rfl rfl (wl_skip rfl rfl (wl_skip rfl rfl ?_))))))))
        obtain rfl := sI h
        have h := hg110; clear hg110
        refine wP (v := .bool true) rfl rfl (wl_nil (wx_then ?_))
        replace h := ct rfl h
        refine wc_cond_true rfl ?_
        refine wc_seq (wc_region (wP rfl rfl (wl_nil (wx_then (wc_ret (wx_then_ret (wx_block_ret (wx_then_ret ?_))))))))
        obtain rfl := Option.some.inj h
        have h := hl50; clear hl50; try dsimp only [orE_l, orE_r] at h
        refine wx_then_ret (wx_block_ret (wx_then_ret ?_))
        obtain rfl := sI h
        exact wx_pf tt_ok (.inl rfl) Tryd.results3 (Res.tmp rfl Res.nil) rfl
      replace h := cf hc h
      refine wl_run rfl (wP rfl rfl (wl_run rfl (wP (v := .bool (decide ((32 : Int) < zfo))) rfl rfl ?_)))
      obtain rfl := sI h
      have h := hg99; clear hg99
      refine wP (v := .bool (decide ((32 : Int) < zfo))) rfl rfl (wP rfl rfl ?_)
      replace h := bsome h; obtain ⟨v110, h, hg110⟩ := h
      refine wl_split (t := 100) rfl (fun hc => ?_) (fun hc => ?_)
      · replace h := ct hc h
        refine wl_skip rfl rfl (wl_skip rfl rfl (wl_skip rfl rfl (wl_skip rfl rfl (wl_skip rfl rfl (wl_skip rfl rfl (wl_skip rfl rfl (wl_skip rfl rfl (wl_skip rfl rfl ?_))))))))
        obtain rfl := sI h
        have h := hg110; clear hg110
        refine wP (v := .bool true) rfl rfl (wl_nil (wx_then ?_))
        replace h := ct rfl h
        refine wc_cond_true rfl ?_
        refine wc_seq (wc_region (wP rfl rfl (wl_nil (wx_then (wc_ret (wx_then_ret (wx_block_ret (wx_then_ret ?_))))))))
        obtain rfl := Option.some.inj h
        have h := hl50; clear hl50; try dsimp only [orE_l, orE_r] at h
        refine wx_then_ret (wx_block_ret (wx_then_ret ?_))
        obtain rfl := sI h
        exact wx_pf tt_ok (.inl rfl) Tryd.results3 (Res.tmp rfl Res.nil) rfl
      replace h := cf hc h
      refine wl_run rfl (wP rfl rfl (wl_run rfl (wP (v := .int .u64 (IntKind.wrap .u64 zfo)) rfl rfl (wl_run rfl (wP rfl rfl (wl_run rfl (wP (v := .int .u64 (IntKind.wrap .u64 (IntKind.wrap .i64 ((IntKind.wrap .i64 (Int.tmod p0.Sure 60)) + v64)))) rfl rfl (wl_run rfl (wP rfl rfl ?_)))))))))
      replace h := bsome h; obtain ⟨v106, x106, h⟩ := h
      refine wl_run rfl (wl_cq Tryd.call11 rfl rfl rfl (q_rd (k_rollback_Engine_C (p0 := (T_rollback_Engine.mk zbg zbh (T_api_State.mk zar zas zat zf zaj) zg)) (p0_4 := (T_queue_Queue.mk zcm zk zcn)) (p0_5 := (T_ring_Ring.mk zco zq)) zcp zcq zdd zde zee zef zei zeh x106) (pCons (sC hC) (pApp (sC (sC (sC (sC (sC hA'))))) (pApp (sC (sC (sC (sC (sC hA'))))) (pCons (sC hC) (pApp (sC (sC (sC (sC hA')))) (pCons (sC hC) (pApp (sC (sC (sC hA'))) pNil))))))) (fun _ _ => trivial)) rfl ?_)
      refine wl_run rfl (wP (v := .int .u64 (IntKind.wrap .u64 ((IntKind.wrap .u64 (IntKind.wrap .i64 ((IntKind.wrap .i64 (Int.tmod p0.Sure 60)) + v64))) - v106))) rfl rfl (wl_run rfl (wP (v := .int .u64 (min (32 : Int) (IntKind.wrap .u64 ((IntKind.wrap .u64 (IntKind.wrap .i64 ((IntKind.wrap .i64 (Int.tmod p0.Sure 60)) + v64))) - v106)))) rfl rfl (wl_run rfl (wP (v := .bool ((IntKind.wrap .u64 zfo) != (min (32 : Int) (IntKind.wrap .u64 ((IntKind.wrap .u64 (IntKind.wrap .i64 ((IntKind.wrap .i64 (Int.tmod p0.Sure 60)) + v64))) - v106))))) rfl rfl ?_)))))
      obtain rfl := sI h
      have h := hg110; clear hg110
      refine wP (v := .bool ((IntKind.wrap .u64 zfo) != (min (32 : Int) (IntKind.wrap .u64 ((IntKind.wrap .u64 (IntKind.wrap .i64 ((IntKind.wrap .i64 (Int.tmod p0.Sure 60)) + v64))) - v106))))) rfl rfl (wl_nil (wx_then (wc_cond rfl (fun hc => ?_) (fun hc => ?_))))
      · replace h := ct hc h
        refine wc_seq (wc_region (wP rfl rfl (wl_nil (wx_then (wc_ret (wx_then_ret (wx_block_ret (wx_then_ret ?_))))))))
        obtain rfl := Option.some.inj h
        have h := hl50; clear hl50; try dsimp only [orE_l, orE_r] at h
        refine wx_then_ret (wx_block_ret (wx_then_ret ?_))
        obtain rfl := sI h
        exact wx_pf tt_ok (.inl rfl) Tryd.results3 (Res.tmp rfl Res.nil) rfl
      replace h := cf hc h
      refine wc_skip (wx_then (wc_seq (wc_region ?_)))
      iterate 3 refine wP rfl rfl ?_
      replace h := bsome h; obtain ⟨v114, x114, h⟩ := h
      refine wl_cs Tryd.call12 rfl rfl rfl (s_sp (k_fold_History_Slice x114) (pCons (sC (sC (sC (sC (sC hC))))) pNil) (fun _ _ => trivial)) rfl ?_
      rintro _ _ ⟨_, ⟨v114a0, v114n0, v114c0, v114B0, v114N0, v114V0, rfl, rfl⟩, rfl⟩
      refine wP rfl rfl (wl_nil (wx_then (wc_seq (wc_seq (wc_region (wP rfl rfl (wl_nil (wx_then (wc_block ?_)))))))))
      replace h := bsome h; obtain ⟨o75, h, hl75⟩ := h
      refine wc_loop (fun m E L => ∃ (zfs : Int) (zby : Int) (ze : (List Int)) (zbz : Int) (zca : Int) (zm : (Arr T_ring_place 14)) (zcf : Option Addr) (zbp : Nat) (zcg : Nat) (zce : List Blk) (zbq : List (T_ring_place × G)) (zch : List Blk), m_hindcastlaw28_BackfillFills_L74_1 F p0 zdc zbg zbh zar zas zat zf zaj zg zbo zit zfo v114 m zfs zby ze zbz zca zm = some o75 ∧ zbp = ze.length ∧ Own 34 1 zcf zbp zcg (flat (e1 .u8) ze) zce ∧ zm.1 = unG zbq ∧ AllP sh_T_ring_place c_T_api_Shot zch zbq ∧ E = [(2, .bool p2), (3, .pointer (some ⟨b3, 0, none⟩)), (6, .bool false), (9, .pointer (some ⟨zr, 0, none⟩)), (10, .pointer (some ⟨zcl, 0, none⟩)), (11, .int .i64 (IntKind.wrap .i64 ((IntKind.wrap .i64 (Int.tmod p0.Sure 60)) + v64))), (12, .pointer (some ⟨zhu, 0, none⟩)), (14, .int .i64 zdc), (15, .int .u64 zit), (16, .int .i64 zfo), (17, .slice v114a0 v114n0 v114c0), (18, .int .i64 zfs)] ∧ L = (⟨b3, [.int .u64 p0.Seed, .int .u8 p0.Player, .int .u8 p0.Window, .int .u8 p0.Sure, .int .u8 p0.Ahead, .int .u8 p0.Told, .int .u8 p0.From, .slice p0a0 p0n0 p0c0, .slice p0a1 p0n1 p0c1], 25, (0, 0)⟩ :: (⟨zr, (.int .u8 zbg :: .int .i64 zbh :: .int .u64 zar :: .int .u64 zas :: pl14 zat [.slice zdh zcr zdi, .int .u16 zaj.1, .int .u16 zaj.2, .slice zea zdf zeb, .pointer (some ⟨zbm, 0, none⟩), .pointer (some ⟨zbn, 0, none⟩)]), 73, (0, 0)⟩ :: (⟨zbm, [.int .u64 zby, .slice zcf zbp zcg, .int .u8 zbz], 103, (0, 0)⟩ :: (⟨zbn, ([.int .i64 zca] ++ flat cg_T_ring_place zbq), 121, (0, 0)⟩ :: (⟨zcl, ([.int .u64 zbo.from_, .int .u64 zbo.count, .int .u64 zbo.most] ++ flat (e2 .u8) zbo.ring.1), 68, (0, 0)⟩ :: (⟨zhu, ([.int .u64 zdb.from_, .int .u64 zdb.count, .int .u64 zdb.most] ++ flat (e2 .u8) zdb.ring.1), 68, (0, 0)⟩ :: (zdg ++ (zdz ++ (zce ++ (zch ++ (v114B0 ++ [])))))))))))) F ⟨(0 : Int), zcm, zk, zcn, zco, zq, zfa, zeg, zfb, zez, zej, zfc, h, zee, zef, zei, zeh, rfl, rfl⟩ (agree_cons rfl (agree_cons rfl (agree_cons rfl (agree_cons rfl (agree_cons rfl (agree_cons rfl (agree_cons rfl (agree_cons rfl (agree_cons rfl (agree_cons rfl (agree_cons rfl (agree_cons rfl agree_nil)))))))))))) (pSub (pCons (sC (sA hC)) (pCons (sC (sA hC)) (pCons (sC (sA hC)) (pCons (sC (sA hC)) (pCons (sC (sA hC)) (pH (pApp (sA hA') (pApp (sA hA') (pApp (sA hA') (pApp (sA hA') (pA pNil)))))))))))) ?_
      clear h
      rintro m75 _ _ ⟨zfs, zby, ze, zbz, zca, zm, zcf, zbp, zcg, zce, zbq, zch, h, zfd, zfe, zfg, zff, rfl, rfl⟩
      rcases m75 with _ | m75
      · rw [m_hindcastlaw28_BackfillFills_L74_1.eq_1] at h; cases h
      rw [m_hindcastlaw28_BackfillFills_L74_1.eq_2] at h
      refine wc_seq (wc_seq (wc_region ?_))
      iterate 2 refine wP rfl rfl ?_
      refine wP (v := .int .i64 (IntKind.wrap .i64 ((1 : Int) + zdc))) rfl rfl (wP (v := .bool (decide (zfs < (IntKind.wrap .i64 ((1 : Int) + zdc))))) rfl rfl (wl_nil (wx_then (wc_cond rfl (fun hc => ?_) (fun hc => ?_)))))
      · replace h := ct hc h
        refine wc_skip (wx_then (wc_seq (wc_block (wc_seq (wc_region ?_)))))
        iterate 2 refine wP rfl rfl ?_
        refine wP (v := .pointer (some ⟨b3, 1, none⟩)) rfl rfl (wl_val (v := .int .u8 p0.Player) (val_load tt_ok rfl (mH) rfl) rfl (wP (v := .int .u8 (Int.tmod p0.Player 2)) rfl rfl ?_))
        iterate 2 refine wP rfl rfl ?_
        replace h := bsome h; obtain ⟨⟨zck, zeo, ziv, zhv⟩, x129, h⟩ := h; try dsimp only at h
        refine wl_cs Tryd.call13 rfl rfl rfl (s_sp (k_backfill_Pairs (p0 := (T_rollback_Engine.mk zbg zbh (T_api_State.mk zar zas zat zf zaj) zg)) (p0_4 := (T_queue_Queue.mk zby ze zbz)) (p0_5 := (T_ring_Ring.mk zca zm)) (p4 := v114) zcp zcq zdd zde zfd zfe zfg zff v114N0 (vec_cap v114V0) x129) (pCons (sC hC) (pApp (sC (sC (sC (sC (sC hA'))))) (pApp (sC (sC (sC (sC (sC hA'))))) (pCons (sC hC) (pApp (sC (sC (sC (sC hA')))) (pCons (sC hC) (pApp (sC (sC (sC hA'))) (pCons (sC hC) pNil)))))))) (Rds.call (Rds.of_vec v114V0) (pCons (sC hC) (pApp (sC (sC (sC (sC (sC hA'))))) (pApp (sC (sC (sC (sC (sC hA'))))) (pCons (sC hC) (pApp (sC (sC (sC (sC hA')))) (pCons (sC hC) (pApp (sC (sC (sC hA'))) (pCons (sC hC) pNil)))))))) ⟨_, (sC (sC hA'))⟩)) rfl ?_
        rintro _ _ ⟨_, ⟨zie, zig, zif, zib, zik, zij, zic, zid, zii, zih, rfl, rfl⟩, rfl⟩
        iterate 5 refine wP rfl rfl ?_
        refine wl_nil (wx_then (wc_seq (wc_region ?_)))
        iterate 2 refine wP rfl rfl ?_
        refine wP (v := .bool (ziv != zfo)) rfl rfl (wP rfl rfl ?_)
        replace h := bsome h; obtain ⟨v138, h, hg138⟩ := h
        refine wl_split (t := 135) rfl (fun hc => ?_) (fun hc => ?_)
        · replace h := ct hc h
          refine wl_skip rfl rfl (wl_skip rfl rfl ?_)
          obtain rfl := sI h
          have h := hg138; clear hg138
          refine wP (v := .bool true) rfl rfl (wl_nil (wx_then ?_))
          replace h := ct rfl h
          refine wc_cond_true rfl ?_
          refine wc_seq (wc_region (wP rfl rfl (wl_nil (wx_then (wc_ret (wx_block_ret (wx_then_ret ?_)))))))
          obtain rfl := Option.some.inj h
          have h := hl75; clear hl75; try dsimp only [orE_l, orE_r] at h
          refine wx_then_ret (wx_block_ret (wx_then_ret (wx_block_ret (wx_then_ret ?_))))
          obtain rfl := Option.some.inj h
          have h := hl50; clear hl50; try dsimp only [orE_l, orE_r] at h
          refine wx_then_ret (wx_block_ret (wx_then_ret ?_))
          obtain rfl := sI h
          exact wx_pf tt_ok (.inl rfl) Tryd.results3 (Res.tmp rfl Res.nil) rfl
        replace h := cf hc h
        refine wl_run rfl (wP rfl rfl (wl_run rfl (wP (v := .bool (zhv != (0 : Int))) rfl rfl ?_)))
        obtain rfl := sI h
        have h := hg138; clear hg138
        refine wP (v := .bool (zhv != (0 : Int))) rfl rfl (wl_nil (wx_then (wc_cond rfl (fun hc => ?_) (fun hc => ?_))))
        · replace h := ct hc h
          refine wc_seq (wc_region (wP rfl rfl (wl_nil (wx_then (wc_ret (wx_block_ret (wx_then_ret ?_)))))))
          obtain rfl := Option.some.inj h
          have h := hl75; clear hl75; try dsimp only [orE_l, orE_r] at h
          refine wx_then_ret (wx_block_ret (wx_then_ret (wx_block_ret (wx_then_ret ?_))))
          obtain rfl := Option.some.inj h
          have h := hl50; clear hl50; try dsimp only [orE_l, orE_r] at h
          refine wx_then_ret (wx_block_ret (wx_then_ret ?_))
          obtain rfl := sI h
          exact wx_pf tt_ok (.inl rfl) Tryd.results3 (Res.tmp rfl Res.nil) rfl
        replace h := cf hc h
        refine wc_skip (wx_block (wx_then (wc_region (wP rfl rfl (wP (v := .int .i64 (IntKind.wrap .i64 (zfs + (1 : Int)))) rfl rfl (wP rfl rfl (wl_nil ?_)))))))
        exact wx_round m75 (Nat.lt_succ_self m75) ⟨(IntKind.wrap .i64 (zfs + (1 : Int))), zck.first_, zck.l, zck.last, zeo.size, zeo.places, zie, zig, zif, zib, zik, zij, h, zic, zid, zii, zih, rfl, rfl⟩ (agree_cons rfl (agree_cons rfl (agree_cons rfl (agree_cons rfl (agree_cons rfl (agree_cons rfl (agree_cons rfl (agree_cons rfl (agree_cons rfl (agree_cons rfl (agree_cons rfl (agree_cons rfl agree_nil)))))))))))) (pSub (pCons (sC (sA (sA (sC (sA (sC (sA (sC hC)))))))) (pH (pCons (sA (sA hC)) (pCons (sA (sA (sA hC))) (pCons (sA (sA (sA (sA hC)))) (pCons (sA (sA (sA (sA hC)))) (pA (pA (pA (pA (pA pNil))))))))))))
      replace h := cf hc h
      refine wc_exit (wx_then_exit ?_)
      obtain rfl := Option.some.inj h
      have h := hl75; clear hl75; try dsimp only [orE_l, orE_r] at h
      refine wx_then_exit (wx_block_exit (wx_then (wc_seq (wc_seq (wc_region ?_)))))
      refine wP rfl rfl (wl_nil (wx_then (wc_block ?_)))
      replace h := bsome h; obtain ⟨o98, h, hl98⟩ := h
      refine wc_loop (fun m E L => ∃ (zft : Int) (zab : Int) (zac : Int) (zy : Int) (zz : Int) (zaa : (T_api_Player × T_api_Player)) (zb : (List T_api_Shot)) (zu : (Int × Int)) (zc : (List Int)) (zv : Int) (za : (List Int)) (zw : Int) (zx : Int) (zd : (Arr T_ring_place 14)) (zbf : T_fold_History) (zbc : Option Addr) (zao : Nat) (zbd : Nat) (zbb : List Blk) (zbk : Option Addr) (zau : Nat) (zbl : Nat) (zbj : List Blk) (zay : Option Addr) (zam : Nat) (zaz : Nat) (zax : List Blk) (zan : List (T_ring_place × G)) (zba : List Blk), m_hindcastlaw28_BackfillFills_L97_1 F p0 p2 v64 false m zft zab zac zy zz zaa zb zu zc zv za zw zx zd zbf = some o98 ∧ zao = zb.length ∧ Own 92 6 zbc zao zbd (flat c_T_api_Shot zb) zbb ∧ zau = zc.length ∧ Own 34 1 zbk zau zbl (flat (e1 .u8) zc) zbj ∧ zam = za.length ∧ Own 34 1 zay zam zaz (flat (e1 .u8) za) zax ∧ zd.1 = unG zan ∧ AllP sh_T_ring_place c_T_api_Shot zba zan ∧ E = [(2, .bool p2), (3, .pointer (some ⟨b3, 0, none⟩)), (6, .bool false), (9, .pointer (some ⟨zr, 0, none⟩)), (10, .pointer (some ⟨zcl, 0, none⟩)), (11, .int .i64 (IntKind.wrap .i64 ((IntKind.wrap .i64 (Int.tmod p0.Sure 60)) + v64))), (12, .pointer (some ⟨zhu, 0, none⟩)), (14, .int .i64 zdc), (21, .int .i64 zft)] ∧ L = (⟨b3, [.int .u64 p0.Seed, .int .u8 p0.Player, .int .u8 p0.Window, .int .u8 p0.Sure, .int .u8 p0.Ahead, .int .u8 p0.Told, .int .u8 p0.From, .slice p0a0 p0n0 p0c0, .slice p0a1 p0n1 p0c1], 25, (0, 0)⟩ :: (⟨zr, (.int .u8 zab :: .int .i64 zac :: .int .u64 zy :: .int .u64 zz :: pl14 zaa [.slice zbc zao zbd, .int .u16 zu.1, .int .u16 zu.2, .slice zbk zau zbl, .pointer (some ⟨zbm, 0, none⟩), .pointer (some ⟨zbn, 0, none⟩)]), 73, (0, 0)⟩ :: (⟨zbm, [.int .u64 zv, .slice zay zam zaz, .int .u8 zw], 103, (0, 0)⟩ :: (⟨zbn, ([.int .i64 zx] ++ flat cg_T_ring_place zan), 121, (0, 0)⟩ :: (⟨zcl, ([.int .u64 zbf.from_, .int .u64 zbf.count, .int .u64 zbf.most] ++ flat (e2 .u8) zbf.ring.1), 68, (0, 0)⟩ :: (⟨zhu, ([.int .u64 zdb.from_, .int .u64 zdb.count, .int .u64 zdb.most] ++ flat (e2 .u8) zdb.ring.1), 68, (0, 0)⟩ :: (zbb ++ (zbj ++ (zax ++ (zba ++ []))))))))))) F ⟨(0 : Int), zbg, zbh, zar, zas, zat, zf, zaj, zg, zby, ze, zbz, zca, zm, zbo, zdh, zcr, zdi, zdg, zea, zdf, zeb, zdz, zcf, zbp, zcg, zce, zbq, zch, h, zcp, zcq, zdd, zde, zfd, zfe, zfg, zff, rfl, rfl⟩ (agree_cons rfl (agree_cons rfl (agree_cons rfl (agree_cons rfl (agree_cons rfl (agree_cons rfl (agree_cons rfl (agree_cons rfl (agree_cons rfl agree_nil))))))))) (pSub (pH (pH (pH (pH (pH (pH (pA (pA (pA (pA pNil))))))))))) ?_
      clear h
      rintro m98 _ _ ⟨zft, zab, zac, zy, zz, zaa, zb, zu, zc, zv, za, zw, zx, zd, zbf, zbc, zao, zbd, zbb, zbk, zau, zbl, zbj, zay, zam, zaz, zax, zan, zba, h, zah, zai, zak, zal, zad, zae, zag, zaf, rfl, rfl⟩
      rcases m98 with _ | m98
      · rw [m_hindcastlaw28_BackfillFills_L97_1.eq_1] at h; cases h
      rw [m_hindcastlaw28_BackfillFills_L97_1.eq_2] at h
      refine wc_seq (wc_seq (wc_region (wP rfl rfl (wP (v := .bool (decide (zft < (20 : Int)))) rfl rfl (wP rfl rfl ?_)))))
      replace h := bsome h; obtain ⟨v147, h, hg147⟩ := h
      refine wl_split (t := 141) rfl (fun hc => ?_) (fun hc => ?_)
      · replace h := ct hc h
        refine wl_run rfl (wP rfl rfl ?_)
        replace h := bsome h; obtain ⟨v143, x143, h⟩ := h
        refine wl_run rfl (wl_cq Tryd.call11 rfl rfl rfl (q_rd (k_rollback_Engine_C (p0 := (T_rollback_Engine.mk zab zac (T_api_State.mk zy zz zaa zb zu) zc)) (p0_4 := (T_queue_Queue.mk zv za zw)) (p0_5 := (T_ring_Ring.mk zx zd)) zah zai zak zal zad zae zag zaf x143) (pCons (sC hC) (pApp (sC (sC (sC (sC (sC hA'))))) (pApp (sC (sC (sC (sC (sC hA'))))) (pCons (sC hC) (pApp (sC (sC (sC (sC hA')))) (pCons (sC hC) (pApp (sC (sC (sC hA'))) pNil))))))) (fun _ _ => trivial)) rfl ?_)
        refine wl_run rfl (wP rfl rfl (wl_run rfl (wP (v := .int .u64 (IntKind.wrap .u64 (IntKind.wrap .i64 ((IntKind.wrap .i64 (Int.tmod p0.Sure 60)) + v64)))) rfl rfl (wl_run rfl (wP (v := .bool (decide (v143 < (IntKind.wrap .u64 (IntKind.wrap .i64 ((IntKind.wrap .i64 (Int.tmod p0.Sure 60)) + v64)))))) rfl rfl ?_)))))
        obtain rfl := sI h
        have h := hg147; clear hg147
        refine wP (v := .bool (decide (v143 < (IntKind.wrap .u64 (IntKind.wrap .i64 ((IntKind.wrap .i64 (Int.tmod p0.Sure 60)) + v64)))))) rfl rfl (wP rfl rfl ?_)
        replace h := bsome h; obtain ⟨v150, h, hg150⟩ := h
        refine wl_split (t := 148) rfl (fun hc => ?_) (fun hc => ?_)
        · replace h := ct hc h
          refine wl_run rfl (wP rfl rfl ?_)
          obtain rfl := sI h
          have h := hg150; clear hg150
          refine wP (v := .bool p2) rfl rfl (wl_nil (wx_then (wc_cond rfl (fun hc => ?_) (fun hc => ?_))))
          · replace h := ct hc h
            refine wc_skip (wx_then (wc_seq (wc_block (wc_seq (wc_region ?_)))))
            iterate 2 refine wP rfl rfl ?_
            refine wP (v := .int .u64 (IntKind.wrap .u64 (IntKind.wrap .i64 ((IntKind.wrap .i64 (Int.tmod p0.Sure 60)) + v64)))) rfl rfl ?_
            replace h := bsome h; obtain ⟨⟨zt, zbe, zda, zep, ziw⟩, x157, h⟩ := h; try dsimp only at h
            refine wl_cs Tryd.call14 rfl rfl rfl (s_sp (k_rollback_Engine_Confirm (p0 := (T_rollback_Engine.mk zab zac (T_api_State.mk zy zz zaa zb zu) zc)) (p0_4 := (T_queue_Queue.mk zv za zw)) (p0_5 := (T_ring_Ring.mk zx zd)) zah zai zak zal zad zae zag zaf x157) (pCons (sC hC) (pApp (sC (sC (sC (sC (sC hA'))))) (pApp (sC (sC (sC (sC (sC hA'))))) (pCons (sC hC) (pApp (sC (sC (sC (sC hA')))) (pCons (sC hC) (pApp (sC (sC (sC hA'))) pNil))))))) (fun w hI => ⟨(Rds.call G0S (pCons (sC hC) (pApp (sC (sC (sC (sC (sC hA'))))) (pApp (sC (sC (sC (sC (sC hA'))))) (pCons (sC hC) (pApp (sC (sC (sC (sC hA')))) (pCons (sC hC) (pApp (sC (sC (sC hA'))) pNil))))))) rsub_nil) w hI, (Rds.call G1S (pCons (sC hC) (pApp (sC (sC (sC (sC (sC hA'))))) (pApp (sC (sC (sC (sC (sC hA'))))) (pCons (sC hC) (pApp (sC (sC (sC (sC hA')))) (pCons (sC hC) (pApp (sC (sC (sC hA'))) pNil))))))) rsub_nil) w hI⟩)) rfl ?_
            rintro _ _ ⟨_, ⟨zgh, zgl, zgj, zgf, zgi, zgm, zgk, zgg, zgo, zgq, zgp, zgn, zgs, zgr, zil, zin, zim, zio, zip, ziq, zis, zir, rfl, rfl⟩, rfl⟩
            iterate 3 refine wP rfl rfl ?_
            refine wl_alloc tt_ok rfl rfl (fun b22 => ?_)
            apply wl_store tt_ok; rfl; exact Upd.here; rfl; rfl; rfl; rfl; rfl; rfl
            refine wP rfl rfl (wl_nil (wx_then (wc_seq (wc_k2 (Ls := (⟨b22, [.int .u8 zep.1, .int .u8 zep.2], 36, (0, 0)⟩ :: (⟨zr, (.int .u8 zt.player :: .int .i64 zt.window :: st19 zt.sure zgh zgl zgj [.slice zgi zgm zgk, .pointer (some ⟨zbm, 0, none⟩), .pointer (some ⟨zbn, 0, none⟩)]), 73, (0, 0)⟩ :: (zgf ++ (zgg ++ (⟨zbm, [.int .u64 zbe.first_, .slice zgo zgq zgp, .int .u8 zbe.last], 103, (0, 0)⟩ :: (zgn ++ (⟨zbn, ([.int .i64 zda.size] ++ flat cg_T_ring_place zgs), 121, (0, 0)⟩ :: (zgr ++ (⟨b3, [.int .u64 p0.Seed, .int .u8 p0.Player, .int .u8 p0.Window, .int .u8 p0.Sure, .int .u8 p0.Ahead, .int .u8 p0.Told, .int .u8 p0.From, .slice p0a0 p0n0 p0c0, .slice p0a1 p0n1 p0c1], 25, (0, 0)⟩ :: (⟨zhu, ([.int .u64 zdb.from_, .int .u64 zdb.count, .int .u64 zdb.most] ++ flat (e2 .u8) zdb.ring.1), 68, (0, 0)⟩ :: []))))))))))) [6, 8, 14] [] [0, 1, 3, 7, 7, 7, 39, 103, 247, 511, 1023, 2047, 4095, 4095, 16383, 32767, 65535] [0, 1, 2, 3, 4, 5, 6, 7, 8, 9, 10, 11, 12, 13, 14, 15, 16] (by kernel_rfl) (by kernel_rfl) (by kernel_rfl) ?_))))
            refine k_val rfl rfl rfl (pSub (pH (pH (pA (pA (pH (pA (pH (pA (pH (pCons (sC hC) pNil))))))))))) (stepV_ok tt_ok rfl) rfl ?_
            refine k_val (v := .bool (!ziw)) rfl rfl rfl (pSub (pH (pH (pA (pA (pH (pA (pH (pA (pH (pCons (sC hC) pNil))))))))))) (stepV_ok tt_ok rfl) rfl ?_
            refine k_val rfl rfl rfl (pSub (pH (pH (pA (pA (pH (pA (pH (pA (pH (pCons (sC hC) pNil))))))))))) (stepV_ok tt_ok rfl) rfl ?_
            replace h := bsome h; obtain ⟨v170, h, hg170⟩ := h
            refine k_split (t := 162) rfl (fun hc => ?_) (fun hc => ?_)
            · replace h := ct hc h
              refine k_skip rfl rfl (pSub (pH (pH (pA (pA (pH (pA (pH (pA (pH (pCons (sC hC) pNil))))))))))) rfl ?_
              refine k_skip rfl rfl (pSub (pH (pH (pA (pA (pH (pA (pH (pA (pH (pCons (sC hC) pNil))))))))))) rfl ?_
              refine k_skip rfl rfl (pSub (pH (pH (pA (pA (pH (pA (pH (pA (pH (pCons (sC hC) pNil))))))))))) rfl ?_
              refine k_skip rfl rfl (pSub (pH (pH (pA (pA (pH (pA (pH (pA (pH (pCons (sC hC) pNil))))))))))) rfl ?_
              refine k_skip rfl rfl (pSub (pH (pH (pA (pA (pH (pA (pH (pA (pH (pCons (sC hC) pNil))))))))))) rfl ?_
              refine k_skip rfl rfl (pSub (pH (pH (pA (pA (pH (pA (pH (pA (pH (pCons (sC hC) pNil))))))))))) rfl ?_
              refine k_skip rfl rfl (pSub (pH (pH (pA (pA (pH (pA (pH (pA (pH (pCons (sC hC) pNil))))))))))) rfl ?_
              obtain rfl := sI h
              have h := hg170; clear hg170
              refine k_val (v := .bool true) rfl rfl rfl (pSub (pH (pH (pA (pA (pH (pA (pH (pA (pH (pCons (sC hC) pNil))))))))))) (stepV_ok tt_ok rfl) rfl ?_
              refine k_val rfl rfl rfl (pSub (pH (pH (pA (pA (pH (pA (pH (pA (pH (pCons (sC hC) pNil))))))))))) (stepV_ok tt_ok rfl) rfl ?_
              replace h := bsome h; obtain ⟨⟨v176, zgd⟩, h, hg176⟩ := h
              replace h := ct rfl h
              refine k_skip rfl rfl (pSub (pH (pH (pA (pA (pH (pA (pH (pA (pH (pCons (sC hC) pNil))))))))))) rfl ?_
              refine k_skip rfl rfl (pSub (pH (pH (pA (pA (pH (pA (pH (pA (pH (pCons (sC hC) pNil))))))))))) rfl ?_
              refine k_skip rfl rfl (pSub (pH (pH (pA (pA (pH (pA (pH (pA (pH (pCons (sC hC) pNil))))))))))) rfl ?_
              refine k_skip rfl rfl (pSub (pH (pH (pA (pA (pH (pA (pH (pA (pH (pCons (sC hC) pNil))))))))))) rfl ?_
              simp only [Option.some.injEq, Prod.mk.injEq] at h
              obtain ⟨rfl, rfl⟩ := h
              have h := hg176; clear hg176; try dsimp only at h
              refine k_val (v := .bool true) rfl rfl rfl (pSub (pH (pH (pA (pA (pH (pA (pH (pA (pH (pCons (sC hC) pNil))))))))))) (stepV_ok tt_ok rfl) rfl ?_
              refine k_end (by kernel_rfl) ?_
              refine wx_then ?_
              replace h := ct rfl h
              refine wc_cond_true rfl ?_
              refine wc_seq (wc_region (wP rfl rfl (wl_nil (wx_then (wc_ret (wx_block_ret (wx_then_ret ?_)))))))
              obtain rfl := Option.some.inj h
              have h := hl98; clear hl98; try dsimp only [orE_l, orE_r] at h
              refine wx_then_ret (wx_block_ret (wx_then_ret (wx_block_ret (wx_then_ret ?_))))
              obtain rfl := Option.some.inj h
              have h := hl50; clear hl50; try dsimp only [orE_l, orE_r] at h
              refine wx_then_ret (wx_block_ret (wx_then_ret ?_))
              obtain rfl := sI h
              exact wx_pf tt_ok (.inl rfl) Tryd.results3 (Res.tmp rfl Res.nil) rfl
            replace h := cf hc h
            refine k_val (v := .agg #[.int .u8 zep.1, .int .u8 zep.2]) rfl rfl rfl (pSub (pH (pH (pA (pA (pH (pA (pH (pA (pH (pCons (sC hC) pNil))))))))))) (val_load tt_ok rfl (mH) rfl) rfl ?_
            refine k_val (v := .agg #[.int .u64 p0.Seed, .int .u8 p0.Player, .int .u8 p0.Window, .int .u8 p0.Sure, .int .u8 p0.Ahead, .int .u8 p0.Told, .int .u8 p0.From, .slice p0a0 p0n0 p0c0, .slice p0a1 p0n1 p0c1]) rfl rfl rfl (pSub (pH (pH (pA (pA (pH (pA (pH (pA (pH (pCons (sC hC) pNil))))))))))) (val_load tt_ok rfl (mT (mT (mR (mR (mT (mR (mT (mR (mH))))))))) rfl) rfl ?_
            refine k_val rfl rfl rfl (pSub (pH (pH (pA (pA (pH (pA (pH (pA (pH (pCons (sC hC) pNil))))))))))) (stepV_ok tt_ok rfl) rfl ?_
            replace h := bsome h; obtain ⟨v166, x166, h⟩ := h
            refine k_cq rfl rfl rfl Tryd.call15 rfl rfl rfl (q_rd (k_fold_History_Count x166) (pCons (sC (sC (sA (sA (sC (sA (sC (sA (sC hC))))))))) pNil) (fun _ _ => trivial)) rfl (pSub (pH (pH (pA (pA (pH (pA (pH (pA (pH (pCons (sC hC) pNil))))))))))) ?_
            refine k_val (v := .int .i64 (IntKind.wrap .i64 v166)) rfl rfl rfl (pSub (pH (pH (pA (pA (pH (pA (pH (pA (pH (pCons (sC hC) pNil))))))))))) (stepV_ok tt_ok rfl) rfl ?_
            replace h := bsome h; obtain ⟨v168, x168, h⟩ := h
            refine k_cq rfl rfl rfl Tryd.call9 rfl rfl rfl (q_pf (k_hindcastlaw28_Setup_pair (p0 := p0) p0N0 p0H0 p0N1 p0H1 x168) (fun w hI => ⟨(Rds.call p0S0 pNil rsub_nil) w hI, (Rds.call p0S1 pNil rsub_nil) w hI⟩)) rfl (pSub (pH (pH (pA (pA (pH (pA (pH (pA (pH (pCons (sC hC) pNil))))))))))) ?_
            refine k_val (v := .bool (!((zep.1 == v168.1) && (zep.2 == v168.2)))) rfl rfl rfl (pSub (pH (pH (pA (pA (pH (pA (pH (pA (pH (pCons (sC hC) pNil))))))))))) (val_nes tt_ok tt_eq tt_one Tryd.eqGuardType36 rfl rfl rfl rfl rfl) rfl ?_
            obtain rfl := sI h
            have h := hg170; clear hg170
            refine k_val (v := .bool (!((zep.1 == v168.1) && (zep.2 == v168.2)))) rfl rfl rfl (pSub (pH (pH (pA (pA (pH (pA (pH (pA (pH (pCons (sC hC) pNil))))))))))) (stepV_ok tt_ok rfl) rfl ?_
            refine k_val rfl rfl rfl (pSub (pH (pH (pA (pA (pH (pA (pH (pA (pH (pCons (sC hC) pNil))))))))))) (stepV_ok tt_ok rfl) rfl ?_
            replace h := bsome h; obtain ⟨⟨v176, zgd⟩, h, hg176⟩ := h
            refine k_split (t := 171) rfl (fun hc => ?_) (fun hc => ?_)
            · replace h := ct hc h
              refine k_skip rfl rfl (pSub (pH (pH (pA (pA (pH (pA (pH (pA (pH (pCons (sC hC) pNil))))))))))) rfl ?_
              refine k_skip rfl rfl (pSub (pH (pH (pA (pA (pH (pA (pH (pA (pH (pCons (sC hC) pNil))))))))))) rfl ?_
              refine k_skip rfl rfl (pSub (pH (pH (pA (pA (pH (pA (pH (pA (pH (pCons (sC hC) pNil))))))))))) rfl ?_
              refine k_skip rfl rfl (pSub (pH (pH (pA (pA (pH (pA (pH (pA (pH (pCons (sC hC) pNil))))))))))) rfl ?_
              simp only [Option.some.injEq, Prod.mk.injEq] at h
              obtain ⟨rfl, rfl⟩ := h
              have h := hg176; clear hg176; try dsimp only at h
              refine k_val (v := .bool true) rfl rfl rfl (pSub (pH (pH (pA (pA (pH (pA (pH (pA (pH (pCons (sC hC) pNil))))))))))) (stepV_ok tt_ok rfl) rfl ?_
              refine k_end (by kernel_rfl) ?_
              refine wx_then ?_
              replace h := ct rfl h
              refine wc_cond_true rfl ?_
              refine wc_seq (wc_region (wP rfl rfl (wl_nil (wx_then (wc_ret (wx_block_ret (wx_then_ret ?_)))))))
              obtain rfl := Option.some.inj h
              have h := hl98; clear hl98; try dsimp only [orE_l, orE_r] at h
              refine wx_then_ret (wx_block_ret (wx_then_ret (wx_block_ret (wx_then_ret ?_))))
              obtain rfl := Option.some.inj h
              have h := hl50; clear hl50; try dsimp only [orE_l, orE_r] at h
              refine wx_then_ret (wx_block_ret (wx_then_ret ?_))
              obtain rfl := sI h
              exact wx_pf tt_ok (.inl rfl) Tryd.results3 (Res.tmp rfl Res.nil) rfl
            replace h := cf hc h
            refine k_val rfl rfl rfl (pSub (pH (pH (pA (pA (pH (pA (pH (pA (pH (pCons (sC hC) pNil))))))))))) (stepV_ok tt_ok rfl) rfl ?_
            refine k_val (v := .agg #[.int .u8 zep.1, .int .u8 zep.2]) rfl rfl rfl (pSub (pH (pH (pA (pA (pH (pA (pH (pA (pH (pCons (sC hC) pNil))))))))))) (val_load tt_ok rfl (mH) rfl) rfl ?_
            replace h := bsome h; obtain ⟨⟨ziu, v174⟩, x174, h⟩ := h; try dsimp only at h
            refine k_cs rfl rfl rfl Tryd.call8 rfl rfl rfl (s_sp (k_fold_History_Add x174) (pCons (sC (sC (sA (sA (sC (sA (sC (sA (sC hC))))))))) pNil) (fun _ _ => trivial)) rfl (.inr (by rintro _ _ ⟨_, ⟨rfl, rfl⟩, rfl⟩; exact ⟨_, (pCons (sC hC) (pCons (sC hC) (pApp (sC hA') (pApp (sC hA') (pCons (sC hC) (pApp (sC hA') (pCons (sC hC) (pApp (sC hA') (pCons (sC hC) (pCons (sC hC) pNil))))))))))⟩)) ?_
            rintro _ _ ⟨_, ⟨rfl, rfl⟩, rfl⟩
            refine k_val (v := .bool (v174 != (0 : Int))) rfl rfl rfl (pSub (pCons (sC hC) (pCons (sC hC) (pApp (sC hA') (pApp (sC hA') (pCons (sC hC) (pApp (sC hA') (pCons (sC hC) (pApp (sC hA') (pCons (sC hC) (pCons (sC hC) pNil))))))))))) (stepV_ok tt_ok rfl) rfl ?_
            simp only [Option.some.injEq, Prod.mk.injEq] at h
            obtain ⟨rfl, rfl⟩ := h
            have h := hg176; clear hg176; try dsimp only at h
            refine k_val (v := .bool (v174 != (0 : Int))) rfl rfl rfl (pSub (pCons (sC hC) (pCons (sC hC) (pApp (sC hA') (pApp (sC hA') (pCons (sC hC) (pApp (sC hA') (pCons (sC hC) (pApp (sC hA') (pCons (sC hC) (pCons (sC hC) pNil))))))))))) (stepV_ok tt_ok rfl) rfl ?_
            refine k_end (by kernel_rfl) ?_
            refine wx_then (wc_cond rfl (fun hc => ?_) (fun hc => ?_))
            · replace h := ct hc h
              refine wc_seq (wc_region (wP rfl rfl (wl_nil (wx_then (wc_ret (wx_block_ret (wx_then_ret ?_)))))))
              obtain rfl := Option.some.inj h
              have h := hl98; clear hl98; try dsimp only [orE_l, orE_r] at h
              refine wx_then_ret (wx_block_ret (wx_then_ret (wx_block_ret (wx_then_ret ?_))))
              obtain rfl := Option.some.inj h
              have h := hl50; clear hl50; try dsimp only [orE_l, orE_r] at h
              refine wx_then_ret (wx_block_ret (wx_then_ret ?_))
              obtain rfl := sI h
              exact wx_pf tt_ok (.inl rfl) Tryd.results3 (Res.tmp rfl Res.nil) rfl
            replace h := cf hc h
            refine wc_skip (wx_block (wx_then (wc_region (wP rfl rfl (wP (v := .int .i64 (IntKind.wrap .i64 (zft + (1 : Int)))) rfl rfl (wP rfl rfl (wl_nil ?_)))))))
            exact wx_round m98 (Nat.lt_succ_self m98) ⟨(IntKind.wrap .i64 (zft + (1 : Int))), zt.player, zt.window, zt.sure.Frame, zt.sure.Seed, zt.sure.Players, zt.sure.Shots, zt.sure.Score, zt.own, zbe.first_, zbe.l, zbe.last, zda.size, zda.places, ziu, zgh, zgl, zgj, zgf, zgi, zgm, zgk, zgg, zgo, zgq, zgp, zgn, zgs, zgr, h, zil, zin, zim, zio, zip, ziq, zis, zir, rfl, rfl⟩ (agree_cons rfl (agree_cons rfl (agree_cons rfl (agree_cons rfl (agree_cons rfl (agree_cons rfl (agree_cons rfl (agree_cons rfl (agree_cons rfl agree_nil))))))))) (pSub (pCons (sC (sC (sC (sA (sA (sC (sA (sC (sA hC))))))))) (pCons (sC (sC hC)) (pCons (sC (sC (sA (sA hC)))) (pCons (sC (sC (sA (sA (sA hC))))) (pH (pCons (sC (sA (sA (sA (sA hC))))) (pApp (sC hA') (pApp (sC hA') (pApp (sC hA') (pApp (sC hA') pNil)))))))))))
          replace h := cf hc h
          refine wc_exit (wx_then_exit ?_)
          obtain rfl := Option.some.inj h
          have h := hl98; clear hl98; try dsimp only [orE_l, orE_r] at h
          refine wx_then_exit (wx_block_exit (wx_then (wc_seq (wc_region ?_))))
          refine wP rfl rfl ?_
          replace h := bsome h; obtain ⟨v178, x178, h⟩ := h
          refine wl_cq Tryd.call16 rfl rfl rfl (q_rd (k_rollback_Engine_Known (p0 := (T_rollback_Engine.mk zab zac (T_api_State.mk zy zz zaa zb zu) zc)) (p0_4 := (T_queue_Queue.mk zv za zw)) (p0_5 := (T_ring_Ring.mk zx zd)) zah zai zak zal zad zae zag zaf x178) (pCons (sC hC) (pApp (sC (sC (sC (sC (sC hA'))))) (pApp (sC (sC (sC (sC (sC hA'))))) (pCons (sC hC) (pApp (sC (sC (sC (sC hA')))) (pCons (sC hC) (pApp (sC (sC (sC hA'))) pNil))))))) (fun _ _ => trivial)) rfl ?_
          refine wP rfl rfl (wP (v := .int .u64 (IntKind.wrap .u64 (IntKind.wrap .i64 ((IntKind.wrap .i64 (Int.tmod p0.Sure 60)) + v64)))) rfl rfl (wP (v := .bool (v178 != (IntKind.wrap .u64 (IntKind.wrap .i64 ((IntKind.wrap .i64 (Int.tmod p0.Sure 60)) + v64))))) rfl rfl (wl_nil (wx_then (wc_cond rfl (fun hc => ?_) (fun hc => ?_))))))
          · replace h := ct hc h
            refine wc_seq (wc_region (wP rfl rfl (wl_nil (wx_then (wc_ret (wx_block_ret (wx_then_ret ?_)))))))
            obtain rfl := Option.some.inj h
            have h := hl50; clear hl50; try dsimp only [orE_l, orE_r] at h
            refine wx_then_ret (wx_block_ret (wx_then_ret ?_))
            obtain rfl := sI h
            exact wx_pf tt_ok (.inl rfl) Tryd.results3 (Res.tmp rfl Res.nil) rfl
          replace h := cf hc h
          refine wc_skip (wx_block (wx_then (wc_region (wP rfl rfl (wP (v := .int .i64 (IntKind.wrap .i64 (zdc + (1 : Int)))) rfl rfl (wP rfl rfl (wl_nil ?_)))))))
          exact wx_round m50 (Nat.lt_succ_self m50) ⟨(IntKind.wrap .i64 (zdc + (1 : Int))), zab, zac, zy, zz, zaa, zb, zu, zc, zv, za, zw, zx, zd, zbf, zbc, zao, zbd, zbb, zbk, zau, zbl, zbj, zay, zam, zaz, zax, zan, zba, h, zah, zai, zak, zal, zad, zae, zag, zaf, rfl, rfl⟩ (agree_cons rfl (agree_cons rfl (agree_cons rfl (agree_cons rfl (agree_cons rfl (agree_cons rfl (agree_cons rfl (agree_cons rfl agree_nil)))))))) (pSub (pH (pH (pH (pH (pH (pH (pA (pA (pA (pA pNil)))))))))))
        replace h := cf hc h
        refine wl_skip rfl rfl ?_
        obtain rfl := sI h
        have h := hg150; clear hg150
        refine wP (v := .bool false) rfl rfl (wl_nil (wx_then ?_))
        replace h := cf rfl h
        refine wc_cond_false rfl ?_
        refine wc_exit (wx_then_exit ?_)
        obtain rfl := Option.some.inj h
        have h := hl98; clear hl98; try dsimp only [orE_l, orE_r] at h
        refine wx_then_exit (wx_block_exit (wx_then (wc_seq (wc_region ?_))))
        refine wP rfl rfl ?_
        replace h := bsome h; obtain ⟨v178, x178, h⟩ := h
        refine wl_cq Tryd.call16 rfl rfl rfl (q_rd (k_rollback_Engine_Known (p0 := (T_rollback_Engine.mk zab zac (T_api_State.mk zy zz zaa zb zu) zc)) (p0_4 := (T_queue_Queue.mk zv za zw)) (p0_5 := (T_ring_Ring.mk zx zd)) zah zai zak zal zad zae zag zaf x178) (pCons (sC hC) (pApp (sC (sC (sC (sC (sC hA'))))) (pApp (sC (sC (sC (sC (sC hA'))))) (pCons (sC hC) (pApp (sC (sC (sC (sC hA')))) (pCons (sC hC) (pApp (sC (sC (sC hA'))) pNil))))))) (fun _ _ => trivial)) rfl ?_
        refine wP rfl rfl (wP (v := .int .u64 (IntKind.wrap .u64 (IntKind.wrap .i64 ((IntKind.wrap .i64 (Int.tmod p0.Sure 60)) + v64)))) rfl rfl (wP (v := .bool (v178 != (IntKind.wrap .u64 (IntKind.wrap .i64 ((IntKind.wrap .i64 (Int.tmod p0.Sure 60)) + v64))))) rfl rfl (wl_nil (wx_then (wc_cond rfl (fun hc => ?_) (fun hc => ?_))))))
        · replace h := ct hc h
          refine wc_seq (wc_region (wP rfl rfl (wl_nil (wx_then (wc_ret (wx_block_ret (wx_then_ret ?_)))))))
          obtain rfl := Option.some.inj h
          have h := hl50; clear hl50; try dsimp only [orE_l, orE_r] at h
          refine wx_then_ret (wx_block_ret (wx_then_ret ?_))
          obtain rfl := sI h
          exact wx_pf tt_ok (.inl rfl) Tryd.results3 (Res.tmp rfl Res.nil) rfl
        replace h := cf hc h
        refine wc_skip (wx_block (wx_then (wc_region (wP rfl rfl (wP (v := .int .i64 (IntKind.wrap .i64 (zdc + (1 : Int)))) rfl rfl (wP rfl rfl (wl_nil ?_)))))))
        exact wx_round m50 (Nat.lt_succ_self m50) ⟨(IntKind.wrap .i64 (zdc + (1 : Int))), zab, zac, zy, zz, zaa, zb, zu, zc, zv, za, zw, zx, zd, zbf, zbc, zao, zbd, zbb, zbk, zau, zbl, zbj, zay, zam, zaz, zax, zan, zba, h, zah, zai, zak, zal, zad, zae, zag, zaf, rfl, rfl⟩ (agree_cons rfl (agree_cons rfl (agree_cons rfl (agree_cons rfl (agree_cons rfl (agree_cons rfl (agree_cons rfl (agree_cons rfl agree_nil)))))))) (pSub (pH (pH (pH (pH (pH (pH (pA (pA (pA (pA pNil)))))))))))
      replace h := cf hc h
      refine wl_skip rfl rfl (wl_skip rfl rfl (wl_skip rfl rfl (wl_skip rfl rfl (wl_skip rfl rfl ?_))))
      obtain rfl := sI h
      have h := hg147; clear hg147
      refine wP (v := .bool false) rfl rfl (wP rfl rfl ?_)
      replace h := bsome h; obtain ⟨v150, h, hg150⟩ := h
      replace h := cf rfl h
      refine wl_skip rfl rfl ?_
      obtain rfl := sI h
      have h := hg150; clear hg150
      refine wP (v := .bool false) rfl rfl (wl_nil (wx_then ?_))
      replace h := cf rfl h
      refine wc_cond_false rfl ?_
      refine wc_exit (wx_then_exit ?_)
      obtain rfl := Option.some.inj h
      have h := hl98; clear hl98; try dsimp only [orE_l, orE_r] at h
      refine wx_then_exit (wx_block_exit (wx_then (wc_seq (wc_region ?_))))
      refine wP rfl rfl ?_
      replace h := bsome h; obtain ⟨v178, x178, h⟩ := h
      refine wl_cq Tryd.call16 rfl rfl rfl (q_rd (k_rollback_Engine_Known (p0 := (T_rollback_Engine.mk zab zac (T_api_State.mk zy zz zaa zb zu) zc)) (p0_4 := (T_queue_Queue.mk zv za zw)) (p0_5 := (T_ring_Ring.mk zx zd)) zah zai zak zal zad zae zag zaf x178) (pCons (sC hC) (pApp (sC (sC (sC (sC (sC hA'))))) (pApp (sC (sC (sC (sC (sC hA'))))) (pCons (sC hC) (pApp (sC (sC (sC (sC hA')))) (pCons (sC hC) (pApp (sC (sC (sC hA'))) pNil))))))) (fun _ _ => trivial)) rfl ?_
      refine wP rfl rfl (wP (v := .int .u64 (IntKind.wrap .u64 (IntKind.wrap .i64 ((IntKind.wrap .i64 (Int.tmod p0.Sure 60)) + v64)))) rfl rfl (wP (v := .bool (v178 != (IntKind.wrap .u64 (IntKind.wrap .i64 ((IntKind.wrap .i64 (Int.tmod p0.Sure 60)) + v64))))) rfl rfl (wl_nil (wx_then (wc_cond rfl (fun hc => ?_) (fun hc => ?_))))))
      · replace h := ct hc h
        refine wc_seq (wc_region (wP rfl rfl (wl_nil (wx_then (wc_ret (wx_block_ret (wx_then_ret ?_)))))))
        obtain rfl := Option.some.inj h
        have h := hl50; clear hl50; try dsimp only [orE_l, orE_r] at h
        refine wx_then_ret (wx_block_ret (wx_then_ret ?_))
        obtain rfl := sI h
        exact wx_pf tt_ok (.inl rfl) Tryd.results3 (Res.tmp rfl Res.nil) rfl
      replace h := cf hc h
      refine wc_skip (wx_block (wx_then (wc_region (wP rfl rfl (wP (v := .int .i64 (IntKind.wrap .i64 (zdc + (1 : Int)))) rfl rfl (wP rfl rfl (wl_nil ?_)))))))
      exact wx_round m50 (Nat.lt_succ_self m50) ⟨(IntKind.wrap .i64 (zdc + (1 : Int))), zab, zac, zy, zz, zaa, zb, zu, zc, zv, za, zw, zx, zd, zbf, zbc, zao, zbd, zbb, zbk, zau, zbl, zbj, zay, zam, zaz, zax, zan, zba, h, zah, zai, zak, zal, zad, zae, zag, zaf, rfl, rfl⟩ (agree_cons rfl (agree_cons rfl (agree_cons rfl (agree_cons rfl (agree_cons rfl (agree_cons rfl (agree_cons rfl (agree_cons rfl agree_nil)))))))) (pSub (pH (pH (pH (pH (pH (pH (pA (pA (pA (pA pNil)))))))))))
    replace h := cf hc h
    refine wl_skip rfl rfl (wl_skip rfl rfl ?_)
    obtain rfl := sI h
    have h := hg95; clear hg95
    refine wP (v := .bool false) rfl rfl (wP rfl rfl ?_)
    replace h := bsome h; obtain ⟨v99, h, hg99⟩ := h
    replace h := cf rfl h
    refine wl_run rfl (wP rfl rfl (wl_run rfl (wP (v := .bool (decide ((32 : Int) < zfo))) rfl rfl ?_)))
    obtain rfl := sI h
    have h := hg99; clear hg99
    refine wP (v := .bool (decide ((32 : Int) < zfo))) rfl rfl (wP rfl rfl ?_)
    replace h := bsome h; obtain ⟨v110, h, hg110⟩ := h
    refine wl_split (t := 100) rfl (fun hc => ?_) (fun hc => ?_)
    · replace h := ct hc h
      refine wl_skip rfl rfl (wl_skip rfl rfl (wl_skip rfl rfl (wl_skip rfl rfl (wl_skip rfl rfl (wl_skip rfl rfl (wl_skip rfl rfl (wl_skip rfl rfl (wl_skip rfl rfl ?_))))))))
      obtain rfl := sI h
      have h := hg110; clear hg110
      refine wP (v := .bool true) rfl rfl (wl_nil (wx_then ?_))
      replace h := ct rfl h
      refine wc_cond_true rfl ?_
      refine wc_seq (wc_region (wP rfl rfl (wl_nil (wx_then (wc_ret (wx_then_ret (wx_block_ret (wx_then_ret ?_))))))))
      obtain rfl := Option.some.inj h
      have h := hl50; clear hl50; try dsimp only [orE_l, orE_r] at h
      refine wx_then_ret (wx_block_ret (wx_then_ret ?_))
      obtain rfl := sI h
      exact wx_pf tt_ok (.inl rfl) Tryd.results3 (Res.tmp rfl Res.nil) rfl
    replace h := cf hc h
    refine wl_run rfl (wP rfl rfl (wl_run rfl (wP (v := .int .u64 (IntKind.wrap .u64 zfo)) rfl rfl (wl_run rfl (wP rfl rfl (wl_run rfl (wP (v := .int .u64 (IntKind.wrap .u64 (IntKind.wrap .i64 ((IntKind.wrap .i64 (Int.tmod p0.Sure 60)) + v64)))) rfl rfl (wl_run rfl (wP rfl rfl ?_)))))))))
    replace h := bsome h; obtain ⟨v106, x106, h⟩ := h
    refine wl_run rfl (wl_cq Tryd.call11 rfl rfl rfl (q_rd (k_rollback_Engine_C (p0 := (T_rollback_Engine.mk zbg zbh (T_api_State.mk zar zas zat zf zaj) zg)) (p0_4 := (T_queue_Queue.mk zcm zk zcn)) (p0_5 := (T_ring_Ring.mk zco zq)) zcp zcq zdd zde zee zef zei zeh x106) (pCons (sC hC) (pApp (sC (sC (sC (sC (sC hA'))))) (pApp (sC (sC (sC (sC (sC hA'))))) (pCons (sC hC) (pApp (sC (sC (sC (sC hA')))) (pCons (sC hC) (pApp (sC (sC (sC hA'))) pNil))))))) (fun _ _ => trivial)) rfl ?_)
    refine wl_run rfl (wP (v := .int .u64 (IntKind.wrap .u64 ((IntKind.wrap .u64 (IntKind.wrap .i64 ((IntKind.wrap .i64 (Int.tmod p0.Sure 60)) + v64))) - v106))) rfl rfl (wl_run rfl (wP (v := .int .u64 (min (32 : Int) (IntKind.wrap .u64 ((IntKind.wrap .u64 (IntKind.wrap .i64 ((IntKind.wrap .i64 (Int.tmod p0.Sure 60)) + v64))) - v106)))) rfl rfl (wl_run rfl (wP (v := .bool ((IntKind.wrap .u64 zfo) != (min (32 : Int) (IntKind.wrap .u64 ((IntKind.wrap .u64 (IntKind.wrap .i64 ((IntKind.wrap .i64 (Int.tmod p0.Sure 60)) + v64))) - v106))))) rfl rfl ?_)))))
    obtain rfl := sI h
    have h := hg110; clear hg110
    refine wP (v := .bool ((IntKind.wrap .u64 zfo) != (min (32 : Int) (IntKind.wrap .u64 ((IntKind.wrap .u64 (IntKind.wrap .i64 ((IntKind.wrap .i64 (Int.tmod p0.Sure 60)) + v64))) - v106))))) rfl rfl (wl_nil (wx_then (wc_cond rfl (fun hc => ?_) (fun hc => ?_))))
    · replace h := ct hc h
      refine wc_seq (wc_region (wP rfl rfl (wl_nil (wx_then (wc_ret (wx_then_ret (wx_block_ret (wx_then_ret ?_))))))))
      obtain rfl := Option.some.inj h
      have h := hl50; clear hl50; try dsimp only [orE_l, orE_r] at h
      refine wx_then_ret (wx_block_ret (wx_then_ret ?_))
      obtain rfl := sI h
      exact wx_pf tt_ok (.inl rfl) Tryd.results3 (Res.tmp rfl Res.nil) rfl
    replace h := cf hc h
    refine wc_skip (wx_then (wc_seq (wc_region ?_)))
    iterate 3 refine wP rfl rfl ?_
    replace h := bsome h; obtain ⟨v114, x114, h⟩ := h
    refine wl_cs Tryd.call12 rfl rfl rfl (s_sp (k_fold_History_Slice x114) (pCons (sC (sC (sC (sC (sC hC))))) pNil) (fun _ _ => trivial)) rfl ?_
    rintro _ _ ⟨_, ⟨v114a0, v114n0, v114c0, v114B0, v114N0, v114V0, rfl, rfl⟩, rfl⟩
    refine wP rfl rfl (wl_nil (wx_then (wc_seq (wc_seq (wc_region (wP rfl rfl (wl_nil (wx_then (wc_block ?_)))))))))
    replace h := bsome h; obtain ⟨o75, h, hl75⟩ := h
    refine wc_loop (fun m E L => ∃ (zfs : Int) (zby : Int) (ze : (List Int)) (zbz : Int) (zca : Int) (zm : (Arr T_ring_place 14)) (zcf : Option Addr) (zbp : Nat) (zcg : Nat) (zce : List Blk) (zbq : List (T_ring_place × G)) (zch : List Blk), m_hindcastlaw28_BackfillFills_L74_1 F p0 zdc zbg zbh zar zas zat zf zaj zg zbo zit zfo v114 m zfs zby ze zbz zca zm = some o75 ∧ zbp = ze.length ∧ Own 34 1 zcf zbp zcg (flat (e1 .u8) ze) zce ∧ zm.1 = unG zbq ∧ AllP sh_T_ring_place c_T_api_Shot zch zbq ∧ E = [(2, .bool p2), (3, .pointer (some ⟨b3, 0, none⟩)), (6, .bool false), (9, .pointer (some ⟨zr, 0, none⟩)), (10, .pointer (some ⟨zcl, 0, none⟩)), (11, .int .i64 (IntKind.wrap .i64 ((IntKind.wrap .i64 (Int.tmod p0.Sure 60)) + v64))), (12, .pointer (some ⟨zhu, 0, none⟩)), (14, .int .i64 zdc), (15, .int .u64 zit), (16, .int .i64 zfo), (17, .slice v114a0 v114n0 v114c0), (18, .int .i64 zfs)] ∧ L = (⟨b3, [.int .u64 p0.Seed, .int .u8 p0.Player, .int .u8 p0.Window, .int .u8 p0.Sure, .int .u8 p0.Ahead, .int .u8 p0.Told, .int .u8 p0.From, .slice p0a0 p0n0 p0c0, .slice p0a1 p0n1 p0c1], 25, (0, 0)⟩ :: (⟨zr, (.int .u8 zbg :: .int .i64 zbh :: .int .u64 zar :: .int .u64 zas :: pl14 zat [.slice zdh zcr zdi, .int .u16 zaj.1, .int .u16 zaj.2, .slice zea zdf zeb, .pointer (some ⟨zbm, 0, none⟩), .pointer (some ⟨zbn, 0, none⟩)]), 73, (0, 0)⟩ :: (⟨zbm, [.int .u64 zby, .slice zcf zbp zcg, .int .u8 zbz], 103, (0, 0)⟩ :: (⟨zbn, ([.int .i64 zca] ++ flat cg_T_ring_place zbq), 121, (0, 0)⟩ :: (⟨zcl, ([.int .u64 zbo.from_, .int .u64 zbo.count, .int .u64 zbo.most] ++ flat (e2 .u8) zbo.ring.1), 68, (0, 0)⟩ :: (⟨zhu, ([.int .u64 zdb.from_, .int .u64 zdb.count, .int .u64 zdb.most] ++ flat (e2 .u8) zdb.ring.1), 68, (0, 0)⟩ :: (zdg ++ (zdz ++ (zce ++ (zch ++ (v114B0 ++ [])))))))))))) F ⟨(0 : Int), zcm, zk, zcn, zco, zq, zfa, zeg, zfb, zez, zej, zfc, h, zee, zef, zei, zeh, rfl, rfl⟩ (agree_cons rfl (agree_cons rfl (agree_cons rfl (agree_cons rfl (agree_cons rfl (agree_cons rfl (agree_cons rfl (agree_cons rfl (agree_cons rfl (agree_cons rfl (agree_cons rfl (agree_cons rfl agree_nil)))))))))))) (pSub (pCons (sC (sA hC)) (pCons (sC (sA hC)) (pCons (sC (sA hC)) (pCons (sC (sA hC)) (pCons (sC (sA hC)) (pH (pApp (sA hA') (pApp (sA hA') (pApp (sA hA') (pApp (sA hA') (pA pNil)))))))))))) ?_
    clear h
    rintro m75 _ _ ⟨zfs, zby, ze, zbz, zca, zm, zcf, zbp, zcg, zce, zbq, zch, h, zfd, zfe, zfg, zff, rfl, rfl⟩
    rcases m75 with _ | m75
    · rw [m_hindcastlaw28_BackfillFills_L74_1.eq_1] at h; cases h
    rw [m_hindcastlaw28_BackfillFills_L74_1.eq_2] at h
    refine wc_seq (wc_seq (wc_region ?_))
    iterate 2 refine wP rfl rfl ?_
    refine wP (v := .int .i64 (IntKind.wrap .i64 ((1 : Int) + zdc))) rfl rfl (wP (v := .bool (decide (zfs < (IntKind.wrap .i64 ((1 : Int) + zdc))))) rfl rfl (wl_nil (wx_then (wc_cond rfl (fun hc => ?_) (fun hc => ?_)))))
    · replace h := ct hc h
      refine wc_skip (wx_then (wc_seq (wc_block (wc_seq (wc_region ?_)))))
      iterate 2 refine wP rfl rfl ?_
      refine wP (v := .pointer (some ⟨b3, 1, none⟩)) rfl rfl (wl_val (v := .int .u8 p0.Player) (val_load tt_ok rfl (mH) rfl) rfl (wP (v := .int .u8 (Int.tmod p0.Player 2)) rfl rfl ?_))
      iterate 2 refine wP rfl rfl ?_
      replace h := bsome h; obtain ⟨⟨zck, zeo, ziv, zhv⟩, x129, h⟩ := h; try dsimp only at h
      refine wl_cs Tryd.call13 rfl rfl rfl (s_sp (k_backfill_Pairs (p0 := (T_rollback_Engine.mk zbg zbh (T_api_State.mk zar zas zat zf zaj) zg)) (p0_4 := (T_queue_Queue.mk zby ze zbz)) (p0_5 := (T_ring_Ring.mk zca zm)) (p4 := v114) zcp zcq zdd zde zfd zfe zfg zff v114N0 (vec_cap v114V0) x129) (pCons (sC hC) (pApp (sC (sC (sC (sC (sC hA'))))) (pApp (sC (sC (sC (sC (sC hA'))))) (pCons (sC hC) (pApp (sC (sC (sC (sC hA')))) (pCons (sC hC) (pApp (sC (sC (sC hA'))) (pCons (sC hC) pNil)))))))) (Rds.call (Rds.of_vec v114V0) (pCons (sC hC) (pApp (sC (sC (sC (sC (sC hA'))))) (pApp (sC (sC (sC (sC (sC hA'))))) (pCons (sC hC) (pApp (sC (sC (sC (sC hA')))) (pCons (sC hC) (pApp (sC (sC (sC hA'))) (pCons (sC hC) pNil)))))))) ⟨_, (sC (sC hA'))⟩)) rfl ?_
      rintro _ _ ⟨_, ⟨zie, zig, zif, zib, zik, zij, zic, zid, zii, zih, rfl, rfl⟩, rfl⟩
      iterate 5 refine wP rfl rfl ?_
      refine wl_nil (wx_then (wc_seq (wc_region ?_)))
      iterate 2 refine wP rfl rfl ?_
      refine wP (v := .bool (ziv != zfo)) rfl rfl (wP rfl rfl ?_)
      replace h := bsome h; obtain ⟨v138, h, hg138⟩ := h
      refine wl_split (t := 135) rfl (fun hc => ?_) (fun hc => ?_)
      · replace h := ct hc h
        refine wl_skip rfl rfl (wl_skip rfl rfl ?_)
        obtain rfl := sI h
        have h := hg138; clear hg138
        refine wP (v := .bool true) rfl rfl (wl_nil (wx_then ?_))
        replace h := ct rfl h
        refine wc_cond_true rfl ?_
        refine wc_seq (wc_region (wP rfl rfl (wl_nil (wx_then (wc_ret (wx_block_ret (wx_then_ret ?_)))))))
        obtain rfl := Option.some.inj h
        have h := hl75; clear hl75; try dsimp only [orE_l, orE_r] at h
        refine wx_then_ret (wx_block_ret (wx_then_ret (wx_block_ret (wx_then_ret ?_))))
        obtain rfl := Option.some.inj h
        have h := hl50; clear hl50; try dsimp only [orE_l, orE_r] at h
        refine wx_then_ret (wx_block_ret (wx_then_ret ?_))
        obtain rfl := sI h
        exact wx_pf tt_ok (.inl rfl) Tryd.results3 (Res.tmp rfl Res.nil) rfl
      replace h := cf hc h
      refine wl_run rfl (wP rfl rfl (wl_run rfl (wP (v := .bool (zhv != (0 : Int))) rfl rfl ?_)))
      obtain rfl := sI h
      have h := hg138; clear hg138
      refine wP (v := .bool (zhv != (0 : Int))) rfl rfl (wl_nil (wx_then (wc_cond rfl (fun hc => ?_) (fun hc => ?_))))
      · replace h := ct hc h
        refine wc_seq (wc_region (wP rfl rfl (wl_nil (wx_then (wc_ret (wx_block_ret (wx_then_ret ?_)))))))
        obtain rfl := Option.some.inj h
        have h := hl75; clear hl75; try dsimp only [orE_l, orE_r] at h
        refine wx_then_ret (wx_block_ret (wx_then_ret (wx_block_ret (wx_then_ret ?_))))
        obtain rfl := Option.some.inj h
        have h := hl50; clear hl50; try dsimp only [orE_l, orE_r] at h
        refine wx_then_ret (wx_block_ret (wx_then_ret ?_))
        obtain rfl := sI h
        exact wx_pf tt_ok (.inl rfl) Tryd.results3 (Res.tmp rfl Res.nil) rfl
      replace h := cf hc h
      refine wc_skip (wx_block (wx_then (wc_region (wP rfl rfl (wP (v := .int .i64 (IntKind.wrap .i64 (zfs + (1 : Int)))) rfl rfl (wP rfl rfl (wl_nil ?_)))))))
      exact wx_round m75 (Nat.lt_succ_self m75) ⟨(IntKind.wrap .i64 (zfs + (1 : Int))), zck.first_, zck.l, zck.last, zeo.size, zeo.places, zie, zig, zif, zib, zik, zij, h, zic, zid, zii, zih, rfl, rfl⟩ (agree_cons rfl (agree_cons rfl (agree_cons rfl (agree_cons rfl (agree_cons rfl (agree_cons rfl (agree_cons rfl (agree_cons rfl (agree_cons rfl (agree_cons rfl (agree_cons rfl (agree_cons rfl agree_nil)))))))))))) (pSub (pCons (sC (sA (sA (sC (sA (sC (sA (sC hC)))))))) (pH (pCons (sA (sA hC)) (pCons (sA (sA (sA hC))) (pCons (sA (sA (sA (sA hC)))) (pCons (sA (sA (sA (sA hC)))) (pA (pA (pA (pA (pA pNil))))))))))))
    replace h := cf hc h
    refine wc_exit (wx_then_exit ?_)
    obtain rfl := Option.some.inj h
    have h := hl75; clear hl75; try dsimp only [orE_l, orE_r] at h
    refine wx_then_exit (wx_block_exit (wx_then (wc_seq (wc_seq (wc_region ?_)))))
    refine wP rfl rfl (wl_nil (wx_then (wc_block ?_)))
    replace h := bsome h; obtain ⟨o98, h, hl98⟩ := h
    refine wc_loop (fun m E L => ∃ (zft : Int) (zab : Int) (zac : Int) (zy : Int) (zz : Int) (zaa : (T_api_Player × T_api_Player)) (zb : (List T_api_Shot)) (zu : (Int × Int)) (zc : (List Int)) (zv : Int) (za : (List Int)) (zw : Int) (zx : Int) (zd : (Arr T_ring_place 14)) (zbf : T_fold_History) (zbc : Option Addr) (zao : Nat) (zbd : Nat) (zbb : List Blk) (zbk : Option Addr) (zau : Nat) (zbl : Nat) (zbj : List Blk) (zay : Option Addr) (zam : Nat) (zaz : Nat) (zax : List Blk) (zan : List (T_ring_place × G)) (zba : List Blk), m_hindcastlaw28_BackfillFills_L97_1 F p0 p2 v64 false m zft zab zac zy zz zaa zb zu zc zv za zw zx zd zbf = some o98 ∧ zao = zb.length ∧ Own 92 6 zbc zao zbd (flat c_T_api_Shot zb) zbb ∧ zau = zc.length ∧ Own 34 1 zbk zau zbl (flat (e1 .u8) zc) zbj ∧ zam = za.length ∧ Own 34 1 zay zam zaz (flat (e1 .u8) za) zax ∧ zd.1 = unG zan ∧ AllP sh_T_ring_place c_T_api_Shot zba zan ∧ E = [(2, .bool p2), (3, .pointer (some ⟨b3, 0, none⟩)), (6, .bool false), (9, .pointer (some ⟨zr, 0, none⟩)), (10, .pointer (some ⟨zcl, 0, none⟩)), (11, .int .i64 (IntKind.wrap .i64 ((IntKind.wrap .i64 (Int.tmod p0.Sure 60)) + v64))), (12, .pointer (some ⟨zhu, 0, none⟩)), (14, .int .i64 zdc), (21, .int .i64 zft)] ∧ L = (⟨b3, [.int .u64 p0.Seed, .int .u8 p0.Player, .int .u8 p0.Window, .int .u8 p0.Sure, .int .u8 p0.Ahead, .int .u8 p0.Told, .int .u8 p0.From, .slice p0a0 p0n0 p0c0, .slice p0a1 p0n1 p0c1], 25, (0, 0)⟩ :: (⟨zr, (.int .u8 zab :: .int .i64 zac :: .int .u64 zy :: .int .u64 zz :: pl14 zaa [.slice zbc zao zbd, .int .u16 zu.1, .int .u16 zu.2, .slice zbk zau zbl, .pointer (some ⟨zbm, 0, none⟩), .pointer (some ⟨zbn, 0, none⟩)]), 73, (0, 0)⟩ :: (⟨zbm, [.int .u64 zv, .slice zay zam zaz, .int .u8 zw], 103, (0, 0)⟩ :: (⟨zbn, ([.int .i64 zx] ++ flat cg_T_ring_place zan), 121, (0, 0)⟩ :: (⟨zcl, ([.int .u64 zbf.from_, .int .u64 zbf.count, .int .u64 zbf.most] ++ flat (e2 .u8) zbf.ring.1), 68, (0, 0)⟩ :: (⟨zhu, ([.int .u64 zdb.from_, .int .u64 zdb.count, .int .u64 zdb.most] ++ flat (e2 .u8) zdb.ring.1), 68, (0, 0)⟩ :: (zbb ++ (zbj ++ (zax ++ (zba ++ []))))))))))) F ⟨(0 : Int), zbg, zbh, zar, zas, zat, zf, zaj, zg, zby, ze, zbz, zca, zm, zbo, zdh, zcr, zdi, zdg, zea, zdf, zeb, zdz, zcf, zbp, zcg, zce, zbq, zch, h, zcp, zcq, zdd, zde, zfd, zfe, zfg, zff, rfl, rfl⟩ (agree_cons rfl (agree_cons rfl (agree_cons rfl (agree_cons rfl (agree_cons rfl (agree_cons rfl (agree_cons rfl (agree_cons rfl (agree_cons rfl agree_nil))))))))) (pSub (pH (pH (pH (pH (pH (pH (pA (pA (pA (pA pNil))))))))))) ?_
    clear h
    rintro m98 _ _ ⟨zft, zab, zac, zy, zz, zaa, zb, zu, zc, zv, za, zw, zx, zd, zbf, zbc, zao, zbd, zbb, zbk, zau, zbl, zbj, zay, zam, zaz, zax, zan, zba, h, zah, zai, zak, zal, zad, zae, zag, zaf, rfl, rfl⟩
    rcases m98 with _ | m98
    · rw [m_hindcastlaw28_BackfillFills_L97_1.eq_1] at h; cases h
    rw [m_hindcastlaw28_BackfillFills_L97_1.eq_2] at h
    refine wc_seq (wc_seq (wc_region (wP rfl rfl (wP (v := .bool (decide (zft < (20 : Int)))) rfl rfl (wP rfl rfl ?_)))))
    replace h := bsome h; obtain ⟨v147, h, hg147⟩ := h
    refine wl_split (t := 141) rfl (fun hc => ?_) (fun hc => ?_)
    · replace h := ct hc h
      refine wl_run rfl (wP rfl rfl ?_)
      replace h := bsome h; obtain ⟨v143, x143, h⟩ := h
      refine wl_run rfl (wl_cq Tryd.call11 rfl rfl rfl (q_rd (k_rollback_Engine_C (p0 := (T_rollback_Engine.mk zab zac (T_api_State.mk zy zz zaa zb zu) zc)) (p0_4 := (T_queue_Queue.mk zv za zw)) (p0_5 := (T_ring_Ring.mk zx zd)) zah zai zak zal zad zae zag zaf x143) (pCons (sC hC) (pApp (sC (sC (sC (sC (sC hA'))))) (pApp (sC (sC (sC (sC (sC hA'))))) (pCons (sC hC) (pApp (sC (sC (sC (sC hA')))) (pCons (sC hC) (pApp (sC (sC (sC hA'))) pNil))))))) (fun _ _ => trivial)) rfl ?_)
      refine wl_run rfl (wP rfl rfl (wl_run rfl (wP (v := .int .u64 (IntKind.wrap .u64 (IntKind.wrap .i64 ((IntKind.wrap .i64 (Int.tmod p0.Sure 60)) + v64)))) rfl rfl (wl_run rfl (wP (v := .bool (decide (v143 < (IntKind.wrap .u64 (IntKind.wrap .i64 ((IntKind.wrap .i64 (Int.tmod p0.Sure 60)) + v64)))))) rfl rfl ?_)))))
      obtain rfl := sI h
      have h := hg147; clear hg147
      refine wP (v := .bool (decide (v143 < (IntKind.wrap .u64 (IntKind.wrap .i64 ((IntKind.wrap .i64 (Int.tmod p0.Sure 60)) + v64)))))) rfl rfl (wP rfl rfl ?_)
      replace h := bsome h; obtain ⟨v150, h, hg150⟩ := h
      refine wl_split (t := 148) rfl (fun hc => ?_) (fun hc => ?_)
      · replace h := ct hc h
        refine wl_run rfl (wP rfl rfl ?_)
        obtain rfl := sI h
        have h := hg150; clear hg150
        refine wP (v := .bool p2) rfl rfl (wl_nil (wx_then (wc_cond rfl (fun hc => ?_) (fun hc => ?_))))
        · replace h := ct hc h
          refine wc_skip (wx_then (wc_seq (wc_block (wc_seq (wc_region ?_)))))
          iterate 2 refine wP rfl rfl ?_
          refine wP (v := .int .u64 (IntKind.wrap .u64 (IntKind.wrap .i64 ((IntKind.wrap .i64 (Int.tmod p0.Sure 60)) + v64)))) rfl rfl ?_
          replace h := bsome h; obtain ⟨⟨zt, zbe, zda, zep, ziw⟩, x157, h⟩ := h; try dsimp only at h
          refine wl_cs Tryd.call14 rfl rfl rfl (s_sp (k_rollback_Engine_Confirm (p0 := (T_rollback_Engine.mk zab zac (T_api_State.mk zy zz zaa zb zu) zc)) (p0_4 := (T_queue_Queue.mk zv za zw)) (p0_5 := (T_ring_Ring.mk zx zd)) zah zai zak zal zad zae zag zaf x157) (pCons (sC hC) (pApp (sC (sC (sC (sC (sC hA'))))) (pApp (sC (sC (sC (sC (sC hA'))))) (pCons (sC hC) (pApp (sC (sC (sC (sC hA')))) (pCons (sC hC) (pApp (sC (sC (sC hA'))) pNil))))))) (fun w hI => ⟨(Rds.call G0S (pCons (sC hC) (pApp (sC (sC (sC (sC (sC hA'))))) (pApp (sC (sC (sC (sC (sC hA'))))) (pCons (sC hC) (pApp (sC (sC (sC (sC hA')))) (pCons (sC hC) (pApp (sC (sC (sC hA'))) pNil))))))) rsub_nil) w hI, (Rds.call G1S (pCons (sC hC) (pApp (sC (sC (sC (sC (sC hA'))))) (pApp (sC (sC (sC (sC (sC hA'))))) (pCons (sC hC) (pApp (sC (sC (sC (sC hA')))) (pCons (sC hC) (pApp (sC (sC (sC hA'))) pNil))))))) rsub_nil) w hI⟩)) rfl ?_
          rintro _ _ ⟨_, ⟨zgh, zgl, zgj, zgf, zgi, zgm, zgk, zgg, zgo, zgq, zgp, zgn, zgs, zgr, zil, zin, zim, zio, zip, ziq, zis, zir, rfl, rfl⟩, rfl⟩
          iterate 3 refine wP rfl rfl ?_
          refine wl_alloc tt_ok rfl rfl (fun b22 => ?_)
          apply wl_store tt_ok; rfl; exact Upd.here; rfl; rfl; rfl; rfl; rfl; rfl
          refine wP rfl rfl (wl_nil (wx_then (wc_seq (wc_k2 (Ls := (⟨b22, [.int .u8 zep.1, .int .u8 zep.2], 36, (0, 0)⟩ :: (⟨zr, (.int .u8 zt.player :: .int .i64 zt.window :: st19 zt.sure zgh zgl zgj [.slice zgi zgm zgk, .pointer (some ⟨zbm, 0, none⟩), .pointer (some ⟨zbn, 0, none⟩)]), 73, (0, 0)⟩ :: (zgf ++ (zgg ++ (⟨zbm, [.int .u64 zbe.first_, .slice zgo zgq zgp, .int .u8 zbe.last], 103, (0, 0)⟩ :: (zgn ++ (⟨zbn, ([.int .i64 zda.size] ++ flat cg_T_ring_place zgs), 121, (0, 0)⟩ :: (zgr ++ (⟨b3, [.int .u64 p0.Seed, .int .u8 p0.Player, .int .u8 p0.Window, .int .u8 p0.Sure, .int .u8 p0.Ahead, .int .u8 p0.Told, .int .u8 p0.From, .slice p0a0 p0n0 p0c0, .slice p0a1 p0n1 p0c1], 25, (0, 0)⟩ :: (⟨zhu, ([.int .u64 zdb.from_, .int .u64 zdb.count, .int .u64 zdb.most] ++ flat (e2 .u8) zdb.ring.1), 68, (0, 0)⟩ :: []))))))))))) [6, 8, 14] [] [0, 1, 3, 7, 7, 7, 39, 103, 247, 511, 1023, 2047, 4095, 4095, 16383, 32767, 65535] [0, 1, 2, 3, 4, 5, 6, 7, 8, 9, 10, 11, 12, 13, 14, 15, 16] (by kernel_rfl) (by kernel_rfl) (by kernel_rfl) ?_))))
          refine k_val rfl rfl rfl (pSub (pH (pH (pA (pA (pH (pA (pH (pA (pH (pCons (sC hC) pNil))))))))))) (stepV_ok tt_ok rfl) rfl ?_
          refine k_val (v := .bool (!ziw)) rfl rfl rfl (pSub (pH (pH (pA (pA (pH (pA (pH (pA (pH (pCons (sC hC) pNil))))))))))) (stepV_ok tt_ok rfl) rfl ?_
          refine k_val rfl rfl rfl (pSub (pH (pH (pA (pA (pH (pA (pH (pA (pH (pCons (sC hC) pNil))))))))))) (stepV_ok tt_ok rfl) rfl ?_
          replace h := bsome h; obtain ⟨v170, h, hg170⟩ := h
          refine k_split (t := 162) rfl (fun hc => ?_) (fun hc => ?_)
          · replace h := ct hc h
            refine k_skip rfl rfl (pSub (pH (pH (pA (pA (pH (pA (pH (pA (pH (pCons (sC hC) pNil))))))))))) rfl ?_
            refine k_skip rfl rfl (pSub (pH (pH (pA (pA (pH (pA (pH (pA (pH (pCons (sC hC) pNil))))))))))) rfl ?_
            refine k_skip rfl rfl (pSub (pH (pH (pA (pA (pH (pA (pH (pA (pH (pCons (sC hC) pNil))))))))))) rfl ?_
            refine k_skip rfl rfl (pSub (pH (pH (pA (pA (pH (pA (pH (pA (pH (pCons (sC hC) pNil))))))))))) rfl ?_
            refine k_skip rfl rfl (pSub (pH (pH (pA (pA (pH (pA (pH (pA (pH (pCons (sC hC) pNil))))))))))) rfl ?_
            refine k_skip rfl rfl (pSub (pH (pH (pA (pA (pH (pA (pH (pA (pH (pCons (sC hC) pNil))))))))))) rfl ?_
            refine k_skip rfl rfl (pSub (pH (pH (pA (pA (pH (pA (pH (pA (pH (pCons (sC hC) pNil))))))))))) rfl ?_
            obtain rfl := sI h
            have h := hg170; clear hg170
            refine k_val (v := .bool true) rfl rfl rfl (pSub (pH (pH (pA (pA (pH (pA (pH (pA (pH (pCons (sC hC) pNil))))))))))) (stepV_ok tt_ok rfl) rfl ?_
            refine k_val rfl rfl rfl (pSub (pH (pH (pA (pA (pH (pA (pH (pA (pH (pCons (sC hC) pNil))))))))))) (stepV_ok tt_ok rfl) rfl ?_
            replace h := bsome h; obtain ⟨⟨v176, zgd⟩, h, hg176⟩ := h
            replace h := ct rfl h
            refine k_skip rfl rfl (pSub (pH (pH (pA (pA (pH (pA (pH (pA (pH (pCons (sC hC) pNil))))))))))) rfl ?_
            refine k_skip rfl rfl (pSub (pH (pH (pA (pA (pH (pA (pH (pA (pH (pCons (sC hC) pNil))))))))))) rfl ?_
            refine k_skip rfl rfl (pSub (pH (pH (pA (pA (pH (pA (pH (pA (pH (pCons (sC hC) pNil))))))))))) rfl ?_
            refine k_skip rfl rfl (pSub (pH (pH (pA (pA (pH (pA (pH (pA (pH (pCons (sC hC) pNil))))))))))) rfl ?_
            simp only [Option.some.injEq, Prod.mk.injEq] at h
            obtain ⟨rfl, rfl⟩ := h
            have h := hg176; clear hg176; try dsimp only at h
            refine k_val (v := .bool true) rfl rfl rfl (pSub (pH (pH (pA (pA (pH (pA (pH (pA (pH (pCons (sC hC) pNil))))))))))) (stepV_ok tt_ok rfl) rfl ?_
            refine k_end (by kernel_rfl) ?_
            refine wx_then ?_
            replace h := ct rfl h
            refine wc_cond_true rfl ?_
            refine wc_seq (wc_region (wP rfl rfl (wl_nil (wx_then (wc_ret (wx_block_ret (wx_then_ret ?_)))))))
            obtain rfl := Option.some.inj h
            have h := hl98; clear hl98; try dsimp only [orE_l, orE_r] at h
            refine wx_then_ret (wx_block_ret (wx_then_ret (wx_block_ret (wx_then_ret ?_))))
            obtain rfl := Option.some.inj h
            have h := hl50; clear hl50; try dsimp only [orE_l, orE_r] at h
            refine wx_then_ret (wx_block_ret (wx_then_ret ?_))
            obtain rfl := sI h
            exact wx_pf tt_ok (.inl rfl) Tryd.results3 (Res.tmp rfl Res.nil) rfl
          replace h := cf hc h
          refine k_val (v := .agg #[.int .u8 zep.1, .int .u8 zep.2]) rfl rfl rfl (pSub (pH (pH (pA (pA (pH (pA (pH (pA (pH (pCons (sC hC) pNil))))))))))) (val_load tt_ok rfl (mH) rfl) rfl ?_
          refine k_val (v := .agg #[.int .u64 p0.Seed, .int .u8 p0.Player, .int .u8 p0.Window, .int .u8 p0.Sure, .int .u8 p0.Ahead, .int .u8 p0.Told, .int .u8 p0.From, .slice p0a0 p0n0 p0c0, .slice p0a1 p0n1 p0c1]) rfl rfl rfl (pSub (pH (pH (pA (pA (pH (pA (pH (pA (pH (pCons (sC hC) pNil))))))))))) (val_load tt_ok rfl (mT (mT (mR (mR (mT (mR (mT (mR (mH))))))))) rfl) rfl ?_
          refine k_val rfl rfl rfl (pSub (pH (pH (pA (pA (pH (pA (pH (pA (pH (pCons (sC hC) pNil))))))))))) (stepV_ok tt_ok rfl) rfl ?_
          replace h := bsome h; obtain ⟨v166, x166, h⟩ := h
          refine k_cq rfl rfl rfl Tryd.call15 rfl rfl rfl (q_rd (k_fold_History_Count x166) (pCons (sC (sC (sA (sA (sC (sA (sC (sA (sC hC))))))))) pNil) (fun _ _ => trivial)) rfl (pSub (pH (pH (pA (pA (pH (pA (pH (pA (pH (pCons (sC hC) pNil))))))))))) ?_
          refine k_val (v := .int .i64 (IntKind.wrap .i64 v166)) rfl rfl rfl (pSub (pH (pH (pA (pA (pH (pA (pH (pA (pH (pCons (sC hC) pNil))))))))))) (stepV_ok tt_ok rfl) rfl ?_
          replace h := bsome h; obtain ⟨v168, x168, h⟩ := h
          refine k_cq rfl rfl rfl Tryd.call9 rfl rfl rfl (q_pf (k_hindcastlaw28_Setup_pair (p0 := p0) p0N0 p0H0 p0N1 p0H1 x168) (fun w hI => ⟨(Rds.call p0S0 pNil rsub_nil) w hI, (Rds.call p0S1 pNil rsub_nil) w hI⟩)) rfl (pSub (pH (pH (pA (pA (pH (pA (pH (pA (pH (pCons (sC hC) pNil))))))))))) ?_
          refine k_val (v := .bool (!((zep.1 == v168.1) && (zep.2 == v168.2)))) rfl rfl rfl (pSub (pH (pH (pA (pA (pH (pA (pH (pA (pH (pCons (sC hC) pNil))))))))))) (val_nes tt_ok tt_eq tt_one Tryd.eqGuardType36 rfl rfl rfl rfl rfl) rfl ?_
          obtain rfl := sI h
          have h := hg170; clear hg170
          refine k_val (v := .bool (!((zep.1 == v168.1) && (zep.2 == v168.2)))) rfl rfl rfl (pSub (pH (pH (pA (pA (pH (pA (pH (pA (pH (pCons (sC hC) pNil))))))))))) (stepV_ok tt_ok rfl) rfl ?_
          refine k_val rfl rfl rfl (pSub (pH (pH (pA (pA (pH (pA (pH (pA (pH (pCons (sC hC) pNil))))))))))) (stepV_ok tt_ok rfl) rfl ?_
          replace h := bsome h; obtain ⟨⟨v176, zgd⟩, h, hg176⟩ := h
          refine k_split (t := 171) rfl (fun hc => ?_) (fun hc => ?_)
          · replace h := ct hc h
            refine k_skip rfl rfl (pSub (pH (pH (pA (pA (pH (pA (pH (pA (pH (pCons (sC hC) pNil))))))))))) rfl ?_
            refine k_skip rfl rfl (pSub (pH (pH (pA (pA (pH (pA (pH (pA (pH (pCons (sC hC) pNil))))))))))) rfl ?_
            refine k_skip rfl rfl (pSub (pH (pH (pA (pA (pH (pA (pH (pA (pH (pCons (sC hC) pNil))))))))))) rfl ?_
            refine k_skip rfl rfl (pSub (pH (pH (pA (pA (pH (pA (pH (pA (pH (pCons (sC hC) pNil))))))))))) rfl ?_
            simp only [Option.some.injEq, Prod.mk.injEq] at h
            obtain ⟨rfl, rfl⟩ := h
            have h := hg176; clear hg176; try dsimp only at h
            refine k_val (v := .bool true) rfl rfl rfl (pSub (pH (pH (pA (pA (pH (pA (pH (pA (pH (pCons (sC hC) pNil))))))))))) (stepV_ok tt_ok rfl) rfl ?_
            refine k_end (by kernel_rfl) ?_
            refine wx_then ?_
            replace h := ct rfl h
            refine wc_cond_true rfl ?_
            refine wc_seq (wc_region (wP rfl rfl (wl_nil (wx_then (wc_ret (wx_block_ret (wx_then_ret ?_)))))))
            obtain rfl := Option.some.inj h
            have h := hl98; clear hl98; try dsimp only [orE_l, orE_r] at h
            refine wx_then_ret (wx_block_ret (wx_then_ret (wx_block_ret (wx_then_ret ?_))))
            obtain rfl := Option.some.inj h
            have h := hl50; clear hl50; try dsimp only [orE_l, orE_r] at h
            refine wx_then_ret (wx_block_ret (wx_then_ret ?_))
            obtain rfl := sI h
            exact wx_pf tt_ok (.inl rfl) Tryd.results3 (Res.tmp rfl Res.nil) rfl
          replace h := cf hc h
          refine k_val rfl rfl rfl (pSub (pH (pH (pA (pA (pH (pA (pH (pA (pH (pCons (sC hC) pNil))))))))))) (stepV_ok tt_ok rfl) rfl ?_
          refine k_val (v := .agg #[.int .u8 zep.1, .int .u8 zep.2]) rfl rfl rfl (pSub (pH (pH (pA (pA (pH (pA (pH (pA (pH (pCons (sC hC) pNil))))))))))) (val_load tt_ok rfl (mH) rfl) rfl ?_
          replace h := bsome h; obtain ⟨⟨ziu, v174⟩, x174, h⟩ := h; try dsimp only at h
          refine k_cs rfl rfl rfl Tryd.call8 rfl rfl rfl (s_sp (k_fold_History_Add x174) (pCons (sC (sC (sA (sA (sC (sA (sC (sA (sC hC))))))))) pNil) (fun _ _ => trivial)) rfl (.inr (by rintro _ _ ⟨_, ⟨rfl, rfl⟩, rfl⟩; exact ⟨_, (pCons (sC hC) (pCons (sC hC) (pApp (sC hA') (pApp (sC hA') (pCons (sC hC) (pApp (sC hA') (pCons (sC hC) (pApp (sC hA') (pCons (sC hC) (pCons (sC hC) pNil))))))))))⟩)) ?_
          rintro _ _ ⟨_, ⟨rfl, rfl⟩, rfl⟩
          refine k_val (v := .bool (v174 != (0 : Int))) rfl rfl rfl (pSub (pCons (sC hC) (pCons (sC hC) (pApp (sC hA') (pApp (sC hA') (pCons (sC hC) (pApp (sC hA') (pCons (sC hC) (pApp (sC hA') (pCons (sC hC) (pCons (sC hC) pNil))))))))))) (stepV_ok tt_ok rfl) rfl ?_
          simp only [Option.some.injEq, Prod.mk.injEq] at h
          obtain ⟨rfl, rfl⟩ := h
          have h := hg176; clear hg176; try dsimp only at h
          refine k_val (v := .bool (v174 != (0 : Int))) rfl rfl rfl (pSub (pCons (sC hC) (pCons (sC hC) (pApp (sC hA') (pApp (sC hA') (pCons (sC hC) (pApp (sC hA') (pCons (sC hC) (pApp (sC hA') (pCons (sC hC) (pCons (sC hC) pNil))))))))))) (stepV_ok tt_ok rfl) rfl ?_
          refine k_end (by kernel_rfl) ?_
          refine wx_then (wc_cond rfl (fun hc => ?_) (fun hc => ?_))
          · replace h := ct hc h
            refine wc_seq (wc_region (wP rfl rfl (wl_nil (wx_then (wc_ret (wx_block_ret (wx_then_ret ?_)))))))
            obtain rfl := Option.some.inj h
            have h := hl98; clear hl98; try dsimp only [orE_l, orE_r] at h
            refine wx_then_ret (wx_block_ret (wx_then_ret (wx_block_ret (wx_then_ret ?_))))
            obtain rfl := Option.some.inj h
            have h := hl50; clear hl50; try dsimp only [orE_l, orE_r] at h
            refine wx_then_ret (wx_block_ret (wx_then_ret ?_))
            obtain rfl := sI h
            exact wx_pf tt_ok (.inl rfl) Tryd.results3 (Res.tmp rfl Res.nil) rfl
          replace h := cf hc h
          refine wc_skip (wx_block (wx_then (wc_region (wP rfl rfl (wP (v := .int .i64 (IntKind.wrap .i64 (zft + (1 : Int)))) rfl rfl (wP rfl rfl (wl_nil ?_)))))))
          exact wx_round m98 (Nat.lt_succ_self m98) ⟨(IntKind.wrap .i64 (zft + (1 : Int))), zt.player, zt.window, zt.sure.Frame, zt.sure.Seed, zt.sure.Players, zt.sure.Shots, zt.sure.Score, zt.own, zbe.first_, zbe.l, zbe.last, zda.size, zda.places, ziu, zgh, zgl, zgj, zgf, zgi, zgm, zgk, zgg, zgo, zgq, zgp, zgn, zgs, zgr, h, zil, zin, zim, zio, zip, ziq, zis, zir, rfl, rfl⟩ (agree_cons rfl (agree_cons rfl (agree_cons rfl (agree_cons rfl (agree_cons rfl (agree_cons rfl (agree_cons rfl (agree_cons rfl (agree_cons rfl agree_nil))))))))) (pSub (pCons (sC (sC (sC (sA (sA (sC (sA (sC (sA hC))))))))) (pCons (sC (sC hC)) (pCons (sC (sC (sA (sA hC)))) (pCons (sC (sC (sA (sA (sA hC))))) (pH (pCons (sC (sA (sA (sA (sA hC))))) (pApp (sC hA') (pApp (sC hA') (pApp (sC hA') (pApp (sC hA') pNil)))))))))))
        replace h := cf hc h
        refine wc_exit (wx_then_exit ?_)
        obtain rfl := Option.some.inj h
        have h := hl98; clear hl98; try dsimp only [orE_l, orE_r] at h
        refine wx_then_exit (wx_block_exit (wx_then (wc_seq (wc_region ?_))))
        refine wP rfl rfl ?_
        replace h := bsome h; obtain ⟨v178, x178, h⟩ := h
        refine wl_cq Tryd.call16 rfl rfl rfl (q_rd (k_rollback_Engine_Known (p0 := (T_rollback_Engine.mk zab zac (T_api_State.mk zy zz zaa zb zu) zc)) (p0_4 := (T_queue_Queue.mk zv za zw)) (p0_5 := (T_ring_Ring.mk zx zd)) zah zai zak zal zad zae zag zaf x178) (pCons (sC hC) (pApp (sC (sC (sC (sC (sC hA'))))) (pApp (sC (sC (sC (sC (sC hA'))))) (pCons (sC hC) (pApp (sC (sC (sC (sC hA')))) (pCons (sC hC) (pApp (sC (sC (sC hA'))) pNil))))))) (fun _ _ => trivial)) rfl ?_
        refine wP rfl rfl (wP (v := .int .u64 (IntKind.wrap .u64 (IntKind.wrap .i64 ((IntKind.wrap .i64 (Int.tmod p0.Sure 60)) + v64)))) rfl rfl (wP (v := .bool (v178 != (IntKind.wrap .u64 (IntKind.wrap .i64 ((IntKind.wrap .i64 (Int.tmod p0.Sure 60)) + v64))))) rfl rfl (wl_nil (wx_then (wc_cond rfl (fun hc => ?_) (fun hc => ?_))))))
        · replace h := ct hc h
          refine wc_seq (wc_region (wP rfl rfl (wl_nil (wx_then (wc_ret (wx_block_ret (wx_then_ret ?_)))))))
          obtain rfl := Option.some.inj h
          have h := hl50; clear hl50; try dsimp only [orE_l, orE_r] at h
          refine wx_then_ret (wx_block_ret (wx_then_ret ?_))
          obtain rfl := sI h
          exact wx_pf tt_ok (.inl rfl) Tryd.results3 (Res.tmp rfl Res.nil) rfl
        replace h := cf hc h
        refine wc_skip (wx_block (wx_then (wc_region (wP rfl rfl (wP (v := .int .i64 (IntKind.wrap .i64 (zdc + (1 : Int)))) rfl rfl (wP rfl rfl (wl_nil ?_)))))))
        exact wx_round m50 (Nat.lt_succ_self m50) ⟨(IntKind.wrap .i64 (zdc + (1 : Int))), zab, zac, zy, zz, zaa, zb, zu, zc, zv, za, zw, zx, zd, zbf, zbc, zao, zbd, zbb, zbk, zau, zbl, zbj, zay, zam, zaz, zax, zan, zba, h, zah, zai, zak, zal, zad, zae, zag, zaf, rfl, rfl⟩ (agree_cons rfl (agree_cons rfl (agree_cons rfl (agree_cons rfl (agree_cons rfl (agree_cons rfl (agree_cons rfl (agree_cons rfl agree_nil)))))))) (pSub (pH (pH (pH (pH (pH (pH (pA (pA (pA (pA pNil)))))))))))
      replace h := cf hc h
      refine wl_skip rfl rfl ?_
      obtain rfl := sI h
      have h := hg150; clear hg150
      refine wP (v := .bool false) rfl rfl (wl_nil (wx_then ?_))
      replace h := cf rfl h
      refine wc_cond_false rfl ?_
      refine wc_exit (wx_then_exit ?_)
      obtain rfl := Option.some.inj h
      have h := hl98; clear hl98; try dsimp only [orE_l, orE_r] at h
      refine wx_then_exit (wx_block_exit (wx_then (wc_seq (wc_region ?_))))
      refine wP rfl rfl ?_
      replace h := bsome h; obtain ⟨v178, x178, h⟩ := h
      refine wl_cq Tryd.call16 rfl rfl rfl (q_rd (k_rollback_Engine_Known (p0 := (T_rollback_Engine.mk zab zac (T_api_State.mk zy zz zaa zb zu) zc)) (p0_4 := (T_queue_Queue.mk zv za zw)) (p0_5 := (T_ring_Ring.mk zx zd)) zah zai zak zal zad zae zag zaf x178) (pCons (sC hC) (pApp (sC (sC (sC (sC (sC hA'))))) (pApp (sC (sC (sC (sC (sC hA'))))) (pCons (sC hC) (pApp (sC (sC (sC (sC hA')))) (pCons (sC hC) (pApp (sC (sC (sC hA'))) pNil))))))) (fun _ _ => trivial)) rfl ?_
      refine wP rfl rfl (wP (v := .int .u64 (IntKind.wrap .u64 (IntKind.wrap .i64 ((IntKind.wrap .i64 (Int.tmod p0.Sure 60)) + v64)))) rfl rfl (wP (v := .bool (v178 != (IntKind.wrap .u64 (IntKind.wrap .i64 ((IntKind.wrap .i64 (Int.tmod p0.Sure 60)) + v64))))) rfl rfl (wl_nil (wx_then (wc_cond rfl (fun hc => ?_) (fun hc => ?_))))))
      · replace h := ct hc h
        refine wc_seq (wc_region (wP rfl rfl (wl_nil (wx_then (wc_ret (wx_block_ret (wx_then_ret ?_)))))))
        obtain rfl := Option.some.inj h
        have h := hl50; clear hl50; try dsimp only [orE_l, orE_r] at h
        refine wx_then_ret (wx_block_ret (wx_then_ret ?_))
        obtain rfl := sI h
        exact wx_pf tt_ok (.inl rfl) Tryd.results3 (Res.tmp rfl Res.nil) rfl
      replace h := cf hc h
      refine wc_skip (wx_block (wx_then (wc_region (wP rfl rfl (wP (v := .int .i64 (IntKind.wrap .i64 (zdc + (1 : Int)))) rfl rfl (wP rfl rfl (wl_nil ?_)))))))
      exact wx_round m50 (Nat.lt_succ_self m50) ⟨(IntKind.wrap .i64 (zdc + (1 : Int))), zab, zac, zy, zz, zaa, zb, zu, zc, zv, za, zw, zx, zd, zbf, zbc, zao, zbd, zbb, zbk, zau, zbl, zbj, zay, zam, zaz, zax, zan, zba, h, zah, zai, zak, zal, zad, zae, zag, zaf, rfl, rfl⟩ (agree_cons rfl (agree_cons rfl (agree_cons rfl (agree_cons rfl (agree_cons rfl (agree_cons rfl (agree_cons rfl (agree_cons rfl agree_nil)))))))) (pSub (pH (pH (pH (pH (pH (pH (pA (pA (pA (pA pNil)))))))))))
    replace h := cf hc h
    refine wl_skip rfl rfl (wl_skip rfl rfl (wl_skip rfl rfl (wl_skip rfl rfl (wl_skip rfl rfl ?_))))
    obtain rfl := sI h
    have h := hg147; clear hg147
    refine wP (v := .bool false) rfl rfl (wP rfl rfl ?_)
    replace h := bsome h; obtain ⟨v150, h, hg150⟩ := h
    replace h := cf rfl h
    refine wl_skip rfl rfl ?_
    obtain rfl := sI h
    have h := hg150; clear hg150
    refine wP (v := .bool false) rfl rfl (wl_nil (wx_then ?_))
    replace h := cf rfl h
    refine wc_cond_false rfl ?_
    refine wc_exit (wx_then_exit ?_)
    obtain rfl := Option.some.inj h
    have h := hl98; clear hl98; try dsimp only [orE_l, orE_r] at h
    refine wx_then_exit (wx_block_exit (wx_then (wc_seq (wc_region ?_))))
    refine wP rfl rfl ?_
    replace h := bsome h; obtain ⟨v178, x178, h⟩ := h
    refine wl_cq Tryd.call16 rfl rfl rfl (q_rd (k_rollback_Engine_Known (p0 := (T_rollback_Engine.mk zab zac (T_api_State.mk zy zz zaa zb zu) zc)) (p0_4 := (T_queue_Queue.mk zv za zw)) (p0_5 := (T_ring_Ring.mk zx zd)) zah zai zak zal zad zae zag zaf x178) (pCons (sC hC) (pApp (sC (sC (sC (sC (sC hA'))))) (pApp (sC (sC (sC (sC (sC hA'))))) (pCons (sC hC) (pApp (sC (sC (sC (sC hA')))) (pCons (sC hC) (pApp (sC (sC (sC hA'))) pNil))))))) (fun _ _ => trivial)) rfl ?_
    refine wP rfl rfl (wP (v := .int .u64 (IntKind.wrap .u64 (IntKind.wrap .i64 ((IntKind.wrap .i64 (Int.tmod p0.Sure 60)) + v64)))) rfl rfl (wP (v := .bool (v178 != (IntKind.wrap .u64 (IntKind.wrap .i64 ((IntKind.wrap .i64 (Int.tmod p0.Sure 60)) + v64))))) rfl rfl (wl_nil (wx_then (wc_cond rfl (fun hc => ?_) (fun hc => ?_))))))
    · replace h := ct hc h
      refine wc_seq (wc_region (wP rfl rfl (wl_nil (wx_then (wc_ret (wx_block_ret (wx_then_ret ?_)))))))
      obtain rfl := Option.some.inj h
      have h := hl50; clear hl50; try dsimp only [orE_l, orE_r] at h
      refine wx_then_ret (wx_block_ret (wx_then_ret ?_))
      obtain rfl := sI h
      exact wx_pf tt_ok (.inl rfl) Tryd.results3 (Res.tmp rfl Res.nil) rfl
    replace h := cf hc h
    refine wc_skip (wx_block (wx_then (wc_region (wP rfl rfl (wP (v := .int .i64 (IntKind.wrap .i64 (zdc + (1 : Int)))) rfl rfl (wP rfl rfl (wl_nil ?_)))))))
    exact wx_round m50 (Nat.lt_succ_self m50) ⟨(IntKind.wrap .i64 (zdc + (1 : Int))), zab, zac, zy, zz, zaa, zb, zu, zc, zv, za, zw, zx, zd, zbf, zbc, zao, zbd, zbb, zbk, zau, zbl, zbj, zay, zam, zaz, zax, zan, zba, h, zah, zai, zak, zal, zad, zae, zag, zaf, rfl, rfl⟩ (agree_cons rfl (agree_cons rfl (agree_cons rfl (agree_cons rfl (agree_cons rfl (agree_cons rfl (agree_cons rfl (agree_cons rfl agree_nil)))))))) (pSub (pH (pH (pH (pH (pH (pH (pA (pA (pA (pA pNil)))))))))))
  replace h := cf hc h
  refine wc_exit (wx_then_exit ?_)
  obtain rfl := Option.some.inj h
  have h := hl50; clear hl50; try dsimp only [orE_l, orE_r] at h
  refine wx_then_exit (wx_block_exit (wx_then (wc_seq (wc_region ?_))))
  replace h := bsome h; obtain ⟨v182, x182, h⟩ := h
  refine wl_cq Tryd.call5 rfl rfl rfl (q_pf (k_hindcastlaw28_works x182) (fun w hI => ⟨(Rds.call G0S pNil rsub_nil) w hI, (Rds.call G1S pNil rsub_nil) w hI⟩)) rfl ?_
  refine wP rfl rfl (wl_nil (wx_then (wc_ret ?_)))
  obtain rfl := sI h
  exact wx_pf tt_ok (.inl rfl) Tryd.results3 (Res.tmp rfl Res.nil) rfl

end Go.Proofs.YtkdbpenjkcjimaaDoor
