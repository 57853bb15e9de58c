/-
  Each function computes what its model says. Printed by a program of this claim's own.
-/
import Derived.Test.YtkdbpenjkcjimaaDoorTab
import Derived.Test.YtkdbpenjkcjimaaDoorMod
import Derived.Test.YtkdbpenjkcjimaaDoorWalk3
namespace Go.Proofs.YtkdbpenjkcjimaaDoor
open Go.Proofs.YtkdbpenjkcjimaaDoor.Eng
set_option linter.unusedVariables false
set_option linter.unusedSimpArgs false
set_option maxHeartbeats 4000000
set_option maxRecDepth 20000

theorem k_hindcastlaw28_works {F : Nat} {r0 : Bool} (h : m_hindcastlaw28_works F = some r0) :
    Pf Tryd.prog 5 [] (fun w => Rds w [] [] (some ⟨0, 0, none⟩) (flat (fun _ : Unit => gl_state_playerBounds) [()]) ∧ Rds w [] [] (some ⟨1, 0, none⟩) (flat (fun _ : Unit => gl_state_shotBounds) [()])) (.bool r0) := by
  unfold m_hindcastlaw28_works at h
  refine pf_of_wc Tryd.func5 rfl Tryd.ntmps5 rfl rfl (fun w0 hR => ?_)
  obtain ⟨G0S, G1S⟩ := hR
  refine wc_seq (wc_region ?_)
  refine wl_pure tt_ok rfl rfl ?_
  refine wl_nil (wx_then (wc_seq (wc_region ?_)))
  refine wl_inl Tryd.call17 rfl rfl rfl Tryd.func17 rfl Tryd.ntmps17 rfl rfl rfl ?_
  refine wc_seq (wc_region ?_)
  iterate 2 refine wl_pure tt_ok rfl rfl ?_
  refine wl_nil (wx_then (wc_seq (wc_region ?_)))
  replace h := bsome h; obtain ⟨v100005, x100005, h⟩ := h
  refine wl_cs Tryd.call23 rfl rfl rfl (s_sp (k_state_Start x100005) pNil (fun _ _ => trivial)) rfl ?_
  rintro _ _ ⟨_, ⟨v100005a0, v100005n0, v100005c0, v100005B0, v100005N0, v100005V0, rfl, rfl⟩, rfl⟩
  replace h := bsome h; obtain ⟨v100006, x100006, h⟩ := h
  rcases v100006 with _ | v100006s
  · replace h := poN h
    refine wl_cs Tryd.call22 rfl rfl rfl (s_sp (k_rollback_New_none (p0 := v100005) v100005N0 (vec_cap v100005V0) (own_Z v100005V0) x100006) pNil (fun w hI => ⟨(Rds.call (Rds.of_vec v100005V0) pNil ⟨_, Sel.ha⟩) w hI, (Rds.call G0S pNil rsub_nil) w hI, (Rds.call G1S pNil rsub_nil) w hI⟩)) rfl ?_
    rintro _ _ ⟨_, ⟨rfl, rfl⟩, rfl⟩
    refine wl_pure tt_ok rfl rfl ?_
    refine wl_nil (wx_then (wc_seq (wc_region ?_)))
    replace h := bsome h; obtain ⟨v100007, x100007, h⟩ := h
    rcases v100007 with _ | v100007s
    · replace h := poN h
      refine wl_cs Tryd.call7 rfl rfl rfl (s_sp (k_fold_New_none x100007) pNil (fun _ _ => trivial)) rfl ?_
      rintro _ _ ⟨_, ⟨rfl, rfl⟩, rfl⟩
      refine wl_pure tt_ok rfl rfl ?_
      refine wl_nil (wx_then (wc_seq (wc_seq (wc_region ?_))))
      refine wl_pure tt_ok rfl rfl ?_
      refine wl_nil (wx_then (wc_block ?_))
      replace h := bsome h; obtain ⟨_, h, hl100011⟩ := h
      refine wc_loop (fun m E L => ∃ (j100011_100004 : Int), m_hindcastlaw28_works_L100010 F m j100011_100004 = some () ∧ E = [(2, .pointer none), (3, .pointer none), (4, .int .i64 j100011_100004)] ∧ L = []) F ⟨(0 : Int), h, rfl, rfl⟩ (agree_cons rfl (agree_cons rfl (agree_cons rfl agree_nil))) (pSub pNil) ?_
      clear h
      rintro m100011 _ _ ⟨j100011_100004, h, rfl, rfl⟩
      rcases m100011 with _ | m100011
      · rw [m_hindcastlaw28_works_L100010.eq_1] at h; cases h
      rw [m_hindcastlaw28_works_L100010.eq_2] at h
      refine wc_seq (wc_seq (wc_region ?_))
      refine wl_pure tt_ok rfl rfl ?_
      refine wl_pure (v := .bool (decide (j100011_100004 < (3 : Int)))) tt_ok rfl rfl ?_
      refine wl_nil (wx_then ?_)
      refine wc_cond rfl (fun hc => ?_) (fun hc => ?_)
      · replace h := ct hc h
        refine wc_skip (wx_then (wc_seq (wc_block (wc_region ?_))))
        refine wl_pure tt_ok rfl rfl ?_
        replace h := bsome h; obtain ⟨v100013, x100013, h⟩ := h
        refine wl_cq Tryd.call24 rfl rfl rfl (q_pf (k_rollback_Engine_Local_nil0 x100013) (fun _ _ => trivial)) rfl ?_
        refine wl_nil (wx_block (wx_then (wc_region ?_)))
        refine wl_pure tt_ok rfl rfl ?_
        refine wl_pure (v := .int .i64 (IntKind.wrap .i64 (j100011_100004 + (1 : Int)))) tt_ok rfl rfl ?_
        refine wl_pure tt_ok rfl rfl ?_
        refine wl_nil ?_
        exact wx_round m100011 (Nat.lt_succ_self m100011) ⟨(IntKind.wrap .i64 (j100011_100004 + (1 : Int))), h, rfl, rfl⟩ (agree_cons rfl (agree_cons rfl (agree_cons rfl agree_nil))) (pSub pNil)
      replace h := cf hc h
      refine wc_exit (wx_then_exit ?_)
      have h := hl100011; clear hl100011; try dsimp only [orE_l, orE_r] at h
      refine wx_then_exit (wx_block_exit (wx_then (wc_seq (wc_region ?_))))
      refine wl_pure tt_ok rfl rfl ?_
      replace h := bsome h; obtain ⟨v100015, x100015, h⟩ := h
      refine wl_cq Tryd.call26 rfl rfl rfl (q_pf (k_rollback_Engine_Remote_nil0 x100015) (fun _ _ => trivial)) rfl ?_
      refine wl_nil (wx_then (wc_seq (wc_region ?_)))
      refine wl_pure tt_ok rfl rfl ?_
      replace h := bsome h; obtain ⟨⟨v100017_0, v100017_1⟩, x100017, h⟩ := h; try dsimp only at h
      refine wl_cq Tryd.call14 rfl rfl rfl (q_pf (k_rollback_Engine_Confirm_nil0 x100017) (fun _ _ => trivial)) rfl ?_
      refine wl_nil (wx_then (wc_seq (wc_region ?_)))
      refine wl_pure tt_ok rfl rfl ?_
      refine wl_pure (v := .agg #[.int .u8 (2 : Int), .int .u8 (1 : Int)]) tt_ok rfl rfl ?_
      replace h := bsome h; obtain ⟨v100020, x100020, h⟩ := h
      refine wl_cq Tryd.call8 rfl rfl rfl (q_pf (k_fold_History_Add_nil0 x100020) (fun _ _ => trivial)) rfl ?_
      refine wl_nil (wx_then (wc_seq (wc_region ?_)))
      iterate 4 refine wl_pure tt_ok rfl rfl ?_
      refine wl_nil (wx_then (wc_ret ?_))
      refine wx_inl (v := .tuple #[.pointer none, .pointer none]) tt_ok (.inl rfl) Tryd.results17 (Res.tmp rfl (Res.tmp rfl Res.nil)) rfl ?_
      iterate 5 refine wl_pure tt_ok rfl rfl ?_
      refine wl_nil (wx_then (wc_seq (wc_seq (wc_region ?_))))
      refine wl_pure tt_ok rfl rfl ?_
      refine wl_pure (v := .bool true) tt_ok rfl rfl ?_
      refine wl_pure tt_ok rfl rfl ?_
      refine wl_skip rfl rfl ?_
      refine wl_skip rfl rfl ?_
      refine wl_pure (v := .bool true) tt_ok rfl rfl ?_
      refine wl_nil (wx_then ?_)
      refine wc_cond_true rfl ?_
      refine wc_seq (wc_region ?_)
      refine wl_pure tt_ok rfl rfl ?_
      refine wl_nil (wx_then (wc_ret (wx_then_ret ?_)))
      simp only [Option.some.injEq] at h
      obtain rfl := h
      exact wx_pf tt_ok (.inl rfl) Tryd.results5 (Res.tmp rfl Res.nil) rfl
    replace h := poS h
    refine wl_cs Tryd.call7 rfl rfl rfl (s_sp (k_fold_New x100007) pNil (fun _ _ => trivial)) rfl ?_
    rintro _ _ ⟨_, ⟨b100007_0, rfl, rfl⟩, rfl⟩
    refine wl_pure tt_ok rfl rfl ?_
    refine wl_nil (wx_then (wc_seq (wc_seq (wc_region ?_))))
    refine wl_pure tt_ok rfl rfl ?_
    refine wl_nil (wx_then (wc_block ?_))
    replace h := bsome h; obtain ⟨_, h, hl100011⟩ := h
    refine wc_loop (fun m E L => ∃ (j100011_100004 : Int), m_hindcastlaw28_works_L100010_1 F m j100011_100004 = some () ∧ E = [(2, .pointer none), (3, .pointer (some ⟨b100007_0, 0, none⟩)), (4, .int .i64 j100011_100004)] ∧ L = (⟨b100007_0, ([.int .u64 v100007s.from_, .int .u64 v100007s.count, .int .u64 v100007s.most] ++ flat (e2 .u8) v100007s.ring.1), 68, (0, 0)⟩ :: [])) F ⟨(0 : Int), h, rfl, rfl⟩ (agree_cons rfl (agree_cons rfl (agree_cons rfl agree_nil))) (pSub (pCons Sel.hc pNil)) ?_
    clear h
    rintro m100011 _ _ ⟨j100011_100004, h, rfl, rfl⟩
    rcases m100011 with _ | m100011
    · rw [m_hindcastlaw28_works_L100010_1.eq_1] at h; cases h
    rw [m_hindcastlaw28_works_L100010_1.eq_2] at h
    refine wc_seq (wc_seq (wc_region ?_))
    refine wl_pure tt_ok rfl rfl ?_
    refine wl_pure (v := .bool (decide (j100011_100004 < (3 : Int)))) tt_ok rfl rfl ?_
    refine wl_nil (wx_then ?_)
    refine wc_cond rfl (fun hc => ?_) (fun hc => ?_)
    · replace h := ct hc h
      refine wc_skip (wx_then (wc_seq (wc_block (wc_region ?_))))
      refine wl_pure tt_ok rfl rfl ?_
      replace h := bsome h; obtain ⟨v100013, x100013, h⟩ := h
      refine wl_cq Tryd.call24 rfl rfl rfl (q_pf (k_rollback_Engine_Local_nil0 x100013) (fun _ _ => trivial)) rfl ?_
      refine wl_nil (wx_block (wx_then (wc_region ?_)))
      refine wl_pure tt_ok rfl rfl ?_
      refine wl_pure (v := .int .i64 (IntKind.wrap .i64 (j100011_100004 + (1 : Int)))) tt_ok rfl rfl ?_
      refine wl_pure tt_ok rfl rfl ?_
      refine wl_nil ?_
      exact wx_round m100011 (Nat.lt_succ_self m100011) ⟨(IntKind.wrap .i64 (j100011_100004 + (1 : Int))), h, rfl, rfl⟩ (agree_cons rfl (agree_cons rfl (agree_cons rfl agree_nil))) (pSub (pCons Sel.hc pNil))
    replace h := cf hc h
    refine wc_exit (wx_then_exit ?_)
    have h := hl100011; clear hl100011; try dsimp only [orE_l, orE_r] at h
    refine wx_then_exit (wx_block_exit (wx_then (wc_seq (wc_region ?_))))
    refine wl_pure tt_ok rfl rfl ?_
    replace h := bsome h; obtain ⟨v100015, x100015, h⟩ := h
    refine wl_cq Tryd.call26 rfl rfl rfl (q_pf (k_rollback_Engine_Remote_nil0 x100015) (fun _ _ => trivial)) rfl ?_
    refine wl_nil (wx_then (wc_seq (wc_region ?_)))
    refine wl_pure tt_ok rfl rfl ?_
    replace h := bsome h; obtain ⟨⟨v100017_0, v100017_1⟩, x100017, h⟩ := h; try dsimp only at h
    refine wl_cq Tryd.call14 rfl rfl rfl (q_pf (k_rollback_Engine_Confirm_nil0 x100017) (fun _ _ => trivial)) rfl ?_
    refine wl_nil (wx_then (wc_seq (wc_region ?_)))
    refine wl_pure tt_ok rfl rfl ?_
    refine wl_pure (v := .agg #[.int .u8 (2 : Int), .int .u8 (1 : Int)]) tt_ok rfl rfl ?_
    replace h := bsome h; obtain ⟨⟨o100020_0, v100020⟩, x100020, h⟩ := h; try dsimp only at h
    refine wl_cs Tryd.call8 rfl rfl rfl (s_sp (k_fold_History_Add x100020) (pCons Sel.hc pNil) (fun _ _ => trivial)) rfl ?_
    rintro _ _ ⟨_, ⟨rfl, rfl⟩, rfl⟩
    refine wl_nil (wx_then (wc_seq (wc_region ?_)))
    iterate 4 refine wl_pure tt_ok rfl rfl ?_
    refine wl_nil (wx_then (wc_ret ?_))
    refine wx_inl (v := .tuple #[.pointer none, .pointer (some ⟨b100007_0, 0, none⟩)]) tt_ok (.inl rfl) Tryd.results17 (Res.tmp rfl (Res.tmp rfl Res.nil)) rfl ?_
    iterate 5 refine wl_pure tt_ok rfl rfl ?_
    refine wl_nil (wx_then (wc_seq (wc_seq (wc_region ?_))))
    refine wl_pure tt_ok rfl rfl ?_
    refine wl_pure (v := .bool true) tt_ok rfl rfl ?_
    refine wl_pure tt_ok rfl rfl ?_
    refine wl_skip rfl rfl ?_
    refine wl_skip rfl rfl ?_
    refine wl_pure (v := .bool true) tt_ok rfl rfl ?_
    refine wl_nil (wx_then ?_)
    refine wc_cond_true rfl ?_
    refine wc_seq (wc_region ?_)
    refine wl_pure tt_ok rfl rfl ?_
    refine wl_nil (wx_then (wc_ret (wx_then_ret ?_)))
    simp only [Option.some.injEq] at h
    obtain rfl := h
    exact wx_pf tt_ok (.inl rfl) Tryd.results5 (Res.tmp rfl Res.nil) rfl
  replace h := poS h
  refine wl_cs Tryd.call22 rfl rfl rfl (s_sp (k_rollback_New (p0 := v100005) v100005N0 (vec_cap v100005V0) (own_Z v100005V0) x100006) pNil (fun w hI => ⟨(Rds.call (Rds.of_vec v100005V0) pNil ⟨_, Sel.ha⟩) w hI, (Rds.call G0S pNil rsub_nil) w hI, (Rds.call G1S pNil rsub_nil) w hI⟩)) rfl ?_
  rintro _ _ ⟨_, ⟨b100006_0, b100006_0_4, b100006_0_5, v100006sa0, v100006sn0, v100006sc0, v100006sB0, v100006sa1, v100006sn1, v100006sc1, v100006sB1, v100006s_4a0, v100006s_4n0, v100006s_4c0, v100006s_4B0, v100006s_5g0, v100006s_5P0, v100006sN0, v100006sV0, v100006sN1, v100006sV1, v100006s_4N0, v100006s_4V0, v100006s_5G0, v100006s_5A0, rfl, rfl⟩, rfl⟩
  refine wl_pure tt_ok rfl rfl ?_
  refine wl_nil (wx_then (wc_seq (wc_region ?_)))
  replace h := bsome h; obtain ⟨v100007, x100007, h⟩ := h
  rcases v100007 with _ | v100007s
  · replace h := poN h
    refine wl_cs Tryd.call7 rfl rfl rfl (s_sp (k_fold_New_none x100007) pNil (fun _ _ => trivial)) rfl ?_
    rintro _ _ ⟨_, ⟨rfl, rfl⟩, rfl⟩
    refine wl_pure tt_ok rfl rfl ?_
    refine wl_nil (wx_then (wc_seq (wc_seq (wc_region ?_))))
    refine wl_pure tt_ok rfl rfl ?_
    refine wl_nil (wx_then (wc_block ?_))
    replace h := bsome h; obtain ⟨⟨l100011_n100006_0_f0, l100011_n100006_0_f1, l100011_n100006_0_f2_0, l100011_n100006_0_f2_1, l100011_n100006_0_f2_2, l100011_n100006_0_f2_3, l100011_n100006_0_f2_4, l100011_n100006_0_f3⟩, h, hl100011⟩ := h; try dsimp only at hl100011
    refine wc_loop (fun m E L => ∃ (j100011_100004 : Int) (j100011_n100006_0_f0 : Int) (j100011_n100006_0_f1 : Int) (j100011_n100006_0_f2_0 : Int) (j100011_n100006_0_f2_1 : Int) (j100011_n100006_0_f2_2 : (T_api_Player × T_api_Player)) (j100011_n100006_0_f2_3 : (List T_api_Shot)) (j100011_n100006_0_f2_4 : (Int × Int)) (j100011_n100006_0_f3 : (List Int)) (j100011_n100006_0_f2_3a0 : Option Addr) (j100011_n100006_0_f2_3n0 : Nat) (j100011_n100006_0_f2_3c0 : Nat) (j100011_n100006_0_f2_3B0 : List Blk) (j100011_n100006_0_f3a0 : Option Addr) (j100011_n100006_0_f3n0 : Nat) (j100011_n100006_0_f3c0 : Nat) (j100011_n100006_0_f3B0 : List Blk), m_hindcastlaw28_works_L100010_2 F v100006s m j100011_100004 j100011_n100006_0_f0 j100011_n100006_0_f1 j100011_n100006_0_f2_0 j100011_n100006_0_f2_1 j100011_n100006_0_f2_2 j100011_n100006_0_f2_3 j100011_n100006_0_f2_4 j100011_n100006_0_f3 = some (l100011_n100006_0_f0, l100011_n100006_0_f1, l100011_n100006_0_f2_0, l100011_n100006_0_f2_1, l100011_n100006_0_f2_2, l100011_n100006_0_f2_3, l100011_n100006_0_f2_4, l100011_n100006_0_f3) ∧ j100011_n100006_0_f2_3n0 = j100011_n100006_0_f2_3.length ∧ Own 92 6 j100011_n100006_0_f2_3a0 j100011_n100006_0_f2_3n0 j100011_n100006_0_f2_3c0 (flat c_T_api_Shot j100011_n100006_0_f2_3) j100011_n100006_0_f2_3B0 ∧ j100011_n100006_0_f3n0 = j100011_n100006_0_f3.length ∧ Own 34 1 j100011_n100006_0_f3a0 j100011_n100006_0_f3n0 j100011_n100006_0_f3c0 (flat (e1 .u8) j100011_n100006_0_f3) j100011_n100006_0_f3B0 ∧ E = [(2, .pointer (some ⟨b100006_0, 0, none⟩)), (3, .pointer none), (4, .int .i64 j100011_100004)] ∧ L = (⟨b100006_0, [.int .u8 j100011_n100006_0_f0, .int .i64 j100011_n100006_0_f1, .int .u64 j100011_n100006_0_f2_0, .int .u64 j100011_n100006_0_f2_1, .int .i32 j100011_n100006_0_f2_2.1.X, .int .i32 j100011_n100006_0_f2_2.1.Y, .int .i32 j100011_n100006_0_f2_2.1.VX, .int .i32 j100011_n100006_0_f2_2.1.VY, .int .u8 j100011_n100006_0_f2_2.1.Health, .int .u8 j100011_n100006_0_f2_2.1.Cool, .int .u8 j100011_n100006_0_f2_2.1.Face, .int .i32 j100011_n100006_0_f2_2.2.X, .int .i32 j100011_n100006_0_f2_2.2.Y, .int .i32 j100011_n100006_0_f2_2.2.VX, .int .i32 j100011_n100006_0_f2_2.2.VY, .int .u8 j100011_n100006_0_f2_2.2.Health, .int .u8 j100011_n100006_0_f2_2.2.Cool, .int .u8 j100011_n100006_0_f2_2.2.Face, .slice j100011_n100006_0_f2_3a0 j100011_n100006_0_f2_3n0 j100011_n100006_0_f2_3c0, .int .u16 j100011_n100006_0_f2_4.1, .int .u16 j100011_n100006_0_f2_4.2, .slice j100011_n100006_0_f3a0 j100011_n100006_0_f3n0 j100011_n100006_0_f3c0, .pointer (some ⟨b100006_0_4, 0, none⟩), .pointer (some ⟨b100006_0_5, 0, none⟩)], 73, (0, 0)⟩ :: (⟨b100006_0_4, [.int .u64 v100006s.2.1.first_, .slice v100006s_4a0 v100006s_4n0 v100006s_4c0, .int .u8 v100006s.2.1.last], 103, (0, 0)⟩ :: (⟨b100006_0_5, ([.int .i64 v100006s.2.2.size] ++ flat cg_T_ring_place v100006s_5g0), 121, (0, 0)⟩ :: (j100011_n100006_0_f2_3B0 ++ (j100011_n100006_0_f3B0 ++ (v100006s_4B0 ++ (v100006s_5P0 ++ [])))))))) F ⟨(0 : Int), v100006s.1.player, v100006s.1.window, v100006s.1.sure.Frame, v100006s.1.sure.Seed, v100006s.1.sure.Players, v100006s.1.sure.Shots, v100006s.1.sure.Score, v100006s.1.own, v100006sa0, v100006sn0, v100006sc0, v100006sB0, v100006sa1, v100006sn1, v100006sc1, v100006sB1, h, v100006sN0, v100006sV0, v100006sN1, v100006sV1, rfl, rfl⟩ (agree_cons rfl (agree_cons rfl (agree_cons rfl agree_nil))) (pSub (pCons Sel.hc (pCons (Sel.sa (Sel.sa Sel.hc)) (pCons (Sel.sa (Sel.sa (Sel.sa Sel.hc))) (pApp Sel.ha (pApp Sel.ha (pApp Sel.ha (pApp Sel.ha pNil)))))))) ?_
    clear h
    rintro m100011 _ _ ⟨j100011_100004, j100011_n100006_0_f0, j100011_n100006_0_f1, j100011_n100006_0_f2_0, j100011_n100006_0_f2_1, j100011_n100006_0_f2_2, j100011_n100006_0_f2_3, j100011_n100006_0_f2_4, j100011_n100006_0_f3, j100011_n100006_0_f2_3a0, j100011_n100006_0_f2_3n0, j100011_n100006_0_f2_3c0, j100011_n100006_0_f2_3B0, j100011_n100006_0_f3a0, j100011_n100006_0_f3n0, j100011_n100006_0_f3c0, j100011_n100006_0_f3B0, h, j100011_n100006_0_f2_3N0, j100011_n100006_0_f2_3V0, j100011_n100006_0_f3N0, j100011_n100006_0_f3V0, rfl, rfl⟩
    rcases m100011 with _ | m100011
    · rw [m_hindcastlaw28_works_L100010_2.eq_1] at h; cases h
    rw [m_hindcastlaw28_works_L100010_2.eq_2] at h
    refine wc_seq (wc_seq (wc_region ?_))
    refine wl_pure tt_ok rfl rfl ?_
    refine wl_pure (v := .bool (decide (j100011_100004 < (3 : Int)))) tt_ok rfl rfl ?_
    refine wl_nil (wx_then ?_)
    refine wc_cond rfl (fun hc => ?_) (fun hc => ?_)
    · replace h := ct hc h
      refine wc_skip (wx_then (wc_seq (wc_block (wc_region ?_))))
      refine wl_pure tt_ok rfl rfl ?_
      replace h := bsome h; obtain ⟨⟨o100013_0, v100013⟩, x100013, h⟩ := h; try dsimp only at h
      refine wl_cs Tryd.call24 rfl rfl rfl (s_sp (k_rollback_Engine_Local (p0 := (T_rollback_Engine.mk j100011_n100006_0_f0 j100011_n100006_0_f1 (T_api_State.mk j100011_n100006_0_f2_0 j100011_n100006_0_f2_1 j100011_n100006_0_f2_2 j100011_n100006_0_f2_3 j100011_n100006_0_f2_4) j100011_n100006_0_f3)) (p0_4 := v100006s.2.1) (p0_5 := v100006s.2.2) j100011_n100006_0_f2_3N0 j100011_n100006_0_f2_3V0 j100011_n100006_0_f3N0 j100011_n100006_0_f3V0 v100006s_4N0 v100006s_4V0 v100006s_5G0 v100006s_5A0 x100013) (pCons Sel.hc (pApp (Sel.sc (Sel.sc Sel.ha)) (pApp (Sel.sc (Sel.sc Sel.ha)) (pCons Sel.hc (pApp (Sel.sc Sel.ha) (pCons Sel.hc (pApp Sel.ha pNil))))))) (fun _ _ => trivial)) rfl ?_
      rintro _ _ ⟨_, ⟨o100013_0a0, o100013_0n0, o100013_0c0, o100013_0B0, o100013_0a1, o100013_0n1, o100013_0c1, o100013_0B1, o100013_0N0, o100013_0V0, o100013_0N1, o100013_0V1, rfl, rfl⟩, rfl⟩
      refine wl_nil (wx_block (wx_then (wc_region ?_)))
      refine wl_pure tt_ok rfl rfl ?_
      refine wl_pure (v := .int .i64 (IntKind.wrap .i64 (j100011_100004 + (1 : Int)))) tt_ok rfl rfl ?_
      refine wl_pure tt_ok rfl rfl ?_
      refine wl_nil ?_
      exact wx_round m100011 (Nat.lt_succ_self m100011) ⟨(IntKind.wrap .i64 (j100011_100004 + (1 : Int))), o100013_0.player, o100013_0.window, o100013_0.sure.Frame, o100013_0.sure.Seed, o100013_0.sure.Players, o100013_0.sure.Shots, o100013_0.sure.Score, o100013_0.own, o100013_0a0, o100013_0n0, o100013_0c0, o100013_0B0, o100013_0a1, o100013_0n1, o100013_0c1, o100013_0B1, h, o100013_0N0, o100013_0V0, o100013_0N1, o100013_0V1, rfl, rfl⟩ (agree_cons rfl (agree_cons rfl (agree_cons rfl agree_nil))) (pSub (pCons Sel.hc (pCons (Sel.sa (Sel.sa Sel.hc)) (pCons (Sel.sa (Sel.sa (Sel.sa Sel.hc))) (pApp Sel.ha (pApp Sel.ha (pApp Sel.ha (pApp Sel.ha pNil))))))))
    replace h := cf hc h
    refine wc_exit (wx_then_exit ?_)
    simp only [Option.some.injEq, Prod.mk.injEq] at h
    obtain ⟨rfl, rfl, rfl, rfl, rfl, rfl, rfl, rfl⟩ := h
    have h := hl100011; clear hl100011; try dsimp only [orE_l, orE_r] at h
    refine wx_then_exit (wx_block_exit (wx_then (wc_seq (wc_region ?_))))
    refine wl_pure tt_ok rfl rfl ?_
    replace h := bsome h; obtain ⟨⟨o100015_1, o100015_2, v100015⟩, x100015, h⟩ := h; try dsimp only at h
    refine wl_cs Tryd.call26 rfl rfl rfl (s_sp (k_rollback_Engine_Remote (p0 := (T_rollback_Engine.mk j100011_n100006_0_f0 j100011_n100006_0_f1 (T_api_State.mk j100011_n100006_0_f2_0 j100011_n100006_0_f2_1 j100011_n100006_0_f2_2 j100011_n100006_0_f2_3 j100011_n100006_0_f2_4) j100011_n100006_0_f3)) (p0_4 := v100006s.2.1) (p0_5 := v100006s.2.2) j100011_n100006_0_f2_3N0 j100011_n100006_0_f2_3V0 j100011_n100006_0_f3N0 j100011_n100006_0_f3V0 v100006s_4N0 v100006s_4V0 v100006s_5G0 v100006s_5A0 x100015) (pCons Sel.hc (pApp (Sel.sc (Sel.sc Sel.ha)) (pApp (Sel.sc (Sel.sc Sel.ha)) (pCons Sel.hc (pApp (Sel.sc Sel.ha) (pCons Sel.hc (pApp Sel.ha pNil))))))) (fun _ _ => trivial)) rfl ?_
    rintro _ _ ⟨_, ⟨o100015_1a0, o100015_1n0, o100015_1c0, o100015_1B0, o100015_2g0, o100015_2P0, o100015_1N0, o100015_1V0, o100015_2G0, o100015_2A0, rfl, rfl⟩, rfl⟩
    refine wl_nil (wx_then (wc_seq (wc_region ?_)))
    refine wl_pure tt_ok rfl rfl ?_
    replace h := bsome h; obtain ⟨⟨o100017_0, o100017_1, o100017_2, v100017_0, v100017_1⟩, x100017, h⟩ := h; try dsimp only at h
    refine wl_cs Tryd.call14 rfl rfl rfl (s_sp (k_rollback_Engine_Confirm (p0 := (T_rollback_Engine.mk j100011_n100006_0_f0 j100011_n100006_0_f1 (T_api_State.mk j100011_n100006_0_f2_0 j100011_n100006_0_f2_1 j100011_n100006_0_f2_2 j100011_n100006_0_f2_3 j100011_n100006_0_f2_4) j100011_n100006_0_f3)) (p0_4 := o100015_1) (p0_5 := o100015_2) j100011_n100006_0_f2_3N0 j100011_n100006_0_f2_3V0 j100011_n100006_0_f3N0 j100011_n100006_0_f3V0 o100015_1N0 o100015_1V0 o100015_2G0 o100015_2A0 x100017) (pCons Sel.hc (pApp Sel.ha (pApp Sel.ha (pCons Sel.hc (pApp Sel.ha (pCons Sel.hc (pApp Sel.ha pNil))))))) (fun w hI => ⟨(Rds.call G0S (pCons Sel.hc (pApp Sel.ha (pApp Sel.ha (pCons Sel.hc (pApp Sel.ha (pCons Sel.hc (pApp Sel.ha pNil))))))) rsub_nil) w hI, (Rds.call G1S (pCons Sel.hc (pApp Sel.ha (pApp Sel.ha (pCons Sel.hc (pApp Sel.ha (pCons Sel.hc (pApp Sel.ha pNil))))))) rsub_nil) w hI⟩)) rfl ?_
    rintro _ _ ⟨_, ⟨o100017_0a0, o100017_0n0, o100017_0c0, o100017_0B0, o100017_0a1, o100017_0n1, o100017_0c1, o100017_0B1, o100017_1a0, o100017_1n0, o100017_1c0, o100017_1B0, o100017_2g0, o100017_2P0, o100017_0N0, o100017_0V0, o100017_0N1, o100017_0V1, o100017_1N0, o100017_1V0, o100017_2G0, o100017_2A0, rfl, rfl⟩, rfl⟩
    refine wl_nil (wx_then (wc_seq (wc_region ?_)))
    refine wl_pure tt_ok rfl rfl ?_
    refine wl_pure (v := .agg #[.int .u8 (2 : Int), .int .u8 (1 : Int)]) tt_ok rfl rfl ?_
    replace h := bsome h; obtain ⟨v100020, x100020, h⟩ := h
    refine wl_cq Tryd.call8 rfl rfl rfl (q_pf (k_fold_History_Add_nil0 x100020) (fun _ _ => trivial)) rfl ?_
    refine wl_nil (wx_then (wc_seq (wc_region ?_)))
    iterate 4 refine wl_pure tt_ok rfl rfl ?_
    refine wl_nil (wx_then (wc_ret ?_))
    refine wx_inl (v := .tuple #[.pointer (some ⟨b100006_0, 0, none⟩), .pointer none]) tt_ok (.inl rfl) Tryd.results17 (Res.tmp rfl (Res.tmp rfl Res.nil)) rfl ?_
    iterate 5 refine wl_pure tt_ok rfl rfl ?_
    refine wl_nil (wx_then (wc_seq (wc_seq (wc_region ?_))))
    refine wl_pure tt_ok rfl rfl ?_
    refine wl_pure (v := .bool false) tt_ok rfl rfl ?_
    refine wl_pure tt_ok rfl rfl ?_
    refine wl_run rfl ?_
    refine wl_pure tt_ok rfl rfl ?_
    refine wl_run rfl ?_
    refine wl_pure (v := .bool true) tt_ok rfl rfl ?_
    refine wl_pure (v := .bool true) tt_ok rfl rfl ?_
    refine wl_nil (wx_then ?_)
    refine wc_cond_true rfl ?_
    refine wc_seq (wc_region ?_)
    refine wl_pure tt_ok rfl rfl ?_
    refine wl_nil (wx_then (wc_ret (wx_then_ret ?_)))
    simp only [Option.some.injEq] at h
    obtain rfl := h
    exact wx_pf tt_ok (.inl rfl) Tryd.results5 (Res.tmp rfl Res.nil) rfl
  replace h := poS h
  refine wl_cs Tryd.call7 rfl rfl rfl (s_sp (k_fold_New x100007) pNil (fun _ _ => trivial)) rfl ?_
  rintro _ _ ⟨_, ⟨b100007_0, rfl, rfl⟩, rfl⟩
  refine wl_pure tt_ok rfl rfl ?_
  refine wl_nil (wx_then (wc_seq (wc_seq (wc_region ?_))))
  refine wl_pure tt_ok rfl rfl ?_
  refine wl_nil (wx_then (wc_block ?_))
  replace h := bsome h; obtain ⟨⟨l100011_n100006_0_f0, l100011_n100006_0_f1, l100011_n100006_0_f2_0, l100011_n100006_0_f2_1, l100011_n100006_0_f2_2, l100011_n100006_0_f2_3, l100011_n100006_0_f2_4, l100011_n100006_0_f3⟩, h, hl100011⟩ := h; try dsimp only at hl100011
  refine wc_loop (fun m E L => ∃ (j100011_100004 : Int) (j100011_n100006_0_f0 : Int) (j100011_n100006_0_f1 : Int) (j100011_n100006_0_f2_0 : Int) (j100011_n100006_0_f2_1 : Int) (j100011_n100006_0_f2_2 : (T_api_Player × T_api_Player)) (j100011_n100006_0_f2_3 : (List T_api_Shot)) (j100011_n100006_0_f2_4 : (Int × Int)) (j100011_n100006_0_f3 : (List Int)) (j100011_n100006_0_f2_3a0 : Option Addr) (j100011_n100006_0_f2_3n0 : Nat) (j100011_n100006_0_f2_3c0 : Nat) (j100011_n100006_0_f2_3B0 : List Blk) (j100011_n100006_0_f3a0 : Option Addr) (j100011_n100006_0_f3n0 : Nat) (j100011_n100006_0_f3c0 : Nat) (j100011_n100006_0_f3B0 : List Blk), m_hindcastlaw28_works_L100010_3 F v100006s m j100011_100004 j100011_n100006_0_f0 j100011_n100006_0_f1 j100011_n100006_0_f2_0 j100011_n100006_0_f2_1 j100011_n100006_0_f2_2 j100011_n100006_0_f2_3 j100011_n100006_0_f2_4 j100011_n100006_0_f3 = some (l100011_n100006_0_f0, l100011_n100006_0_f1, l100011_n100006_0_f2_0, l100011_n100006_0_f2_1, l100011_n100006_0_f2_2, l100011_n100006_0_f2_3, l100011_n100006_0_f2_4, l100011_n100006_0_f3) ∧ j100011_n100006_0_f2_3n0 = j100011_n100006_0_f2_3.length ∧ Own 92 6 j100011_n100006_0_f2_3a0 j100011_n100006_0_f2_3n0 j100011_n100006_0_f2_3c0 (flat c_T_api_Shot j100011_n100006_0_f2_3) j100011_n100006_0_f2_3B0 ∧ j100011_n100006_0_f3n0 = j100011_n100006_0_f3.length ∧ Own 34 1 j100011_n100006_0_f3a0 j100011_n100006_0_f3n0 j100011_n100006_0_f3c0 (flat (e1 .u8) j100011_n100006_0_f3) j100011_n100006_0_f3B0 ∧ E = [(2, .pointer (some ⟨b100006_0, 0, none⟩)), (3, .pointer (some ⟨b100007_0, 0, none⟩)), (4, .int .i64 j100011_100004)] ∧ L = (⟨b100006_0, [.int .u8 j100011_n100006_0_f0, .int .i64 j100011_n100006_0_f1, .int .u64 j100011_n100006_0_f2_0, .int .u64 j100011_n100006_0_f2_1, .int .i32 j100011_n100006_0_f2_2.1.X, .int .i32 j100011_n100006_0_f2_2.1.Y, .int .i32 j100011_n100006_0_f2_2.1.VX, .int .i32 j100011_n100006_0_f2_2.1.VY, .int .u8 j100011_n100006_0_f2_2.1.Health, .int .u8 j100011_n100006_0_f2_2.1.Cool, .int .u8 j100011_n100006_0_f2_2.1.Face, .int .i32 j100011_n100006_0_f2_2.2.X, .int .i32 j100011_n100006_0_f2_2.2.Y, .int .i32 j100011_n100006_0_f2_2.2.VX, .int .i32 j100011_n100006_0_f2_2.2.VY, .int .u8 j100011_n100006_0_f2_2.2.Health, .int .u8 j100011_n100006_0_f2_2.2.Cool, .int .u8 j100011_n100006_0_f2_2.2.Face, .slice j100011_n100006_0_f2_3a0 j100011_n100006_0_f2_3n0 j100011_n100006_0_f2_3c0, .int .u16 j100011_n100006_0_f2_4.1, .int .u16 j100011_n100006_0_f2_4.2, .slice j100011_n100006_0_f3a0 j100011_n100006_0_f3n0 j100011_n100006_0_f3c0, .pointer (some ⟨b100006_0_4, 0, none⟩), .pointer (some ⟨b100006_0_5, 0, none⟩)], 73, (0, 0)⟩ :: (⟨b100006_0_4, [.int .u64 v100006s.2.1.first_, .slice v100006s_4a0 v100006s_4n0 v100006s_4c0, .int .u8 v100006s.2.1.last], 103, (0, 0)⟩ :: (⟨b100006_0_5, ([.int .i64 v100006s.2.2.size] ++ flat cg_T_ring_place v100006s_5g0), 121, (0, 0)⟩ :: (⟨b100007_0, ([.int .u64 v100007s.from_, .int .u64 v100007s.count, .int .u64 v100007s.most] ++ flat (e2 .u8) v100007s.ring.1), 68, (0, 0)⟩ :: (j100011_n100006_0_f2_3B0 ++ (j100011_n100006_0_f3B0 ++ (v100006s_4B0 ++ (v100006s_5P0 ++ []))))))))) F ⟨(0 : Int), v100006s.1.player, v100006s.1.window, v100006s.1.sure.Frame, v100006s.1.sure.Seed, v100006s.1.sure.Players, v100006s.1.sure.Shots, v100006s.1.sure.Score, v100006s.1.own, v100006sa0, v100006sn0, v100006sc0, v100006sB0, v100006sa1, v100006sn1, v100006sc1, v100006sB1, h, v100006sN0, v100006sV0, v100006sN1, v100006sV1, rfl, rfl⟩ (agree_cons rfl (agree_cons rfl (agree_cons rfl agree_nil))) (pSub (pCons (Sel.sc Sel.hc) (pCons (Sel.sc (Sel.sa (Sel.sa Sel.hc))) (pCons (Sel.sc (Sel.sa (Sel.sa (Sel.sa Sel.hc)))) (pCons Sel.hc (pApp Sel.ha (pApp Sel.ha (pApp Sel.ha (pApp Sel.ha pNil))))))))) ?_
  clear h
  rintro m100011 _ _ ⟨j100011_100004, j100011_n100006_0_f0, j100011_n100006_0_f1, j100011_n100006_0_f2_0, j100011_n100006_0_f2_1, j100011_n100006_0_f2_2, j100011_n100006_0_f2_3, j100011_n100006_0_f2_4, j100011_n100006_0_f3, j100011_n100006_0_f2_3a0, j100011_n100006_0_f2_3n0, j100011_n100006_0_f2_3c0, j100011_n100006_0_f2_3B0, j100011_n100006_0_f3a0, j100011_n100006_0_f3n0, j100011_n100006_0_f3c0, j100011_n100006_0_f3B0, h, j100011_n100006_0_f2_3N0, j100011_n100006_0_f2_3V0, j100011_n100006_0_f3N0, j100011_n100006_0_f3V0, rfl, rfl⟩
  rcases m100011 with _ | m100011
  · rw [m_hindcastlaw28_works_L100010_3.eq_1] at h; cases h
  rw [m_hindcastlaw28_works_L100010_3.eq_2] at h
  refine wc_seq (wc_seq (wc_region ?_))
  refine wl_pure tt_ok rfl rfl ?_
  refine wl_pure (v := .bool (decide (j100011_100004 < (3 : Int)))) tt_ok rfl rfl ?_
  refine wl_nil (wx_then ?_)
  refine wc_cond rfl (fun hc => ?_) (fun hc => ?_)
  · replace h := ct hc h
    refine wc_skip (wx_then (wc_seq (wc_block (wc_region ?_))))
    refine wl_pure tt_ok rfl rfl ?_
    replace h := bsome h; obtain ⟨⟨o100013_0, v100013⟩, x100013, h⟩ := h; try dsimp only at h
    refine wl_cs Tryd.call24 rfl rfl rfl (s_sp (k_rollback_Engine_Local (p0 := (T_rollback_Engine.mk j100011_n100006_0_f0 j100011_n100006_0_f1 (T_api_State.mk j100011_n100006_0_f2_0 j100011_n100006_0_f2_1 j100011_n100006_0_f2_2 j100011_n100006_0_f2_3 j100011_n100006_0_f2_4) j100011_n100006_0_f3)) (p0_4 := v100006s.2.1) (p0_5 := v100006s.2.2) j100011_n100006_0_f2_3N0 j100011_n100006_0_f2_3V0 j100011_n100006_0_f3N0 j100011_n100006_0_f3V0 v100006s_4N0 v100006s_4V0 v100006s_5G0 v100006s_5A0 x100013) (pCons Sel.hc (pApp (Sel.sc (Sel.sc (Sel.sc Sel.ha))) (pApp (Sel.sc (Sel.sc (Sel.sc Sel.ha))) (pCons Sel.hc (pApp (Sel.sc (Sel.sc Sel.ha)) (pCons Sel.hc (pApp (Sel.sc Sel.ha) pNil))))))) (fun _ _ => trivial)) rfl ?_
    rintro _ _ ⟨_, ⟨o100013_0a0, o100013_0n0, o100013_0c0, o100013_0B0, o100013_0a1, o100013_0n1, o100013_0c1, o100013_0B1, o100013_0N0, o100013_0V0, o100013_0N1, o100013_0V1, rfl, rfl⟩, rfl⟩
    refine wl_nil (wx_block (wx_then (wc_region ?_)))
    refine wl_pure tt_ok rfl rfl ?_
    refine wl_pure (v := .int .i64 (IntKind.wrap .i64 (j100011_100004 + (1 : Int)))) tt_ok rfl rfl ?_
    refine wl_pure tt_ok rfl rfl ?_
    refine wl_nil ?_
    exact wx_round m100011 (Nat.lt_succ_self m100011) ⟨(IntKind.wrap .i64 (j100011_100004 + (1 : Int))), o100013_0.player, o100013_0.window, o100013_0.sure.Frame, o100013_0.sure.Seed, o100013_0.sure.Players, o100013_0.sure.Shots, o100013_0.sure.Score, o100013_0.own, o100013_0a0, o100013_0n0, o100013_0c0, o100013_0B0, o100013_0a1, o100013_0n1, o100013_0c1, o100013_0B1, h, o100013_0N0, o100013_0V0, o100013_0N1, o100013_0V1, rfl, rfl⟩ (agree_cons rfl (agree_cons rfl (agree_cons rfl agree_nil))) (pSub (pCons Sel.hc (pCons (Sel.sa (Sel.sa Sel.hc)) (pCons (Sel.sa (Sel.sa (Sel.sa Sel.hc))) (pCons (Sel.sa (Sel.sa (Sel.sa (Sel.sa Sel.hc)))) (pApp Sel.ha (pApp Sel.ha (pApp Sel.ha (pApp Sel.ha pNil)))))))))
  replace h := cf hc h
  refine wc_exit (wx_then_exit ?_)
  simp only [Option.some.injEq, Prod.mk.injEq] at h
  obtain ⟨rfl, rfl, rfl, rfl, rfl, rfl, rfl, rfl⟩ := h
  have h := hl100011; clear hl100011; try dsimp only [orE_l, orE_r] at h
  refine wx_then_exit (wx_block_exit (wx_then (wc_seq (wc_region ?_))))
  refine wl_pure tt_ok rfl rfl ?_
  replace h := bsome h; obtain ⟨⟨o100015_1, o100015_2, v100015⟩, x100015, h⟩ := h; try dsimp only at h
  refine wl_cs Tryd.call26 rfl rfl rfl (s_sp (k_rollback_Engine_Remote (p0 := (T_rollback_Engine.mk j100011_n100006_0_f0 j100011_n100006_0_f1 (T_api_State.mk j100011_n100006_0_f2_0 j100011_n100006_0_f2_1 j100011_n100006_0_f2_2 j100011_n100006_0_f2_3 j100011_n100006_0_f2_4) j100011_n100006_0_f3)) (p0_4 := v100006s.2.1) (p0_5 := v100006s.2.2) j100011_n100006_0_f2_3N0 j100011_n100006_0_f2_3V0 j100011_n100006_0_f3N0 j100011_n100006_0_f3V0 v100006s_4N0 v100006s_4V0 v100006s_5G0 v100006s_5A0 x100015) (pCons Sel.hc (pApp (Sel.sc (Sel.sc (Sel.sc Sel.ha))) (pApp (Sel.sc (Sel.sc (Sel.sc Sel.ha))) (pCons Sel.hc (pApp (Sel.sc (Sel.sc Sel.ha)) (pCons Sel.hc (pApp (Sel.sc Sel.ha) pNil))))))) (fun _ _ => trivial)) rfl ?_
  rintro _ _ ⟨_, ⟨o100015_1a0, o100015_1n0, o100015_1c0, o100015_1B0, o100015_2g0, o100015_2P0, o100015_1N0, o100015_1V0, o100015_2G0, o100015_2A0, rfl, rfl⟩, rfl⟩
  refine wl_nil (wx_then (wc_seq (wc_region ?_)))
  refine wl_pure tt_ok rfl rfl ?_
  replace h := bsome h; obtain ⟨⟨o100017_0, o100017_1, o100017_2, v100017_0, v100017_1⟩, x100017, h⟩ := h; try dsimp only at h
  refine wl_cs Tryd.call14 rfl rfl rfl (s_sp (k_rollback_Engine_Confirm (p0 := (T_rollback_Engine.mk j100011_n100006_0_f0 j100011_n100006_0_f1 (T_api_State.mk j100011_n100006_0_f2_0 j100011_n100006_0_f2_1 j100011_n100006_0_f2_2 j100011_n100006_0_f2_3 j100011_n100006_0_f2_4) j100011_n100006_0_f3)) (p0_4 := o100015_1) (p0_5 := o100015_2) j100011_n100006_0_f2_3N0 j100011_n100006_0_f2_3V0 j100011_n100006_0_f3N0 j100011_n100006_0_f3V0 o100015_1N0 o100015_1V0 o100015_2G0 o100015_2A0 x100017) (pCons Sel.hc (pApp Sel.ha (pApp Sel.ha (pCons Sel.hc (pApp Sel.ha (pCons Sel.hc (pApp Sel.ha pNil))))))) (fun w hI => ⟨(Rds.call G0S (pCons Sel.hc (pApp Sel.ha (pApp Sel.ha (pCons Sel.hc (pApp Sel.ha (pCons Sel.hc (pApp Sel.ha pNil))))))) rsub_nil) w hI, (Rds.call G1S (pCons Sel.hc (pApp Sel.ha (pApp Sel.ha (pCons Sel.hc (pApp Sel.ha (pCons Sel.hc (pApp Sel.ha pNil))))))) rsub_nil) w hI⟩)) rfl ?_
  rintro _ _ ⟨_, ⟨o100017_0a0, o100017_0n0, o100017_0c0, o100017_0B0, o100017_0a1, o100017_0n1, o100017_0c1, o100017_0B1, o100017_1a0, o100017_1n0, o100017_1c0, o100017_1B0, o100017_2g0, o100017_2P0, o100017_0N0, o100017_0V0, o100017_0N1, o100017_0V1, o100017_1N0, o100017_1V0, o100017_2G0, o100017_2A0, rfl, rfl⟩, rfl⟩
  refine wl_nil (wx_then (wc_seq (wc_region ?_)))
  refine wl_pure tt_ok rfl rfl ?_
  refine wl_pure (v := .agg #[.int .u8 (2 : Int), .int .u8 (1 : Int)]) tt_ok rfl rfl ?_
  replace h := bsome h; obtain ⟨⟨o100020_0, v100020⟩, x100020, h⟩ := h; try dsimp only at h
  refine wl_cs Tryd.call8 rfl rfl rfl (s_sp (k_fold_History_Add x100020) (pCons (Sel.sc (Sel.sa (Sel.sa (Sel.sc (Sel.sa (Sel.sc (Sel.sa Sel.hc))))))) pNil) (fun _ _ => trivial)) rfl ?_
  rintro _ _ ⟨_, ⟨rfl, rfl⟩, rfl⟩
  refine wl_nil (wx_then (wc_seq (wc_region ?_)))
  iterate 4 refine wl_pure tt_ok rfl rfl ?_
  refine wl_nil (wx_then (wc_ret ?_))
  refine wx_inl (v := .tuple #[.pointer (some ⟨b100006_0, 0, none⟩), .pointer (some ⟨b100007_0, 0, none⟩)]) tt_ok (.inl rfl) Tryd.results17 (Res.tmp rfl (Res.tmp rfl Res.nil)) rfl ?_
  iterate 5 refine wl_pure tt_ok rfl rfl ?_
  refine wl_nil (wx_then (wc_seq (wc_seq (wc_region ?_))))
  refine wl_pure tt_ok rfl rfl ?_
  refine wl_pure (v := .bool false) tt_ok rfl rfl ?_
  refine wl_pure tt_ok rfl rfl ?_
  refine wl_run rfl ?_
  refine wl_pure tt_ok rfl rfl ?_
  refine wl_run rfl ?_
  refine wl_pure (v := .bool false) tt_ok rfl rfl ?_
  refine wl_pure (v := .bool false) tt_ok rfl rfl ?_
  refine wl_nil (wx_then ?_)
  refine wc_cond_false rfl ?_
  refine wc_skip (wx_then (wc_seq (wc_region ?_)))
  refine wl_pure tt_ok rfl rfl ?_
  replace h := bsome h; obtain ⟨⟨v17_0, v17_1⟩, x17, h⟩ := h; try dsimp only at h
  refine wl_cq Tryd.call10 rfl rfl rfl (q_rd (k_backfill_Plan x17) (pCons Sel.hc pNil) (fun _ _ => trivial)) rfl ?_
  iterate 5 refine wl_pure tt_ok rfl rfl ?_
  refine wl_nil (wx_then (wc_seq (wc_region ?_)))
  refine wl_pure tt_ok rfl rfl ?_
  refine wl_pure (v := .bool (v17_0 == (0 : Int))) tt_ok rfl rfl ?_
  refine wl_pure tt_ok rfl rfl ?_
  replace h := bsome h; obtain ⟨v25, h, hg25⟩ := h
  refine wl_split (t := 22) rfl (fun hc => ?_) (fun hc => ?_)
  · replace h := ct hc h
    refine wl_run rfl ?_
    refine wl_pure tt_ok rfl rfl ?_
    refine wl_run rfl ?_
    refine wl_pure (v := .bool (v17_1 == (1 : Int))) tt_ok rfl rfl ?_
    simp only [Option.some.injEq, Prod.mk.injEq] at h
    obtain rfl := h
    have h := hg25; clear hg25
    refine wl_pure (v := .bool (v17_1 == (1 : Int))) tt_ok rfl rfl ?_
    refine wl_pure tt_ok rfl rfl ?_
    replace h := bsome h; obtain ⟨⟨v34, g34_n100006_0_4_f0, g34_n100006_0_4_f1, g34_n100006_0_4_f2, g34_n100006_0_5_f0, g34_n100006_0_5_f1⟩, h, hg34⟩ := h
    refine wl_split (t := 26) rfl (fun hc => ?_) (fun hc => ?_)
    · replace h := ct hc h
      refine wl_run rfl ?_
      refine wl_pure tt_ok rfl rfl ?_
      refine wl_run rfl ?_
      refine wl_pure tt_ok rfl rfl ?_
      refine wl_run rfl ?_
      refine wl_pure (v := .agg #[.int .u8 (2 : Int), .int .u8 (1 : Int)]) tt_ok rfl rfl ?_
      refine wl_run rfl ?_
      refine wl_pure (v := .agg #[.int .u8 (2 : Int), .int .u8 (5 : Int)]) tt_ok rfl rfl ?_
      refine wl_run rfl ?_
      refine wl_chg (chg_bsv (enc := (e2 .u8)) (xs := ([((2 : Int), (1 : Int)), ((2 : Int), (5 : Int))] : List (Int × Int))) tt_ok rfl rfl rfl rfl rfl rfl rfl rfl (e2_len _)) rfl ?_
      rintro _ _ ⟨a31, n31_, c31, B31, rfl, N31, V31, rfl⟩
      replace h := bsome h; obtain ⟨⟨o32_1, o32_2, v32⟩, x32, h⟩ := h; try dsimp only at h
      refine wl_run rfl ?_
      refine wl_cs Tryd.call18 rfl rfl rfl (s_sp (k_hindcastlaw28_pairs (p0 := o100017_0) (p0_4 := o100017_1) (p0_5 := o100017_2) (p3 := ([((2 : Int), (1 : Int)), ((2 : Int), (5 : Int))] : List (Int × Int))) o100017_0N0 o100017_0V0 o100017_0N1 o100017_0V1 o100017_1N0 o100017_1V0 o100017_2G0 o100017_2A0 N31 (vec_cap V31) x32) (pCons (Sel.sa (Sel.sc Sel.hc)) (pApp (Sel.sa (Sel.sc Sel.ha)) (pApp (Sel.sa (Sel.sc Sel.ha)) (pCons (Sel.sa (Sel.sc Sel.hc)) (pApp (Sel.sa (Sel.sc Sel.ha)) (pCons (Sel.sa (Sel.sc Sel.hc)) (pApp (Sel.sa (Sel.sc Sel.ha)) (pCons (Sel.sa Sel.hc) pNil)))))))) (Rds.call (Rds.of_vec V31) (pCons (Sel.sa (Sel.sc Sel.hc)) (pApp (Sel.sa (Sel.sc Sel.ha)) (pApp (Sel.sa (Sel.sc Sel.ha)) (pCons (Sel.sa (Sel.sc Sel.hc)) (pApp (Sel.sa (Sel.sc Sel.ha)) (pCons (Sel.sa (Sel.sc Sel.hc)) (pApp (Sel.sa (Sel.sc Sel.ha)) (pCons (Sel.sa Sel.hc) pNil)))))))) ⟨_, Sel.ha⟩)) rfl ?_
      rintro _ _ ⟨_, ⟨o32_1a0, o32_1n0, o32_1c0, o32_1B0, o32_2g0, o32_2P0, o32_1N0, o32_1V0, o32_2G0, o32_2A0, rfl, rfl⟩, rfl⟩
      refine wl_run rfl ?_
      refine wl_pure (v := .bool (v32 == (2 : Int))) tt_ok rfl rfl ?_
      simp only [Option.some.injEq, Prod.mk.injEq] at h
      obtain ⟨rfl, rfl, rfl, rfl, rfl, rfl⟩ := h
      have h := hg34; clear hg34; try dsimp only at h
      refine wl_pure (v := .bool (v32 == (2 : Int))) tt_ok rfl rfl ?_
      refine wl_pure tt_ok rfl rfl ?_
      replace h := bsome h; obtain ⟨v39, h, hg39⟩ := h
      refine wl_split (t := 35) rfl (fun hc => ?_) (fun hc => ?_)
      · replace h := ct hc h
        refine wl_run rfl ?_
        refine wl_pure tt_ok rfl rfl ?_
        replace h := bsome h; obtain ⟨v37, x37, h⟩ := h
        refine wl_run rfl ?_
        refine wl_cq Tryd.call16 rfl rfl rfl (q_rd (k_rollback_Engine_Known (p0 := o100017_0) (p0_4 := o32_1) (p0_5 := o32_2) o100017_0N0 o100017_0V0 o100017_0N1 o100017_0V1 o32_1N0 o32_1V0 o32_2G0 o32_2A0 x37) (pCons Sel.hc (pApp Sel.ha (pApp Sel.ha (pCons Sel.hc (pApp Sel.ha (pCons Sel.hc (pApp Sel.ha pNil))))))) (fun _ _ => trivial)) rfl ?_
        refine wl_run rfl ?_
        refine wl_pure (v := .bool (v37 == (2 : Int))) tt_ok rfl rfl ?_
        simp only [Option.some.injEq, Prod.mk.injEq] at h
        obtain rfl := h
        have h := hg39; clear hg39
        refine wl_pure (v := .bool (v37 == (2 : Int))) tt_ok rfl rfl ?_
        refine wl_pure tt_ok rfl rfl ?_
        replace h := bsome h; obtain ⟨⟨v47, g47_n100006_0_4_f0, g47_n100006_0_4_f1, g47_n100006_0_4_f2, g47_n100006_0_5_f0, g47_n100006_0_5_f1⟩, h, hg47⟩ := h
        refine wl_split (t := 40) rfl (fun hc => ?_) (fun hc => ?_)
        · replace h := ct hc h
          refine wl_run rfl ?_
          refine wl_pure tt_ok rfl rfl ?_
          refine wl_run rfl ?_
          refine wl_pure tt_ok rfl rfl ?_
          refine wl_run rfl ?_
          refine wl_pure (v := .agg #[.int .u8 (2 : Int), .int .u8 (3 : Int)]) tt_ok rfl rfl ?_
          refine wl_run rfl ?_
          refine wl_chg (chg_bsv (enc := (e2 .u8)) (xs := ([((2 : Int), (3 : Int))] : List (Int × Int))) tt_ok rfl rfl rfl rfl rfl rfl rfl rfl (e2_len _)) rfl ?_
          rintro _ _ ⟨a44, n44_, c44, B44, rfl, N44, V44, rfl⟩
          replace h := bsome h; obtain ⟨⟨o45_1, o45_2, v45⟩, x45, h⟩ := h; try dsimp only at h
          refine wl_run rfl ?_
          refine wl_cs Tryd.call18 rfl rfl rfl (s_sp (k_hindcastlaw28_pairs (p0 := o100017_0) (p0_4 := o32_1) (p0_5 := o32_2) (p3 := ([((2 : Int), (3 : Int))] : List (Int × Int))) o100017_0N0 o100017_0V0 o100017_0N1 o100017_0V1 o32_1N0 o32_1V0 o32_2G0 o32_2A0 N44 (vec_cap V44) x45) (pCons (Sel.sa Sel.hc) (pApp (Sel.sa Sel.ha) (pApp (Sel.sa Sel.ha) (pCons (Sel.sa Sel.hc) (pApp (Sel.sa Sel.ha) (pCons (Sel.sa Sel.hc) (pApp (Sel.sa Sel.ha) (pCons (Sel.sa Sel.hc) pNil)))))))) (Rds.call (Rds.of_vec V44) (pCons (Sel.sa Sel.hc) (pApp (Sel.sa Sel.ha) (pApp (Sel.sa Sel.ha) (pCons (Sel.sa Sel.hc) (pApp (Sel.sa Sel.ha) (pCons (Sel.sa Sel.hc) (pApp (Sel.sa Sel.ha) (pCons (Sel.sa Sel.hc) pNil)))))))) ⟨_, Sel.ha⟩)) rfl ?_
          rintro _ _ ⟨_, ⟨o45_1a0, o45_1n0, o45_1c0, o45_1B0, o45_2g0, o45_2P0, o45_1N0, o45_1V0, o45_2G0, o45_2A0, rfl, rfl⟩, rfl⟩
          refine wl_run rfl ?_
          refine wl_pure (v := .bool (v45 == (1400 : Int))) tt_ok rfl rfl ?_
          simp only [Option.some.injEq, Prod.mk.injEq] at h
          obtain ⟨rfl, rfl, rfl, rfl, rfl, rfl⟩ := h
          have h := hg47; clear hg47; try dsimp only at h
          refine wl_pure (v := .bool (v45 == (1400 : Int))) tt_ok rfl rfl ?_
          refine wl_pure tt_ok rfl rfl ?_
          refine wl_nil (wx_then (wc_ret ?_))
          simp only [Option.some.injEq] at h
          obtain rfl := h
          exact wx_pf tt_ok (.inl rfl) Tryd.results5 (Res.tmp rfl Res.nil) rfl
        replace h := cf hc h
        refine wl_skip rfl rfl ?_
        refine wl_skip rfl rfl ?_
        refine wl_skip rfl rfl ?_
        refine wl_skip rfl rfl ?_
        refine wl_skip rfl rfl ?_
        refine wl_skip rfl rfl ?_
        simp only [Option.some.injEq, Prod.mk.injEq] at h
        obtain ⟨rfl, rfl, rfl, rfl, rfl, rfl⟩ := h
        have h := hg47; clear hg47; try dsimp only at h
        refine wl_pure (v := .bool false) tt_ok rfl rfl ?_
        refine wl_pure tt_ok rfl rfl ?_
        refine wl_nil (wx_then (wc_ret ?_))
        simp only [Option.some.injEq] at h
        obtain rfl := h
        exact wx_pf tt_ok (.inl rfl) Tryd.results5 (Res.tmp rfl Res.nil) rfl
      replace h := cf hc h
      refine wl_skip rfl rfl ?_
      refine wl_skip rfl rfl ?_
      refine wl_skip rfl rfl ?_
      simp only [Option.some.injEq, Prod.mk.injEq] at h
      obtain rfl := h
      have h := hg39; clear hg39
      refine wl_pure (v := .bool false) tt_ok rfl rfl ?_
      refine wl_pure tt_ok rfl rfl ?_
      replace h := bsome h; obtain ⟨⟨v47, g47_n100006_0_4_f0, g47_n100006_0_4_f1, g47_n100006_0_4_f2, g47_n100006_0_5_f0, g47_n100006_0_5_f1⟩, h, hg47⟩ := h
      replace h := cf rfl h
      refine wl_skip rfl rfl ?_
      refine wl_skip rfl rfl ?_
      refine wl_skip rfl rfl ?_
      refine wl_skip rfl rfl ?_
      refine wl_skip rfl rfl ?_
      refine wl_skip rfl rfl ?_
      simp only [Option.some.injEq, Prod.mk.injEq] at h
      obtain ⟨rfl, rfl, rfl, rfl, rfl, rfl⟩ := h
      have h := hg47; clear hg47; try dsimp only at h
      refine wl_pure (v := .bool false) tt_ok rfl rfl ?_
      refine wl_pure tt_ok rfl rfl ?_
      refine wl_nil (wx_then (wc_ret ?_))
      simp only [Option.some.injEq] at h
      obtain rfl := h
      exact wx_pf tt_ok (.inl rfl) Tryd.results5 (Res.tmp rfl Res.nil) rfl
    replace h := cf hc h
    refine wl_skip rfl rfl ?_
    refine wl_skip rfl rfl ?_
    refine wl_skip rfl rfl ?_
    refine wl_skip rfl rfl ?_
    refine wl_skip rfl rfl ?_
    refine wl_skip rfl rfl ?_
    refine wl_skip rfl rfl ?_
    simp only [Option.some.injEq, Prod.mk.injEq] at h
    obtain ⟨rfl, rfl, rfl, rfl, rfl, rfl⟩ := h
    have h := hg34; clear hg34; try dsimp only at h
    refine wl_pure (v := .bool false) tt_ok rfl rfl ?_
    refine wl_pure tt_ok rfl rfl ?_
    replace h := bsome h; obtain ⟨v39, h, hg39⟩ := h
    replace h := cf rfl h
    refine wl_skip rfl rfl ?_
    refine wl_skip rfl rfl ?_
    refine wl_skip rfl rfl ?_
    simp only [Option.some.injEq, Prod.mk.injEq] at h
    obtain rfl := h
    have h := hg39; clear hg39
    refine wl_pure (v := .bool false) tt_ok rfl rfl ?_
    refine wl_pure tt_ok rfl rfl ?_
    replace h := bsome h; obtain ⟨⟨v47, g47_n100006_0_4_f0, g47_n100006_0_4_f1, g47_n100006_0_4_f2, g47_n100006_0_5_f0, g47_n100006_0_5_f1⟩, h, hg47⟩ := h
    replace h := cf rfl h
    refine wl_skip rfl rfl ?_
    refine wl_skip rfl rfl ?_
    refine wl_skip rfl rfl ?_
    refine wl_skip rfl rfl ?_
    refine wl_skip rfl rfl ?_
    refine wl_skip rfl rfl ?_
    simp only [Option.some.injEq, Prod.mk.injEq] at h
    obtain ⟨rfl, rfl, rfl, rfl, rfl, rfl⟩ := h
    have h := hg47; clear hg47; try dsimp only at h
    refine wl_pure (v := .bool false) tt_ok rfl rfl ?_
    refine wl_pure tt_ok rfl rfl ?_
    refine wl_nil (wx_then (wc_ret ?_))
    simp only [Option.some.injEq] at h
    obtain rfl := h
    exact wx_pf tt_ok (.inl rfl) Tryd.results5 (Res.tmp rfl Res.nil) rfl
  replace h := cf hc h
  refine wl_skip rfl rfl ?_
  refine wl_skip rfl rfl ?_
  simp only [Option.some.injEq, Prod.mk.injEq] at h
  obtain rfl := h
  have h := hg25; clear hg25
  refine wl_pure (v := .bool false) tt_ok rfl rfl ?_
  refine wl_pure tt_ok rfl rfl ?_
  replace h := bsome h; obtain ⟨⟨v34, g34_n100006_0_4_f0, g34_n100006_0_4_f1, g34_n100006_0_4_f2, g34_n100006_0_5_f0, g34_n100006_0_5_f1⟩, h, hg34⟩ := h
  replace h := cf rfl h
  refine wl_skip rfl rfl ?_
  refine wl_skip rfl rfl ?_
  refine wl_skip rfl rfl ?_
  refine wl_skip rfl rfl ?_
  refine wl_skip rfl rfl ?_
  refine wl_skip rfl rfl ?_
  refine wl_skip rfl rfl ?_
  simp only [Option.some.injEq, Prod.mk.injEq] at h
  obtain ⟨rfl, rfl, rfl, rfl, rfl, rfl⟩ := h
  have h := hg34; clear hg34; try dsimp only at h
  refine wl_pure (v := .bool false) tt_ok rfl rfl ?_
  refine wl_pure tt_ok rfl rfl ?_
  replace h := bsome h; obtain ⟨v39, h, hg39⟩ := h
  replace h := cf rfl h
  refine wl_skip rfl rfl ?_
  refine wl_skip rfl rfl ?_
  refine wl_skip rfl rfl ?_
  simp only [Option.some.injEq, Prod.mk.injEq] at h
  obtain rfl := h
  have h := hg39; clear hg39
  refine wl_pure (v := .bool false) tt_ok rfl rfl ?_
  refine wl_pure tt_ok rfl rfl ?_
  replace h := bsome h; obtain ⟨⟨v47, g47_n100006_0_4_f0, g47_n100006_0_4_f1, g47_n100006_0_4_f2, g47_n100006_0_5_f0, g47_n100006_0_5_f1⟩, h, hg47⟩ := h
  replace h := cf rfl h
  refine wl_skip rfl rfl ?_
  refine wl_skip rfl rfl ?_
  refine wl_skip rfl rfl ?_
  refine wl_skip rfl rfl ?_
  refine wl_skip rfl rfl ?_
  refine wl_skip rfl rfl ?_
  simp only [Option.some.injEq, Prod.mk.injEq] at h
  obtain ⟨rfl, rfl, rfl, rfl, rfl, rfl⟩ := h
  have h := hg47; clear hg47; try dsimp only at h
  refine wl_pure (v := .bool false) tt_ok rfl rfl ?_
  refine wl_pure tt_ok rfl rfl ?_
  refine wl_nil (wx_then (wc_ret ?_))
  simp only [Option.some.injEq] at h
  obtain rfl := h
  exact wx_pf tt_ok (.inl rfl) Tryd.results5 (Res.tmp rfl Res.nil) rfl

theorem k_backfill_Inputs_1 {F : Nat} {p0 : Int} {p1 : Int} {p2 : Unit} {p2b p2t : Nat} {p2_o : T_rollback_Engine} {p2_ob p2_ot : Nat} {p2_oa0 : Option Addr} {p2_on0 : Nat} {p2_oc0 : Nat} {p2_oB0 : List Blk} {p2_oa1 : Option Addr} {p2_on1 : Nat} {p2_oc1 : Nat} {p2_oB1 : List Blk} {p2_o_4 : T_queue_Queue} {p2_o_4b p2_o_4t : Nat} {p2_o_4a0 : Option Addr} {p2_o_4n0 : Nat} {p2_o_4c0 : Nat} {p2_o_4B0 : List Blk} {p2_o_5 : T_ring_Ring} {p2_o_5b p2_o_5t : Nat} {p2_o_5g0 : List (T_ring_place × G)} {p2_o_5P0 : List Blk} {p3 : Unit} {p3b p3t : Nat} {p3_o : T_fold_History} {p3_ob p3_ot : Nat} {p4 : Int} {p4b p4t : Nat} {r0 : T_queue_Queue} {r1 : T_ring_Ring} {r2 : Int} (p2_oN0 : p2_on0 = p2_o.sure.Shots.length) (p2_oV0 : Own 92 6 p2_oa0 p2_on0 p2_oc0 (flat c_T_api_Shot p2_o.sure.Shots) p2_oB0) (p2_oN1 : p2_on1 = p2_o.own.length) (p2_oV1 : Own 34 1 p2_oa1 p2_on1 p2_oc1 (flat (e1 .u8) p2_o.own) p2_oB1) (p2_o_4N0 : p2_o_4n0 = p2_o_4.l.length) (p2_o_4V0 : Own 34 1 p2_o_4a0 p2_o_4n0 p2_o_4c0 (flat (e1 .u8) p2_o_4.l) p2_o_4B0) (p2_o_5G0 : p2_o_5.places.1 = unG p2_o_5g0) (p2_o_5A0 : AllP sh_T_ring_place c_T_api_Shot p2_o_5P0 p2_o_5g0) (h : m_backfill_Inputs_1 F p0 p1 p2 p2_o p2_o_4 p2_o_5 p3 p3_o p4 = some (r0, r1, r2)) :
    SpD Tryd.prog 42 [.int .u64 p0, .int .u8 p1, .pointer (some ⟨p2b, 0, none⟩), .pointer (some ⟨p3b, 0, none⟩), .pointer (some ⟨p4b, 0, none⟩)] (⟨p2b, [.pointer (some ⟨p2_ob, 0, none⟩)], p2t, (0, 0)⟩ :: (⟨p2_ob, [.int .u8 p2_o.player, .int .i64 p2_o.window, .int .u64 p2_o.sure.Frame, .int .u64 p2_o.sure.Seed, .int .i32 p2_o.sure.Players.1.X, .int .i32 p2_o.sure.Players.1.Y, .int .i32 p2_o.sure.Players.1.VX, .int .i32 p2_o.sure.Players.1.VY, .int .u8 p2_o.sure.Players.1.Health, .int .u8 p2_o.sure.Players.1.Cool, .int .u8 p2_o.sure.Players.1.Face, .int .i32 p2_o.sure.Players.2.X, .int .i32 p2_o.sure.Players.2.Y, .int .i32 p2_o.sure.Players.2.VX, .int .i32 p2_o.sure.Players.2.VY, .int .u8 p2_o.sure.Players.2.Health, .int .u8 p2_o.sure.Players.2.Cool, .int .u8 p2_o.sure.Players.2.Face, .slice p2_oa0 p2_on0 p2_oc0, .int .u16 p2_o.sure.Score.1, .int .u16 p2_o.sure.Score.2, .slice p2_oa1 p2_on1 p2_oc1, .pointer (some ⟨p2_o_4b, 0, none⟩), .pointer (some ⟨p2_o_5b, 0, none⟩)], p2_ot, (0, 0)⟩ :: (p2_oB0 ++ (p2_oB1 ++ (⟨p2_o_4b, [.int .u64 p2_o_4.first_, .slice p2_o_4a0 p2_o_4n0 p2_o_4c0, .int .u8 p2_o_4.last], p2_o_4t, (0, 0)⟩ :: (p2_o_4B0 ++ (⟨p2_o_5b, ([.int .i64 p2_o_5.size] ++ flat cg_T_ring_place p2_o_5g0), p2_o_5t, (0, 0)⟩ :: (p2_o_5P0 ++ (⟨p3b, [.pointer (some ⟨p3_ob, 0, none⟩)], p3t, (0, 0)⟩ :: (⟨p3_ob, ([.int .u64 p3_o.from_, .int .u64 p3_o.count, .int .u64 p3_o.most] ++ flat (e2 .u8) p3_o.ring.1), p3_ot, (0, 0)⟩ :: (⟨p4b, [.int .u8 p4], p4t, (0, 0)⟩ :: []))))))))))) (fun w => True) (fun v D => ∃ (r0a0 : Option Addr) (r0n0 : Nat) (r0c0 : Nat) (r0B0 : List Blk) (r1g0 : List (T_ring_place × G)) (r1P0 : List Blk), r0n0 = r0.l.length ∧ Own 34 1 r0a0 r0n0 r0c0 (flat (e1 .u8) r0.l) r0B0 ∧ r1.places.1 = unG r1g0 ∧ AllP sh_T_ring_place c_T_api_Shot r1P0 r1g0 ∧ v = .int .i64 r2 ∧ D = fun F => (⟨p2b, [.pointer (some ⟨p2_ob, 0, none⟩)], p2t, (0, 0)⟩ :: (⟨p2_ob, [.int .u8 p2_o.player, .int .i64 p2_o.window, .int .u64 p2_o.sure.Frame, .int .u64 p2_o.sure.Seed, .int .i32 p2_o.sure.Players.1.X, .int .i32 p2_o.sure.Players.1.Y, .int .i32 p2_o.sure.Players.1.VX, .int .i32 p2_o.sure.Players.1.VY, .int .u8 p2_o.sure.Players.1.Health, .int .u8 p2_o.sure.Players.1.Cool, .int .u8 p2_o.sure.Players.1.Face, .int .i32 p2_o.sure.Players.2.X, .int .i32 p2_o.sure.Players.2.Y, .int .i32 p2_o.sure.Players.2.VX, .int .i32 p2_o.sure.Players.2.VY, .int .u8 p2_o.sure.Players.2.Health, .int .u8 p2_o.sure.Players.2.Cool, .int .u8 p2_o.sure.Players.2.Face, .slice p2_oa0 p2_on0 p2_oc0, .int .u16 p2_o.sure.Score.1, .int .u16 p2_o.sure.Score.2, .slice p2_oa1 p2_on1 p2_oc1, .pointer (some ⟨p2_o_4b, 0, none⟩), .pointer (some ⟨p2_o_5b, 0, none⟩)], p2_ot, (0, 0)⟩ :: (p2_oB0 ++ (p2_oB1 ++ (⟨p2_o_4b, [.int .u64 r0.first_, .slice r0a0 r0n0 r0c0, .int .u8 r0.last], p2_o_4t, (0, 0)⟩ :: (r0B0 ++ (⟨p2_o_5b, ([.int .i64 r1.size] ++ flat cg_T_ring_place r1g0), p2_o_5t, (0, 0)⟩ :: (r1P0 ++ (⟨p3b, [.pointer (some ⟨p3_ob, 0, none⟩)], p3t, (0, 0)⟩ :: (⟨p3_ob, ([.int .u64 p3_o.from_, .int .u64 p3_o.count, .int .u64 p3_o.most] ++ flat (e2 .u8) p3_o.ring.1), p3_ot, (0, 0)⟩ :: (⟨p4b, [.int .u8 p4], p4t, (0, 0)⟩ :: F)))))))))))) := by
  unfold m_backfill_Inputs_1 at h
  refine sp_of_wc Tryd.func42 rfl Tryd.ntmps42 rfl rfl (fun w0 hR => ?_)
  refine wc_seq (wc_region ?_)
  refine wl_pure tt_ok rfl rfl ?_
  refine wl_nil (wx_then (wc_seq (wc_seq (wc_region ?_))))
  refine wl_pure tt_ok rfl rfl ?_
  refine wl_val (v := .pointer (some ⟨p2_ob, 0, none⟩)) (val_load tt_ok rfl (List.Mem.head _) rfl) rfl ?_
  replace h := bsome h; obtain ⟨v12, x12, h⟩ := h
  refine wl_cq Tryd.call11 rfl rfl rfl (q_rd (k_rollback_Engine_C (p0 := p2_o) (p0_4 := p2_o_4) (p0_5 := p2_o_5) p2_oN0 p2_oV0 p2_oN1 p2_oV1 p2_o_4N0 p2_o_4V0 p2_o_5G0 p2_o_5A0 x12) (pCons (Sel.sc Sel.hc) (pApp (Sel.sc Sel.ha) (pApp (Sel.sc Sel.ha) (pCons (Sel.sc Sel.hc) (pApp (Sel.sc Sel.ha) (pCons (Sel.sc Sel.hc) (pApp (Sel.sc Sel.ha) pNil))))))) (fun _ _ => trivial)) rfl ?_
  refine wl_pure (v := .bool (decide (v12 ≤ p0))) tt_ok rfl rfl ?_
  refine wl_nil (wx_then ?_)
  refine wc_cond rfl (fun hc => ?_) (fun hc => ?_)
  · replace h := ct hc h
    refine wc_seq (wc_region ?_)
    refine wl_val (v := .pointer (some ⟨p2_ob, 0, none⟩)) (val_load tt_ok rfl (List.Mem.head _) rfl) rfl ?_
    iterate 2 refine wl_pure tt_ok rfl rfl ?_
    replace h := bsome h; obtain ⟨⟨o17_1, o17_2, v17⟩, x17, h⟩ := h; try dsimp only at h
    refine wl_cs Tryd.call26 rfl rfl rfl (s_sp (k_rollback_Engine_Remote (p0 := p2_o) (p0_4 := p2_o_4) (p0_5 := p2_o_5) p2_oN0 p2_oV0 p2_oN1 p2_oV1 p2_o_4N0 p2_o_4V0 p2_o_5G0 p2_o_5A0 x17) (pCons (Sel.sc Sel.hc) (pApp (Sel.sc Sel.ha) (pApp (Sel.sc Sel.ha) (pCons (Sel.sc Sel.hc) (pApp (Sel.sc Sel.ha) (pCons (Sel.sc Sel.hc) (pApp (Sel.sc Sel.ha) pNil))))))) (fun _ _ => trivial)) rfl ?_
    rintro _ _ ⟨_, ⟨o17_1a0, o17_1n0, o17_1c0, o17_1B0, o17_2g0, o17_2P0, o17_1N0, o17_1V0, o17_2G0, o17_2A0, rfl, rfl⟩, rfl⟩
    refine wl_pure tt_ok rfl rfl ?_
    refine wl_nil (wx_then (wc_ret (wx_then_ret ?_)))
    simp only [Option.some.injEq, Prod.mk.injEq] at h
    obtain ⟨rfl, rfl, rfl⟩ := h
    exact wx_spD tt_ok (.inl rfl) Tryd.results42 (Res.tmp rfl Res.nil) ⟨o17_1a0, o17_1n0, o17_1c0, o17_1B0, o17_2g0, o17_2P0, o17_1N0, o17_1V0, o17_2G0, o17_2A0, rfl, rfl⟩ (fun F => by simp) (pSub (pCons (Sel.sc (Sel.sa (Sel.sa (Sel.sc (Sel.sa (Sel.sc (Sel.sa Sel.hc))))))) (pCons Sel.hc (pApp Sel.ha (pApp Sel.ha (pCons Sel.hc (pApp Sel.ha (pCons Sel.hc (pApp Sel.ha (pCons Sel.hc (pCons Sel.hc (pCons Sel.hc pNil))))))))))))
  replace h := cf hc h
  refine wc_skip (wx_then (wc_seq (wc_seq (wc_region ?_))))
  refine wl_val (v := .pointer (some ⟨p3_ob, 0, none⟩)) (val_load tt_ok rfl (List.Mem.tail _ (List.Mem.tail _ (mR (mR (List.Mem.tail _ (mR (List.Mem.tail _ (mR (List.Mem.head _))))))))) rfl) rfl ?_
  refine wl_pure tt_ok rfl rfl ?_
  replace h := bsome h; obtain ⟨⟨v21_0, v21_1⟩, x21, h⟩ := h; try dsimp only at h
  refine wl_cq Tryd.call30 rfl rfl rfl (q_rd (k_fold_History_At x21) (pCons (Sel.sc (Sel.sc (Sel.sa (Sel.sa (Sel.sc (Sel.sa (Sel.sc (Sel.sa (Sel.sc Sel.hc))))))))) pNil) (fun _ _ => trivial)) rfl ?_
  iterate 3 refine wl_pure tt_ok rfl rfl ?_
  refine wl_alloc tt_ok rfl rfl (fun b8 => ?_)
  apply wl_store tt_ok; rfl; exact Upd.here; rfl; rfl; rfl; rfl; rfl; rfl
  refine wl_pure tt_ok rfl rfl ?_
  refine wl_nil (wx_then (wc_seq (wc_region ?_)))
  iterate 2 refine wl_pure tt_ok rfl rfl ?_
  replace h := bsome h; obtain ⟨v32, h, hg32⟩ := h
  refine wl_split (t := 25) rfl (fun hc => ?_) (fun hc => ?_)
  · replace h := ct hc h
    refine wl_run rfl ?_
    refine wl_val (v := .int .u8 p4) (val_load tt_ok rfl (List.Mem.tail _ (List.Mem.tail _ (List.Mem.tail _ (mR (mR (List.Mem.tail _ (mR (List.Mem.tail _ (mR (List.Mem.tail _ (List.Mem.tail _ (List.Mem.head _)))))))))))) rfl) rfl ?_
    refine wl_run rfl ?_
    refine wl_pure (v := .int .u8 (IntKind.wrap .u8 ((1 : Int) - p4))) tt_ok rfl rfl ?_
    rcases Bool.eq_false_or_eq_true ((IntKind.wrap .u8 ((1 : Int) - p4)) == (0 : Int)) with hx280 | hx280
    · replace h := ct hx280 h
      refine wl_run rfl ?_
      refine wl_val (v := .pointer (some ⟨b8, 0, none⟩)) (val_ia (j := 0) tt_ok rfl rfl rfl rfl (by simpa using hx280) rfl rfl) rfl ?_
      refine wl_run rfl ?_
      refine wl_val (v := .int .u8 v21_0.1) (val_load tt_ok rfl (List.Mem.head _) rfl) rfl ?_
      refine wl_run rfl ?_
      refine wl_pure tt_ok rfl rfl ?_
      refine wl_run rfl ?_
      refine wl_pure (v := .bool (v21_0.1 != p1)) tt_ok rfl rfl ?_
      simp only [Option.some.injEq, Prod.mk.injEq] at h
      obtain rfl := h
      have h := hg32; clear hg32
      refine wl_pure (v := .bool (v21_0.1 != p1)) tt_ok rfl rfl ?_
      refine wl_nil (wx_then ?_)
      refine wc_cond rfl (fun hc => ?_) (fun hc => ?_)
      · replace h := ct hc h
        refine wc_seq (wc_region ?_)
        refine wl_pure tt_ok rfl rfl ?_
        refine wl_nil (wx_then (wc_ret (wx_then_ret ?_)))
        simp only [Option.some.injEq, Prod.mk.injEq] at h
        obtain ⟨rfl, rfl, rfl⟩ := h
        exact wx_spD tt_ok (.inl rfl) Tryd.results42 (Res.tmp rfl Res.nil) ⟨p2_o_4a0, p2_o_4n0, p2_o_4c0, p2_o_4B0, p2_o_5g0, p2_o_5P0, p2_o_4N0, p2_o_4V0, p2_o_5G0, p2_o_5A0, rfl, rfl⟩ (fun F => by simp) (pSub (pCons (Sel.sc Sel.hc) (pCons (Sel.sc Sel.hc) (pApp (Sel.sc Sel.ha) (pApp (Sel.sc Sel.ha) (pCons (Sel.sc Sel.hc) (pApp (Sel.sc Sel.ha) (pCons (Sel.sc Sel.hc) (pApp (Sel.sc Sel.ha) (pCons (Sel.sc Sel.hc) (pCons (Sel.sc Sel.hc) (pCons (Sel.sc Sel.hc) pNil))))))))))))
      replace h := cf hc h
      refine wc_skip (wx_then (wc_seq (wc_region ?_)))
      refine wl_pure tt_ok rfl rfl ?_
      refine wl_nil (wx_then (wc_ret ?_))
      simp only [Option.some.injEq, Prod.mk.injEq] at h
      obtain ⟨rfl, rfl, rfl⟩ := h
      exact wx_spD tt_ok (.inl rfl) Tryd.results42 (Res.tmp rfl Res.nil) ⟨p2_o_4a0, p2_o_4n0, p2_o_4c0, p2_o_4B0, p2_o_5g0, p2_o_5P0, p2_o_4N0, p2_o_4V0, p2_o_5G0, p2_o_5A0, rfl, rfl⟩ (fun F => by simp) (pSub (pCons (Sel.sc Sel.hc) (pCons (Sel.sc Sel.hc) (pApp (Sel.sc Sel.ha) (pApp (Sel.sc Sel.ha) (pCons (Sel.sc Sel.hc) (pApp (Sel.sc Sel.ha) (pCons (Sel.sc Sel.hc) (pApp (Sel.sc Sel.ha) (pCons (Sel.sc Sel.hc) (pCons (Sel.sc Sel.hc) (pCons (Sel.sc Sel.hc) pNil))))))))))))
    replace h := cf hx280 h
    rcases Bool.eq_false_or_eq_true ((IntKind.wrap .u8 ((1 : Int) - p4)) == (1 : Int)) with hx281 | hx281
    · replace h := ct hx281 h
      refine wl_run rfl ?_
      refine wl_val (v := .pointer (some ⟨b8, 1, none⟩)) (val_ia (j := 1) tt_ok rfl rfl rfl rfl (by simpa using hx281) rfl rfl) rfl ?_
      refine wl_run rfl ?_
      refine wl_val (v := .int .u8 v21_0.2) (val_load tt_ok rfl (List.Mem.head _) rfl) rfl ?_
      refine wl_run rfl ?_
      refine wl_pure tt_ok rfl rfl ?_
      refine wl_run rfl ?_
      refine wl_pure (v := .bool (v21_0.2 != p1)) tt_ok rfl rfl ?_
      simp only [Option.some.injEq, Prod.mk.injEq] at h
      obtain rfl := h
      have h := hg32; clear hg32
      refine wl_pure (v := .bool (v21_0.2 != p1)) tt_ok rfl rfl ?_
      refine wl_nil (wx_then ?_)
      refine wc_cond rfl (fun hc => ?_) (fun hc => ?_)
      · replace h := ct hc h
        refine wc_seq (wc_region ?_)
        refine wl_pure tt_ok rfl rfl ?_
        refine wl_nil (wx_then (wc_ret (wx_then_ret ?_)))
        simp only [Option.some.injEq, Prod.mk.injEq] at h
        obtain ⟨rfl, rfl, rfl⟩ := h
        exact wx_spD tt_ok (.inl rfl) Tryd.results42 (Res.tmp rfl Res.nil) ⟨p2_o_4a0, p2_o_4n0, p2_o_4c0, p2_o_4B0, p2_o_5g0, p2_o_5P0, p2_o_4N0, p2_o_4V0, p2_o_5G0, p2_o_5A0, rfl, rfl⟩ (fun F => by simp) (pSub (pCons (Sel.sc Sel.hc) (pCons (Sel.sc Sel.hc) (pApp (Sel.sc Sel.ha) (pApp (Sel.sc Sel.ha) (pCons (Sel.sc Sel.hc) (pApp (Sel.sc Sel.ha) (pCons (Sel.sc Sel.hc) (pApp (Sel.sc Sel.ha) (pCons (Sel.sc Sel.hc) (pCons (Sel.sc Sel.hc) (pCons (Sel.sc Sel.hc) pNil))))))))))))
      replace h := cf hc h
      refine wc_skip (wx_then (wc_seq (wc_region ?_)))
      refine wl_pure tt_ok rfl rfl ?_
      refine wl_nil (wx_then (wc_ret ?_))
      simp only [Option.some.injEq, Prod.mk.injEq] at h
      obtain ⟨rfl, rfl, rfl⟩ := h
      exact wx_spD tt_ok (.inl rfl) Tryd.results42 (Res.tmp rfl Res.nil) ⟨p2_o_4a0, p2_o_4n0, p2_o_4c0, p2_o_4B0, p2_o_5g0, p2_o_5P0, p2_o_4N0, p2_o_4V0, p2_o_5G0, p2_o_5A0, rfl, rfl⟩ (fun F => by simp) (pSub (pCons (Sel.sc Sel.hc) (pCons (Sel.sc Sel.hc) (pApp (Sel.sc Sel.ha) (pApp (Sel.sc Sel.ha) (pCons (Sel.sc Sel.hc) (pApp (Sel.sc Sel.ha) (pCons (Sel.sc Sel.hc) (pApp (Sel.sc Sel.ha) (pCons (Sel.sc Sel.hc) (pCons (Sel.sc Sel.hc) (pCons (Sel.sc Sel.hc) pNil))))))))))))
    replace h := cf hx281 h
    cases h
  replace h := cf hc h
  refine wl_skip rfl rfl ?_
  refine wl_skip rfl rfl ?_
  refine wl_skip rfl rfl ?_
  refine wl_skip rfl rfl ?_
  refine wl_skip rfl rfl ?_
  refine wl_skip rfl rfl ?_
  simp only [Option.some.injEq, Prod.mk.injEq] at h
  obtain rfl := h
  have h := hg32; clear hg32
  refine wl_pure (v := .bool false) tt_ok rfl rfl ?_
  refine wl_nil (wx_then ?_)
  replace h := cf rfl h
  refine wc_cond_false rfl ?_
  refine wc_skip (wx_then (wc_seq (wc_region ?_)))
  refine wl_pure tt_ok rfl rfl ?_
  refine wl_nil (wx_then (wc_ret ?_))
  simp only [Option.some.injEq, Prod.mk.injEq] at h
  obtain ⟨rfl, rfl, rfl⟩ := h
  exact wx_spD tt_ok (.inl rfl) Tryd.results42 (Res.tmp rfl Res.nil) ⟨p2_o_4a0, p2_o_4n0, p2_o_4c0, p2_o_4B0, p2_o_5g0, p2_o_5P0, p2_o_4N0, p2_o_4V0, p2_o_5G0, p2_o_5A0, rfl, rfl⟩ (fun F => by simp) (pSub (pCons (Sel.sc Sel.hc) (pCons (Sel.sc Sel.hc) (pApp (Sel.sc Sel.ha) (pApp (Sel.sc Sel.ha) (pCons (Sel.sc Sel.hc) (pApp (Sel.sc Sel.ha) (pCons (Sel.sc Sel.hc) (pApp (Sel.sc Sel.ha) (pCons (Sel.sc Sel.hc) (pCons (Sel.sc Sel.hc) (pCons (Sel.sc Sel.hc) pNil))))))))))))

theorem k_backfill_Inputs {F : Nat} {p0 : T_rollback_Engine} {p0b p0t : Nat} {p0a0 : Option Addr} {p0n0 : Nat} {p0c0 : Nat} {p0B0 : List Blk} {p0a1 : Option Addr} {p0n1 : Nat} {p0c1 : Nat} {p0B1 : List Blk} {p0_4 : T_queue_Queue} {p0_4b p0_4t : Nat} {p0_4a0 : Option Addr} {p0_4n0 : Nat} {p0_4c0 : Nat} {p0_4B0 : List Blk} {p0_5 : T_ring_Ring} {p0_5b p0_5t : Nat} {p0_5g0 : List (T_ring_place × G)} {p0_5P0 : List Blk} {p1 : T_fold_History} {p1b p1t : Nat} {p2 : Int} {p3 : Int} {p4 : (List Int)} {p4a0 : Option Addr} {p4n0 p4c0 : Nat} {r0 : T_queue_Queue} {r1 : T_ring_Ring} {r2 : Int} {r3 : Int} (p0N0 : p0n0 = p0.sure.Shots.length) (p0V0 : Own 92 6 p0a0 p0n0 p0c0 (flat c_T_api_Shot p0.sure.Shots) p0B0) (p0N1 : p0n1 = p0.own.length) (p0V1 : Own 34 1 p0a1 p0n1 p0c1 (flat (e1 .u8) p0.own) p0B1) (p0_4N0 : p0_4n0 = p0_4.l.length) (p0_4V0 : Own 34 1 p0_4a0 p0_4n0 p0_4c0 (flat (e1 .u8) p0_4.l) p0_4B0) (p0_5G0 : p0_5.places.1 = unG p0_5g0) (p0_5A0 : AllP sh_T_ring_place c_T_api_Shot p0_5P0 p0_5g0) (p4N0 : p4n0 = p4.length) (p4H0 : p4n0 ≤ p4c0) (h : m_backfill_Inputs F p0 p0_4 p0_5 p1 p2 p3 p4 = some (r0, r1, r2, r3)) :
    SpD Tryd.prog 21 [.pointer (some ⟨p0b, 0, none⟩), .pointer (some ⟨p1b, 0, none⟩), .int .u8 p2, .int .u64 p3, .slice p4a0 p4n0 p4c0] (⟨p0b, [.int .u8 p0.player, .int .i64 p0.window, .int .u64 p0.sure.Frame, .int .u64 p0.sure.Seed, .int .i32 p0.sure.Players.1.X, .int .i32 p0.sure.Players.1.Y, .int .i32 p0.sure.Players.1.VX, .int .i32 p0.sure.Players.1.VY, .int .u8 p0.sure.Players.1.Health, .int .u8 p0.sure.Players.1.Cool, .int .u8 p0.sure.Players.1.Face, .int .i32 p0.sure.Players.2.X, .int .i32 p0.sure.Players.2.Y, .int .i32 p0.sure.Players.2.VX, .int .i32 p0.sure.Players.2.VY, .int .u8 p0.sure.Players.2.Health, .int .u8 p0.sure.Players.2.Cool, .int .u8 p0.sure.Players.2.Face, .slice p0a0 p0n0 p0c0, .int .u16 p0.sure.Score.1, .int .u16 p0.sure.Score.2, .slice p0a1 p0n1 p0c1, .pointer (some ⟨p0_4b, 0, none⟩), .pointer (some ⟨p0_5b, 0, none⟩)], p0t, (0, 0)⟩ :: (p0B0 ++ (p0B1 ++ (⟨p0_4b, [.int .u64 p0_4.first_, .slice p0_4a0 p0_4n0 p0_4c0, .int .u8 p0_4.last], p0_4t, (0, 0)⟩ :: (p0_4B0 ++ (⟨p0_5b, ([.int .i64 p0_5.size] ++ flat cg_T_ring_place p0_5g0), p0_5t, (0, 0)⟩ :: (p0_5P0 ++ (⟨p1b, ([.int .u64 p1.from_, .int .u64 p1.count, .int .u64 p1.most] ++ flat (e2 .u8) p1.ring.1), p1t, (0, 0)⟩ :: [])))))))) (fun w => Rds w (ids (⟨p0b, [.int .u8 p0.player, .int .i64 p0.window, .int .u64 p0.sure.Frame, .int .u64 p0.sure.Seed, .int .i32 p0.sure.Players.1.X, .int .i32 p0.sure.Players.1.Y, .int .i32 p0.sure.Players.1.VX, .int .i32 p0.sure.Players.1.VY, .int .u8 p0.sure.Players.1.Health, .int .u8 p0.sure.Players.1.Cool, .int .u8 p0.sure.Players.1.Face, .int .i32 p0.sure.Players.2.X, .int .i32 p0.sure.Players.2.Y, .int .i32 p0.sure.Players.2.VX, .int .i32 p0.sure.Players.2.VY, .int .u8 p0.sure.Players.2.Health, .int .u8 p0.sure.Players.2.Cool, .int .u8 p0.sure.Players.2.Face, .slice p0a0 p0n0 p0c0, .int .u16 p0.sure.Score.1, .int .u16 p0.sure.Score.2, .slice p0a1 p0n1 p0c1, .pointer (some ⟨p0_4b, 0, none⟩), .pointer (some ⟨p0_5b, 0, none⟩)], p0t, (0, 0)⟩ :: (p0B0 ++ (p0B1 ++ (⟨p0_4b, [.int .u64 p0_4.first_, .slice p0_4a0 p0_4n0 p0_4c0, .int .u8 p0_4.last], p0_4t, (0, 0)⟩ :: (p0_4B0 ++ (⟨p0_5b, ([.int .i64 p0_5.size] ++ flat cg_T_ring_place p0_5g0), p0_5t, (0, 0)⟩ :: (p0_5P0 ++ (⟨p1b, ([.int .u64 p1.from_, .int .u64 p1.count, .int .u64 p1.most] ++ flat (e2 .u8) p1.ring.1), p1t, (0, 0)⟩ :: []))))))))) [] p4a0 (flat (e1 .u8) p4)) (fun v D => ∃ (r0a0 : Option Addr) (r0n0 : Nat) (r0c0 : Nat) (r0B0 : List Blk) (r1g0 : List (T_ring_place × G)) (r1P0 : List Blk), r0n0 = r0.l.length ∧ Own 34 1 r0a0 r0n0 r0c0 (flat (e1 .u8) r0.l) r0B0 ∧ r1.places.1 = unG r1g0 ∧ AllP sh_T_ring_place c_T_api_Shot r1P0 r1g0 ∧ v = .tuple #[.int .i64 r2, .int .i64 r3] ∧ D = fun F => (⟨p0b, [.int .u8 p0.player, .int .i64 p0.window, .int .u64 p0.sure.Frame, .int .u64 p0.sure.Seed, .int .i32 p0.sure.Players.1.X, .int .i32 p0.sure.Players.1.Y, .int .i32 p0.sure.Players.1.VX, .int .i32 p0.sure.Players.1.VY, .int .u8 p0.sure.Players.1.Health, .int .u8 p0.sure.Players.1.Cool, .int .u8 p0.sure.Players.1.Face, .int .i32 p0.sure.Players.2.X, .int .i32 p0.sure.Players.2.Y, .int .i32 p0.sure.Players.2.VX, .int .i32 p0.sure.Players.2.VY, .int .u8 p0.sure.Players.2.Health, .int .u8 p0.sure.Players.2.Cool, .int .u8 p0.sure.Players.2.Face, .slice p0a0 p0n0 p0c0, .int .u16 p0.sure.Score.1, .int .u16 p0.sure.Score.2, .slice p0a1 p0n1 p0c1, .pointer (some ⟨p0_4b, 0, none⟩), .pointer (some ⟨p0_5b, 0, none⟩)], p0t, (0, 0)⟩ :: (p0B0 ++ (p0B1 ++ (⟨p0_4b, [.int .u64 r0.first_, .slice r0a0 r0n0 r0c0, .int .u8 r0.last], p0_4t, (0, 0)⟩ :: (r0B0 ++ (⟨p0_5b, ([.int .i64 r1.size] ++ flat cg_T_ring_place r1g0), p0_5t, (0, 0)⟩ :: (r1P0 ++ (⟨p1b, ([.int .u64 p1.from_, .int .u64 p1.count, .int .u64 p1.most] ++ flat (e2 .u8) p1.ring.1), p1t, (0, 0)⟩ :: F))))))))) := by
  unfold m_backfill_Inputs at h
  refine sp_of_wc Tryd.func21 rfl Tryd.ntmps21 rfl rfl (fun w0 hR => ?_)
  have p4S0 := hR
  refine wc_seq (wc_region ?_)
  refine wl_box rfl rfl rfl (fun b5 => ?_)
  refine wl_box rfl rfl rfl (fun b6 => ?_)
  refine wl_box rfl rfl rfl (fun b7 => ?_)
  iterate 2 refine wl_pure tt_ok rfl rfl ?_
  refine wl_nil (wx_then (wc_seq (wc_region ?_)))
  refine wl_val (v := .pointer (some ⟨p0b, 0, none⟩)) (val_load tt_ok rfl (List.Mem.tail _ (List.Mem.tail _ (List.Mem.head _))) rfl) rfl ?_
  refine wl_val (v := .pointer (some ⟨p1b, 0, none⟩)) (val_load tt_ok rfl (List.Mem.tail _ (List.Mem.head _)) rfl) rfl ?_
  refine wl_val (v := .int .u8 p2) (val_load tt_ok rfl (List.Mem.head _) rfl) rfl ?_
  iterate 3 refine wl_pure tt_ok rfl rfl ?_
  refine wl_inl Tryd.call41 rfl rfl rfl Tryd.func41 rfl Tryd.ntmps41 rfl rfl rfl ?_
  refine wc_seq (wc_region ?_)
  iterate 2 refine wl_pure tt_ok rfl rfl ?_
  refine wl_nil (wx_then (wc_seq (wc_block (wc_seq (wc_region ?_)))))
  refine wl_pure tt_ok rfl rfl ?_
  refine wl_pure (v := .bool false) tt_ok rfl rfl ?_
  refine wl_pure tt_ok rfl rfl ?_
  refine wl_run rfl ?_
  refine wl_pure tt_ok rfl rfl ?_
  refine wl_run rfl ?_
  refine wl_pure (v := .bool false) tt_ok rfl rfl ?_
  refine wl_pure (v := .bool false) tt_ok rfl rfl ?_
  refine wl_pure tt_ok rfl rfl ?_
  refine wl_nil (wx_then ?_)
  refine wc_cond_false rfl ?_
  refine wc_seq (wc_region ?_)
  refine wl_pure tt_ok rfl rfl ?_
  refine wl_pure (v := .bool (decide ((1 : Int) < p2))) tt_ok rfl rfl ?_
  refine wl_pure tt_ok rfl rfl ?_
  replace h := bsome h; obtain ⟨v100034, h, hg100034⟩ := h
  refine wl_split (t := 27) rfl (fun hc => ?_) (fun hc => ?_)
  · replace h := ct hc h
    refine wl_skip rfl rfl ?_
    refine wl_skip rfl rfl ?_
    refine wl_skip rfl rfl ?_
    refine wl_skip rfl rfl ?_
    refine wl_skip rfl rfl ?_
    refine wl_skip rfl rfl ?_
    simp only [Option.some.injEq, Prod.mk.injEq] at h
    obtain rfl := h
    have h := hg100034; clear hg100034
    refine wl_pure (v := .bool true) tt_ok rfl rfl ?_
    refine wl_pure tt_ok rfl rfl ?_
    refine wl_nil (wx_then ?_)
    replace h := ct rfl h
    refine wc_cond_true rfl ?_
    refine wc_seq (wc_region ?_)
    iterate 2 refine wl_pure tt_ok rfl rfl ?_
    refine wl_nil (wx_then (wc_ret (wx_block_ret (wx_then_ret ?_))))
    refine wx_inl (v := .tuple #[.int .i64 (0 : Int), .int .i64 (2 : Int)]) tt_ok (.inl rfl) Tryd.results41 (Res.tmp rfl (Res.tmp rfl Res.nil)) rfl ?_
    iterate 4 refine wl_pure tt_ok rfl rfl ?_
    refine wl_nil (wx_then (wc_ret ?_))
    simp only [Option.some.injEq, Prod.mk.injEq] at h
    obtain ⟨rfl, rfl, rfl, rfl⟩ := h
    exact wx_spD tt_ok (.inl rfl) Tryd.results21 (Res.tmp rfl (Res.tmp rfl Res.nil)) ⟨p0_4a0, p0_4n0, p0_4c0, p0_4B0, p0_5g0, p0_5P0, p0_4N0, p0_4V0, p0_5G0, p0_5A0, rfl, rfl⟩ (fun F => by simp) (pSub (pCons (Sel.sc (Sel.sc (Sel.sc Sel.hc))) (pApp (Sel.sc (Sel.sc (Sel.sc Sel.ha))) (pApp (Sel.sc (Sel.sc (Sel.sc Sel.ha))) (pCons (Sel.sc (Sel.sc (Sel.sc Sel.hc))) (pApp (Sel.sc (Sel.sc (Sel.sc Sel.ha))) (pCons (Sel.sc (Sel.sc (Sel.sc Sel.hc))) (pApp (Sel.sc (Sel.sc (Sel.sc Sel.ha))) (pCons (Sel.sc (Sel.sc (Sel.sc Sel.hc))) pNil)))))))))
  replace h := cf hc h
  refine wl_run rfl ?_
  refine wl_pure tt_ok rfl rfl ?_
  refine wl_run rfl ?_
  refine wl_val (v := .int .i64 (p4.length : Int)) (val_len tt_ok rfl rfl p4N0) rfl ?_
  refine wl_run rfl ?_
  refine wl_pure (v := .int .u64 (IntKind.wrap .u64 (p4.length : Int))) tt_ok rfl rfl ?_
  refine wl_run rfl ?_
  refine wl_pure tt_ok rfl rfl ?_
  refine wl_run rfl ?_
  refine wl_pure (v := .int .u64 (IntKind.wrap .u64 ((18446744073709551615 : Int) - p3))) tt_ok rfl rfl ?_
  refine wl_run rfl ?_
  refine wl_pure (v := .bool (decide ((IntKind.wrap .u64 ((18446744073709551615 : Int) - p3)) < (IntKind.wrap .u64 (p4.length : Int))))) tt_ok rfl rfl ?_
  simp only [Option.some.injEq, Prod.mk.injEq] at h
  obtain rfl := h
  have h := hg100034; clear hg100034
  refine wl_pure (v := .bool (decide ((IntKind.wrap .u64 ((18446744073709551615 : Int) - p3)) < (IntKind.wrap .u64 (p4.length : Int))))) tt_ok rfl rfl ?_
  refine wl_pure tt_ok rfl rfl ?_
  refine wl_nil (wx_then ?_)
  refine wc_cond rfl (fun hc => ?_) (fun hc => ?_)
  · replace h := ct hc h
    refine wc_seq (wc_region ?_)
    iterate 2 refine wl_pure tt_ok rfl rfl ?_
    refine wl_nil (wx_then (wc_ret (wx_block_ret (wx_then_ret ?_))))
    refine wx_inl (v := .tuple #[.int .i64 (0 : Int), .int .i64 (2 : Int)]) tt_ok (.inl rfl) Tryd.results41 (Res.tmp rfl (Res.tmp rfl Res.nil)) rfl ?_
    iterate 4 refine wl_pure tt_ok rfl rfl ?_
    refine wl_nil (wx_then (wc_ret ?_))
    simp only [Option.some.injEq, Prod.mk.injEq] at h
    obtain ⟨rfl, rfl, rfl, rfl⟩ := h
    exact wx_spD tt_ok (.inl rfl) Tryd.results21 (Res.tmp rfl (Res.tmp rfl Res.nil)) ⟨p0_4a0, p0_4n0, p0_4c0, p0_4B0, p0_5g0, p0_5P0, p0_4N0, p0_4V0, p0_5G0, p0_5A0, rfl, rfl⟩ (fun F => by simp) (pSub (pCons (Sel.sc (Sel.sc (Sel.sc Sel.hc))) (pApp (Sel.sc (Sel.sc (Sel.sc Sel.ha))) (pApp (Sel.sc (Sel.sc (Sel.sc Sel.ha))) (pCons (Sel.sc (Sel.sc (Sel.sc Sel.hc))) (pApp (Sel.sc (Sel.sc (Sel.sc Sel.ha))) (pCons (Sel.sc (Sel.sc (Sel.sc Sel.hc))) (pApp (Sel.sc (Sel.sc (Sel.sc Sel.ha))) (pCons (Sel.sc (Sel.sc (Sel.sc Sel.hc))) pNil)))))))))
  replace h := cf hc h
  refine wc_skip (wx_block (wx_then (wc_seq (wc_seq (wc_region ?_)))))
  refine wl_pure tt_ok rfl rfl ?_
  refine wl_val (v := .int .i64 (p4.length : Int)) (val_len tt_ok rfl rfl p4N0) rfl ?_
  refine wl_pure tt_ok rfl rfl ?_
  refine wl_nil (wx_then (wc_block ?_))
  replace h := bsome h; obtain ⟨o100022, h, hl100022⟩ := h
  refine wc_loop (fun m E L => ∃ (j100022_100012 : Int) (j100022_100037 : Int) (j100022_p0_4_f0 : Int) (j100022_p0_4_f1 : (List Int)) (j100022_p0_4_f2 : Int) (j100022_p0_5_f0 : Int) (j100022_p0_5_f1 : (Arr T_ring_place 14)) (j100022_p0_4_f1a0 : Option Addr) (j100022_p0_4_f1n0 : Nat) (j100022_p0_4_f1c0 : Nat) (j100022_p0_4_f1B0 : List Blk) (j100022_p0_5_f1g0 : List (T_ring_place × G)) (j100022_p0_5_f1P0 : List Blk), m_backfill_Inputs_L100021 F p0 p1 p2 p3 p4 m j100022_100012 j100022_100037 j100022_p0_4_f0 j100022_p0_4_f1 j100022_p0_4_f2 j100022_p0_5_f0 j100022_p0_5_f1 = some o100022 ∧ j100022_p0_4_f1n0 = j100022_p0_4_f1.length ∧ Own 34 1 j100022_p0_4_f1a0 j100022_p0_4_f1n0 j100022_p0_4_f1c0 (flat (e1 .u8) j100022_p0_4_f1) j100022_p0_4_f1B0 ∧ j100022_p0_5_f1.1 = unG j100022_p0_5_f1g0 ∧ AllP sh_T_ring_place c_T_api_Shot j100022_p0_5_f1P0 j100022_p0_5_f1g0 ∧ E = [(3, .int .u64 p3), (5, .func (.func 42) #[] #[.pointer (some ⟨b5, 0, none⟩), .pointer (some ⟨b6, 0, none⟩), .pointer (some ⟨b7, 0, none⟩)]), (12, .int .i64 j100022_100012), (35, .slice p4a0 p4n0 p4c0), (36, .int .i64 (p4.length : Int)), (37, .int .i64 j100022_100037)] ∧ L = (⟨b5, [.pointer (some ⟨p0b, 0, none⟩)], 27, (0, 0)⟩ :: (⟨p0b, [.int .u8 p0.player, .int .i64 p0.window, .int .u64 p0.sure.Frame, .int .u64 p0.sure.Seed, .int .i32 p0.sure.Players.1.X, .int .i32 p0.sure.Players.1.Y, .int .i32 p0.sure.Players.1.VX, .int .i32 p0.sure.Players.1.VY, .int .u8 p0.sure.Players.1.Health, .int .u8 p0.sure.Players.1.Cool, .int .u8 p0.sure.Players.1.Face, .int .i32 p0.sure.Players.2.X, .int .i32 p0.sure.Players.2.Y, .int .i32 p0.sure.Players.2.VX, .int .i32 p0.sure.Players.2.VY, .int .u8 p0.sure.Players.2.Health, .int .u8 p0.sure.Players.2.Cool, .int .u8 p0.sure.Players.2.Face, .slice p0a0 p0n0 p0c0, .int .u16 p0.sure.Score.1, .int .u16 p0.sure.Score.2, .slice p0a1 p0n1 p0c1, .pointer (some ⟨p0_4b, 0, none⟩), .pointer (some ⟨p0_5b, 0, none⟩)], p0t, (0, 0)⟩ :: (⟨p0_4b, [.int .u64 j100022_p0_4_f0, .slice j100022_p0_4_f1a0 j100022_p0_4_f1n0 j100022_p0_4_f1c0, .int .u8 j100022_p0_4_f2], p0_4t, (0, 0)⟩ :: (⟨p0_5b, ([.int .i64 j100022_p0_5_f0] ++ flat cg_T_ring_place j100022_p0_5_f1g0), p0_5t, (0, 0)⟩ :: (⟨b6, [.pointer (some ⟨p1b, 0, none⟩)], 28, (0, 0)⟩ :: (⟨p1b, ([.int .u64 p1.from_, .int .u64 p1.count, .int .u64 p1.most] ++ flat (e2 .u8) p1.ring.1), p1t, (0, 0)⟩ :: (⟨b7, [.int .u8 p2], 5, (0, 0)⟩ :: (p0B0 ++ (p0B1 ++ (j100022_p0_4_f1B0 ++ (j100022_p0_5_f1P0 ++ [])))))))))))) F ⟨(0 : Int), (0 : Int), p0_4.first_, p0_4.l, p0_4.last, p0_5.size, p0_5.places, p0_4a0, p0_4n0, p0_4c0, p0_4B0, p0_5g0, p0_5P0, h, p0_4N0, p0_4V0, p0_5G0, p0_5A0, rfl, rfl⟩ (agree_cons rfl (agree_cons rfl (agree_cons rfl (agree_cons rfl (agree_cons rfl (agree_cons rfl agree_nil)))))) (pSub (pCons (Sel.sc (Sel.sc Sel.hc)) (pCons (Sel.sc (Sel.sc Sel.hc)) (pCons (Sel.sc (Sel.sc (Sel.sa (Sel.sa Sel.hc)))) (pCons (Sel.sc (Sel.sc (Sel.sa (Sel.sa (Sel.sa Sel.hc))))) (pCons (Sel.sc Sel.hc) (pCons (Sel.sc (Sel.sa (Sel.sa (Sel.sa (Sel.sa Sel.hc))))) (pCons Sel.hc (pApp Sel.ha (pApp Sel.ha (pApp Sel.ha (pApp Sel.ha pNil)))))))))))) ?_
  clear h
  rintro m100022 _ _ ⟨j100022_100012, j100022_100037, j100022_p0_4_f0, j100022_p0_4_f1, j100022_p0_4_f2, j100022_p0_5_f0, j100022_p0_5_f1, j100022_p0_4_f1a0, j100022_p0_4_f1n0, j100022_p0_4_f1c0, j100022_p0_4_f1B0, j100022_p0_5_f1g0, j100022_p0_5_f1P0, h, j100022_p0_4_f1N0, j100022_p0_4_f1V0, j100022_p0_5_f1G0, j100022_p0_5_f1A0, rfl, rfl⟩
  rcases m100022 with _ | m100022
  · rw [m_backfill_Inputs_L100021.eq_1] at h; cases h
  rw [m_backfill_Inputs_L100021.eq_2] at h
  refine wc_seq (wc_region ?_)
  refine wl_pure (v := .bool (decide (j100022_100037 < (p4.length : Int)))) tt_ok rfl rfl ?_
  refine wl_nil (wx_then (wc_seq ?_))
  refine wc_cond rfl (fun hc => ?_) (fun hc => ?_)
  · replace h := ct hc h
    refine wc_skip (wx_then (wc_seq (wc_block (wc_seq (wc_region ?_)))))
    replace h := bsome h; obtain ⟨v100039, x100039, h⟩ := h
    refine wl_val (v := .pointer (some ((adOf p4a0).add (j100022_100037.toNat * 1 + 0)))) (val_ix (enc := (e1 .u8)) tt_ok rfl rfl rfl rfl p4N0 p4S0 (e1_len _) rfl x100039) rfl ?_
    refine wl_val (v := .int .u8 v100039) (val_le (enc := (e1 .u8)) (xs := p4) tt_ok rfl p4S0 rsub_nil (e1_len _) x100039 rfl) rfl ?_
    refine wl_pure tt_ok rfl rfl ?_
    refine wl_nil (wx_then (wc_seq (wc_seq (wc_region ?_))))
    iterate 3 refine wl_pure tt_ok rfl rfl ?_
    refine wl_pure (v := .int .u64 (IntKind.wrap .u64 j100022_100012)) tt_ok rfl rfl ?_
    refine wl_pure (v := .int .u64 (IntKind.wrap .u64 (p3 + (IntKind.wrap .u64 j100022_100012)))) tt_ok rfl rfl ?_
    refine wl_pure tt_ok rfl rfl ?_
    replace h := bsome h; obtain ⟨⟨o100047_4, o100047_5, v100047⟩, x100047, h⟩ := h; try dsimp only at h
    refine wl_cs Tryd.call42 rfl rfl rfl (s_sp (k_backfill_Inputs_1 (p2 := ()) (p2_o := p0) (p2_o_4 := (T_queue_Queue.mk j100022_p0_4_f0 j100022_p0_4_f1 j100022_p0_4_f2)) (p2_o_5 := (T_ring_Ring.mk j100022_p0_5_f0 j100022_p0_5_f1)) (p3 := ()) p0N0 p0V0 p0N1 p0V1 j100022_p0_4_f1N0 j100022_p0_4_f1V0 j100022_p0_5_f1G0 j100022_p0_5_f1A0 x100047) (pCons Sel.hc (pCons Sel.hc (pApp (Sel.sc (Sel.sc (Sel.sc (Sel.sc (Sel.sc Sel.ha))))) (pApp (Sel.sc (Sel.sc (Sel.sc (Sel.sc (Sel.sc Sel.ha))))) (pCons Sel.hc (pApp (Sel.sc (Sel.sc (Sel.sc (Sel.sc Sel.ha)))) (pCons Sel.hc (pApp (Sel.sc (Sel.sc (Sel.sc Sel.ha))) (pCons Sel.hc (pCons Sel.hc (pCons Sel.hc pNil))))))))))) (fun _ _ => trivial)) rfl ?_
    rintro _ _ ⟨_, ⟨o100047_4a0, o100047_4n0, o100047_4c0, o100047_4B0, o100047_5g0, o100047_5P0, o100047_4N0, o100047_4V0, o100047_5G0, o100047_5A0, rfl, rfl⟩, rfl⟩
    refine wl_pure tt_ok rfl rfl ?_
    refine wl_nil (wx_then (wc_seq (wc_region ?_)))
    refine wl_pure tt_ok rfl rfl ?_
    refine wl_pure (v := .bool (v100047 != (0 : Int))) tt_ok rfl rfl ?_
    refine wl_nil (wx_then ?_)
    refine wc_cond rfl (fun hc => ?_) (fun hc => ?_)
    · replace h := ct hc h
      refine wc_seq (wc_region ?_)
      iterate 4 refine wl_pure tt_ok rfl rfl ?_
      refine wl_nil (wx_then (wc_ret (wx_then_ret (wx_block_ret (wx_then_ret ?_)))))
      obtain rfl := Option.some.inj h
      have h := hl100022; clear hl100022; try dsimp only [orE_l, orE_r] at h
      refine wx_then_ret (wx_block_ret (wx_then_ret ?_))
      refine wx_inl (v := .tuple #[.int .i64 j100022_100012, .int .i64 v100047]) tt_ok (.inl rfl) Tryd.results41 (Res.tmp rfl (Res.tmp rfl Res.nil)) rfl ?_
      iterate 4 refine wl_pure tt_ok rfl rfl ?_
      refine wl_nil (wx_then (wc_ret ?_))
      simp only [Option.some.injEq, Prod.mk.injEq] at h
      obtain ⟨rfl, rfl, rfl, rfl⟩ := h
      exact wx_spD tt_ok (.inl rfl) Tryd.results21 (Res.tmp rfl (Res.tmp rfl Res.nil)) ⟨o100047_4a0, o100047_4n0, o100047_4c0, o100047_4B0, o100047_5g0, o100047_5P0, o100047_4N0, o100047_4V0, o100047_5G0, o100047_5A0, rfl, rfl⟩ (fun F => by simp) (pSub (pCons (Sel.sc Sel.hc) (pApp (Sel.sc Sel.ha) (pApp (Sel.sc Sel.ha) (pCons (Sel.sc Sel.hc) (pApp (Sel.sc Sel.ha) (pCons (Sel.sc Sel.hc) (pApp (Sel.sc Sel.ha) (pCons (Sel.sc (Sel.sc Sel.hc)) pNil)))))))))
    replace h := cf hc h
    refine wc_skip (wx_then (wc_region ?_))
    refine wl_pure tt_ok rfl rfl ?_
    refine wl_pure (v := .int .i64 (IntKind.wrap .i64 (j100022_100012 + (1 : Int)))) tt_ok rfl rfl ?_
    refine wl_pure tt_ok rfl rfl ?_
    refine wl_nil (wx_block (wx_then (wc_region ?_)))
    refine wl_pure (v := .int .i64 (IntKind.wrap .i64 (j100022_100037 + (1 : Int)))) tt_ok rfl rfl ?_
    refine wl_pure tt_ok rfl rfl ?_
    refine wl_nil ?_
    exact wx_round m100022 (Nat.lt_succ_self m100022) ⟨(IntKind.wrap .i64 (j100022_100012 + (1 : Int))), (IntKind.wrap .i64 (j100022_100037 + (1 : Int))), o100047_4.first_, o100047_4.l, o100047_4.last, o100047_5.size, o100047_5.places, o100047_4a0, o100047_4n0, o100047_4c0, o100047_4B0, o100047_5g0, o100047_5P0, h, o100047_4N0, o100047_4V0, o100047_5G0, o100047_5A0, rfl, rfl⟩ (agree_cons rfl (agree_cons rfl (agree_cons rfl (agree_cons rfl (agree_cons rfl (agree_cons rfl agree_nil)))))) (pSub (pCons Sel.hc (pCons Sel.hc (pCons (Sel.sa (Sel.sa Sel.hc)) (pCons (Sel.sa (Sel.sa (Sel.sa Sel.hc))) (pCons (Sel.sa (Sel.sa (Sel.sa (Sel.sa Sel.hc)))) (pCons (Sel.sa (Sel.sa (Sel.sa (Sel.sa Sel.hc)))) (pCons (Sel.sa (Sel.sa (Sel.sa (Sel.sa Sel.hc)))) (pApp Sel.ha (pApp Sel.ha (pApp Sel.ha (pApp Sel.ha pNil))))))))))))
  replace h := cf hc h
  refine wc_exit (wx_then_exit ?_)
  obtain rfl := Option.some.inj h
  have h := hl100022; clear hl100022; try dsimp only [orE_l, orE_r] at h
  refine wx_then_exit (wx_block_exit (wx_then (wc_seq (wc_region ?_))))
  iterate 3 refine wl_pure tt_ok rfl rfl ?_
  refine wl_nil (wx_then (wc_ret ?_))
  refine wx_inl (v := .tuple #[.int .i64 j100022_100012, .int .i64 (0 : Int)]) tt_ok (.inl rfl) Tryd.results41 (Res.tmp rfl (Res.tmp rfl Res.nil)) rfl ?_
  iterate 4 refine wl_pure tt_ok rfl rfl ?_
  refine wl_nil (wx_then (wc_ret ?_))
  simp only [Option.some.injEq, Prod.mk.injEq] at h
  obtain ⟨rfl, rfl, rfl, rfl⟩ := h
  exact wx_spD tt_ok (.inl rfl) Tryd.results21 (Res.tmp rfl (Res.tmp rfl Res.nil)) ⟨j100022_p0_4_f1a0, j100022_p0_4_f1n0, j100022_p0_4_f1c0, j100022_p0_4_f1B0, j100022_p0_5_f1g0, j100022_p0_5_f1P0, j100022_p0_4_f1N0, j100022_p0_4_f1V0, j100022_p0_5_f1G0, j100022_p0_5_f1A0, rfl, rfl⟩ (fun F => by simp) (pSub (pCons (Sel.sc Sel.hc) (pApp (Sel.sc (Sel.sc (Sel.sc (Sel.sc (Sel.sc (Sel.sc Sel.ha)))))) (pApp (Sel.sc (Sel.sc (Sel.sc (Sel.sc (Sel.sc (Sel.sc Sel.ha)))))) (pCons (Sel.sc Sel.hc) (pApp (Sel.sc (Sel.sc (Sel.sc (Sel.sc (Sel.sc Sel.ha))))) (pCons (Sel.sc Sel.hc) (pApp (Sel.sc (Sel.sc (Sel.sc (Sel.sc Sel.ha)))) (pCons (Sel.sc (Sel.sc Sel.hc)) pNil)))))))))

theorem k_hindcastlaw28_inputs {F : Nat} {p0 : T_rollback_Engine} {p0b p0t : Nat} {p0a0 : Option Addr} {p0n0 : Nat} {p0c0 : Nat} {p0B0 : List Blk} {p0a1 : Option Addr} {p0n1 : Nat} {p0c1 : Nat} {p0B1 : List Blk} {p0_4 : T_queue_Queue} {p0_4b p0_4t : Nat} {p0_4a0 : Option Addr} {p0_4n0 : Nat} {p0_4c0 : Nat} {p0_4B0 : List Blk} {p0_5 : T_ring_Ring} {p0_5b p0_5t : Nat} {p0_5g0 : List (T_ring_place × G)} {p0_5P0 : List Blk} {p1 : T_fold_History} {p1b p1t : Nat} {p2 : Int} {p3 : (List Int)} {p3a0 : Option Addr} {p3n0 p3c0 : Nat} {r0 : T_queue_Queue} {r1 : T_ring_Ring} {r2 : Int} (p0N0 : p0n0 = p0.sure.Shots.length) (p0V0 : Own 92 6 p0a0 p0n0 p0c0 (flat c_T_api_Shot p0.sure.Shots) p0B0) (p0N1 : p0n1 = p0.own.length) (p0V1 : Own 34 1 p0a1 p0n1 p0c1 (flat (e1 .u8) p0.own) p0B1) (p0_4N0 : p0_4n0 = p0_4.l.length) (p0_4V0 : Own 34 1 p0_4a0 p0_4n0 p0_4c0 (flat (e1 .u8) p0_4.l) p0_4B0) (p0_5G0 : p0_5.places.1 = unG p0_5g0) (p0_5A0 : AllP sh_T_ring_place c_T_api_Shot p0_5P0 p0_5g0) (p3N0 : p3n0 = p3.length) (p3H0 : p3n0 ≤ p3c0) (h : m_hindcastlaw28_inputs F p0 p0_4 p0_5 p1 p2 p3 = some (r0, r1, r2)) :
    SpD Tryd.prog 19 [.pointer (some ⟨p0b, 0, none⟩), .pointer (some ⟨p1b, 0, none⟩), .int .u64 p2, .slice p3a0 p3n0 p3c0] (⟨p0b, [.int .u8 p0.player, .int .i64 p0.window, .int .u64 p0.sure.Frame, .int .u64 p0.sure.Seed, .int .i32 p0.sure.Players.1.X, .int .i32 p0.sure.Players.1.Y, .int .i32 p0.sure.Players.1.VX, .int .i32 p0.sure.Players.1.VY, .int .u8 p0.sure.Players.1.Health, .int .u8 p0.sure.Players.1.Cool, .int .u8 p0.sure.Players.1.Face, .int .i32 p0.sure.Players.2.X, .int .i32 p0.sure.Players.2.Y, .int .i32 p0.sure.Players.2.VX, .int .i32 p0.sure.Players.2.VY, .int .u8 p0.sure.Players.2.Health, .int .u8 p0.sure.Players.2.Cool, .int .u8 p0.sure.Players.2.Face, .slice p0a0 p0n0 p0c0, .int .u16 p0.sure.Score.1, .int .u16 p0.sure.Score.2, .slice p0a1 p0n1 p0c1, .pointer (some ⟨p0_4b, 0, none⟩), .pointer (some ⟨p0_5b, 0, none⟩)], p0t, (0, 0)⟩ :: (p0B0 ++ (p0B1 ++ (⟨p0_4b, [.int .u64 p0_4.first_, .slice p0_4a0 p0_4n0 p0_4c0, .int .u8 p0_4.last], p0_4t, (0, 0)⟩ :: (p0_4B0 ++ (⟨p0_5b, ([.int .i64 p0_5.size] ++ flat cg_T_ring_place p0_5g0), p0_5t, (0, 0)⟩ :: (p0_5P0 ++ (⟨p1b, ([.int .u64 p1.from_, .int .u64 p1.count, .int .u64 p1.most] ++ flat (e2 .u8) p1.ring.1), p1t, (0, 0)⟩ :: [])))))))) (fun w => Rds w (ids (⟨p0b, [.int .u8 p0.player, .int .i64 p0.window, .int .u64 p0.sure.Frame, .int .u64 p0.sure.Seed, .int .i32 p0.sure.Players.1.X, .int .i32 p0.sure.Players.1.Y, .int .i32 p0.sure.Players.1.VX, .int .i32 p0.sure.Players.1.VY, .int .u8 p0.sure.Players.1.Health, .int .u8 p0.sure.Players.1.Cool, .int .u8 p0.sure.Players.1.Face, .int .i32 p0.sure.Players.2.X, .int .i32 p0.sure.Players.2.Y, .int .i32 p0.sure.Players.2.VX, .int .i32 p0.sure.Players.2.VY, .int .u8 p0.sure.Players.2.Health, .int .u8 p0.sure.Players.2.Cool, .int .u8 p0.sure.Players.2.Face, .slice p0a0 p0n0 p0c0, .int .u16 p0.sure.Score.1, .int .u16 p0.sure.Score.2, .slice p0a1 p0n1 p0c1, .pointer (some ⟨p0_4b, 0, none⟩), .pointer (some ⟨p0_5b, 0, none⟩)], p0t, (0, 0)⟩ :: (p0B0 ++ (p0B1 ++ (⟨p0_4b, [.int .u64 p0_4.first_, .slice p0_4a0 p0_4n0 p0_4c0, .int .u8 p0_4.last], p0_4t, (0, 0)⟩ :: (p0_4B0 ++ (⟨p0_5b, ([.int .i64 p0_5.size] ++ flat cg_T_ring_place p0_5g0), p0_5t, (0, 0)⟩ :: (p0_5P0 ++ (⟨p1b, ([.int .u64 p1.from_, .int .u64 p1.count, .int .u64 p1.most] ++ flat (e2 .u8) p1.ring.1), p1t, (0, 0)⟩ :: []))))))))) [] p3a0 (flat (e1 .u8) p3)) (fun v D => ∃ (r0a0 : Option Addr) (r0n0 : Nat) (r0c0 : Nat) (r0B0 : List Blk) (r1g0 : List (T_ring_place × G)) (r1P0 : List Blk), r0n0 = r0.l.length ∧ Own 34 1 r0a0 r0n0 r0c0 (flat (e1 .u8) r0.l) r0B0 ∧ r1.places.1 = unG r1g0 ∧ AllP sh_T_ring_place c_T_api_Shot r1P0 r1g0 ∧ v = .int .i64 r2 ∧ D = fun F => (⟨p0b, [.int .u8 p0.player, .int .i64 p0.window, .int .u64 p0.sure.Frame, .int .u64 p0.sure.Seed, .int .i32 p0.sure.Players.1.X, .int .i32 p0.sure.Players.1.Y, .int .i32 p0.sure.Players.1.VX, .int .i32 p0.sure.Players.1.VY, .int .u8 p0.sure.Players.1.Health, .int .u8 p0.sure.Players.1.Cool, .int .u8 p0.sure.Players.1.Face, .int .i32 p0.sure.Players.2.X, .int .i32 p0.sure.Players.2.Y, .int .i32 p0.sure.Players.2.VX, .int .i32 p0.sure.Players.2.VY, .int .u8 p0.sure.Players.2.Health, .int .u8 p0.sure.Players.2.Cool, .int .u8 p0.sure.Players.2.Face, .slice p0a0 p0n0 p0c0, .int .u16 p0.sure.Score.1, .int .u16 p0.sure.Score.2, .slice p0a1 p0n1 p0c1, .pointer (some ⟨p0_4b, 0, none⟩), .pointer (some ⟨p0_5b, 0, none⟩)], p0t, (0, 0)⟩ :: (p0B0 ++ (p0B1 ++ (⟨p0_4b, [.int .u64 r0.first_, .slice r0a0 r0n0 r0c0, .int .u8 r0.last], p0_4t, (0, 0)⟩ :: (r0B0 ++ (⟨p0_5b, ([.int .i64 r1.size] ++ flat cg_T_ring_place r1g0), p0_5t, (0, 0)⟩ :: (r1P0 ++ (⟨p1b, ([.int .u64 p1.from_, .int .u64 p1.count, .int .u64 p1.most] ++ flat (e2 .u8) p1.ring.1), p1t, (0, 0)⟩ :: F))))))))) := by
  unfold m_hindcastlaw28_inputs at h
  refine sp_of_wc Tryd.func19 rfl Tryd.ntmps19 rfl rfl (fun w0 hR => ?_)
  have p3S0 := hR
  refine wc_seq (wc_region ?_)
  refine wl_pure tt_ok rfl rfl ?_
  refine wl_nil (wx_then (wc_seq (wc_region ?_)))
  iterate 4 refine wl_pure tt_ok rfl rfl ?_
  replace h := bsome h; obtain ⟨⟨o16_1, o16_2, v16_0, v16_1⟩, x16, h⟩ := h; try dsimp only at h
  refine wl_cs Tryd.call21 rfl rfl rfl (s_sp (k_backfill_Inputs (p0 := p0) (p0_4 := p0_4) (p0_5 := p0_5) (p4 := p3) p0N0 p0V0 p0N1 p0V1 p0_4N0 p0_4V0 p0_5G0 p0_5A0 p3N0 p3H0 x16) (pCons Sel.hc (pApp Sel.ha (pApp Sel.ha (pCons Sel.hc (pApp Sel.ha (pCons Sel.hc (pApp Sel.ha (pCons Sel.hc pNil)))))))) (Rds.call p3S0 (pCons Sel.hc (pApp Sel.ha (pApp Sel.ha (pCons Sel.hc (pApp Sel.ha (pCons Sel.hc (pApp Sel.ha (pCons Sel.hc pNil)))))))) rsub_nil)) rfl ?_
  rintro _ _ ⟨_, ⟨o16_1a0, o16_1n0, o16_1c0, o16_1B0, o16_2g0, o16_2P0, o16_1N0, o16_1V0, o16_2G0, o16_2A0, rfl, rfl⟩, rfl⟩
  iterate 5 refine wl_pure tt_ok rfl rfl ?_
  refine wl_nil (wx_then (wc_seq (wc_region ?_)))
  iterate 2 refine wl_pure tt_ok rfl rfl ?_
  refine wl_pure (v := .int .i64 (IntKind.wrap .i64 ((100 : Int) * v16_1))) tt_ok rfl rfl ?_
  refine wl_pure (v := .int .i64 (IntKind.wrap .i64 (v16_0 + (IntKind.wrap .i64 ((100 : Int) * v16_1))))) tt_ok rfl rfl ?_
  refine wl_pure tt_ok rfl rfl ?_
  refine wl_nil (wx_then (wc_ret ?_))
  simp only [Option.some.injEq, Prod.mk.injEq] at h
  obtain ⟨rfl, rfl, rfl⟩ := h
  exact wx_spD tt_ok (.inl rfl) Tryd.results19 (Res.tmp rfl Res.nil) ⟨o16_1a0, o16_1n0, o16_1c0, o16_1B0, o16_2g0, o16_2P0, o16_1N0, o16_1V0, o16_2G0, o16_2A0, rfl, rfl⟩ (fun F => by simp) (pSub (pCons Sel.hc (pApp Sel.ha (pApp Sel.ha (pCons Sel.hc (pApp Sel.ha (pCons Sel.hc (pApp Sel.ha (pCons Sel.hc pNil)))))))))

theorem k_fold_History_Drop {F : Nat} {p0 : T_fold_History} {p0b p0t : Nat} {p1 : Int} {r0 : T_fold_History} (h : m_fold_History_Drop F p0 p1 = some r0) :
    SpD Tryd.prog 20 [.pointer (some ⟨p0b, 0, none⟩), .int .u64 p1] (⟨p0b, ([.int .u64 p0.from_, .int .u64 p0.count, .int .u64 p0.most] ++ flat (e2 .u8) p0.ring.1), p0t, (0, 0)⟩ :: []) (fun w => True) (fun v D => v = .tuple #[] ∧ D = fun F => (⟨p0b, ([.int .u64 r0.from_, .int .u64 r0.count, .int .u64 r0.most] ++ flat (e2 .u8) r0.ring.1), p0t, (0, 0)⟩ :: F)) := by
  unfold m_fold_History_Drop at h
  refine sp_of_wc Tryd.func20 rfl Tryd.ntmps20 rfl rfl (fun w0 hR => ?_)
  refine wc_seq (wc_region ?_)
  refine wl_pure tt_ok rfl rfl ?_
  replace h := bsome h; obtain ⟨v5, x5, h⟩ := h
  refine wl_cq Tryd.call27 rfl rfl rfl (q_rd (k_fold_History_is x5) (pCons Sel.hc pNil) (fun _ _ => trivial)) rfl ?_
  refine wl_nil (wx_then ?_)
  refine wc_cond rfl (fun hc => ?_) (fun hc => ?_)
  · replace h := ct hc h
    refine wc_k2 (Ls := (⟨p0b, ([.int .u64 p0.from_, .int .u64 p0.count, .int .u64 p0.most] ++ flat (e2 .u8) p0.ring.1), p0t, (0, 0)⟩ :: [])) [14] [14] [0, 0, 2, 6, 14, 0, 0, 64, 192, 448, 992, 2046, 4095, 8191, 16383] [0, 1, 2, 3, 4, 5, 6, 7, 8, 9, 10, 11, 12, 13, 14] (by kernel_rfl) (by kernel_rfl) (by kernel_rfl) ?_
    refine k_val rfl rfl rfl (pSub (pCons Sel.hc pNil)) (stepV_ok tt_ok rfl) rfl ?_
    refine k_val rfl rfl rfl (pSub (pCons Sel.hc pNil)) (stepV_ok tt_ok rfl) rfl ?_
    refine k_val rfl rfl rfl (pSub (pCons Sel.hc pNil)) (stepV_ok tt_ok rfl) rfl ?_
    refine k_val (v := .pointer (some ⟨p0b, 0, none⟩)) rfl rfl rfl (pSub (pCons Sel.hc pNil)) (stepV_ok tt_ok rfl) rfl ?_
    refine k_val (v := .int .u64 p0.from_) rfl rfl rfl (pSub (pCons Sel.hc pNil)) (val_load tt_ok rfl (List.Mem.head _) rfl) rfl ?_
    refine k_val rfl rfl rfl (pSub (pCons Sel.hc pNil)) (stepV_ok tt_ok rfl) rfl ?_
    refine k_val rfl rfl rfl (pSub (pCons Sel.hc pNil)) (stepV_ok tt_ok rfl) rfl ?_
    refine k_val rfl rfl rfl (pSub (pCons Sel.hc pNil)) (stepV_ok tt_ok rfl) rfl ?_
    refine k_val (v := .pointer (some ⟨p0b, 1, none⟩)) rfl rfl rfl (pSub (pCons Sel.hc pNil)) (stepV_ok tt_ok rfl) rfl ?_
    refine k_val (v := .int .u64 p0.count) rfl rfl rfl (pSub (pCons Sel.hc pNil)) (val_load tt_ok rfl (List.Mem.head _) rfl) rfl ?_
    refine k_val (v := .int .u64 (min p1 p0.count)) rfl rfl rfl (pSub (pCons Sel.hc pNil)) (stepV_ok tt_ok rfl) rfl ?_
    refine k_val (v := .int .u64 (max p0.from_ (min p1 p0.count))) rfl rfl rfl (pSub (pCons Sel.hc pNil)) (stepV_ok tt_ok rfl) rfl ?_
    refine k_val rfl rfl rfl (pSub (pCons Sel.hc pNil)) (stepV_ok tt_ok rfl) rfl ?_
    refine k_val (v := .pointer (some ⟨p0b, 0, none⟩)) rfl rfl rfl (pSub (pCons Sel.hc pNil)) (stepV_ok tt_ok rfl) rfl ?_
    refine k_chg0 rfl rfl rfl (chg_storep (pre := [.int .u64 p0.from_, .int .u64 p0.count, .int .u64 p0.most]) (pre' := [.int .u64 (max p0.from_ (min p1 p0.count)), .int .u64 p0.count, .int .u64 p0.most]) tt_ok rfl Upd.here rfl rfl rfl rfl rfl rfl (by intro h; cases h)) (.inl rfl) ?_
    rintro _ _ rfl
    refine k_end (by kernel_rfl) ?_
    simp only [Option.some.injEq] at h
    obtain rfl := h
    exact wx_spD tt_ok (.inr rfl) Tryd.results20 Res.nil ⟨rfl, rfl⟩ (fun F => by simp) (pSub (pCons Sel.hc pNil))
  replace h := cf hc h
  refine wc_skip ?_
  simp only [Option.some.injEq] at h
  obtain rfl := h
  exact wx_spD tt_ok (.inr rfl) Tryd.results20 Res.nil ⟨rfl, rfl⟩ (fun F => by simp) (pSub (pCons Sel.hc pNil))

theorem k_backfill_Pairs_nil0 {F : Nat} {p1 : T_fold_History} {p1b p1t : Nat} {p2 : Int} {p3 : Int} {p4 : (List (Int × Int))} {p4a0 : Option Addr} {p4n0 p4c0 : Nat} {r0 : Int} {r1 : Int} (p4N0 : p4n0 = p4.length) (p4H0 : p4n0 ≤ p4c0) (h : m_backfill_Pairs_nil0 F p1 p2 p3 p4 = some (r0, r1)) :
    Rd2 Tryd.prog 13 [.pointer none, .pointer (some ⟨p1b, 0, none⟩), .int .u8 p2, .int .u64 p3, .slice p4a0 p4n0 p4c0] (⟨p1b, ([.int .u64 p1.from_, .int .u64 p1.count, .int .u64 p1.most] ++ flat (e2 .u8) p1.ring.1), p1t, (0, 0)⟩ :: []) (fun w => Rds w (ids (⟨p1b, ([.int .u64 p1.from_, .int .u64 p1.count, .int .u64 p1.most] ++ flat (e2 .u8) p1.ring.1), p1t, (0, 0)⟩ :: [])) [] p4a0 (flat (e2 .u8) p4)) (.tuple #[.int .i64 r0, .int .i64 r1]) := by
  unfold m_backfill_Pairs_nil0 at h
  refine sp_of_wc Tryd.func13 rfl Tryd.ntmps13 rfl rfl (fun w0 hR => ?_)
  have p4S0 := hR
  refine wc_seq (wc_region ?_)
  refine wl_box rfl rfl rfl (fun b5 => ?_)
  refine wl_box rfl rfl rfl (fun b6 => ?_)
  refine wl_box rfl rfl rfl (fun b7 => ?_)
  iterate 2 refine wl_pure tt_ok rfl rfl ?_
  refine wl_nil (wx_then (wc_seq (wc_region ?_)))
  refine wl_val (v := .pointer none) (val_load tt_ok rfl (List.Mem.tail _ (List.Mem.tail _ (List.Mem.head _))) rfl) rfl ?_
  refine wl_val (v := .pointer (some ⟨p1b, 0, none⟩)) (val_load tt_ok rfl (List.Mem.tail _ (List.Mem.head _)) rfl) rfl ?_
  refine wl_val (v := .int .u8 p2) (val_load tt_ok rfl (List.Mem.head _) rfl) rfl ?_
  iterate 3 refine wl_pure tt_ok rfl rfl ?_
  refine wl_inl Tryd.call31 rfl rfl rfl Tryd.func31 rfl Tryd.ntmps31 rfl rfl rfl ?_
  refine wc_seq (wc_region ?_)
  iterate 2 refine wl_pure tt_ok rfl rfl ?_
  refine wl_nil (wx_then (wc_seq (wc_block (wc_seq (wc_region ?_)))))
  refine wl_pure tt_ok rfl rfl ?_
  refine wl_pure (v := .bool true) tt_ok rfl rfl ?_
  refine wl_pure tt_ok rfl rfl ?_
  refine wl_skip rfl rfl ?_
  refine wl_skip rfl rfl ?_
  refine wl_pure (v := .bool true) tt_ok rfl rfl ?_
  refine wl_pure tt_ok rfl rfl ?_
  refine wl_nil (wx_then ?_)
  refine wc_cond_true rfl ?_
  refine wc_seq (wc_region ?_)
  iterate 2 refine wl_pure tt_ok rfl rfl ?_
  refine wl_nil (wx_then (wc_ret (wx_block_ret (wx_then_ret ?_))))
  refine wx_inl (v := .tuple #[.int .i64 (0 : Int), .int .i64 (1 : Int)]) tt_ok (.inl rfl) Tryd.results31 (Res.tmp rfl (Res.tmp rfl Res.nil)) rfl ?_
  iterate 4 refine wl_pure tt_ok rfl rfl ?_
  refine wl_nil (wx_then (wc_ret ?_))
  simp only [Option.some.injEq, Prod.mk.injEq] at h
  obtain ⟨rfl, rfl⟩ := h
  exact wx_rd tt_ok (.inl rfl) Tryd.results13 (Res.tmp rfl (Res.tmp rfl Res.nil)) (pSub (pCons (Sel.sc (Sel.sc (Sel.sc Sel.hc))) pNil)) rfl

theorem k_backfill_Inputs_nil1 {F : Nat} {p0 : T_rollback_Engine} {p0b p0t : Nat} {p0a0 : Option Addr} {p0n0 : Nat} {p0c0 : Nat} {p0B0 : List Blk} {p0a1 : Option Addr} {p0n1 : Nat} {p0c1 : Nat} {p0B1 : List Blk} {p0_4 : T_queue_Queue} {p0_4b p0_4t : Nat} {p0_4a0 : Option Addr} {p0_4n0 : Nat} {p0_4c0 : Nat} {p0_4B0 : List Blk} {p0_5 : T_ring_Ring} {p0_5b p0_5t : Nat} {p0_5g0 : List (T_ring_place × G)} {p0_5P0 : List Blk} {p2 : Int} {p3 : Int} {p4 : (List Int)} {p4a0 : Option Addr} {p4n0 p4c0 : Nat} {r0 : Int} {r1 : Int} (p0N0 : p0n0 = p0.sure.Shots.length) (p0V0 : Own 92 6 p0a0 p0n0 p0c0 (flat c_T_api_Shot p0.sure.Shots) p0B0) (p0N1 : p0n1 = p0.own.length) (p0V1 : Own 34 1 p0a1 p0n1 p0c1 (flat (e1 .u8) p0.own) p0B1) (p0_4N0 : p0_4n0 = p0_4.l.length) (p0_4V0 : Own 34 1 p0_4a0 p0_4n0 p0_4c0 (flat (e1 .u8) p0_4.l) p0_4B0) (p0_5G0 : p0_5.places.1 = unG p0_5g0) (p0_5A0 : AllP sh_T_ring_place c_T_api_Shot p0_5P0 p0_5g0) (p4N0 : p4n0 = p4.length) (p4H0 : p4n0 ≤ p4c0) (h : m_backfill_Inputs_nil1 F p0 p0_4 p0_5 p2 p3 p4 = some (r0, r1)) :
    Rd2 Tryd.prog 21 [.pointer (some ⟨p0b, 0, none⟩), .pointer none, .int .u8 p2, .int .u64 p3, .slice p4a0 p4n0 p4c0] (⟨p0b, [.int .u8 p0.player, .int .i64 p0.window, .int .u64 p0.sure.Frame, .int .u64 p0.sure.Seed, .int .i32 p0.sure.Players.1.X, .int .i32 p0.sure.Players.1.Y, .int .i32 p0.sure.Players.1.VX, .int .i32 p0.sure.Players.1.VY, .int .u8 p0.sure.Players.1.Health, .int .u8 p0.sure.Players.1.Cool, .int .u8 p0.sure.Players.1.Face, .int .i32 p0.sure.Players.2.X, .int .i32 p0.sure.Players.2.Y, .int .i32 p0.sure.Players.2.VX, .int .i32 p0.sure.Players.2.VY, .int .u8 p0.sure.Players.2.Health, .int .u8 p0.sure.Players.2.Cool, .int .u8 p0.sure.Players.2.Face, .slice p0a0 p0n0 p0c0, .int .u16 p0.sure.Score.1, .int .u16 p0.sure.Score.2, .slice p0a1 p0n1 p0c1, .pointer (some ⟨p0_4b, 0, none⟩), .pointer (some ⟨p0_5b, 0, none⟩)], p0t, (0, 0)⟩ :: (p0B0 ++ (p0B1 ++ (⟨p0_4b, [.int .u64 p0_4.first_, .slice p0_4a0 p0_4n0 p0_4c0, .int .u8 p0_4.last], p0_4t, (0, 0)⟩ :: (p0_4B0 ++ (⟨p0_5b, ([.int .i64 p0_5.size] ++ flat cg_T_ring_place p0_5g0), p0_5t, (0, 0)⟩ :: (p0_5P0 ++ []))))))) (fun w => Rds w (ids (⟨p0b, [.int .u8 p0.player, .int .i64 p0.window, .int .u64 p0.sure.Frame, .int .u64 p0.sure.Seed, .int .i32 p0.sure.Players.1.X, .int .i32 p0.sure.Players.1.Y, .int .i32 p0.sure.Players.1.VX, .int .i32 p0.sure.Players.1.VY, .int .u8 p0.sure.Players.1.Health, .int .u8 p0.sure.Players.1.Cool, .int .u8 p0.sure.Players.1.Face, .int .i32 p0.sure.Players.2.X, .int .i32 p0.sure.Players.2.Y, .int .i32 p0.sure.Players.2.VX, .int .i32 p0.sure.Players.2.VY, .int .u8 p0.sure.Players.2.Health, .int .u8 p0.sure.Players.2.Cool, .int .u8 p0.sure.Players.2.Face, .slice p0a0 p0n0 p0c0, .int .u16 p0.sure.Score.1, .int .u16 p0.sure.Score.2, .slice p0a1 p0n1 p0c1, .pointer (some ⟨p0_4b, 0, none⟩), .pointer (some ⟨p0_5b, 0, none⟩)], p0t, (0, 0)⟩ :: (p0B0 ++ (p0B1 ++ (⟨p0_4b, [.int .u64 p0_4.first_, .slice p0_4a0 p0_4n0 p0_4c0, .int .u8 p0_4.last], p0_4t, (0, 0)⟩ :: (p0_4B0 ++ (⟨p0_5b, ([.int .i64 p0_5.size] ++ flat cg_T_ring_place p0_5g0), p0_5t, (0, 0)⟩ :: (p0_5P0 ++ [])))))))) [] p4a0 (flat (e1 .u8) p4)) (.tuple #[.int .i64 r0, .int .i64 r1]) := by
  unfold m_backfill_Inputs_nil1 at h
  refine sp_of_wc Tryd.func21 rfl Tryd.ntmps21 rfl rfl (fun w0 hR => ?_)
  have p4S0 := hR
  refine wc_seq (wc_region ?_)
  refine wl_box rfl rfl rfl (fun b5 => ?_)
  refine wl_box rfl rfl rfl (fun b6 => ?_)
  refine wl_box rfl rfl rfl (fun b7 => ?_)
  iterate 2 refine wl_pure tt_ok rfl rfl ?_
  refine wl_nil (wx_then (wc_seq (wc_region ?_)))
  refine wl_val (v := .pointer (some ⟨p0b, 0, none⟩)) (val_load tt_ok rfl (List.Mem.tail _ (List.Mem.tail _ (List.Mem.head _))) rfl) rfl ?_
  refine wl_val (v := .pointer none) (val_load tt_ok rfl (List.Mem.tail _ (List.Mem.head _)) rfl) rfl ?_
  refine wl_val (v := .int .u8 p2) (val_load tt_ok rfl (List.Mem.head _) rfl) rfl ?_
  iterate 3 refine wl_pure tt_ok rfl rfl ?_
  refine wl_inl Tryd.call41 rfl rfl rfl Tryd.func41 rfl Tryd.ntmps41 rfl rfl rfl ?_
  refine wc_seq (wc_region ?_)
  iterate 2 refine wl_pure tt_ok rfl rfl ?_
  refine wl_nil (wx_then (wc_seq (wc_block (wc_seq (wc_region ?_)))))
  refine wl_pure tt_ok rfl rfl ?_
  refine wl_pure (v := .bool false) tt_ok rfl rfl ?_
  refine wl_pure tt_ok rfl rfl ?_
  refine wl_run rfl ?_
  refine wl_pure tt_ok rfl rfl ?_
  refine wl_run rfl ?_
  refine wl_pure (v := .bool true) tt_ok rfl rfl ?_
  refine wl_pure (v := .bool true) tt_ok rfl rfl ?_
  refine wl_pure tt_ok rfl rfl ?_
  refine wl_nil (wx_then ?_)
  refine wc_cond_true rfl ?_
  refine wc_seq (wc_region ?_)
  iterate 2 refine wl_pure tt_ok rfl rfl ?_
  refine wl_nil (wx_then (wc_ret (wx_block_ret (wx_then_ret ?_))))
  refine wx_inl (v := .tuple #[.int .i64 (0 : Int), .int .i64 (1 : Int)]) tt_ok (.inl rfl) Tryd.results41 (Res.tmp rfl (Res.tmp rfl Res.nil)) rfl ?_
  iterate 4 refine wl_pure tt_ok rfl rfl ?_
  refine wl_nil (wx_then (wc_ret ?_))
  simp only [Option.some.injEq, Prod.mk.injEq] at h
  obtain ⟨rfl, rfl⟩ := h
  exact wx_rd tt_ok (.inl rfl) Tryd.results21 (Res.tmp rfl (Res.tmp rfl Res.nil)) (pSub (pCons (Sel.sc (Sel.sc (Sel.sc Sel.hc))) (pApp (Sel.sc (Sel.sc (Sel.sc Sel.ha))) (pApp (Sel.sc (Sel.sc (Sel.sc Sel.ha))) (pCons (Sel.sc (Sel.sc (Sel.sc Sel.hc))) (pApp (Sel.sc (Sel.sc (Sel.sc Sel.ha))) (pCons (Sel.sc (Sel.sc (Sel.sc Sel.hc))) (pApp (Sel.sc (Sel.sc (Sel.sc Sel.ha))) pNil)))))))) rfl

theorem k_fold_History_At_nil0 {F : Nat} {p1 : Int} {r0 : (Int × Int)} {r1 : Bool} (h : m_fold_History_At_nil0 F p1 = some (r0, r1)) :
    Pf Tryd.prog 30 [.pointer none, .int .u64 p1] (fun w => True) (.tuple #[.agg #[.int .u8 r0.1, .int .u8 r0.2], .bool r1]) := by
  unfold m_fold_History_At_nil0 at h
  refine pf_of_wc Tryd.func30 rfl Tryd.ntmps30 rfl rfl (fun w0 hR => ?_)
  refine wc_seq (wc_region ?_)
  refine wl_alloc tt_ok rfl rfl (fun b4 => ?_)
  refine wl_pure tt_ok rfl rfl ?_
  refine wl_nil (wx_then (wc_seq (wc_seq (wc_region ?_))))
  refine wl_pure tt_ok rfl rfl ?_
  replace h := bsome h; obtain ⟨v7, x7, h⟩ := h
  refine wl_cq Tryd.call27 rfl rfl rfl (q_pf (k_fold_History_is_nil0 x7) (fun _ _ => trivial)) rfl ?_
  refine wl_pure tt_ok rfl rfl ?_
  replace h := bsome h; obtain ⟨v15, h, hg15⟩ := h
  refine wl_split (t := 8) rfl (fun hc => ?_) (fun hc => ?_)
  · replace h := ct hc h
    refine wl_run rfl ?_
    refine wl_pure tt_ok rfl rfl ?_
    refine wl_run rfl ?_
    refine wl_pure tt_ok rfl rfl ?_
    cases h
  replace h := cf hc h
  refine wl_skip rfl rfl ?_
  refine wl_skip rfl rfl ?_
  refine wl_skip rfl rfl ?_
  refine wl_skip rfl rfl ?_
  refine wl_skip rfl rfl ?_
  refine wl_skip rfl rfl ?_
  simp only [Option.some.injEq, Prod.mk.injEq] at h
  obtain rfl := h
  have h := hg15; clear hg15
  refine wl_pure (v := .bool false) tt_ok rfl rfl ?_
  refine wl_pure tt_ok rfl rfl ?_
  replace h := bsome h; obtain ⟨v23, h, hg23⟩ := h
  replace h := cf rfl h
  refine wl_skip rfl rfl ?_
  refine wl_skip rfl rfl ?_
  refine wl_skip rfl rfl ?_
  refine wl_skip rfl rfl ?_
  refine wl_skip rfl rfl ?_
  refine wl_skip rfl rfl ?_
  simp only [Option.some.injEq, Prod.mk.injEq] at h
  obtain rfl := h
  have h := hg23; clear hg23
  refine wl_pure (v := .bool false) tt_ok rfl rfl ?_
  refine wl_pure tt_ok rfl rfl ?_
  refine wl_nil (wx_then (wc_seq (wc_region ?_)))
  refine wl_pure tt_ok rfl rfl ?_
  refine wl_nil (wx_then ?_)
  replace h := cf rfl h
  refine wc_cond_false rfl ?_
  refine wc_skip (wx_then (wc_ret ?_))
  simp only [Option.some.injEq, Prod.mk.injEq] at h
  obtain ⟨rfl, rfl⟩ := h
  exact wx_pf tt_ok (.inl rfl) Tryd.results30 (Res.cell rfl (List.Mem.head _) rfl (Res.tmp rfl Res.nil)) rfl

theorem k_fold_History_Slice_nil0 {F : Nat} {p1 : Int} {p2 : Int} {r0 : (List (Int × Int))} (h : m_fold_History_Slice_nil0 F p1 p2 = some r0) :
    SpD Tryd.prog 12 [.pointer none, .int .u64 p1, .int .i64 p2] [] (fun w => True) (fun v D => ∃ (r0a0 : Option Addr) (r0n0 : Nat) (r0c0 : Nat) (r0B0 : List Blk), r0n0 = r0.length ∧ Own 36 2 r0a0 r0n0 r0c0 (flat (e2 .u8) r0) r0B0 ∧ v = .slice r0a0 r0n0 r0c0 ∧ D = fun F => (r0B0 ++ F)) := by
  unfold m_fold_History_Slice_nil0 at h
  refine sp_of_wc Tryd.func12 rfl Tryd.ntmps12 rfl rfl (fun w0 hR => ?_)
  refine wc_seq (wc_region ?_)
  refine wl_pure tt_ok rfl rfl ?_
  refine wl_nil (wx_then (wc_seq (wc_seq (wc_region ?_))))
  iterate 2 refine wl_pure tt_ok rfl rfl ?_
  refine wl_nil (wx_then (wc_block ?_))
  replace h := bsome h; obtain ⟨l7_6, h, hl7⟩ := h
  refine wc_loop (fun m E L => ∃ (j7_1 : Int) (j7_6 : (List (Int × Int))) (j7_10 : Int) (j7_6a0 : Option Addr) (j7_6n0 : Nat) (j7_6c0 : Nat) (j7_6B0 : List Blk), m_fold_History_Slice_nil0_L6 F p2 m j7_1 j7_6 j7_10 = some l7_6 ∧ j7_6n0 = j7_6.length ∧ Own 36 2 j7_6a0 j7_6n0 j7_6c0 (flat (e2 .u8) j7_6) j7_6B0 ∧ E = [(0, .pointer none), (1, .int .u64 j7_1), (6, .slice j7_6a0 j7_6n0 j7_6c0), (9, .int .i64 p2), (10, .int .i64 j7_10)] ∧ L = (j7_6B0 ++ [])) F ⟨p1, ([] : List (Int × Int)), (0 : Int), none, 0, 0, [], h, rfl, Own.zero, rfl, rfl⟩ (agree_cons rfl (agree_cons rfl (agree_cons rfl (agree_cons rfl (agree_cons rfl agree_nil))))) (pSub (pNo pNil)) ?_
  clear h
  rintro m7 _ _ ⟨j7_1, j7_6, j7_10, j7_6a0, j7_6n0, j7_6c0, j7_6B0, h, j7_6N0, j7_6V0, rfl, rfl⟩
  rcases m7 with _ | m7
  · rw [m_fold_History_Slice_nil0_L6.eq_1] at h; cases h
  rw [m_fold_History_Slice_nil0_L6.eq_2] at h
  refine wc_seq (wc_region ?_)
  refine wl_pure (v := .bool (decide (j7_10 < p2))) tt_ok rfl rfl ?_
  refine wl_nil (wx_then (wc_seq ?_))
  refine wc_cond rfl (fun hc => ?_) (fun hc => ?_)
  · replace h := ct hc h
    refine wc_skip (wx_then (wc_seq (wc_block (wc_seq (wc_region ?_)))))
    iterate 2 refine wl_pure tt_ok rfl rfl ?_
    replace h := bsome h; obtain ⟨⟨v15_0, v15_1⟩, x15, h⟩ := h; try dsimp only at h
    refine wl_cq Tryd.call30 rfl rfl rfl (q_pf (k_fold_History_At_nil0 x15) (fun _ _ => trivial)) rfl ?_
    iterate 3 refine wl_pure tt_ok rfl rfl ?_
    refine wl_alloc tt_ok rfl rfl (fun b7 => ?_)
    apply wl_store tt_ok; rfl; exact Upd.here; rfl; rfl; rfl; rfl; rfl; rfl
    refine wl_pure tt_ok rfl rfl ?_
    refine wl_nil (wx_then (wc_seq (wc_seq (wc_region ?_))))
    refine wl_pure tt_ok rfl rfl ?_
    refine wl_pure (v := .bool (!v15_1)) tt_ok rfl rfl ?_
    refine wl_nil (wx_then ?_)
    refine wc_cond rfl (fun hc => ?_) (fun hc => ?_)
    · replace h := ct hc h
      refine wc_exit (wx_then_exit ?_)
      refine wx_block_other (by rfl) ?_
      refine wx_then_exit ?_
      simp only [Option.some.injEq] at h
      obtain rfl := h
      have h := hl7; clear hl7; try dsimp only [orE_l, orE_r] at h
      refine wx_then_exit (wx_block_exit (wx_then (wc_ret ?_)))
      simp only [Option.some.injEq] at h
      obtain rfl := h
      exact wx_spD tt_ok (.inl rfl) Tryd.results12 (Res.tmp rfl Res.nil) ⟨j7_6a0, j7_6n0, j7_6c0, j7_6B0, j7_6N0, j7_6V0, rfl, rfl⟩ (fun F => by simp) (pSub (pApp (Sel.sc Sel.ha) pNil))
    replace h := cf hc h
    refine wc_skip (wx_then (wc_seq (wc_region ?_)))
    refine wl_pure tt_ok rfl rfl ?_
    refine wl_val (v := .agg #[.int .u8 v15_0.1, .int .u8 v15_0.2]) (val_load tt_ok rfl (List.Mem.head _) rfl) rfl ?_
    refine wl_chg (chg_bsv (enc := (e2 .u8)) (xs := ([v15_0] : List (Int × Int))) tt_ok rfl rfl rfl rfl rfl rfl rfl rfl (e2_len _)) rfl ?_
    rintro _ _ ⟨a22, n22_, c22, B22, rfl, N22, V22, rfl⟩
    replace h := bsome h; obtain ⟨v23, x23, h⟩ := h
    refine wl_chg (chg_app (enc := (e2 .u8)) (ys := ([v15_0] : List (Int × Int))) tt_ok rfl rfl rfl rfl rfl rfl j7_6N0 N22 j7_6V0 (Sel.sa (Sel.sc Sel.ha)) (Rds.of_vec V22) ⟨_, Sel.ha⟩ (e2_len _) (fun _ => rfl) rfl x23) rfl ?_
    rintro _ _ ⟨a23, n23_, c23, B23, rfl, N23, V23, rfl⟩
    refine wl_pure tt_ok rfl rfl ?_
    refine wl_nil (wx_then (wc_region ?_))
    refine wl_pure tt_ok rfl rfl ?_
    refine wl_pure (v := .int .u64 (IntKind.wrap .u64 (j7_1 + (1 : Int)))) tt_ok rfl rfl ?_
    refine wl_pure tt_ok rfl rfl ?_
    refine wl_nil (wx_block (wx_then (wc_region ?_)))
    refine wl_pure (v := .int .i64 (IntKind.wrap .i64 (j7_10 + (1 : Int)))) tt_ok rfl rfl ?_
    refine wl_pure tt_ok rfl rfl ?_
    refine wl_nil ?_
    exact wx_round m7 (Nat.lt_succ_self m7) ⟨(IntKind.wrap .u64 (j7_1 + (1 : Int))), v23, (IntKind.wrap .i64 (j7_10 + (1 : Int))), a23, n23_, c23, B23, h, N23, V23, rfl, rfl⟩ (agree_cons rfl (agree_cons rfl (agree_cons rfl (agree_cons rfl (agree_cons rfl agree_nil))))) (pSub (pApp Sel.ha pNil))
  replace h := cf hc h
  refine wc_exit (wx_then_exit ?_)
  simp only [Option.some.injEq] at h
  obtain rfl := h
  have h := hl7; clear hl7; try dsimp only [orE_l, orE_r] at h
  refine wx_then_exit (wx_block_exit (wx_then (wc_ret ?_)))
  simp only [Option.some.injEq] at h
  obtain rfl := h
  exact wx_spD tt_ok (.inl rfl) Tryd.results12 (Res.tmp rfl Res.nil) ⟨j7_6a0, j7_6n0, j7_6c0, j7_6B0, j7_6N0, j7_6V0, rfl, rfl⟩ (fun F => by simp) (pSub (pApp Sel.ha pNil))

theorem k_backfill_Plan_nil0 {F : Nat} {p1 : Int} {r0 : Int} {r1 : Int} (h : m_backfill_Plan_nil0 F p1 = some (r0, r1)) :
    Pf Tryd.prog 10 [.pointer none, .int .u64 p1] (fun w => True) (.tuple #[.int .u64 r0, .int .i64 r1]) := by
  unfold m_backfill_Plan_nil0 at h
  refine pf_of_wc Tryd.func10 rfl Tryd.ntmps10 rfl rfl (fun w0 hR => ?_)
  refine wc_seq (wc_region ?_)
  iterate 2 refine wl_pure tt_ok rfl rfl ?_
  refine wl_nil (wx_then (wc_seq (wc_seq (wc_region ?_))))
  iterate 2 refine wl_pure tt_ok rfl rfl ?_
  replace h := bsome h; obtain ⟨v8, x8, h⟩ := h
  refine wl_cs Tryd.call12 rfl rfl rfl (s_sp (k_fold_History_Slice_nil0 x8) pNil (fun _ _ => trivial)) rfl ?_
  rintro _ _ ⟨_, ⟨v8a0, v8n0, v8c0, v8B0, v8N0, v8V0, rfl, rfl⟩, rfl⟩
  refine wl_val (v := .int .i64 (v8.length : Int)) (val_len tt_ok rfl rfl v8N0) rfl ?_
  refine wl_pure tt_ok rfl rfl ?_
  refine wl_nil (wx_then (wc_seq (wc_region ?_)))
  refine wl_pure tt_ok rfl rfl ?_
  refine wl_pure (v := .bool ((v8.length : Int) == (0 : Int))) tt_ok rfl rfl ?_
  refine wl_nil (wx_then ?_)
  refine wc_cond rfl (fun hc => ?_) (fun hc => ?_)
  · replace h := ct hc h
    refine wc_seq (wc_region ?_)
    iterate 2 refine wl_pure tt_ok rfl rfl ?_
    refine wl_nil (wx_then (wc_ret (wx_then_ret ?_)))
    simp only [Option.some.injEq, Prod.mk.injEq] at h
    obtain ⟨rfl, rfl⟩ := h
    exact wx_pf tt_ok (.inl rfl) Tryd.results10 (Res.tmp rfl (Res.tmp rfl Res.nil)) rfl
  replace h := cf hc h
  refine wc_skip (wx_then (wc_seq (wc_region ?_)))
  iterate 4 refine wl_pure tt_ok rfl rfl ?_
  refine wl_nil (wx_then (wc_ret ?_))
  simp only [Option.some.injEq, Prod.mk.injEq] at h
  obtain ⟨rfl, rfl⟩ := h
  exact wx_pf tt_ok (.inl rfl) Tryd.results10 (Res.tmp rfl (Res.tmp rfl Res.nil)) rfl

end Go.Proofs.YtkdbpenjkcjimaaDoor
