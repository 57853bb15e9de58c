/-
  Each function computes what its model says. Printed by a program of this claim's own.
-/
import Derived.Test.YtkdbpenjkcjimaaDoorTab
import Derived.Test.YtkdbpenjkcjimaaDoorMod
import Derived.Test.YtkdbpenjkcjimaaDoorWalk4
namespace Go.Proofs.YtkdbpenjkcjimaaDoor
open Go.Proofs.YtkdbpenjkcjimaaDoor.Eng
set_option linter.unusedVariables false
set_option linter.unusedSimpArgs false
set_option maxHeartbeats 4000000
set_option maxRecDepth 20000

theorem k_hindcastlaw28_BackfillKnown {F : Nat} {r0 : Bool} (h : m_hindcastlaw28_BackfillKnown F = some r0) :
    Pf Tryd.prog 4 [] (fun w => Rds w [] [] (some ⟨0, 0, none⟩) (flat (fun _ : Unit => gl_state_playerBounds) [()]) ∧ Rds w [] [] (some ⟨1, 0, none⟩) (flat (fun _ : Unit => gl_state_shotBounds) [()])) (.bool r0) := by
  unfold m_hindcastlaw28_BackfillKnown at h
  refine pf_of_wc Tryd.func4 rfl Tryd.ntmps4 rfl rfl (fun w0 hR => ?_)
  obtain ⟨G0S, G1S⟩ := hR
  refine wc_seq (wc_region ?_)
  refine wl_pure tt_ok rfl rfl ?_
  refine wl_nil (wx_then (wc_seq (wc_region ?_)))
  refine wl_inl Tryd.call17 rfl rfl rfl Tryd.func17 rfl Tryd.ntmps17 rfl rfl rfl ?_
  refine wc_seq (wc_region ?_)
  iterate 2 refine wl_pure tt_ok rfl rfl ?_
  refine wl_nil (wx_then (wc_seq (wc_region ?_)))
  replace h := bsome h; obtain ⟨v100005, x100005, h⟩ := h
  refine wl_cs Tryd.call23 rfl rfl rfl (s_sp (k_state_Start x100005) pNil (fun _ _ => trivial)) rfl ?_
  rintro _ _ ⟨_, ⟨v100005a0, v100005n0, v100005c0, v100005B0, v100005N0, v100005V0, rfl, rfl⟩, rfl⟩
  replace h := bsome h; obtain ⟨v100006, x100006, h⟩ := h
  rcases v100006 with _ | v100006s
  · replace h := poN h
    refine wl_cs Tryd.call22 rfl rfl rfl (s_sp (k_rollback_New_none (p0 := v100005) v100005N0 (vec_cap v100005V0) (own_Z v100005V0) x100006) pNil (fun w hI => ⟨(Rds.call (Rds.of_vec v100005V0) pNil ⟨_, Sel.ha⟩) w hI, (Rds.call G0S pNil rsub_nil) w hI, (Rds.call G1S pNil rsub_nil) w hI⟩)) rfl ?_
    rintro _ _ ⟨_, ⟨rfl, rfl⟩, rfl⟩
    refine wl_pure tt_ok rfl rfl ?_
    refine wl_nil (wx_then (wc_seq (wc_region ?_)))
    replace h := bsome h; obtain ⟨v100007, x100007, h⟩ := h
    rcases v100007 with _ | v100007s
    · replace h := poN h
      refine wl_cs Tryd.call7 rfl rfl rfl (s_sp (k_fold_New_none x100007) pNil (fun _ _ => trivial)) rfl ?_
      rintro _ _ ⟨_, ⟨rfl, rfl⟩, rfl⟩
      refine wl_pure tt_ok rfl rfl ?_
      refine wl_nil (wx_then (wc_seq (wc_seq (wc_region ?_))))
      refine wl_pure tt_ok rfl rfl ?_
      refine wl_nil (wx_then (wc_block ?_))
      replace h := bsome h; obtain ⟨_, h, hl100011⟩ := h
      refine wc_loop (fun m E L => ∃ (j100011_100004 : Int), m_hindcastlaw28_BackfillKnown_L100010 F m j100011_100004 = some () ∧ E = [(2, .pointer none), (3, .pointer none), (4, .int .i64 j100011_100004)] ∧ L = []) F ⟨(0 : Int), h, rfl, rfl⟩ (agree_cons rfl (agree_cons rfl (agree_cons rfl agree_nil))) (pSub pNil) ?_
      clear h
      rintro m100011 _ _ ⟨j100011_100004, h, rfl, rfl⟩
      rcases m100011 with _ | m100011
      · rw [m_hindcastlaw28_BackfillKnown_L100010.eq_1] at h; cases h
      rw [m_hindcastlaw28_BackfillKnown_L100010.eq_2] at h
      refine wc_seq (wc_seq (wc_region ?_))
      refine wl_pure tt_ok rfl rfl ?_
      refine wl_pure (v := .bool (decide (j100011_100004 < (3 : Int)))) tt_ok rfl rfl ?_
      refine wl_nil (wx_then ?_)
      refine wc_cond rfl (fun hc => ?_) (fun hc => ?_)
      · replace h := ct hc h
        refine wc_skip (wx_then (wc_seq (wc_block (wc_region ?_))))
        refine wl_pure tt_ok rfl rfl ?_
        replace h := bsome h; obtain ⟨v100013, x100013, h⟩ := h
        refine wl_cq Tryd.call24 rfl rfl rfl (q_pf (k_rollback_Engine_Local_nil0 x100013) (fun _ _ => trivial)) rfl ?_
        refine wl_nil (wx_block (wx_then (wc_region ?_)))
        refine wl_pure tt_ok rfl rfl ?_
        refine wl_pure (v := .int .i64 (IntKind.wrap .i64 (j100011_100004 + (1 : Int)))) tt_ok rfl rfl ?_
        refine wl_pure tt_ok rfl rfl ?_
        refine wl_nil ?_
        exact wx_round m100011 (Nat.lt_succ_self m100011) ⟨(IntKind.wrap .i64 (j100011_100004 + (1 : Int))), h, rfl, rfl⟩ (agree_cons rfl (agree_cons rfl (agree_cons rfl agree_nil))) (pSub pNil)
      replace h := cf hc h
      refine wc_exit (wx_then_exit ?_)
      have h := hl100011; clear hl100011; try dsimp only [orE_l, orE_r] at h
      refine wx_then_exit (wx_block_exit (wx_then (wc_seq (wc_region ?_))))
      refine wl_pure tt_ok rfl rfl ?_
      replace h := bsome h; obtain ⟨v100015, x100015, h⟩ := h
      refine wl_cq Tryd.call26 rfl rfl rfl (q_pf (k_rollback_Engine_Remote_nil0 x100015) (fun _ _ => trivial)) rfl ?_
      refine wl_nil (wx_then (wc_seq (wc_region ?_)))
      refine wl_pure tt_ok rfl rfl ?_
      replace h := bsome h; obtain ⟨⟨v100017_0, v100017_1⟩, x100017, h⟩ := h; try dsimp only at h
      refine wl_cq Tryd.call14 rfl rfl rfl (q_pf (k_rollback_Engine_Confirm_nil0 x100017) (fun _ _ => trivial)) rfl ?_
      refine wl_nil (wx_then (wc_seq (wc_region ?_)))
      refine wl_pure tt_ok rfl rfl ?_
      refine wl_pure (v := .agg #[.int .u8 (2 : Int), .int .u8 (1 : Int)]) tt_ok rfl rfl ?_
      replace h := bsome h; obtain ⟨v100020, x100020, h⟩ := h
      refine wl_cq Tryd.call8 rfl rfl rfl (q_pf (k_fold_History_Add_nil0 x100020) (fun _ _ => trivial)) rfl ?_
      refine wl_nil (wx_then (wc_seq (wc_region ?_)))
      iterate 4 refine wl_pure tt_ok rfl rfl ?_
      refine wl_nil (wx_then (wc_ret ?_))
      refine wx_inl (v := .tuple #[.pointer none, .pointer none]) tt_ok (.inl rfl) Tryd.results17 (Res.tmp rfl (Res.tmp rfl Res.nil)) rfl ?_
      iterate 5 refine wl_pure tt_ok rfl rfl ?_
      refine wl_nil (wx_then (wc_seq (wc_seq (wc_region ?_))))
      refine wl_pure tt_ok rfl rfl ?_
      refine wl_pure (v := .bool true) tt_ok rfl rfl ?_
      refine wl_pure tt_ok rfl rfl ?_
      refine wl_skip rfl rfl ?_
      refine wl_skip rfl rfl ?_
      refine wl_pure (v := .bool true) tt_ok rfl rfl ?_
      refine wl_pure tt_ok rfl rfl ?_
      refine wl_skip rfl rfl ?_
      refine wl_skip rfl rfl ?_
      refine wl_pure (v := .bool true) tt_ok rfl rfl ?_
      refine wl_nil (wx_then ?_)
      refine wc_cond_true rfl ?_
      refine wc_seq (wc_region ?_)
      refine wl_pure tt_ok rfl rfl ?_
      refine wl_nil (wx_then (wc_ret (wx_then_ret ?_)))
      simp only [Option.some.injEq] at h
      obtain rfl := h
      exact wx_pf tt_ok (.inl rfl) Tryd.results4 (Res.tmp rfl Res.nil) rfl
    replace h := poS h
    refine wl_cs Tryd.call7 rfl rfl rfl (s_sp (k_fold_New x100007) pNil (fun _ _ => trivial)) rfl ?_
    rintro _ _ ⟨_, ⟨b100007_0, rfl, rfl⟩, rfl⟩
    refine wl_pure tt_ok rfl rfl ?_
    refine wl_nil (wx_then (wc_seq (wc_seq (wc_region ?_))))
    refine wl_pure tt_ok rfl rfl ?_
    refine wl_nil (wx_then (wc_block ?_))
    replace h := bsome h; obtain ⟨_, h, hl100011⟩ := h
    refine wc_loop (fun m E L => ∃ (j100011_100004 : Int), m_hindcastlaw28_BackfillKnown_L100010_1 F m j100011_100004 = some () ∧ E = [(2, .pointer none), (3, .pointer (some ⟨b100007_0, 0, none⟩)), (4, .int .i64 j100011_100004)] ∧ L = (⟨b100007_0, ([.int .u64 v100007s.from_, .int .u64 v100007s.count, .int .u64 v100007s.most] ++ flat (e2 .u8) v100007s.ring.1), 68, (0, 0)⟩ :: [])) F ⟨(0 : Int), h, rfl, rfl⟩ (agree_cons rfl (agree_cons rfl (agree_cons rfl agree_nil))) (pSub (pCons Sel.hc pNil)) ?_
    clear h
    rintro m100011 _ _ ⟨j100011_100004, h, rfl, rfl⟩
    rcases m100011 with _ | m100011
    · rw [m_hindcastlaw28_BackfillKnown_L100010_1.eq_1] at h; cases h
    rw [m_hindcastlaw28_BackfillKnown_L100010_1.eq_2] at h
    refine wc_seq (wc_seq (wc_region ?_))
    refine wl_pure tt_ok rfl rfl ?_
    refine wl_pure (v := .bool (decide (j100011_100004 < (3 : Int)))) tt_ok rfl rfl ?_
    refine wl_nil (wx_then ?_)
    refine wc_cond rfl (fun hc => ?_) (fun hc => ?_)
    · replace h := ct hc h
      refine wc_skip (wx_then (wc_seq (wc_block (wc_region ?_))))
      refine wl_pure tt_ok rfl rfl ?_
      replace h := bsome h; obtain ⟨v100013, x100013, h⟩ := h
      refine wl_cq Tryd.call24 rfl rfl rfl (q_pf (k_rollback_Engine_Local_nil0 x100013) (fun _ _ => trivial)) rfl ?_
      refine wl_nil (wx_block (wx_then (wc_region ?_)))
      refine wl_pure tt_ok rfl rfl ?_
      refine wl_pure (v := .int .i64 (IntKind.wrap .i64 (j100011_100004 + (1 : Int)))) tt_ok rfl rfl ?_
      refine wl_pure tt_ok rfl rfl ?_
      refine wl_nil ?_
      exact wx_round m100011 (Nat.lt_succ_self m100011) ⟨(IntKind.wrap .i64 (j100011_100004 + (1 : Int))), h, rfl, rfl⟩ (agree_cons rfl (agree_cons rfl (agree_cons rfl agree_nil))) (pSub (pCons Sel.hc pNil))
    replace h := cf hc h
    refine wc_exit (wx_then_exit ?_)
    have h := hl100011; clear hl100011; try dsimp only [orE_l, orE_r] at h
    refine wx_then_exit (wx_block_exit (wx_then (wc_seq (wc_region ?_))))
    refine wl_pure tt_ok rfl rfl ?_
    replace h := bsome h; obtain ⟨v100015, x100015, h⟩ := h
    refine wl_cq Tryd.call26 rfl rfl rfl (q_pf (k_rollback_Engine_Remote_nil0 x100015) (fun _ _ => trivial)) rfl ?_
    refine wl_nil (wx_then (wc_seq (wc_region ?_)))
    refine wl_pure tt_ok rfl rfl ?_
    replace h := bsome h; obtain ⟨⟨v100017_0, v100017_1⟩, x100017, h⟩ := h; try dsimp only at h
    refine wl_cq Tryd.call14 rfl rfl rfl (q_pf (k_rollback_Engine_Confirm_nil0 x100017) (fun _ _ => trivial)) rfl ?_
    refine wl_nil (wx_then (wc_seq (wc_region ?_)))
    refine wl_pure tt_ok rfl rfl ?_
    refine wl_pure (v := .agg #[.int .u8 (2 : Int), .int .u8 (1 : Int)]) tt_ok rfl rfl ?_
    replace h := bsome h; obtain ⟨⟨o100020_0, v100020⟩, x100020, h⟩ := h; try dsimp only at h
    refine wl_cs Tryd.call8 rfl rfl rfl (s_sp (k_fold_History_Add x100020) (pCons Sel.hc pNil) (fun _ _ => trivial)) rfl ?_
    rintro _ _ ⟨_, ⟨rfl, rfl⟩, rfl⟩
    refine wl_nil (wx_then (wc_seq (wc_region ?_)))
    iterate 4 refine wl_pure tt_ok rfl rfl ?_
    refine wl_nil (wx_then (wc_ret ?_))
    refine wx_inl (v := .tuple #[.pointer none, .pointer (some ⟨b100007_0, 0, none⟩)]) tt_ok (.inl rfl) Tryd.results17 (Res.tmp rfl (Res.tmp rfl Res.nil)) rfl ?_
    iterate 5 refine wl_pure tt_ok rfl rfl ?_
    refine wl_nil (wx_then (wc_seq (wc_seq (wc_region ?_))))
    refine wl_pure tt_ok rfl rfl ?_
    refine wl_pure (v := .bool true) tt_ok rfl rfl ?_
    refine wl_pure tt_ok rfl rfl ?_
    refine wl_skip rfl rfl ?_
    refine wl_skip rfl rfl ?_
    refine wl_pure (v := .bool true) tt_ok rfl rfl ?_
    refine wl_pure tt_ok rfl rfl ?_
    refine wl_skip rfl rfl ?_
    refine wl_skip rfl rfl ?_
    refine wl_pure (v := .bool true) tt_ok rfl rfl ?_
    refine wl_nil (wx_then ?_)
    refine wc_cond_true rfl ?_
    refine wc_seq (wc_region ?_)
    refine wl_pure tt_ok rfl rfl ?_
    refine wl_nil (wx_then (wc_ret (wx_then_ret ?_)))
    simp only [Option.some.injEq] at h
    obtain rfl := h
    exact wx_pf tt_ok (.inl rfl) Tryd.results4 (Res.tmp rfl Res.nil) rfl
  replace h := poS h
  refine wl_cs Tryd.call22 rfl rfl rfl (s_sp (k_rollback_New (p0 := v100005) v100005N0 (vec_cap v100005V0) (own_Z v100005V0) x100006) pNil (fun w hI => ⟨(Rds.call (Rds.of_vec v100005V0) pNil ⟨_, Sel.ha⟩) w hI, (Rds.call G0S pNil rsub_nil) w hI, (Rds.call G1S pNil rsub_nil) w hI⟩)) rfl ?_
  rintro _ _ ⟨_, ⟨b100006_0, b100006_0_4, b100006_0_5, v100006sa0, v100006sn0, v100006sc0, v100006sB0, v100006sa1, v100006sn1, v100006sc1, v100006sB1, v100006s_4a0, v100006s_4n0, v100006s_4c0, v100006s_4B0, v100006s_5g0, v100006s_5P0, v100006sN0, v100006sV0, v100006sN1, v100006sV1, v100006s_4N0, v100006s_4V0, v100006s_5G0, v100006s_5A0, rfl, rfl⟩, rfl⟩
  refine wl_pure tt_ok rfl rfl ?_
  refine wl_nil (wx_then (wc_seq (wc_region ?_)))
  replace h := bsome h; obtain ⟨v100007, x100007, h⟩ := h
  rcases v100007 with _ | v100007s
  · replace h := poN h
    refine wl_cs Tryd.call7 rfl rfl rfl (s_sp (k_fold_New_none x100007) pNil (fun _ _ => trivial)) rfl ?_
    rintro _ _ ⟨_, ⟨rfl, rfl⟩, rfl⟩
    refine wl_pure tt_ok rfl rfl ?_
    refine wl_nil (wx_then (wc_seq (wc_seq (wc_region ?_))))
    refine wl_pure tt_ok rfl rfl ?_
    refine wl_nil (wx_then (wc_block ?_))
    replace h := bsome h; obtain ⟨⟨l100011_n100006_0_f0, l100011_n100006_0_f1, l100011_n100006_0_f2_0, l100011_n100006_0_f2_1, l100011_n100006_0_f2_2, l100011_n100006_0_f2_3, l100011_n100006_0_f2_4, l100011_n100006_0_f3⟩, h, hl100011⟩ := h; try dsimp only at hl100011
    refine wc_loop (fun m E L => ∃ (j100011_100004 : Int) (j100011_n100006_0_f0 : Int) (j100011_n100006_0_f1 : Int) (j100011_n100006_0_f2_0 : Int) (j100011_n100006_0_f2_1 : Int) (j100011_n100006_0_f2_2 : (T_api_Player × T_api_Player)) (j100011_n100006_0_f2_3 : (List T_api_Shot)) (j100011_n100006_0_f2_4 : (Int × Int)) (j100011_n100006_0_f3 : (List Int)) (j100011_n100006_0_f2_3a0 : Option Addr) (j100011_n100006_0_f2_3n0 : Nat) (j100011_n100006_0_f2_3c0 : Nat) (j100011_n100006_0_f2_3B0 : List Blk) (j100011_n100006_0_f3a0 : Option Addr) (j100011_n100006_0_f3n0 : Nat) (j100011_n100006_0_f3c0 : Nat) (j100011_n100006_0_f3B0 : List Blk), m_hindcastlaw28_BackfillKnown_L100010_2 F v100006s m j100011_100004 j100011_n100006_0_f0 j100011_n100006_0_f1 j100011_n100006_0_f2_0 j100011_n100006_0_f2_1 j100011_n100006_0_f2_2 j100011_n100006_0_f2_3 j100011_n100006_0_f2_4 j100011_n100006_0_f3 = some (l100011_n100006_0_f0, l100011_n100006_0_f1, l100011_n100006_0_f2_0, l100011_n100006_0_f2_1, l100011_n100006_0_f2_2, l100011_n100006_0_f2_3, l100011_n100006_0_f2_4, l100011_n100006_0_f3) ∧ j100011_n100006_0_f2_3n0 = j100011_n100006_0_f2_3.length ∧ Own 92 6 j100011_n100006_0_f2_3a0 j100011_n100006_0_f2_3n0 j100011_n100006_0_f2_3c0 (flat c_T_api_Shot j100011_n100006_0_f2_3) j100011_n100006_0_f2_3B0 ∧ j100011_n100006_0_f3n0 = j100011_n100006_0_f3.length ∧ Own 34 1 j100011_n100006_0_f3a0 j100011_n100006_0_f3n0 j100011_n100006_0_f3c0 (flat (e1 .u8) j100011_n100006_0_f3) j100011_n100006_0_f3B0 ∧ E = [(2, .pointer (some ⟨b100006_0, 0, none⟩)), (3, .pointer none), (4, .int .i64 j100011_100004)] ∧ L = (⟨b100006_0, [.int .u8 j100011_n100006_0_f0, .int .i64 j100011_n100006_0_f1, .int .u64 j100011_n100006_0_f2_0, .int .u64 j100011_n100006_0_f2_1, .int .i32 j100011_n100006_0_f2_2.1.X, .int .i32 j100011_n100006_0_f2_2.1.Y, .int .i32 j100011_n100006_0_f2_2.1.VX, .int .i32 j100011_n100006_0_f2_2.1.VY, .int .u8 j100011_n100006_0_f2_2.1.Health, .int .u8 j100011_n100006_0_f2_2.1.Cool, .int .u8 j100011_n100006_0_f2_2.1.Face, .int .i32 j100011_n100006_0_f2_2.2.X, .int .i32 j100011_n100006_0_f2_2.2.Y, .int .i32 j100011_n100006_0_f2_2.2.VX, .int .i32 j100011_n100006_0_f2_2.2.VY, .int .u8 j100011_n100006_0_f2_2.2.Health, .int .u8 j100011_n100006_0_f2_2.2.Cool, .int .u8 j100011_n100006_0_f2_2.2.Face, .slice j100011_n100006_0_f2_3a0 j100011_n100006_0_f2_3n0 j100011_n100006_0_f2_3c0, .int .u16 j100011_n100006_0_f2_4.1, .int .u16 j100011_n100006_0_f2_4.2, .slice j100011_n100006_0_f3a0 j100011_n100006_0_f3n0 j100011_n100006_0_f3c0, .pointer (some ⟨b100006_0_4, 0, none⟩), .pointer (some ⟨b100006_0_5, 0, none⟩)], 73, (0, 0)⟩ :: (⟨b100006_0_4, [.int .u64 v100006s.2.1.first_, .slice v100006s_4a0 v100006s_4n0 v100006s_4c0, .int .u8 v100006s.2.1.last], 103, (0, 0)⟩ :: (⟨b100006_0_5, ([.int .i64 v100006s.2.2.size] ++ flat cg_T_ring_place v100006s_5g0), 121, (0, 0)⟩ :: (j100011_n100006_0_f2_3B0 ++ (j100011_n100006_0_f3B0 ++ (v100006s_4B0 ++ (v100006s_5P0 ++ [])))))))) F ⟨(0 : Int), v100006s.1.player, v100006s.1.window, v100006s.1.sure.Frame, v100006s.1.sure.Seed, v100006s.1.sure.Players, v100006s.1.sure.Shots, v100006s.1.sure.Score, v100006s.1.own, v100006sa0, v100006sn0, v100006sc0, v100006sB0, v100006sa1, v100006sn1, v100006sc1, v100006sB1, h, v100006sN0, v100006sV0, v100006sN1, v100006sV1, rfl, rfl⟩ (agree_cons rfl (agree_cons rfl (agree_cons rfl agree_nil))) (pSub (pCons Sel.hc (pCons (Sel.sa (Sel.sa Sel.hc)) (pCons (Sel.sa (Sel.sa (Sel.sa Sel.hc))) (pApp Sel.ha (pApp Sel.ha (pApp Sel.ha (pApp Sel.ha pNil)))))))) ?_
    clear h
    rintro m100011 _ _ ⟨j100011_100004, j100011_n100006_0_f0, j100011_n100006_0_f1, j100011_n100006_0_f2_0, j100011_n100006_0_f2_1, j100011_n100006_0_f2_2, j100011_n100006_0_f2_3, j100011_n100006_0_f2_4, j100011_n100006_0_f3, j100011_n100006_0_f2_3a0, j100011_n100006_0_f2_3n0, j100011_n100006_0_f2_3c0, j100011_n100006_0_f2_3B0, j100011_n100006_0_f3a0, j100011_n100006_0_f3n0, j100011_n100006_0_f3c0, j100011_n100006_0_f3B0, h, j100011_n100006_0_f2_3N0, j100011_n100006_0_f2_3V0, j100011_n100006_0_f3N0, j100011_n100006_0_f3V0, rfl, rfl⟩
    rcases m100011 with _ | m100011
    · rw [m_hindcastlaw28_BackfillKnown_L100010_2.eq_1] at h; cases h
    rw [m_hindcastlaw28_BackfillKnown_L100010_2.eq_2] at h
    refine wc_seq (wc_seq (wc_region ?_))
    refine wl_pure tt_ok rfl rfl ?_
    refine wl_pure (v := .bool (decide (j100011_100004 < (3 : Int)))) tt_ok rfl rfl ?_
    refine wl_nil (wx_then ?_)
    refine wc_cond rfl (fun hc => ?_) (fun hc => ?_)
    · replace h := ct hc h
      refine wc_skip (wx_then (wc_seq (wc_block (wc_region ?_))))
      refine wl_pure tt_ok rfl rfl ?_
      replace h := bsome h; obtain ⟨⟨o100013_0, v100013⟩, x100013, h⟩ := h; try dsimp only at h
      refine wl_cs Tryd.call24 rfl rfl rfl (s_sp (k_rollback_Engine_Local (p0 := (T_rollback_Engine.mk j100011_n100006_0_f0 j100011_n100006_0_f1 (T_api_State.mk j100011_n100006_0_f2_0 j100011_n100006_0_f2_1 j100011_n100006_0_f2_2 j100011_n100006_0_f2_3 j100011_n100006_0_f2_4) j100011_n100006_0_f3)) (p0_4 := v100006s.2.1) (p0_5 := v100006s.2.2) j100011_n100006_0_f2_3N0 j100011_n100006_0_f2_3V0 j100011_n100006_0_f3N0 j100011_n100006_0_f3V0 v100006s_4N0 v100006s_4V0 v100006s_5G0 v100006s_5A0 x100013) (pCons Sel.hc (pApp (Sel.sc (Sel.sc Sel.ha)) (pApp (Sel.sc (Sel.sc Sel.ha)) (pCons Sel.hc (pApp (Sel.sc Sel.ha) (pCons Sel.hc (pApp Sel.ha pNil))))))) (fun _ _ => trivial)) rfl ?_
      rintro _ _ ⟨_, ⟨o100013_0a0, o100013_0n0, o100013_0c0, o100013_0B0, o100013_0a1, o100013_0n1, o100013_0c1, o100013_0B1, o100013_0N0, o100013_0V0, o100013_0N1, o100013_0V1, rfl, rfl⟩, rfl⟩
      refine wl_nil (wx_block (wx_then (wc_region ?_)))
      refine wl_pure tt_ok rfl rfl ?_
      refine wl_pure (v := .int .i64 (IntKind.wrap .i64 (j100011_100004 + (1 : Int)))) tt_ok rfl rfl ?_
      refine wl_pure tt_ok rfl rfl ?_
      refine wl_nil ?_
      exact wx_round m100011 (Nat.lt_succ_self m100011) ⟨(IntKind.wrap .i64 (j100011_100004 + (1 : Int))), o100013_0.player, o100013_0.window, o100013_0.sure.Frame, o100013_0.sure.Seed, o100013_0.sure.Players, o100013_0.sure.Shots, o100013_0.sure.Score, o100013_0.own, o100013_0a0, o100013_0n0, o100013_0c0, o100013_0B0, o100013_0a1, o100013_0n1, o100013_0c1, o100013_0B1, h, o100013_0N0, o100013_0V0, o100013_0N1, o100013_0V1, rfl, rfl⟩ (agree_cons rfl (agree_cons rfl (agree_cons rfl agree_nil))) (pSub (pCons Sel.hc (pCons (Sel.sa (Sel.sa Sel.hc)) (pCons (Sel.sa (Sel.sa (Sel.sa Sel.hc))) (pApp Sel.ha (pApp Sel.ha (pApp Sel.ha (pApp Sel.ha pNil))))))))
    replace h := cf hc h
    refine wc_exit (wx_then_exit ?_)
    simp only [Option.some.injEq, Prod.mk.injEq] at h
    obtain ⟨rfl, rfl, rfl, rfl, rfl, rfl, rfl, rfl⟩ := h
    have h := hl100011; clear hl100011; try dsimp only [orE_l, orE_r] at h
    refine wx_then_exit (wx_block_exit (wx_then (wc_seq (wc_region ?_))))
    refine wl_pure tt_ok rfl rfl ?_
    replace h := bsome h; obtain ⟨⟨o100015_1, o100015_2, v100015⟩, x100015, h⟩ := h; try dsimp only at h
    refine wl_cs Tryd.call26 rfl rfl rfl (s_sp (k_rollback_Engine_Remote (p0 := (T_rollback_Engine.mk j100011_n100006_0_f0 j100011_n100006_0_f1 (T_api_State.mk j100011_n100006_0_f2_0 j100011_n100006_0_f2_1 j100011_n100006_0_f2_2 j100011_n100006_0_f2_3 j100011_n100006_0_f2_4) j100011_n100006_0_f3)) (p0_4 := v100006s.2.1) (p0_5 := v100006s.2.2) j100011_n100006_0_f2_3N0 j100011_n100006_0_f2_3V0 j100011_n100006_0_f3N0 j100011_n100006_0_f3V0 v100006s_4N0 v100006s_4V0 v100006s_5G0 v100006s_5A0 x100015) (pCons Sel.hc (pApp (Sel.sc (Sel.sc Sel.ha)) (pApp (Sel.sc (Sel.sc Sel.ha)) (pCons Sel.hc (pApp (Sel.sc Sel.ha) (pCons Sel.hc (pApp Sel.ha pNil))))))) (fun _ _ => trivial)) rfl ?_
    rintro _ _ ⟨_, ⟨o100015_1a0, o100015_1n0, o100015_1c0, o100015_1B0, o100015_2g0, o100015_2P0, o100015_1N0, o100015_1V0, o100015_2G0, o100015_2A0, rfl, rfl⟩, rfl⟩
    refine wl_nil (wx_then (wc_seq (wc_region ?_)))
    refine wl_pure tt_ok rfl rfl ?_
    replace h := bsome h; obtain ⟨⟨o100017_0, o100017_1, o100017_2, v100017_0, v100017_1⟩, x100017, h⟩ := h; try dsimp only at h
    refine wl_cs Tryd.call14 rfl rfl rfl (s_sp (k_rollback_Engine_Confirm (p0 := (T_rollback_Engine.mk j100011_n100006_0_f0 j100011_n100006_0_f1 (T_api_State.mk j100011_n100006_0_f2_0 j100011_n100006_0_f2_1 j100011_n100006_0_f2_2 j100011_n100006_0_f2_3 j100011_n100006_0_f2_4) j100011_n100006_0_f3)) (p0_4 := o100015_1) (p0_5 := o100015_2) j100011_n100006_0_f2_3N0 j100011_n100006_0_f2_3V0 j100011_n100006_0_f3N0 j100011_n100006_0_f3V0 o100015_1N0 o100015_1V0 o100015_2G0 o100015_2A0 x100017) (pCons Sel.hc (pApp Sel.ha (pApp Sel.ha (pCons Sel.hc (pApp Sel.ha (pCons Sel.hc (pApp Sel.ha pNil))))))) (fun w hI => ⟨(Rds.call G0S (pCons Sel.hc (pApp Sel.ha (pApp Sel.ha (pCons Sel.hc (pApp Sel.ha (pCons Sel.hc (pApp Sel.ha pNil))))))) rsub_nil) w hI, (Rds.call G1S (pCons Sel.hc (pApp Sel.ha (pApp Sel.ha (pCons Sel.hc (pApp Sel.ha (pCons Sel.hc (pApp Sel.ha pNil))))))) rsub_nil) w hI⟩)) rfl ?_
    rintro _ _ ⟨_, ⟨o100017_0a0, o100017_0n0, o100017_0c0, o100017_0B0, o100017_0a1, o100017_0n1, o100017_0c1, o100017_0B1, o100017_1a0, o100017_1n0, o100017_1c0, o100017_1B0, o100017_2g0, o100017_2P0, o100017_0N0, o100017_0V0, o100017_0N1, o100017_0V1, o100017_1N0, o100017_1V0, o100017_2G0, o100017_2A0, rfl, rfl⟩, rfl⟩
    refine wl_nil (wx_then (wc_seq (wc_region ?_)))
    refine wl_pure tt_ok rfl rfl ?_
    refine wl_pure (v := .agg #[.int .u8 (2 : Int), .int .u8 (1 : Int)]) tt_ok rfl rfl ?_
    replace h := bsome h; obtain ⟨v100020, x100020, h⟩ := h
    refine wl_cq Tryd.call8 rfl rfl rfl (q_pf (k_fold_History_Add_nil0 x100020) (fun _ _ => trivial)) rfl ?_
    refine wl_nil (wx_then (wc_seq (wc_region ?_)))
    iterate 4 refine wl_pure tt_ok rfl rfl ?_
    refine wl_nil (wx_then (wc_ret ?_))
    refine wx_inl (v := .tuple #[.pointer (some ⟨b100006_0, 0, none⟩), .pointer none]) tt_ok (.inl rfl) Tryd.results17 (Res.tmp rfl (Res.tmp rfl Res.nil)) rfl ?_
    iterate 5 refine wl_pure tt_ok rfl rfl ?_
    refine wl_nil (wx_then (wc_seq (wc_seq (wc_region ?_))))
    refine wl_pure tt_ok rfl rfl ?_
    refine wl_pure (v := .bool false) tt_ok rfl rfl ?_
    refine wl_pure tt_ok rfl rfl ?_
    refine wl_run rfl ?_
    refine wl_pure tt_ok rfl rfl ?_
    refine wl_run rfl ?_
    refine wl_pure (v := .bool true) tt_ok rfl rfl ?_
    refine wl_pure (v := .bool true) tt_ok rfl rfl ?_
    refine wl_pure tt_ok rfl rfl ?_
    refine wl_skip rfl rfl ?_
    refine wl_skip rfl rfl ?_
    refine wl_pure (v := .bool true) tt_ok rfl rfl ?_
    refine wl_nil (wx_then ?_)
    refine wc_cond_true rfl ?_
    refine wc_seq (wc_region ?_)
    refine wl_pure tt_ok rfl rfl ?_
    refine wl_nil (wx_then (wc_ret (wx_then_ret ?_)))
    simp only [Option.some.injEq] at h
    obtain rfl := h
    exact wx_pf tt_ok (.inl rfl) Tryd.results4 (Res.tmp rfl Res.nil) rfl
  replace h := poS h
  refine wl_cs Tryd.call7 rfl rfl rfl (s_sp (k_fold_New x100007) pNil (fun _ _ => trivial)) rfl ?_
  rintro _ _ ⟨_, ⟨b100007_0, rfl, rfl⟩, rfl⟩
  refine wl_pure tt_ok rfl rfl ?_
  refine wl_nil (wx_then (wc_seq (wc_seq (wc_region ?_))))
  refine wl_pure tt_ok rfl rfl ?_
  refine wl_nil (wx_then (wc_block ?_))
  replace h := bsome h; obtain ⟨⟨l100011_n100006_0_f0, l100011_n100006_0_f1, l100011_n100006_0_f2_0, l100011_n100006_0_f2_1, l100011_n100006_0_f2_2, l100011_n100006_0_f2_3, l100011_n100006_0_f2_4, l100011_n100006_0_f3⟩, h, hl100011⟩ := h; try dsimp only at hl100011
  refine wc_loop (fun m E L => ∃ (j100011_100004 : Int) (j100011_n100006_0_f0 : Int) (j100011_n100006_0_f1 : Int) (j100011_n100006_0_f2_0 : Int) (j100011_n100006_0_f2_1 : Int) (j100011_n100006_0_f2_2 : (T_api_Player × T_api_Player)) (j100011_n100006_0_f2_3 : (List T_api_Shot)) (j100011_n100006_0_f2_4 : (Int × Int)) (j100011_n100006_0_f3 : (List Int)) (j100011_n100006_0_f2_3a0 : Option Addr) (j100011_n100006_0_f2_3n0 : Nat) (j100011_n100006_0_f2_3c0 : Nat) (j100011_n100006_0_f2_3B0 : List Blk) (j100011_n100006_0_f3a0 : Option Addr) (j100011_n100006_0_f3n0 : Nat) (j100011_n100006_0_f3c0 : Nat) (j100011_n100006_0_f3B0 : List Blk), m_hindcastlaw28_BackfillKnown_L100010_3 F v100006s m j100011_100004 j100011_n100006_0_f0 j100011_n100006_0_f1 j100011_n100006_0_f2_0 j100011_n100006_0_f2_1 j100011_n100006_0_f2_2 j100011_n100006_0_f2_3 j100011_n100006_0_f2_4 j100011_n100006_0_f3 = some (l100011_n100006_0_f0, l100011_n100006_0_f1, l100011_n100006_0_f2_0, l100011_n100006_0_f2_1, l100011_n100006_0_f2_2, l100011_n100006_0_f2_3, l100011_n100006_0_f2_4, l100011_n100006_0_f3) ∧ j100011_n100006_0_f2_3n0 = j100011_n100006_0_f2_3.length ∧ Own 92 6 j100011_n100006_0_f2_3a0 j100011_n100006_0_f2_3n0 j100011_n100006_0_f2_3c0 (flat c_T_api_Shot j100011_n100006_0_f2_3) j100011_n100006_0_f2_3B0 ∧ j100011_n100006_0_f3n0 = j100011_n100006_0_f3.length ∧ Own 34 1 j100011_n100006_0_f3a0 j100011_n100006_0_f3n0 j100011_n100006_0_f3c0 (flat (e1 .u8) j100011_n100006_0_f3) j100011_n100006_0_f3B0 ∧ E = [(2, .pointer (some ⟨b100006_0, 0, none⟩)), (3, .pointer (some ⟨b100007_0, 0, none⟩)), (4, .int .i64 j100011_100004)] ∧ L = (⟨b100006_0, [.int .u8 j100011_n100006_0_f0, .int .i64 j100011_n100006_0_f1, .int .u64 j100011_n100006_0_f2_0, .int .u64 j100011_n100006_0_f2_1, .int .i32 j100011_n100006_0_f2_2.1.X, .int .i32 j100011_n100006_0_f2_2.1.Y, .int .i32 j100011_n100006_0_f2_2.1.VX, .int .i32 j100011_n100006_0_f2_2.1.VY, .int .u8 j100011_n100006_0_f2_2.1.Health, .int .u8 j100011_n100006_0_f2_2.1.Cool, .int .u8 j100011_n100006_0_f2_2.1.Face, .int .i32 j100011_n100006_0_f2_2.2.X, .int .i32 j100011_n100006_0_f2_2.2.Y, .int .i32 j100011_n100006_0_f2_2.2.VX, .int .i32 j100011_n100006_0_f2_2.2.VY, .int .u8 j100011_n100006_0_f2_2.2.Health, .int .u8 j100011_n100006_0_f2_2.2.Cool, .int .u8 j100011_n100006_0_f2_2.2.Face, .slice j100011_n100006_0_f2_3a0 j100011_n100006_0_f2_3n0 j100011_n100006_0_f2_3c0, .int .u16 j100011_n100006_0_f2_4.1, .int .u16 j100011_n100006_0_f2_4.2, .slice j100011_n100006_0_f3a0 j100011_n100006_0_f3n0 j100011_n100006_0_f3c0, .pointer (some ⟨b100006_0_4, 0, none⟩), .pointer (some ⟨b100006_0_5, 0, none⟩)], 73, (0, 0)⟩ :: (⟨b100006_0_4, [.int .u64 v100006s.2.1.first_, .slice v100006s_4a0 v100006s_4n0 v100006s_4c0, .int .u8 v100006s.2.1.last], 103, (0, 0)⟩ :: (⟨b100006_0_5, ([.int .i64 v100006s.2.2.size] ++ flat cg_T_ring_place v100006s_5g0), 121, (0, 0)⟩ :: (⟨b100007_0, ([.int .u64 v100007s.from_, .int .u64 v100007s.count, .int .u64 v100007s.most] ++ flat (e2 .u8) v100007s.ring.1), 68, (0, 0)⟩ :: (j100011_n100006_0_f2_3B0 ++ (j100011_n100006_0_f3B0 ++ (v100006s_4B0 ++ (v100006s_5P0 ++ []))))))))) F ⟨(0 : Int), v100006s.1.player, v100006s.1.window, v100006s.1.sure.Frame, v100006s.1.sure.Seed, v100006s.1.sure.Players, v100006s.1.sure.Shots, v100006s.1.sure.Score, v100006s.1.own, v100006sa0, v100006sn0, v100006sc0, v100006sB0, v100006sa1, v100006sn1, v100006sc1, v100006sB1, h, v100006sN0, v100006sV0, v100006sN1, v100006sV1, rfl, rfl⟩ (agree_cons rfl (agree_cons rfl (agree_cons rfl agree_nil))) (pSub (pCons (Sel.sc Sel.hc) (pCons (Sel.sc (Sel.sa (Sel.sa Sel.hc))) (pCons (Sel.sc (Sel.sa (Sel.sa (Sel.sa Sel.hc)))) (pCons Sel.hc (pApp Sel.ha (pApp Sel.ha (pApp Sel.ha (pApp Sel.ha pNil))))))))) ?_
  clear h
  rintro m100011 _ _ ⟨j100011_100004, j100011_n100006_0_f0, j100011_n100006_0_f1, j100011_n100006_0_f2_0, j100011_n100006_0_f2_1, j100011_n100006_0_f2_2, j100011_n100006_0_f2_3, j100011_n100006_0_f2_4, j100011_n100006_0_f3, j100011_n100006_0_f2_3a0, j100011_n100006_0_f2_3n0, j100011_n100006_0_f2_3c0, j100011_n100006_0_f2_3B0, j100011_n100006_0_f3a0, j100011_n100006_0_f3n0, j100011_n100006_0_f3c0, j100011_n100006_0_f3B0, h, j100011_n100006_0_f2_3N0, j100011_n100006_0_f2_3V0, j100011_n100006_0_f3N0, j100011_n100006_0_f3V0, rfl, rfl⟩
  rcases m100011 with _ | m100011
  · rw [m_hindcastlaw28_BackfillKnown_L100010_3.eq_1] at h; cases h
  rw [m_hindcastlaw28_BackfillKnown_L100010_3.eq_2] at h
  refine wc_seq (wc_seq (wc_region ?_))
  refine wl_pure tt_ok rfl rfl ?_
  refine wl_pure (v := .bool (decide (j100011_100004 < (3 : Int)))) tt_ok rfl rfl ?_
  refine wl_nil (wx_then ?_)
  refine wc_cond rfl (fun hc => ?_) (fun hc => ?_)
  · replace h := ct hc h
    refine wc_skip (wx_then (wc_seq (wc_block (wc_region ?_))))
    refine wl_pure tt_ok rfl rfl ?_
    replace h := bsome h; obtain ⟨⟨o100013_0, v100013⟩, x100013, h⟩ := h; try dsimp only at h
    refine wl_cs Tryd.call24 rfl rfl rfl (s_sp (k_rollback_Engine_Local (p0 := (T_rollback_Engine.mk j100011_n100006_0_f0 j100011_n100006_0_f1 (T_api_State.mk j100011_n100006_0_f2_0 j100011_n100006_0_f2_1 j100011_n100006_0_f2_2 j100011_n100006_0_f2_3 j100011_n100006_0_f2_4) j100011_n100006_0_f3)) (p0_4 := v100006s.2.1) (p0_5 := v100006s.2.2) j100011_n100006_0_f2_3N0 j100011_n100006_0_f2_3V0 j100011_n100006_0_f3N0 j100011_n100006_0_f3V0 v100006s_4N0 v100006s_4V0 v100006s_5G0 v100006s_5A0 x100013) (pCons Sel.hc (pApp (Sel.sc (Sel.sc (Sel.sc Sel.ha))) (pApp (Sel.sc (Sel.sc (Sel.sc Sel.ha))) (pCons Sel.hc (pApp (Sel.sc (Sel.sc Sel.ha)) (pCons Sel.hc (pApp (Sel.sc Sel.ha) pNil))))))) (fun _ _ => trivial)) rfl ?_
    rintro _ _ ⟨_, ⟨o100013_0a0, o100013_0n0, o100013_0c0, o100013_0B0, o100013_0a1, o100013_0n1, o100013_0c1, o100013_0B1, o100013_0N0, o100013_0V0, o100013_0N1, o100013_0V1, rfl, rfl⟩, rfl⟩
    refine wl_nil (wx_block (wx_then (wc_region ?_)))
    refine wl_pure tt_ok rfl rfl ?_
    refine wl_pure (v := .int .i64 (IntKind.wrap .i64 (j100011_100004 + (1 : Int)))) tt_ok rfl rfl ?_
    refine wl_pure tt_ok rfl rfl ?_
    refine wl_nil ?_
    exact wx_round m100011 (Nat.lt_succ_self m100011) ⟨(IntKind.wrap .i64 (j100011_100004 + (1 : Int))), o100013_0.player, o100013_0.window, o100013_0.sure.Frame, o100013_0.sure.Seed, o100013_0.sure.Players, o100013_0.sure.Shots, o100013_0.sure.Score, o100013_0.own, o100013_0a0, o100013_0n0, o100013_0c0, o100013_0B0, o100013_0a1, o100013_0n1, o100013_0c1, o100013_0B1, h, o100013_0N0, o100013_0V0, o100013_0N1, o100013_0V1, rfl, rfl⟩ (agree_cons rfl (agree_cons rfl (agree_cons rfl agree_nil))) (pSub (pCons Sel.hc (pCons (Sel.sa (Sel.sa Sel.hc)) (pCons (Sel.sa (Sel.sa (Sel.sa Sel.hc))) (pCons (Sel.sa (Sel.sa (Sel.sa (Sel.sa Sel.hc)))) (pApp Sel.ha (pApp Sel.ha (pApp Sel.ha (pApp Sel.ha pNil)))))))))
  replace h := cf hc h
  refine wc_exit (wx_then_exit ?_)
  simp only [Option.some.injEq, Prod.mk.injEq] at h
  obtain ⟨rfl, rfl, rfl, rfl, rfl, rfl, rfl, rfl⟩ := h
  have h := hl100011; clear hl100011; try dsimp only [orE_l, orE_r] at h
  refine wx_then_exit (wx_block_exit (wx_then (wc_seq (wc_region ?_))))
  refine wl_pure tt_ok rfl rfl ?_
  replace h := bsome h; obtain ⟨⟨o100015_1, o100015_2, v100015⟩, x100015, h⟩ := h; try dsimp only at h
  refine wl_cs Tryd.call26 rfl rfl rfl (s_sp (k_rollback_Engine_Remote (p0 := (T_rollback_Engine.mk j100011_n100006_0_f0 j100011_n100006_0_f1 (T_api_State.mk j100011_n100006_0_f2_0 j100011_n100006_0_f2_1 j100011_n100006_0_f2_2 j100011_n100006_0_f2_3 j100011_n100006_0_f2_4) j100011_n100006_0_f3)) (p0_4 := v100006s.2.1) (p0_5 := v100006s.2.2) j100011_n100006_0_f2_3N0 j100011_n100006_0_f2_3V0 j100011_n100006_0_f3N0 j100011_n100006_0_f3V0 v100006s_4N0 v100006s_4V0 v100006s_5G0 v100006s_5A0 x100015) (pCons Sel.hc (pApp (Sel.sc (Sel.sc (Sel.sc Sel.ha))) (pApp (Sel.sc (Sel.sc (Sel.sc Sel.ha))) (pCons Sel.hc (pApp (Sel.sc (Sel.sc Sel.ha)) (pCons Sel.hc (pApp (Sel.sc Sel.ha) pNil))))))) (fun _ _ => trivial)) rfl ?_
  rintro _ _ ⟨_, ⟨o100015_1a0, o100015_1n0, o100015_1c0, o100015_1B0, o100015_2g0, o100015_2P0, o100015_1N0, o100015_1V0, o100015_2G0, o100015_2A0, rfl, rfl⟩, rfl⟩
  refine wl_nil (wx_then (wc_seq (wc_region ?_)))
  refine wl_pure tt_ok rfl rfl ?_
  replace h := bsome h; obtain ⟨⟨o100017_0, o100017_1, o100017_2, v100017_0, v100017_1⟩, x100017, h⟩ := h; try dsimp only at h
  refine wl_cs Tryd.call14 rfl rfl rfl (s_sp (k_rollback_Engine_Confirm (p0 := (T_rollback_Engine.mk j100011_n100006_0_f0 j100011_n100006_0_f1 (T_api_State.mk j100011_n100006_0_f2_0 j100011_n100006_0_f2_1 j100011_n100006_0_f2_2 j100011_n100006_0_f2_3 j100011_n100006_0_f2_4) j100011_n100006_0_f3)) (p0_4 := o100015_1) (p0_5 := o100015_2) j100011_n100006_0_f2_3N0 j100011_n100006_0_f2_3V0 j100011_n100006_0_f3N0 j100011_n100006_0_f3V0 o100015_1N0 o100015_1V0 o100015_2G0 o100015_2A0 x100017) (pCons Sel.hc (pApp Sel.ha (pApp Sel.ha (pCons Sel.hc (pApp Sel.ha (pCons Sel.hc (pApp Sel.ha pNil))))))) (fun w hI => ⟨(Rds.call G0S (pCons Sel.hc (pApp Sel.ha (pApp Sel.ha (pCons Sel.hc (pApp Sel.ha (pCons Sel.hc (pApp Sel.ha pNil))))))) rsub_nil) w hI, (Rds.call G1S (pCons Sel.hc (pApp Sel.ha (pApp Sel.ha (pCons Sel.hc (pApp Sel.ha (pCons Sel.hc (pApp Sel.ha pNil))))))) rsub_nil) w hI⟩)) rfl ?_
  rintro _ _ ⟨_, ⟨o100017_0a0, o100017_0n0, o100017_0c0, o100017_0B0, o100017_0a1, o100017_0n1, o100017_0c1, o100017_0B1, o100017_1a0, o100017_1n0, o100017_1c0, o100017_1B0, o100017_2g0, o100017_2P0, o100017_0N0, o100017_0V0, o100017_0N1, o100017_0V1, o100017_1N0, o100017_1V0, o100017_2G0, o100017_2A0, rfl, rfl⟩, rfl⟩
  refine wl_nil (wx_then (wc_seq (wc_region ?_)))
  refine wl_pure tt_ok rfl rfl ?_
  refine wl_pure (v := .agg #[.int .u8 (2 : Int), .int .u8 (1 : Int)]) tt_ok rfl rfl ?_
  replace h := bsome h; obtain ⟨⟨o100020_0, v100020⟩, x100020, h⟩ := h; try dsimp only at h
  refine wl_cs Tryd.call8 rfl rfl rfl (s_sp (k_fold_History_Add x100020) (pCons (Sel.sc (Sel.sa (Sel.sa (Sel.sc (Sel.sa (Sel.sc (Sel.sa Sel.hc))))))) pNil) (fun _ _ => trivial)) rfl ?_
  rintro _ _ ⟨_, ⟨rfl, rfl⟩, rfl⟩
  refine wl_nil (wx_then (wc_seq (wc_region ?_)))
  iterate 4 refine wl_pure tt_ok rfl rfl ?_
  refine wl_nil (wx_then (wc_ret ?_))
  refine wx_inl (v := .tuple #[.pointer (some ⟨b100006_0, 0, none⟩), .pointer (some ⟨b100007_0, 0, none⟩)]) tt_ok (.inl rfl) Tryd.results17 (Res.tmp rfl (Res.tmp rfl Res.nil)) rfl ?_
  iterate 5 refine wl_pure tt_ok rfl rfl ?_
  refine wl_nil (wx_then (wc_seq (wc_seq (wc_region ?_))))
  refine wl_pure tt_ok rfl rfl ?_
  refine wl_pure (v := .bool false) tt_ok rfl rfl ?_
  refine wl_pure tt_ok rfl rfl ?_
  refine wl_run rfl ?_
  refine wl_pure tt_ok rfl rfl ?_
  refine wl_run rfl ?_
  refine wl_pure (v := .bool false) tt_ok rfl rfl ?_
  refine wl_pure (v := .bool false) tt_ok rfl rfl ?_
  refine wl_pure tt_ok rfl rfl ?_
  replace h := bsome h; obtain ⟨v28, x28, h⟩ := h
  refine wl_run rfl ?_
  refine wl_cq Tryd.call5 rfl rfl rfl (q_pf (k_hindcastlaw28_works x28) (fun w hI => ⟨(Rds.call G0S pNil rsub_nil) w hI, (Rds.call G1S pNil rsub_nil) w hI⟩)) rfl ?_
  refine wl_run rfl ?_
  refine wl_pure (v := .bool (!v28)) tt_ok rfl rfl ?_
  refine wl_pure (v := .bool (!v28)) tt_ok rfl rfl ?_
  refine wl_nil (wx_then ?_)
  refine wc_cond rfl (fun hc => ?_) (fun hc => ?_)
  · replace h := ct hc h
    refine wc_seq (wc_region ?_)
    refine wl_pure tt_ok rfl rfl ?_
    refine wl_nil (wx_then (wc_ret (wx_then_ret ?_)))
    simp only [Option.some.injEq] at h
    obtain rfl := h
    exact wx_pf tt_ok (.inl rfl) Tryd.results4 (Res.tmp rfl Res.nil) rfl
  replace h := cf hc h
  refine wc_skip (wx_then (wc_seq (wc_region ?_)))
  refine wl_pure tt_ok rfl rfl ?_
  replace h := bsome h; obtain ⟨⟨v33_0, v33_1⟩, x33, h⟩ := h; try dsimp only at h
  refine wl_cq Tryd.call10 rfl rfl rfl (q_rd (k_backfill_Plan x33) (pCons Sel.hc pNil) (fun _ _ => trivial)) rfl ?_
  iterate 5 refine wl_pure tt_ok rfl rfl ?_
  refine wl_nil (wx_then (wc_seq (wc_seq (wc_region ?_))))
  refine wl_pure tt_ok rfl rfl ?_
  refine wl_pure (v := .bool (v33_1 != (0 : Int))) tt_ok rfl rfl ?_
  refine wl_pure tt_ok rfl rfl ?_
  replace h := bsome h; obtain ⟨⟨v46, g46_n100006_0_4_f0, g46_n100006_0_4_f1, g46_n100006_0_4_f2, g46_n100006_0_5_f0, g46_n100006_0_5_f1⟩, h, hg46⟩ := h
  refine wl_split (t := 38) rfl (fun hc => ?_) (fun hc => ?_)
  · replace h := ct hc h
    refine wl_skip rfl rfl ?_
    refine wl_skip rfl rfl ?_
    refine wl_skip rfl rfl ?_
    refine wl_skip rfl rfl ?_
    refine wl_skip rfl rfl ?_
    refine wl_skip rfl rfl ?_
    refine wl_skip rfl rfl ?_
    simp only [Option.some.injEq, Prod.mk.injEq] at h
    obtain ⟨rfl, rfl, rfl, rfl, rfl, rfl⟩ := h
    have h := hg46; clear hg46; try dsimp only at h
    refine wl_pure (v := .bool true) tt_ok rfl rfl ?_
    refine wl_pure tt_ok rfl rfl ?_
    replace h := bsome h; obtain ⟨⟨v55, g55_n100006_0_4_f0, g55_n100006_0_4_f1, g55_n100006_0_4_f2, g55_n100006_0_5_f0, g55_n100006_0_5_f1⟩, h, hg55⟩ := h
    replace h := ct rfl h
    refine wl_skip rfl rfl ?_
    refine wl_skip rfl rfl ?_
    refine wl_skip rfl rfl ?_
    refine wl_skip rfl rfl ?_
    refine wl_skip rfl rfl ?_
    refine wl_skip rfl rfl ?_
    refine wl_skip rfl rfl ?_
    simp only [Option.some.injEq, Prod.mk.injEq] at h
    obtain ⟨rfl, rfl, rfl, rfl, rfl, rfl⟩ := h
    have h := hg55; clear hg55; try dsimp only at h
    refine wl_pure (v := .bool true) tt_ok rfl rfl ?_
    refine wl_pure tt_ok rfl rfl ?_
    replace h := bsome h; obtain ⟨v60, h, hg60⟩ := h
    replace h := ct rfl h
    refine wl_skip rfl rfl ?_
    refine wl_skip rfl rfl ?_
    refine wl_skip rfl rfl ?_
    simp only [Option.some.injEq, Prod.mk.injEq] at h
    obtain rfl := h
    have h := hg60; clear hg60
    refine wl_pure (v := .bool true) tt_ok rfl rfl ?_
    refine wl_pure tt_ok rfl rfl ?_
    replace h := bsome h; obtain ⟨⟨v68, g68_n100006_0_4_f0, g68_n100006_0_4_f1, g68_n100006_0_4_f2, g68_n100006_0_5_f0, g68_n100006_0_5_f1⟩, h, hg68⟩ := h
    replace h := ct rfl h
    refine wl_skip rfl rfl ?_
    refine wl_skip rfl rfl ?_
    refine wl_skip rfl rfl ?_
    refine wl_skip rfl rfl ?_
    refine wl_skip rfl rfl ?_
    refine wl_skip rfl rfl ?_
    simp only [Option.some.injEq, Prod.mk.injEq] at h
    obtain ⟨rfl, rfl, rfl, rfl, rfl, rfl⟩ := h
    have h := hg68; clear hg68; try dsimp only at h
    refine wl_pure (v := .bool true) tt_ok rfl rfl ?_
    refine wl_pure tt_ok rfl rfl ?_
    replace h := bsome h; obtain ⟨⟨v77, g77_n100006_0_4_f0, g77_n100006_0_4_f1, g77_n100006_0_4_f2, g77_n100006_0_5_f0, g77_n100006_0_5_f1⟩, h, hg77⟩ := h
    replace h := ct rfl h
    refine wl_skip rfl rfl ?_
    refine wl_skip rfl rfl ?_
    refine wl_skip rfl rfl ?_
    refine wl_skip rfl rfl ?_
    refine wl_skip rfl rfl ?_
    refine wl_skip rfl rfl ?_
    refine wl_skip rfl rfl ?_
    simp only [Option.some.injEq, Prod.mk.injEq] at h
    obtain ⟨rfl, rfl, rfl, rfl, rfl, rfl⟩ := h
    have h := hg77; clear hg77; try dsimp only at h
    refine wl_pure (v := .bool true) tt_ok rfl rfl ?_
    refine wl_pure tt_ok rfl rfl ?_
    replace h := bsome h; obtain ⟨⟨v84, g84_n100006_0_4_f0, g84_n100006_0_4_f1, g84_n100006_0_4_f2, g84_n100006_0_5_f0, g84_n100006_0_5_f1⟩, h, hg84⟩ := h
    replace h := ct rfl h
    refine wl_skip rfl rfl ?_
    refine wl_skip rfl rfl ?_
    refine wl_skip rfl rfl ?_
    refine wl_skip rfl rfl ?_
    refine wl_skip rfl rfl ?_
    simp only [Option.some.injEq, Prod.mk.injEq] at h
    obtain ⟨rfl, rfl, rfl, rfl, rfl, rfl⟩ := h
    have h := hg84; clear hg84; try dsimp only at h
    refine wl_pure (v := .bool true) tt_ok rfl rfl ?_
    refine wl_pure tt_ok rfl rfl ?_
    replace h := bsome h; obtain ⟨⟨v91, g91_n100006_0_4_f0, g91_n100006_0_4_f1, g91_n100006_0_4_f2, g91_n100006_0_5_f0, g91_n100006_0_5_f1⟩, h, hg91⟩ := h
    replace h := ct rfl h
    refine wl_skip rfl rfl ?_
    refine wl_skip rfl rfl ?_
    refine wl_skip rfl rfl ?_
    refine wl_skip rfl rfl ?_
    refine wl_skip rfl rfl ?_
    simp only [Option.some.injEq, Prod.mk.injEq] at h
    obtain ⟨rfl, rfl, rfl, rfl, rfl, rfl⟩ := h
    have h := hg91; clear hg91; try dsimp only at h
    refine wl_pure (v := .bool true) tt_ok rfl rfl ?_
    refine wl_pure tt_ok rfl rfl ?_
    replace h := bsome h; obtain ⟨⟨v98, g98_n100006_0_4_f0, g98_n100006_0_4_f1, g98_n100006_0_4_f2, g98_n100006_0_5_f0, g98_n100006_0_5_f1⟩, h, hg98⟩ := h
    replace h := ct rfl h
    refine wl_skip rfl rfl ?_
    refine wl_skip rfl rfl ?_
    refine wl_skip rfl rfl ?_
    refine wl_skip rfl rfl ?_
    refine wl_skip rfl rfl ?_
    simp only [Option.some.injEq, Prod.mk.injEq] at h
    obtain ⟨rfl, rfl, rfl, rfl, rfl, rfl⟩ := h
    have h := hg98; clear hg98; try dsimp only at h
    refine wl_pure (v := .bool true) tt_ok rfl rfl ?_
    refine wl_pure tt_ok rfl rfl ?_
    replace h := bsome h; obtain ⟨⟨v105, g105_n100006_0_4_f0, g105_n100006_0_4_f1, g105_n100006_0_4_f2, g105_n100006_0_5_f0, g105_n100006_0_5_f1⟩, h, hg105⟩ := h
    replace h := ct rfl h
    refine wl_skip rfl rfl ?_
    refine wl_skip rfl rfl ?_
    refine wl_skip rfl rfl ?_
    refine wl_skip rfl rfl ?_
    refine wl_skip rfl rfl ?_
    simp only [Option.some.injEq, Prod.mk.injEq] at h
    obtain ⟨rfl, rfl, rfl, rfl, rfl, rfl⟩ := h
    have h := hg105; clear hg105; try dsimp only at h
    refine wl_pure (v := .bool true) tt_ok rfl rfl ?_
    refine wl_pure tt_ok rfl rfl ?_
    replace h := bsome h; obtain ⟨⟨v113, g113_n100006_0_4_f0, g113_n100006_0_4_f1, g113_n100006_0_4_f2, g113_n100006_0_5_f0, g113_n100006_0_5_f1⟩, h, hg113⟩ := h
    replace h := ct rfl h
    refine wl_skip rfl rfl ?_
    refine wl_skip rfl rfl ?_
    refine wl_skip rfl rfl ?_
    refine wl_skip rfl rfl ?_
    refine wl_skip rfl rfl ?_
    refine wl_skip rfl rfl ?_
    simp only [Option.some.injEq, Prod.mk.injEq] at h
    obtain ⟨rfl, rfl, rfl, rfl, rfl, rfl⟩ := h
    have h := hg113; clear hg113; try dsimp only at h
    refine wl_pure (v := .bool true) tt_ok rfl rfl ?_
    refine wl_nil (wx_then ?_)
    replace h := ct rfl h
    refine wc_cond_true rfl ?_
    refine wc_seq (wc_region ?_)
    refine wl_pure tt_ok rfl rfl ?_
    refine wl_nil (wx_then (wc_ret (wx_then_ret ?_)))
    simp only [Option.some.injEq] at h
    obtain rfl := h
    exact wx_pf tt_ok (.inl rfl) Tryd.results4 (Res.tmp rfl Res.nil) rfl
  replace h := cf hc h
  refine wl_run rfl ?_
  refine wl_pure tt_ok rfl rfl ?_
  refine wl_run rfl ?_
  refine wl_pure tt_ok rfl rfl ?_
  refine wl_run rfl ?_
  refine wl_pure (v := .agg #[.int .u8 (2 : Int), .int .u8 (1 : Int)]) tt_ok rfl rfl ?_
  refine wl_run rfl ?_
  refine wl_pure (v := .agg #[.int .u8 (2 : Int), .int .u8 (5 : Int)]) tt_ok rfl rfl ?_
  refine wl_run rfl ?_
  refine wl_chg (chg_bsv (enc := (e2 .u8)) (xs := ([((2 : Int), (1 : Int)), ((2 : Int), (5 : Int))] : List (Int × Int))) tt_ok rfl rfl rfl rfl rfl rfl rfl rfl (e2_len _)) rfl ?_
  rintro _ _ ⟨a43, n43_, c43, B43, rfl, N43, V43, rfl⟩
  replace h := bsome h; obtain ⟨⟨o44_1, o44_2, v44⟩, x44, h⟩ := h; try dsimp only at h
  refine wl_run rfl ?_
  refine wl_cs Tryd.call18 rfl rfl rfl (s_sp (k_hindcastlaw28_pairs (p0 := o100017_0) (p0_4 := o100017_1) (p0_5 := o100017_2) (p3 := ([((2 : Int), (1 : Int)), ((2 : Int), (5 : Int))] : List (Int × Int))) o100017_0N0 o100017_0V0 o100017_0N1 o100017_0V1 o100017_1N0 o100017_1V0 o100017_2G0 o100017_2A0 N43 (vec_cap V43) x44) (pCons (Sel.sa (Sel.sc Sel.hc)) (pApp (Sel.sa (Sel.sc Sel.ha)) (pApp (Sel.sa (Sel.sc Sel.ha)) (pCons (Sel.sa (Sel.sc Sel.hc)) (pApp (Sel.sa (Sel.sc Sel.ha)) (pCons (Sel.sa (Sel.sc Sel.hc)) (pApp (Sel.sa (Sel.sc Sel.ha)) (pCons (Sel.sa Sel.hc) pNil)))))))) (Rds.call (Rds.of_vec V43) (pCons (Sel.sa (Sel.sc Sel.hc)) (pApp (Sel.sa (Sel.sc Sel.ha)) (pApp (Sel.sa (Sel.sc Sel.ha)) (pCons (Sel.sa (Sel.sc Sel.hc)) (pApp (Sel.sa (Sel.sc Sel.ha)) (pCons (Sel.sa (Sel.sc Sel.hc)) (pApp (Sel.sa (Sel.sc Sel.ha)) (pCons (Sel.sa Sel.hc) pNil)))))))) ⟨_, Sel.ha⟩)) rfl ?_
  rintro _ _ ⟨_, ⟨o44_1a0, o44_1n0, o44_1c0, o44_1B0, o44_2g0, o44_2P0, o44_1N0, o44_1V0, o44_2G0, o44_2A0, rfl, rfl⟩, rfl⟩
  refine wl_run rfl ?_
  refine wl_pure (v := .bool (v44 != (2 : Int))) tt_ok rfl rfl ?_
  simp only [Option.some.injEq, Prod.mk.injEq] at h
  obtain ⟨rfl, rfl, rfl, rfl, rfl, rfl⟩ := h
  have h := hg46; clear hg46; try dsimp only at h
  refine wl_pure (v := .bool (v44 != (2 : Int))) tt_ok rfl rfl ?_
  refine wl_pure tt_ok rfl rfl ?_
  replace h := bsome h; obtain ⟨⟨v55, g55_n100006_0_4_f0, g55_n100006_0_4_f1, g55_n100006_0_4_f2, g55_n100006_0_5_f0, g55_n100006_0_5_f1⟩, h, hg55⟩ := h
  refine wl_split (t := 47) rfl (fun hc => ?_) (fun hc => ?_)
  · replace h := ct hc h
    refine wl_skip rfl rfl ?_
    refine wl_skip rfl rfl ?_
    refine wl_skip rfl rfl ?_
    refine wl_skip rfl rfl ?_
    refine wl_skip rfl rfl ?_
    refine wl_skip rfl rfl ?_
    refine wl_skip rfl rfl ?_
    simp only [Option.some.injEq, Prod.mk.injEq] at h
    obtain ⟨rfl, rfl, rfl, rfl, rfl, rfl⟩ := h
    have h := hg55; clear hg55; try dsimp only at h
    refine wl_pure (v := .bool true) tt_ok rfl rfl ?_
    refine wl_pure tt_ok rfl rfl ?_
    replace h := bsome h; obtain ⟨v60, h, hg60⟩ := h
    replace h := ct rfl h
    refine wl_skip rfl rfl ?_
    refine wl_skip rfl rfl ?_
    refine wl_skip rfl rfl ?_
    simp only [Option.some.injEq, Prod.mk.injEq] at h
    obtain rfl := h
    have h := hg60; clear hg60
    refine wl_pure (v := .bool true) tt_ok rfl rfl ?_
    refine wl_pure tt_ok rfl rfl ?_
    replace h := bsome h; obtain ⟨⟨v68, g68_n100006_0_4_f0, g68_n100006_0_4_f1, g68_n100006_0_4_f2, g68_n100006_0_5_f0, g68_n100006_0_5_f1⟩, h, hg68⟩ := h
    replace h := ct rfl h
    refine wl_skip rfl rfl ?_
    refine wl_skip rfl rfl ?_
    refine wl_skip rfl rfl ?_
    refine wl_skip rfl rfl ?_
    refine wl_skip rfl rfl ?_
    refine wl_skip rfl rfl ?_
    simp only [Option.some.injEq, Prod.mk.injEq] at h
    obtain ⟨rfl, rfl, rfl, rfl, rfl, rfl⟩ := h
    have h := hg68; clear hg68; try dsimp only at h
    refine wl_pure (v := .bool true) tt_ok rfl rfl ?_
    refine wl_pure tt_ok rfl rfl ?_
    replace h := bsome h; obtain ⟨⟨v77, g77_n100006_0_4_f0, g77_n100006_0_4_f1, g77_n100006_0_4_f2, g77_n100006_0_5_f0, g77_n100006_0_5_f1⟩, h, hg77⟩ := h
    replace h := ct rfl h
    refine wl_skip rfl rfl ?_
    refine wl_skip rfl rfl ?_
    refine wl_skip rfl rfl ?_
    refine wl_skip rfl rfl ?_
    refine wl_skip rfl rfl ?_
    refine wl_skip rfl rfl ?_
    refine wl_skip rfl rfl ?_
    simp only [Option.some.injEq, Prod.mk.injEq] at h
    obtain ⟨rfl, rfl, rfl, rfl, rfl, rfl⟩ := h
    have h := hg77; clear hg77; try dsimp only at h
    refine wl_pure (v := .bool true) tt_ok rfl rfl ?_
    refine wl_pure tt_ok rfl rfl ?_
    replace h := bsome h; obtain ⟨⟨v84, g84_n100006_0_4_f0, g84_n100006_0_4_f1, g84_n100006_0_4_f2, g84_n100006_0_5_f0, g84_n100006_0_5_f1⟩, h, hg84⟩ := h
    replace h := ct rfl h
    refine wl_skip rfl rfl ?_
    refine wl_skip rfl rfl ?_
    refine wl_skip rfl rfl ?_
    refine wl_skip rfl rfl ?_
    refine wl_skip rfl rfl ?_
    simp only [Option.some.injEq, Prod.mk.injEq] at h
    obtain ⟨rfl, rfl, rfl, rfl, rfl, rfl⟩ := h
    have h := hg84; clear hg84; try dsimp only at h
    refine wl_pure (v := .bool true) tt_ok rfl rfl ?_
    refine wl_pure tt_ok rfl rfl ?_
    replace h := bsome h; obtain ⟨⟨v91, g91_n100006_0_4_f0, g91_n100006_0_4_f1, g91_n100006_0_4_f2, g91_n100006_0_5_f0, g91_n100006_0_5_f1⟩, h, hg91⟩ := h
    replace h := ct rfl h
    refine wl_skip rfl rfl ?_
    refine wl_skip rfl rfl ?_
    refine wl_skip rfl rfl ?_
    refine wl_skip rfl rfl ?_
    refine wl_skip rfl rfl ?_
    simp only [Option.some.injEq, Prod.mk.injEq] at h
    obtain ⟨rfl, rfl, rfl, rfl, rfl, rfl⟩ := h
    have h := hg91; clear hg91; try dsimp only at h
    refine wl_pure (v := .bool true) tt_ok rfl rfl ?_
    refine wl_pure tt_ok rfl rfl ?_
    replace h := bsome h; obtain ⟨⟨v98, g98_n100006_0_4_f0, g98_n100006_0_4_f1, g98_n100006_0_4_f2, g98_n100006_0_5_f0, g98_n100006_0_5_f1⟩, h, hg98⟩ := h
    replace h := ct rfl h
    refine wl_skip rfl rfl ?_
    refine wl_skip rfl rfl ?_
    refine wl_skip rfl rfl ?_
    refine wl_skip rfl rfl ?_
    refine wl_skip rfl rfl ?_
    simp only [Option.some.injEq, Prod.mk.injEq] at h
    obtain ⟨rfl, rfl, rfl, rfl, rfl, rfl⟩ := h
    have h := hg98; clear hg98; try dsimp only at h
    refine wl_pure (v := .bool true) tt_ok rfl rfl ?_
    refine wl_pure tt_ok rfl rfl ?_
    replace h := bsome h; obtain ⟨⟨v105, g105_n100006_0_4_f0, g105_n100006_0_4_f1, g105_n100006_0_4_f2, g105_n100006_0_5_f0, g105_n100006_0_5_f1⟩, h, hg105⟩ := h
    replace h := ct rfl h
    refine wl_skip rfl rfl ?_
    refine wl_skip rfl rfl ?_
    refine wl_skip rfl rfl ?_
    refine wl_skip rfl rfl ?_
    refine wl_skip rfl rfl ?_
    simp only [Option.some.injEq, Prod.mk.injEq] at h
    obtain ⟨rfl, rfl, rfl, rfl, rfl, rfl⟩ := h
    have h := hg105; clear hg105; try dsimp only at h
    refine wl_pure (v := .bool true) tt_ok rfl rfl ?_
    refine wl_pure tt_ok rfl rfl ?_
    replace h := bsome h; obtain ⟨⟨v113, g113_n100006_0_4_f0, g113_n100006_0_4_f1, g113_n100006_0_4_f2, g113_n100006_0_5_f0, g113_n100006_0_5_f1⟩, h, hg113⟩ := h
    replace h := ct rfl h
    refine wl_skip rfl rfl ?_
    refine wl_skip rfl rfl ?_
    refine wl_skip rfl rfl ?_
    refine wl_skip rfl rfl ?_
    refine wl_skip rfl rfl ?_
    refine wl_skip rfl rfl ?_
    simp only [Option.some.injEq, Prod.mk.injEq] at h
    obtain ⟨rfl, rfl, rfl, rfl, rfl, rfl⟩ := h
    have h := hg113; clear hg113; try dsimp only at h
    refine wl_pure (v := .bool true) tt_ok rfl rfl ?_
    refine wl_nil (wx_then ?_)
    replace h := ct rfl h
    refine wc_cond_true rfl ?_
    refine wc_seq (wc_region ?_)
    refine wl_pure tt_ok rfl rfl ?_
    refine wl_nil (wx_then (wc_ret (wx_then_ret ?_)))
    simp only [Option.some.injEq] at h
    obtain rfl := h
    exact wx_pf tt_ok (.inl rfl) Tryd.results4 (Res.tmp rfl Res.nil) rfl
  replace h := cf hc h
  refine wl_run rfl ?_
  refine wl_pure tt_ok rfl rfl ?_
  refine wl_run rfl ?_
  refine wl_pure tt_ok rfl rfl ?_
  refine wl_run rfl ?_
  refine wl_pure (v := .agg #[.int .u8 (2 : Int), .int .u8 (1 : Int)]) tt_ok rfl rfl ?_
  refine wl_run rfl ?_
  refine wl_pure (v := .agg #[.int .u8 (2 : Int), .int .u8 (5 : Int)]) tt_ok rfl rfl ?_
  refine wl_run rfl ?_
  refine wl_chg (chg_bsv (enc := (e2 .u8)) (xs := ([((2 : Int), (1 : Int)), ((2 : Int), (5 : Int))] : List (Int × Int))) tt_ok rfl rfl rfl rfl rfl rfl rfl rfl (e2_len _)) rfl ?_
  rintro _ _ ⟨a52, n52_, c52, B52, rfl, N52, V52, rfl⟩
  replace h := bsome h; obtain ⟨⟨o53_1, o53_2, v53⟩, x53, h⟩ := h; try dsimp only at h
  refine wl_run rfl ?_
  refine wl_cs Tryd.call18 rfl rfl rfl (s_sp (k_hindcastlaw28_pairs (p0 := o100017_0) (p0_4 := o44_1) (p0_5 := o44_2) (p3 := ([((2 : Int), (1 : Int)), ((2 : Int), (5 : Int))] : List (Int × Int))) o100017_0N0 o100017_0V0 o100017_0N1 o100017_0V1 o44_1N0 o44_1V0 o44_2G0 o44_2A0 N52 (vec_cap V52) x53) (pCons (Sel.sa Sel.hc) (pApp (Sel.sa Sel.ha) (pApp (Sel.sa Sel.ha) (pCons (Sel.sa Sel.hc) (pApp (Sel.sa Sel.ha) (pCons (Sel.sa Sel.hc) (pApp (Sel.sa Sel.ha) (pCons (Sel.sa Sel.hc) pNil)))))))) (Rds.call (Rds.of_vec V52) (pCons (Sel.sa Sel.hc) (pApp (Sel.sa Sel.ha) (pApp (Sel.sa Sel.ha) (pCons (Sel.sa Sel.hc) (pApp (Sel.sa Sel.ha) (pCons (Sel.sa Sel.hc) (pApp (Sel.sa Sel.ha) (pCons (Sel.sa Sel.hc) pNil)))))))) ⟨_, Sel.ha⟩)) rfl ?_
  rintro _ _ ⟨_, ⟨o53_1a0, o53_1n0, o53_1c0, o53_1B0, o53_2g0, o53_2P0, o53_1N0, o53_1V0, o53_2G0, o53_2A0, rfl, rfl⟩, rfl⟩
  refine wl_run rfl ?_
  refine wl_pure (v := .bool (v53 != (2 : Int))) tt_ok rfl rfl ?_
  simp only [Option.some.injEq, Prod.mk.injEq] at h
  obtain ⟨rfl, rfl, rfl, rfl, rfl, rfl⟩ := h
  have h := hg55; clear hg55; try dsimp only at h
  refine wl_pure (v := .bool (v53 != (2 : Int))) tt_ok rfl rfl ?_
  refine wl_pure tt_ok rfl rfl ?_
  replace h := bsome h; obtain ⟨v60, h, hg60⟩ := h
  refine wl_split (t := 56) rfl (fun hc => ?_) (fun hc => ?_)
  · replace h := ct hc h
    refine wl_skip rfl rfl ?_
    refine wl_skip rfl rfl ?_
    refine wl_skip rfl rfl ?_
    simp only [Option.some.injEq, Prod.mk.injEq] at h
    obtain rfl := h
    have h := hg60; clear hg60
    refine wl_pure (v := .bool true) tt_ok rfl rfl ?_
    refine wl_pure tt_ok rfl rfl ?_
    replace h := bsome h; obtain ⟨⟨v68, g68_n100006_0_4_f0, g68_n100006_0_4_f1, g68_n100006_0_4_f2, g68_n100006_0_5_f0, g68_n100006_0_5_f1⟩, h, hg68⟩ := h
    replace h := ct rfl h
    refine wl_skip rfl rfl ?_
    refine wl_skip rfl rfl ?_
    refine wl_skip rfl rfl ?_
    refine wl_skip rfl rfl ?_
    refine wl_skip rfl rfl ?_
    refine wl_skip rfl rfl ?_
    simp only [Option.some.injEq, Prod.mk.injEq] at h
    obtain ⟨rfl, rfl, rfl, rfl, rfl, rfl⟩ := h
    have h := hg68; clear hg68; try dsimp only at h
    refine wl_pure (v := .bool true) tt_ok rfl rfl ?_
    refine wl_pure tt_ok rfl rfl ?_
    replace h := bsome h; obtain ⟨⟨v77, g77_n100006_0_4_f0, g77_n100006_0_4_f1, g77_n100006_0_4_f2, g77_n100006_0_5_f0, g77_n100006_0_5_f1⟩, h, hg77⟩ := h
    replace h := ct rfl h
    refine wl_skip rfl rfl ?_
    refine wl_skip rfl rfl ?_
    refine wl_skip rfl rfl ?_
    refine wl_skip rfl rfl ?_
    refine wl_skip rfl rfl ?_
    refine wl_skip rfl rfl ?_
    refine wl_skip rfl rfl ?_
    simp only [Option.some.injEq, Prod.mk.injEq] at h
    obtain ⟨rfl, rfl, rfl, rfl, rfl, rfl⟩ := h
    have h := hg77; clear hg77; try dsimp only at h
    refine wl_pure (v := .bool true) tt_ok rfl rfl ?_
    refine wl_pure tt_ok rfl rfl ?_
    replace h := bsome h; obtain ⟨⟨v84, g84_n100006_0_4_f0, g84_n100006_0_4_f1, g84_n100006_0_4_f2, g84_n100006_0_5_f0, g84_n100006_0_5_f1⟩, h, hg84⟩ := h
    replace h := ct rfl h
    refine wl_skip rfl rfl ?_
    refine wl_skip rfl rfl ?_
    refine wl_skip rfl rfl ?_
    refine wl_skip rfl rfl ?_
    refine wl_skip rfl rfl ?_
    simp only [Option.some.injEq, Prod.mk.injEq] at h
    obtain ⟨rfl, rfl, rfl, rfl, rfl, rfl⟩ := h
    have h := hg84; clear hg84; try dsimp only at h
    refine wl_pure (v := .bool true) tt_ok rfl rfl ?_
    refine wl_pure tt_ok rfl rfl ?_
    replace h := bsome h; obtain ⟨⟨v91, g91_n100006_0_4_f0, g91_n100006_0_4_f1, g91_n100006_0_4_f2, g91_n100006_0_5_f0, g91_n100006_0_5_f1⟩, h, hg91⟩ := h
    replace h := ct rfl h
    refine wl_skip rfl rfl ?_
    refine wl_skip rfl rfl ?_
    refine wl_skip rfl rfl ?_
    refine wl_skip rfl rfl ?_
    refine wl_skip rfl rfl ?_
    simp only [Option.some.injEq, Prod.mk.injEq] at h
    obtain ⟨rfl, rfl, rfl, rfl, rfl, rfl⟩ := h
    have h := hg91; clear hg91; try dsimp only at h
    refine wl_pure (v := .bool true) tt_ok rfl rfl ?_
    refine wl_pure tt_ok rfl rfl ?_
    replace h := bsome h; obtain ⟨⟨v98, g98_n100006_0_4_f0, g98_n100006_0_4_f1, g98_n100006_0_4_f2, g98_n100006_0_5_f0, g98_n100006_0_5_f1⟩, h, hg98⟩ := h
    replace h := ct rfl h
    refine wl_skip rfl rfl ?_
    refine wl_skip rfl rfl ?_
    refine wl_skip rfl rfl ?_
    refine wl_skip rfl rfl ?_
    refine wl_skip rfl rfl ?_
    simp only [Option.some.injEq, Prod.mk.injEq] at h
    obtain ⟨rfl, rfl, rfl, rfl, rfl, rfl⟩ := h
    have h := hg98; clear hg98; try dsimp only at h
    refine wl_pure (v := .bool true) tt_ok rfl rfl ?_
    refine wl_pure tt_ok rfl rfl ?_
    replace h := bsome h; obtain ⟨⟨v105, g105_n100006_0_4_f0, g105_n100006_0_4_f1, g105_n100006_0_4_f2, g105_n100006_0_5_f0, g105_n100006_0_5_f1⟩, h, hg105⟩ := h
    replace h := ct rfl h
    refine wl_skip rfl rfl ?_
    refine wl_skip rfl rfl ?_
    refine wl_skip rfl rfl ?_
    refine wl_skip rfl rfl ?_
    refine wl_skip rfl rfl ?_
    simp only [Option.some.injEq, Prod.mk.injEq] at h
    obtain ⟨rfl, rfl, rfl, rfl, rfl, rfl⟩ := h
    have h := hg105; clear hg105; try dsimp only at h
    refine wl_pure (v := .bool true) tt_ok rfl rfl ?_
    refine wl_pure tt_ok rfl rfl ?_
    replace h := bsome h; obtain ⟨⟨v113, g113_n100006_0_4_f0, g113_n100006_0_4_f1, g113_n100006_0_4_f2, g113_n100006_0_5_f0, g113_n100006_0_5_f1⟩, h, hg113⟩ := h
    replace h := ct rfl h
    refine wl_skip rfl rfl ?_
    refine wl_skip rfl rfl ?_
    refine wl_skip rfl rfl ?_
    refine wl_skip rfl rfl ?_
    refine wl_skip rfl rfl ?_
    refine wl_skip rfl rfl ?_
    simp only [Option.some.injEq, Prod.mk.injEq] at h
    obtain ⟨rfl, rfl, rfl, rfl, rfl, rfl⟩ := h
    have h := hg113; clear hg113; try dsimp only at h
    refine wl_pure (v := .bool true) tt_ok rfl rfl ?_
    refine wl_nil (wx_then ?_)
    replace h := ct rfl h
    refine wc_cond_true rfl ?_
    refine wc_seq (wc_region ?_)
    refine wl_pure tt_ok rfl rfl ?_
    refine wl_nil (wx_then (wc_ret (wx_then_ret ?_)))
    simp only [Option.some.injEq] at h
    obtain rfl := h
    exact wx_pf tt_ok (.inl rfl) Tryd.results4 (Res.tmp rfl Res.nil) rfl
  replace h := cf hc h
  refine wl_run rfl ?_
  refine wl_pure tt_ok rfl rfl ?_
  replace h := bsome h; obtain ⟨v58, x58, h⟩ := h
  refine wl_run rfl ?_
  refine wl_cq Tryd.call16 rfl rfl rfl (q_rd (k_rollback_Engine_Known (p0 := o100017_0) (p0_4 := o53_1) (p0_5 := o53_2) o100017_0N0 o100017_0V0 o100017_0N1 o100017_0V1 o53_1N0 o53_1V0 o53_2G0 o53_2A0 x58) (pCons Sel.hc (pApp Sel.ha (pApp Sel.ha (pCons Sel.hc (pApp Sel.ha (pCons Sel.hc (pApp Sel.ha pNil))))))) (fun _ _ => trivial)) rfl ?_
  refine wl_run rfl ?_
  refine wl_pure (v := .bool (v58 != (2 : Int))) tt_ok rfl rfl ?_
  simp only [Option.some.injEq, Prod.mk.injEq] at h
  obtain rfl := h
  have h := hg60; clear hg60
  refine wl_pure (v := .bool (v58 != (2 : Int))) tt_ok rfl rfl ?_
  refine wl_pure tt_ok rfl rfl ?_
  replace h := bsome h; obtain ⟨⟨v68, g68_n100006_0_4_f0, g68_n100006_0_4_f1, g68_n100006_0_4_f2, g68_n100006_0_5_f0, g68_n100006_0_5_f1⟩, h, hg68⟩ := h
  refine wl_split (t := 61) rfl (fun hc => ?_) (fun hc => ?_)
  · replace h := ct hc h
    refine wl_skip rfl rfl ?_
    refine wl_skip rfl rfl ?_
    refine wl_skip rfl rfl ?_
    refine wl_skip rfl rfl ?_
    refine wl_skip rfl rfl ?_
    refine wl_skip rfl rfl ?_
    simp only [Option.some.injEq, Prod.mk.injEq] at h
    obtain ⟨rfl, rfl, rfl, rfl, rfl, rfl⟩ := h
    have h := hg68; clear hg68; try dsimp only at h
    refine wl_pure (v := .bool true) tt_ok rfl rfl ?_
    refine wl_pure tt_ok rfl rfl ?_
    replace h := bsome h; obtain ⟨⟨v77, g77_n100006_0_4_f0, g77_n100006_0_4_f1, g77_n100006_0_4_f2, g77_n100006_0_5_f0, g77_n100006_0_5_f1⟩, h, hg77⟩ := h
    replace h := ct rfl h
    refine wl_skip rfl rfl ?_
    refine wl_skip rfl rfl ?_
    refine wl_skip rfl rfl ?_
    refine wl_skip rfl rfl ?_
    refine wl_skip rfl rfl ?_
    refine wl_skip rfl rfl ?_
    refine wl_skip rfl rfl ?_
    simp only [Option.some.injEq, Prod.mk.injEq] at h
    obtain ⟨rfl, rfl, rfl, rfl, rfl, rfl⟩ := h
    have h := hg77; clear hg77; try dsimp only at h
    refine wl_pure (v := .bool true) tt_ok rfl rfl ?_
    refine wl_pure tt_ok rfl rfl ?_
    replace h := bsome h; obtain ⟨⟨v84, g84_n100006_0_4_f0, g84_n100006_0_4_f1, g84_n100006_0_4_f2, g84_n100006_0_5_f0, g84_n100006_0_5_f1⟩, h, hg84⟩ := h
    replace h := ct rfl h
    refine wl_skip rfl rfl ?_
    refine wl_skip rfl rfl ?_
    refine wl_skip rfl rfl ?_
    refine wl_skip rfl rfl ?_
    refine wl_skip rfl rfl ?_
    simp only [Option.some.injEq, Prod.mk.injEq] at h
    obtain ⟨rfl, rfl, rfl, rfl, rfl, rfl⟩ := h
    have h := hg84; clear hg84; try dsimp only at h
    refine wl_pure (v := .bool true) tt_ok rfl rfl ?_
    refine wl_pure tt_ok rfl rfl ?_
    replace h := bsome h; obtain ⟨⟨v91, g91_n100006_0_4_f0, g91_n100006_0_4_f1, g91_n100006_0_4_f2, g91_n100006_0_5_f0, g91_n100006_0_5_f1⟩, h, hg91⟩ := h
    replace h := ct rfl h
    refine wl_skip rfl rfl ?_
    refine wl_skip rfl rfl ?_
    refine wl_skip rfl rfl ?_
    refine wl_skip rfl rfl ?_
    refine wl_skip rfl rfl ?_
    simp only [Option.some.injEq, Prod.mk.injEq] at h
    obtain ⟨rfl, rfl, rfl, rfl, rfl, rfl⟩ := h
    have h := hg91; clear hg91; try dsimp only at h
    refine wl_pure (v := .bool true) tt_ok rfl rfl ?_
    refine wl_pure tt_ok rfl rfl ?_
    replace h := bsome h; obtain ⟨⟨v98, g98_n100006_0_4_f0, g98_n100006_0_4_f1, g98_n100006_0_4_f2, g98_n100006_0_5_f0, g98_n100006_0_5_f1⟩, h, hg98⟩ := h
    replace h := ct rfl h
    refine wl_skip rfl rfl ?_
    refine wl_skip rfl rfl ?_
    refine wl_skip rfl rfl ?_
    refine wl_skip rfl rfl ?_
    refine wl_skip rfl rfl ?_
    simp only [Option.some.injEq, Prod.mk.injEq] at h
    obtain ⟨rfl, rfl, rfl, rfl, rfl, rfl⟩ := h
    have h := hg98; clear hg98; try dsimp only at h
    refine wl_pure (v := .bool true) tt_ok rfl rfl ?_
    refine wl_pure tt_ok rfl rfl ?_
    replace h := bsome h; obtain ⟨⟨v105, g105_n100006_0_4_f0, g105_n100006_0_4_f1, g105_n100006_0_4_f2, g105_n100006_0_5_f0, g105_n100006_0_5_f1⟩, h, hg105⟩ := h
    replace h := ct rfl h
    refine wl_skip rfl rfl ?_
    refine wl_skip rfl rfl ?_
    refine wl_skip rfl rfl ?_
    refine wl_skip rfl rfl ?_
    refine wl_skip rfl rfl ?_
    simp only [Option.some.injEq, Prod.mk.injEq] at h
    obtain ⟨rfl, rfl, rfl, rfl, rfl, rfl⟩ := h
    have h := hg105; clear hg105; try dsimp only at h
    refine wl_pure (v := .bool true) tt_ok rfl rfl ?_
    refine wl_pure tt_ok rfl rfl ?_
    replace h := bsome h; obtain ⟨⟨v113, g113_n100006_0_4_f0, g113_n100006_0_4_f1, g113_n100006_0_4_f2, g113_n100006_0_5_f0, g113_n100006_0_5_f1⟩, h, hg113⟩ := h
    replace h := ct rfl h
    refine wl_skip rfl rfl ?_
    refine wl_skip rfl rfl ?_
    refine wl_skip rfl rfl ?_
    refine wl_skip rfl rfl ?_
    refine wl_skip rfl rfl ?_
    refine wl_skip rfl rfl ?_
    simp only [Option.some.injEq, Prod.mk.injEq] at h
    obtain ⟨rfl, rfl, rfl, rfl, rfl, rfl⟩ := h
    have h := hg113; clear hg113; try dsimp only at h
    refine wl_pure (v := .bool true) tt_ok rfl rfl ?_
    refine wl_nil (wx_then ?_)
    replace h := ct rfl h
    refine wc_cond_true rfl ?_
    refine wc_seq (wc_region ?_)
    refine wl_pure tt_ok rfl rfl ?_
    refine wl_nil (wx_then (wc_ret (wx_then_ret ?_)))
    simp only [Option.some.injEq] at h
    obtain rfl := h
    exact wx_pf tt_ok (.inl rfl) Tryd.results4 (Res.tmp rfl Res.nil) rfl
  replace h := cf hc h
  refine wl_run rfl ?_
  refine wl_pure tt_ok rfl rfl ?_
  refine wl_run rfl ?_
  refine wl_pure tt_ok rfl rfl ?_
  refine wl_run rfl ?_
  refine wl_pure (v := .agg #[.int .u8 (3 : Int), .int .u8 (5 : Int)]) tt_ok rfl rfl ?_
  refine wl_run rfl ?_
  refine wl_chg (chg_bsv (enc := (e2 .u8)) (xs := ([((3 : Int), (5 : Int))] : List (Int × Int))) tt_ok rfl rfl rfl rfl rfl rfl rfl rfl (e2_len _)) rfl ?_
  rintro _ _ ⟨a65, n65_, c65, B65, rfl, N65, V65, rfl⟩
  replace h := bsome h; obtain ⟨⟨o66_1, o66_2, v66⟩, x66, h⟩ := h; try dsimp only at h
  refine wl_run rfl ?_
  refine wl_cs Tryd.call18 rfl rfl rfl (s_sp (k_hindcastlaw28_pairs (p0 := o100017_0) (p0_4 := o53_1) (p0_5 := o53_2) (p3 := ([((3 : Int), (5 : Int))] : List (Int × Int))) o100017_0N0 o100017_0V0 o100017_0N1 o100017_0V1 o53_1N0 o53_1V0 o53_2G0 o53_2A0 N65 (vec_cap V65) x66) (pCons (Sel.sa Sel.hc) (pApp (Sel.sa Sel.ha) (pApp (Sel.sa Sel.ha) (pCons (Sel.sa Sel.hc) (pApp (Sel.sa Sel.ha) (pCons (Sel.sa Sel.hc) (pApp (Sel.sa Sel.ha) (pCons (Sel.sa Sel.hc) pNil)))))))) (Rds.call (Rds.of_vec V65) (pCons (Sel.sa Sel.hc) (pApp (Sel.sa Sel.ha) (pApp (Sel.sa Sel.ha) (pCons (Sel.sa Sel.hc) (pApp (Sel.sa Sel.ha) (pCons (Sel.sa Sel.hc) (pApp (Sel.sa Sel.ha) (pCons (Sel.sa Sel.hc) pNil)))))))) ⟨_, Sel.ha⟩)) rfl ?_
  rintro _ _ ⟨_, ⟨o66_1a0, o66_1n0, o66_1c0, o66_1B0, o66_2g0, o66_2P0, o66_1N0, o66_1V0, o66_2G0, o66_2A0, rfl, rfl⟩, rfl⟩
  refine wl_run rfl ?_
  refine wl_pure (v := .bool (v66 != (1400 : Int))) tt_ok rfl rfl ?_
  simp only [Option.some.injEq, Prod.mk.injEq] at h
  obtain ⟨rfl, rfl, rfl, rfl, rfl, rfl⟩ := h
  have h := hg68; clear hg68; try dsimp only at h
  refine wl_pure (v := .bool (v66 != (1400 : Int))) tt_ok rfl rfl ?_
  refine wl_pure tt_ok rfl rfl ?_
  replace h := bsome h; obtain ⟨⟨v77, g77_n100006_0_4_f0, g77_n100006_0_4_f1, g77_n100006_0_4_f2, g77_n100006_0_5_f0, g77_n100006_0_5_f1⟩, h, hg77⟩ := h
  refine wl_split (t := 69) rfl (fun hc => ?_) (fun hc => ?_)
  · replace h := ct hc h
    refine wl_skip rfl rfl ?_
    refine wl_skip rfl rfl ?_
    refine wl_skip rfl rfl ?_
    refine wl_skip rfl rfl ?_
    refine wl_skip rfl rfl ?_
    refine wl_skip rfl rfl ?_
    refine wl_skip rfl rfl ?_
    simp only [Option.some.injEq, Prod.mk.injEq] at h
    obtain ⟨rfl, rfl, rfl, rfl, rfl, rfl⟩ := h
    have h := hg77; clear hg77; try dsimp only at h
    refine wl_pure (v := .bool true) tt_ok rfl rfl ?_
    refine wl_pure tt_ok rfl rfl ?_
    replace h := bsome h; obtain ⟨⟨v84, g84_n100006_0_4_f0, g84_n100006_0_4_f1, g84_n100006_0_4_f2, g84_n100006_0_5_f0, g84_n100006_0_5_f1⟩, h, hg84⟩ := h
    replace h := ct rfl h
    refine wl_skip rfl rfl ?_
    refine wl_skip rfl rfl ?_
    refine wl_skip rfl rfl ?_
    refine wl_skip rfl rfl ?_
    refine wl_skip rfl rfl ?_
    simp only [Option.some.injEq, Prod.mk.injEq] at h
    obtain ⟨rfl, rfl, rfl, rfl, rfl, rfl⟩ := h
    have h := hg84; clear hg84; try dsimp only at h
    refine wl_pure (v := .bool true) tt_ok rfl rfl ?_
    refine wl_pure tt_ok rfl rfl ?_
    replace h := bsome h; obtain ⟨⟨v91, g91_n100006_0_4_f0, g91_n100006_0_4_f1, g91_n100006_0_4_f2, g91_n100006_0_5_f0, g91_n100006_0_5_f1⟩, h, hg91⟩ := h
    replace h := ct rfl h
    refine wl_skip rfl rfl ?_
    refine wl_skip rfl rfl ?_
    refine wl_skip rfl rfl ?_
    refine wl_skip rfl rfl ?_
    refine wl_skip rfl rfl ?_
    simp only [Option.some.injEq, Prod.mk.injEq] at h
    obtain ⟨rfl, rfl, rfl, rfl, rfl, rfl⟩ := h
    have h := hg91; clear hg91; try dsimp only at h
    refine wl_pure (v := .bool true) tt_ok rfl rfl ?_
    refine wl_pure tt_ok rfl rfl ?_
    replace h := bsome h; obtain ⟨⟨v98, g98_n100006_0_4_f0, g98_n100006_0_4_f1, g98_n100006_0_4_f2, g98_n100006_0_5_f0, g98_n100006_0_5_f1⟩, h, hg98⟩ := h
    replace h := ct rfl h
    refine wl_skip rfl rfl ?_
    refine wl_skip rfl rfl ?_
    refine wl_skip rfl rfl ?_
    refine wl_skip rfl rfl ?_
    refine wl_skip rfl rfl ?_
    simp only [Option.some.injEq, Prod.mk.injEq] at h
    obtain ⟨rfl, rfl, rfl, rfl, rfl, rfl⟩ := h
    have h := hg98; clear hg98; try dsimp only at h
    refine wl_pure (v := .bool true) tt_ok rfl rfl ?_
    refine wl_pure tt_ok rfl rfl ?_
    replace h := bsome h; obtain ⟨⟨v105, g105_n100006_0_4_f0, g105_n100006_0_4_f1, g105_n100006_0_4_f2, g105_n100006_0_5_f0, g105_n100006_0_5_f1⟩, h, hg105⟩ := h
    replace h := ct rfl h
    refine wl_skip rfl rfl ?_
    refine wl_skip rfl rfl ?_
    refine wl_skip rfl rfl ?_
    refine wl_skip rfl rfl ?_
    refine wl_skip rfl rfl ?_
    simp only [Option.some.injEq, Prod.mk.injEq] at h
    obtain ⟨rfl, rfl, rfl, rfl, rfl, rfl⟩ := h
    have h := hg105; clear hg105; try dsimp only at h
    refine wl_pure (v := .bool true) tt_ok rfl rfl ?_
    refine wl_pure tt_ok rfl rfl ?_
    replace h := bsome h; obtain ⟨⟨v113, g113_n100006_0_4_f0, g113_n100006_0_4_f1, g113_n100006_0_4_f2, g113_n100006_0_5_f0, g113_n100006_0_5_f1⟩, h, hg113⟩ := h
    replace h := ct rfl h
    refine wl_skip rfl rfl ?_
    refine wl_skip rfl rfl ?_
    refine wl_skip rfl rfl ?_
    refine wl_skip rfl rfl ?_
    refine wl_skip rfl rfl ?_
    refine wl_skip rfl rfl ?_
    simp only [Option.some.injEq, Prod.mk.injEq] at h
    obtain ⟨rfl, rfl, rfl, rfl, rfl, rfl⟩ := h
    have h := hg113; clear hg113; try dsimp only at h
    refine wl_pure (v := .bool true) tt_ok rfl rfl ?_
    refine wl_nil (wx_then ?_)
    replace h := ct rfl h
    refine wc_cond_true rfl ?_
    refine wc_seq (wc_region ?_)
    refine wl_pure tt_ok rfl rfl ?_
    refine wl_nil (wx_then (wc_ret (wx_then_ret ?_)))
    simp only [Option.some.injEq] at h
    obtain rfl := h
    exact wx_pf tt_ok (.inl rfl) Tryd.results4 (Res.tmp rfl Res.nil) rfl
  replace h := cf hc h
  refine wl_run rfl ?_
  refine wl_pure tt_ok rfl rfl ?_
  refine wl_run rfl ?_
  refine wl_pure tt_ok rfl rfl ?_
  refine wl_run rfl ?_
  refine wl_pure (v := .agg #[.int .u8 (2 : Int), .int .u8 (6 : Int)]) tt_ok rfl rfl ?_
  refine wl_run rfl ?_
  refine wl_pure (v := .agg #[.int .u8 (2 : Int), .int .u8 (7 : Int)]) tt_ok rfl rfl ?_
  refine wl_run rfl ?_
  refine wl_chg (chg_bsv (enc := (e2 .u8)) (xs := ([((2 : Int), (6 : Int)), ((2 : Int), (7 : Int))] : List (Int × Int))) tt_ok rfl rfl rfl rfl rfl rfl rfl rfl (e2_len _)) rfl ?_
  rintro _ _ ⟨a74, n74_, c74, B74, rfl, N74, V74, rfl⟩
  replace h := bsome h; obtain ⟨⟨o75_1, o75_2, v75⟩, x75, h⟩ := h; try dsimp only at h
  refine wl_run rfl ?_
  refine wl_cs Tryd.call18 rfl rfl rfl (s_sp (k_hindcastlaw28_pairs (p0 := o100017_0) (p0_4 := o66_1) (p0_5 := o66_2) (p3 := ([((2 : Int), (6 : Int)), ((2 : Int), (7 : Int))] : List (Int × Int))) o100017_0N0 o100017_0V0 o100017_0N1 o100017_0V1 o66_1N0 o66_1V0 o66_2G0 o66_2A0 N74 (vec_cap V74) x75) (pCons (Sel.sa Sel.hc) (pApp (Sel.sa Sel.ha) (pApp (Sel.sa Sel.ha) (pCons (Sel.sa Sel.hc) (pApp (Sel.sa Sel.ha) (pCons (Sel.sa Sel.hc) (pApp (Sel.sa Sel.ha) (pCons (Sel.sa Sel.hc) pNil)))))))) (Rds.call (Rds.of_vec V74) (pCons (Sel.sa Sel.hc) (pApp (Sel.sa Sel.ha) (pApp (Sel.sa Sel.ha) (pCons (Sel.sa Sel.hc) (pApp (Sel.sa Sel.ha) (pCons (Sel.sa Sel.hc) (pApp (Sel.sa Sel.ha) (pCons (Sel.sa Sel.hc) pNil)))))))) ⟨_, Sel.ha⟩)) rfl ?_
  rintro _ _ ⟨_, ⟨o75_1a0, o75_1n0, o75_1c0, o75_1B0, o75_2g0, o75_2P0, o75_1N0, o75_1V0, o75_2G0, o75_2A0, rfl, rfl⟩, rfl⟩
  refine wl_run rfl ?_
  refine wl_pure (v := .bool (v75 != (1101 : Int))) tt_ok rfl rfl ?_
  simp only [Option.some.injEq, Prod.mk.injEq] at h
  obtain ⟨rfl, rfl, rfl, rfl, rfl, rfl⟩ := h
  have h := hg77; clear hg77; try dsimp only at h
  refine wl_pure (v := .bool (v75 != (1101 : Int))) tt_ok rfl rfl ?_
  refine wl_pure tt_ok rfl rfl ?_
  replace h := bsome h; obtain ⟨⟨v84, g84_n100006_0_4_f0, g84_n100006_0_4_f1, g84_n100006_0_4_f2, g84_n100006_0_5_f0, g84_n100006_0_5_f1⟩, h, hg84⟩ := h
  refine wl_split (t := 78) rfl (fun hc => ?_) (fun hc => ?_)
  · replace h := ct hc h
    refine wl_skip rfl rfl ?_
    refine wl_skip rfl rfl ?_
    refine wl_skip rfl rfl ?_
    refine wl_skip rfl rfl ?_
    refine wl_skip rfl rfl ?_
    simp only [Option.some.injEq, Prod.mk.injEq] at h
    obtain ⟨rfl, rfl, rfl, rfl, rfl, rfl⟩ := h
    have h := hg84; clear hg84; try dsimp only at h
    refine wl_pure (v := .bool true) tt_ok rfl rfl ?_
    refine wl_pure tt_ok rfl rfl ?_
    replace h := bsome h; obtain ⟨⟨v91, g91_n100006_0_4_f0, g91_n100006_0_4_f1, g91_n100006_0_4_f2, g91_n100006_0_5_f0, g91_n100006_0_5_f1⟩, h, hg91⟩ := h
    replace h := ct rfl h
    refine wl_skip rfl rfl ?_
    refine wl_skip rfl rfl ?_
    refine wl_skip rfl rfl ?_
    refine wl_skip rfl rfl ?_
    refine wl_skip rfl rfl ?_
    simp only [Option.some.injEq, Prod.mk.injEq] at h
    obtain ⟨rfl, rfl, rfl, rfl, rfl, rfl⟩ := h
    have h := hg91; clear hg91; try dsimp only at h
    refine wl_pure (v := .bool true) tt_ok rfl rfl ?_
    refine wl_pure tt_ok rfl rfl ?_
    replace h := bsome h; obtain ⟨⟨v98, g98_n100006_0_4_f0, g98_n100006_0_4_f1, g98_n100006_0_4_f2, g98_n100006_0_5_f0, g98_n100006_0_5_f1⟩, h, hg98⟩ := h
    replace h := ct rfl h
    refine wl_skip rfl rfl ?_
    refine wl_skip rfl rfl ?_
    refine wl_skip rfl rfl ?_
    refine wl_skip rfl rfl ?_
    refine wl_skip rfl rfl ?_
    simp only [Option.some.injEq, Prod.mk.injEq] at h
    obtain ⟨rfl, rfl, rfl, rfl, rfl, rfl⟩ := h
    have h := hg98; clear hg98; try dsimp only at h
    refine wl_pure (v := .bool true) tt_ok rfl rfl ?_
    refine wl_pure tt_ok rfl rfl ?_
    replace h := bsome h; obtain ⟨⟨v105, g105_n100006_0_4_f0, g105_n100006_0_4_f1, g105_n100006_0_4_f2, g105_n100006_0_5_f0, g105_n100006_0_5_f1⟩, h, hg105⟩ := h
    replace h := ct rfl h
    refine wl_skip rfl rfl ?_
    refine wl_skip rfl rfl ?_
    refine wl_skip rfl rfl ?_
    refine wl_skip rfl rfl ?_
    refine wl_skip rfl rfl ?_
    simp only [Option.some.injEq, Prod.mk.injEq] at h
    obtain ⟨rfl, rfl, rfl, rfl, rfl, rfl⟩ := h
    have h := hg105; clear hg105; try dsimp only at h
    refine wl_pure (v := .bool true) tt_ok rfl rfl ?_
    refine wl_pure tt_ok rfl rfl ?_
    replace h := bsome h; obtain ⟨⟨v113, g113_n100006_0_4_f0, g113_n100006_0_4_f1, g113_n100006_0_4_f2, g113_n100006_0_5_f0, g113_n100006_0_5_f1⟩, h, hg113⟩ := h
    replace h := ct rfl h
    refine wl_skip rfl rfl ?_
    refine wl_skip rfl rfl ?_
    refine wl_skip rfl rfl ?_
    refine wl_skip rfl rfl ?_
    refine wl_skip rfl rfl ?_
    refine wl_skip rfl rfl ?_
    simp only [Option.some.injEq, Prod.mk.injEq] at h
    obtain ⟨rfl, rfl, rfl, rfl, rfl, rfl⟩ := h
    have h := hg113; clear hg113; try dsimp only at h
    refine wl_pure (v := .bool true) tt_ok rfl rfl ?_
    refine wl_nil (wx_then ?_)
    replace h := ct rfl h
    refine wc_cond_true rfl ?_
    refine wc_seq (wc_region ?_)
    refine wl_pure tt_ok rfl rfl ?_
    refine wl_nil (wx_then (wc_ret (wx_then_ret ?_)))
    simp only [Option.some.injEq] at h
    obtain rfl := h
    exact wx_pf tt_ok (.inl rfl) Tryd.results4 (Res.tmp rfl Res.nil) rfl
  replace h := cf hc h
  refine wl_run rfl ?_
  refine wl_pure tt_ok rfl rfl ?_
  refine wl_run rfl ?_
  refine wl_pure tt_ok rfl rfl ?_
  refine wl_run rfl ?_
  refine wl_chg (chg_bsv (enc := (e1 .u8)) (xs := ([(1 : Int), (5 : Int), (6 : Int)] : List Int)) tt_ok rfl rfl rfl rfl rfl rfl rfl rfl (e1_len _)) rfl ?_
  rintro _ _ ⟨a81, n81_, c81, B81, rfl, N81, V81, rfl⟩
  replace h := bsome h; obtain ⟨⟨o82_1, o82_2, v82⟩, x82, h⟩ := h; try dsimp only at h
  refine wl_run rfl ?_
  refine wl_cs Tryd.call19 rfl rfl rfl (s_sp (k_hindcastlaw28_inputs (p0 := o100017_0) (p0_4 := o75_1) (p0_5 := o75_2) (p3 := ([(1 : Int), (5 : Int), (6 : Int)] : List Int)) o100017_0N0 o100017_0V0 o100017_0N1 o100017_0V1 o75_1N0 o75_1V0 o75_2G0 o75_2A0 N81 (vec_cap V81) x82) (pCons (Sel.sa Sel.hc) (pApp (Sel.sa Sel.ha) (pApp (Sel.sa Sel.ha) (pCons (Sel.sa Sel.hc) (pApp (Sel.sa Sel.ha) (pCons (Sel.sa Sel.hc) (pApp (Sel.sa Sel.ha) (pCons (Sel.sa Sel.hc) pNil)))))))) (Rds.call (Rds.of_vec V81) (pCons (Sel.sa Sel.hc) (pApp (Sel.sa Sel.ha) (pApp (Sel.sa Sel.ha) (pCons (Sel.sa Sel.hc) (pApp (Sel.sa Sel.ha) (pCons (Sel.sa Sel.hc) (pApp (Sel.sa Sel.ha) (pCons (Sel.sa Sel.hc) pNil)))))))) ⟨_, Sel.ha⟩)) rfl ?_
  rintro _ _ ⟨_, ⟨o82_1a0, o82_1n0, o82_1c0, o82_1B0, o82_2g0, o82_2P0, o82_1N0, o82_1V0, o82_2G0, o82_2A0, rfl, rfl⟩, rfl⟩
  refine wl_run rfl ?_
  refine wl_pure (v := .bool (v82 != (3 : Int))) tt_ok rfl rfl ?_
  simp only [Option.some.injEq, Prod.mk.injEq] at h
  obtain ⟨rfl, rfl, rfl, rfl, rfl, rfl⟩ := h
  have h := hg84; clear hg84; try dsimp only at h
  refine wl_pure (v := .bool (v82 != (3 : Int))) tt_ok rfl rfl ?_
  refine wl_pure tt_ok rfl rfl ?_
  replace h := bsome h; obtain ⟨⟨v91, g91_n100006_0_4_f0, g91_n100006_0_4_f1, g91_n100006_0_4_f2, g91_n100006_0_5_f0, g91_n100006_0_5_f1⟩, h, hg91⟩ := h
  refine wl_split (t := 85) rfl (fun hc => ?_) (fun hc => ?_)
  · replace h := ct hc h
    refine wl_skip rfl rfl ?_
    refine wl_skip rfl rfl ?_
    refine wl_skip rfl rfl ?_
    refine wl_skip rfl rfl ?_
    refine wl_skip rfl rfl ?_
    simp only [Option.some.injEq, Prod.mk.injEq] at h
    obtain ⟨rfl, rfl, rfl, rfl, rfl, rfl⟩ := h
    have h := hg91; clear hg91; try dsimp only at h
    refine wl_pure (v := .bool true) tt_ok rfl rfl ?_
    refine wl_pure tt_ok rfl rfl ?_
    replace h := bsome h; obtain ⟨⟨v98, g98_n100006_0_4_f0, g98_n100006_0_4_f1, g98_n100006_0_4_f2, g98_n100006_0_5_f0, g98_n100006_0_5_f1⟩, h, hg98⟩ := h
    replace h := ct rfl h
    refine wl_skip rfl rfl ?_
    refine wl_skip rfl rfl ?_
    refine wl_skip rfl rfl ?_
    refine wl_skip rfl rfl ?_
    refine wl_skip rfl rfl ?_
    simp only [Option.some.injEq, Prod.mk.injEq] at h
    obtain ⟨rfl, rfl, rfl, rfl, rfl, rfl⟩ := h
    have h := hg98; clear hg98; try dsimp only at h
    refine wl_pure (v := .bool true) tt_ok rfl rfl ?_
    refine wl_pure tt_ok rfl rfl ?_
    replace h := bsome h; obtain ⟨⟨v105, g105_n100006_0_4_f0, g105_n100006_0_4_f1, g105_n100006_0_4_f2, g105_n100006_0_5_f0, g105_n100006_0_5_f1⟩, h, hg105⟩ := h
    replace h := ct rfl h
    refine wl_skip rfl rfl ?_
    refine wl_skip rfl rfl ?_
    refine wl_skip rfl rfl ?_
    refine wl_skip rfl rfl ?_
    refine wl_skip rfl rfl ?_
    simp only [Option.some.injEq, Prod.mk.injEq] at h
    obtain ⟨rfl, rfl, rfl, rfl, rfl, rfl⟩ := h
    have h := hg105; clear hg105; try dsimp only at h
    refine wl_pure (v := .bool true) tt_ok rfl rfl ?_
    refine wl_pure tt_ok rfl rfl ?_
    replace h := bsome h; obtain ⟨⟨v113, g113_n100006_0_4_f0, g113_n100006_0_4_f1, g113_n100006_0_4_f2, g113_n100006_0_5_f0, g113_n100006_0_5_f1⟩, h, hg113⟩ := h
    replace h := ct rfl h
    refine wl_skip rfl rfl ?_
    refine wl_skip rfl rfl ?_
    refine wl_skip rfl rfl ?_
    refine wl_skip rfl rfl ?_
    refine wl_skip rfl rfl ?_
    refine wl_skip rfl rfl ?_
    simp only [Option.some.injEq, Prod.mk.injEq] at h
    obtain ⟨rfl, rfl, rfl, rfl, rfl, rfl⟩ := h
    have h := hg113; clear hg113; try dsimp only at h
    refine wl_pure (v := .bool true) tt_ok rfl rfl ?_
    refine wl_nil (wx_then ?_)
    replace h := ct rfl h
    refine wc_cond_true rfl ?_
    refine wc_seq (wc_region ?_)
    refine wl_pure tt_ok rfl rfl ?_
    refine wl_nil (wx_then (wc_ret (wx_then_ret ?_)))
    simp only [Option.some.injEq] at h
    obtain rfl := h
    exact wx_pf tt_ok (.inl rfl) Tryd.results4 (Res.tmp rfl Res.nil) rfl
  replace h := cf hc h
  refine wl_run rfl ?_
  refine wl_pure tt_ok rfl rfl ?_
  refine wl_run rfl ?_
  refine wl_pure tt_ok rfl rfl ?_
  refine wl_run rfl ?_
  refine wl_chg (chg_bsv (enc := (e1 .u8)) (xs := ([(2 : Int)] : List Int)) tt_ok rfl rfl rfl rfl rfl rfl rfl rfl (e1_len _)) rfl ?_
  rintro _ _ ⟨a88, n88_, c88, B88, rfl, N88, V88, rfl⟩
  replace h := bsome h; obtain ⟨⟨o89_1, o89_2, v89⟩, x89, h⟩ := h; try dsimp only at h
  refine wl_run rfl ?_
  refine wl_cs Tryd.call19 rfl rfl rfl (s_sp (k_hindcastlaw28_inputs (p0 := o100017_0) (p0_4 := o82_1) (p0_5 := o82_2) (p3 := ([(2 : Int)] : List Int)) o100017_0N0 o100017_0V0 o100017_0N1 o100017_0V1 o82_1N0 o82_1V0 o82_2G0 o82_2A0 N88 (vec_cap V88) x89) (pCons (Sel.sa Sel.hc) (pApp (Sel.sa Sel.ha) (pApp (Sel.sa Sel.ha) (pCons (Sel.sa Sel.hc) (pApp (Sel.sa Sel.ha) (pCons (Sel.sa Sel.hc) (pApp (Sel.sa Sel.ha) (pCons (Sel.sa Sel.hc) pNil)))))))) (Rds.call (Rds.of_vec V88) (pCons (Sel.sa Sel.hc) (pApp (Sel.sa Sel.ha) (pApp (Sel.sa Sel.ha) (pCons (Sel.sa Sel.hc) (pApp (Sel.sa Sel.ha) (pCons (Sel.sa Sel.hc) (pApp (Sel.sa Sel.ha) (pCons (Sel.sa Sel.hc) pNil)))))))) ⟨_, Sel.ha⟩)) rfl ?_
  rintro _ _ ⟨_, ⟨o89_1a0, o89_1n0, o89_1c0, o89_1B0, o89_2g0, o89_2P0, o89_1N0, o89_1V0, o89_2G0, o89_2A0, rfl, rfl⟩, rfl⟩
  refine wl_run rfl ?_
  refine wl_pure (v := .bool (v89 != (1400 : Int))) tt_ok rfl rfl ?_
  simp only [Option.some.injEq, Prod.mk.injEq] at h
  obtain ⟨rfl, rfl, rfl, rfl, rfl, rfl⟩ := h
  have h := hg91; clear hg91; try dsimp only at h
  refine wl_pure (v := .bool (v89 != (1400 : Int))) tt_ok rfl rfl ?_
  refine wl_pure tt_ok rfl rfl ?_
  replace h := bsome h; obtain ⟨⟨v98, g98_n100006_0_4_f0, g98_n100006_0_4_f1, g98_n100006_0_4_f2, g98_n100006_0_5_f0, g98_n100006_0_5_f1⟩, h, hg98⟩ := h
  refine wl_split (t := 92) rfl (fun hc => ?_) (fun hc => ?_)
  · replace h := ct hc h
    refine wl_skip rfl rfl ?_
    refine wl_skip rfl rfl ?_
    refine wl_skip rfl rfl ?_
    refine wl_skip rfl rfl ?_
    refine wl_skip rfl rfl ?_
    simp only [Option.some.injEq, Prod.mk.injEq] at h
    obtain ⟨rfl, rfl, rfl, rfl, rfl, rfl⟩ := h
    have h := hg98; clear hg98; try dsimp only at h
    refine wl_pure (v := .bool true) tt_ok rfl rfl ?_
    refine wl_pure tt_ok rfl rfl ?_
    replace h := bsome h; obtain ⟨⟨v105, g105_n100006_0_4_f0, g105_n100006_0_4_f1, g105_n100006_0_4_f2, g105_n100006_0_5_f0, g105_n100006_0_5_f1⟩, h, hg105⟩ := h
    replace h := ct rfl h
    refine wl_skip rfl rfl ?_
    refine wl_skip rfl rfl ?_
    refine wl_skip rfl rfl ?_
    refine wl_skip rfl rfl ?_
    refine wl_skip rfl rfl ?_
    simp only [Option.some.injEq, Prod.mk.injEq] at h
    obtain ⟨rfl, rfl, rfl, rfl, rfl, rfl⟩ := h
    have h := hg105; clear hg105; try dsimp only at h
    refine wl_pure (v := .bool true) tt_ok rfl rfl ?_
    refine wl_pure tt_ok rfl rfl ?_
    replace h := bsome h; obtain ⟨⟨v113, g113_n100006_0_4_f0, g113_n100006_0_4_f1, g113_n100006_0_4_f2, g113_n100006_0_5_f0, g113_n100006_0_5_f1⟩, h, hg113⟩ := h
    replace h := ct rfl h
    refine wl_skip rfl rfl ?_
    refine wl_skip rfl rfl ?_
    refine wl_skip rfl rfl ?_
    refine wl_skip rfl rfl ?_
    refine wl_skip rfl rfl ?_
    refine wl_skip rfl rfl ?_
    simp only [Option.some.injEq, Prod.mk.injEq] at h
    obtain ⟨rfl, rfl, rfl, rfl, rfl, rfl⟩ := h
    have h := hg113; clear hg113; try dsimp only at h
    refine wl_pure (v := .bool true) tt_ok rfl rfl ?_
    refine wl_nil (wx_then ?_)
    replace h := ct rfl h
    refine wc_cond_true rfl ?_
    refine wc_seq (wc_region ?_)
    refine wl_pure tt_ok rfl rfl ?_
    refine wl_nil (wx_then (wc_ret (wx_then_ret ?_)))
    simp only [Option.some.injEq] at h
    obtain rfl := h
    exact wx_pf tt_ok (.inl rfl) Tryd.results4 (Res.tmp rfl Res.nil) rfl
  replace h := cf hc h
  refine wl_run rfl ?_
  refine wl_pure tt_ok rfl rfl ?_
  refine wl_run rfl ?_
  refine wl_pure tt_ok rfl rfl ?_
  refine wl_run rfl ?_
  refine wl_chg (chg_bsv (enc := (e1 .u8)) (xs := ([(1 : Int)] : List Int)) tt_ok rfl rfl rfl rfl rfl rfl rfl rfl (e1_len _)) rfl ?_
  rintro _ _ ⟨a95, n95_, c95, B95, rfl, N95, V95, rfl⟩
  replace h := bsome h; obtain ⟨⟨o96_1, o96_2, v96⟩, x96, h⟩ := h; try dsimp only at h
  refine wl_run rfl ?_
  refine wl_cs Tryd.call19 rfl rfl rfl (s_sp (k_hindcastlaw28_inputs (p0 := o100017_0) (p0_4 := o89_1) (p0_5 := o89_2) (p3 := ([(1 : Int)] : List Int)) o100017_0N0 o100017_0V0 o100017_0N1 o100017_0V1 o89_1N0 o89_1V0 o89_2G0 o89_2A0 N95 (vec_cap V95) x96) (pCons (Sel.sa Sel.hc) (pApp (Sel.sa Sel.ha) (pApp (Sel.sa Sel.ha) (pCons (Sel.sa Sel.hc) (pApp (Sel.sa Sel.ha) (pCons (Sel.sa Sel.hc) (pApp (Sel.sa Sel.ha) (pCons (Sel.sa Sel.hc) pNil)))))))) (Rds.call (Rds.of_vec V95) (pCons (Sel.sa Sel.hc) (pApp (Sel.sa Sel.ha) (pApp (Sel.sa Sel.ha) (pCons (Sel.sa Sel.hc) (pApp (Sel.sa Sel.ha) (pCons (Sel.sa Sel.hc) (pApp (Sel.sa Sel.ha) (pCons (Sel.sa Sel.hc) pNil)))))))) ⟨_, Sel.ha⟩)) rfl ?_
  rintro _ _ ⟨_, ⟨o96_1a0, o96_1n0, o96_1c0, o96_1B0, o96_2g0, o96_2P0, o96_1N0, o96_1V0, o96_2G0, o96_2A0, rfl, rfl⟩, rfl⟩
  refine wl_run rfl ?_
  refine wl_pure (v := .bool (v96 != (1100 : Int))) tt_ok rfl rfl ?_
  simp only [Option.some.injEq, Prod.mk.injEq] at h
  obtain ⟨rfl, rfl, rfl, rfl, rfl, rfl⟩ := h
  have h := hg98; clear hg98; try dsimp only at h
  refine wl_pure (v := .bool (v96 != (1100 : Int))) tt_ok rfl rfl ?_
  refine wl_pure tt_ok rfl rfl ?_
  replace h := bsome h; obtain ⟨⟨v105, g105_n100006_0_4_f0, g105_n100006_0_4_f1, g105_n100006_0_4_f2, g105_n100006_0_5_f0, g105_n100006_0_5_f1⟩, h, hg105⟩ := h
  refine wl_split (t := 99) rfl (fun hc => ?_) (fun hc => ?_)
  · replace h := ct hc h
    refine wl_skip rfl rfl ?_
    refine wl_skip rfl rfl ?_
    refine wl_skip rfl rfl ?_
    refine wl_skip rfl rfl ?_
    refine wl_skip rfl rfl ?_
    simp only [Option.some.injEq, Prod.mk.injEq] at h
    obtain ⟨rfl, rfl, rfl, rfl, rfl, rfl⟩ := h
    have h := hg105; clear hg105; try dsimp only at h
    refine wl_pure (v := .bool true) tt_ok rfl rfl ?_
    refine wl_pure tt_ok rfl rfl ?_
    replace h := bsome h; obtain ⟨⟨v113, g113_n100006_0_4_f0, g113_n100006_0_4_f1, g113_n100006_0_4_f2, g113_n100006_0_5_f0, g113_n100006_0_5_f1⟩, h, hg113⟩ := h
    replace h := ct rfl h
    refine wl_skip rfl rfl ?_
    refine wl_skip rfl rfl ?_
    refine wl_skip rfl rfl ?_
    refine wl_skip rfl rfl ?_
    refine wl_skip rfl rfl ?_
    refine wl_skip rfl rfl ?_
    simp only [Option.some.injEq, Prod.mk.injEq] at h
    obtain ⟨rfl, rfl, rfl, rfl, rfl, rfl⟩ := h
    have h := hg113; clear hg113; try dsimp only at h
    refine wl_pure (v := .bool true) tt_ok rfl rfl ?_
    refine wl_nil (wx_then ?_)
    replace h := ct rfl h
    refine wc_cond_true rfl ?_
    refine wc_seq (wc_region ?_)
    refine wl_pure tt_ok rfl rfl ?_
    refine wl_nil (wx_then (wc_ret (wx_then_ret ?_)))
    simp only [Option.some.injEq] at h
    obtain rfl := h
    exact wx_pf tt_ok (.inl rfl) Tryd.results4 (Res.tmp rfl Res.nil) rfl
  replace h := cf hc h
  refine wl_run rfl ?_
  refine wl_pure tt_ok rfl rfl ?_
  refine wl_run rfl ?_
  refine wl_pure tt_ok rfl rfl ?_
  refine wl_run rfl ?_
  refine wl_chg (chg_bsv (enc := (e1 .u8)) (xs := ([(6 : Int)] : List Int)) tt_ok rfl rfl rfl rfl rfl rfl rfl rfl (e1_len _)) rfl ?_
  rintro _ _ ⟨a102, n102_, c102, B102, rfl, N102, V102, rfl⟩
  replace h := bsome h; obtain ⟨⟨o103_1, o103_2, v103⟩, x103, h⟩ := h; try dsimp only at h
  refine wl_run rfl ?_
  refine wl_cs Tryd.call19 rfl rfl rfl (s_sp (k_hindcastlaw28_inputs (p0 := o100017_0) (p0_4 := o96_1) (p0_5 := o96_2) (p3 := ([(6 : Int)] : List Int)) o100017_0N0 o100017_0V0 o100017_0N1 o100017_0V1 o96_1N0 o96_1V0 o96_2G0 o96_2A0 N102 (vec_cap V102) x103) (pCons (Sel.sa Sel.hc) (pApp (Sel.sa Sel.ha) (pApp (Sel.sa Sel.ha) (pCons (Sel.sa Sel.hc) (pApp (Sel.sa Sel.ha) (pCons (Sel.sa Sel.hc) (pApp (Sel.sa Sel.ha) (pCons (Sel.sa Sel.hc) pNil)))))))) (Rds.call (Rds.of_vec V102) (pCons (Sel.sa Sel.hc) (pApp (Sel.sa Sel.ha) (pApp (Sel.sa Sel.ha) (pCons (Sel.sa Sel.hc) (pApp (Sel.sa Sel.ha) (pCons (Sel.sa Sel.hc) (pApp (Sel.sa Sel.ha) (pCons (Sel.sa Sel.hc) pNil)))))))) ⟨_, Sel.ha⟩)) rfl ?_
  rintro _ _ ⟨_, ⟨o103_1a0, o103_1n0, o103_1c0, o103_1B0, o103_2g0, o103_2P0, o103_1N0, o103_1V0, o103_2G0, o103_2A0, rfl, rfl⟩, rfl⟩
  refine wl_run rfl ?_
  refine wl_pure (v := .bool (v103 != (1400 : Int))) tt_ok rfl rfl ?_
  simp only [Option.some.injEq, Prod.mk.injEq] at h
  obtain ⟨rfl, rfl, rfl, rfl, rfl, rfl⟩ := h
  have h := hg105; clear hg105; try dsimp only at h
  refine wl_pure (v := .bool (v103 != (1400 : Int))) tt_ok rfl rfl ?_
  refine wl_pure tt_ok rfl rfl ?_
  replace h := bsome h; obtain ⟨⟨v113, g113_n100006_0_4_f0, g113_n100006_0_4_f1, g113_n100006_0_4_f2, g113_n100006_0_5_f0, g113_n100006_0_5_f1⟩, h, hg113⟩ := h
  refine wl_split (t := 106) rfl (fun hc => ?_) (fun hc => ?_)
  · replace h := ct hc h
    refine wl_skip rfl rfl ?_
    refine wl_skip rfl rfl ?_
    refine wl_skip rfl rfl ?_
    refine wl_skip rfl rfl ?_
    refine wl_skip rfl rfl ?_
    refine wl_skip rfl rfl ?_
    simp only [Option.some.injEq, Prod.mk.injEq] at h
    obtain ⟨rfl, rfl, rfl, rfl, rfl, rfl⟩ := h
    have h := hg113; clear hg113; try dsimp only at h
    refine wl_pure (v := .bool true) tt_ok rfl rfl ?_
    refine wl_nil (wx_then ?_)
    replace h := ct rfl h
    refine wc_cond_true rfl ?_
    refine wc_seq (wc_region ?_)
    refine wl_pure tt_ok rfl rfl ?_
    refine wl_nil (wx_then (wc_ret (wx_then_ret ?_)))
    simp only [Option.some.injEq] at h
    obtain rfl := h
    exact wx_pf tt_ok (.inl rfl) Tryd.results4 (Res.tmp rfl Res.nil) rfl
  replace h := cf hc h
  refine wl_run rfl ?_
  refine wl_pure tt_ok rfl rfl ?_
  refine wl_run rfl ?_
  refine wl_pure tt_ok rfl rfl ?_
  refine wl_run rfl ?_
  refine wl_pure (v := .agg #[.int .u8 (2 : Int), .int .u8 (64 : Int)]) tt_ok rfl rfl ?_
  refine wl_run rfl ?_
  refine wl_chg (chg_bsv (enc := (e2 .u8)) (xs := ([((2 : Int), (64 : Int))] : List (Int × Int))) tt_ok rfl rfl rfl rfl rfl rfl rfl rfl (e2_len _)) rfl ?_
  rintro _ _ ⟨a110, n110_, c110, B110, rfl, N110, V110, rfl⟩
  replace h := bsome h; obtain ⟨⟨o111_1, o111_2, v111⟩, x111, h⟩ := h; try dsimp only at h
  refine wl_run rfl ?_
  refine wl_cs Tryd.call18 rfl rfl rfl (s_sp (k_hindcastlaw28_pairs (p0 := o100017_0) (p0_4 := o103_1) (p0_5 := o103_2) (p3 := ([((2 : Int), (64 : Int))] : List (Int × Int))) o100017_0N0 o100017_0V0 o100017_0N1 o100017_0V1 o103_1N0 o103_1V0 o103_2G0 o103_2A0 N110 (vec_cap V110) x111) (pCons (Sel.sa Sel.hc) (pApp (Sel.sa Sel.ha) (pApp (Sel.sa Sel.ha) (pCons (Sel.sa Sel.hc) (pApp (Sel.sa Sel.ha) (pCons (Sel.sa Sel.hc) (pApp (Sel.sa Sel.ha) (pCons (Sel.sa Sel.hc) pNil)))))))) (Rds.call (Rds.of_vec V110) (pCons (Sel.sa Sel.hc) (pApp (Sel.sa Sel.ha) (pApp (Sel.sa Sel.ha) (pCons (Sel.sa Sel.hc) (pApp (Sel.sa Sel.ha) (pCons (Sel.sa Sel.hc) (pApp (Sel.sa Sel.ha) (pCons (Sel.sa Sel.hc) pNil)))))))) ⟨_, Sel.ha⟩)) rfl ?_
  rintro _ _ ⟨_, ⟨o111_1a0, o111_1n0, o111_1c0, o111_1B0, o111_2g0, o111_2P0, o111_1N0, o111_1V0, o111_2G0, o111_2A0, rfl, rfl⟩, rfl⟩
  refine wl_run rfl ?_
  refine wl_pure (v := .bool (v111 != (200 : Int))) tt_ok rfl rfl ?_
  simp only [Option.some.injEq, Prod.mk.injEq] at h
  obtain ⟨rfl, rfl, rfl, rfl, rfl, rfl⟩ := h
  have h := hg113; clear hg113; try dsimp only at h
  refine wl_pure (v := .bool (v111 != (200 : Int))) tt_ok rfl rfl ?_
  refine wl_nil (wx_then ?_)
  refine wc_cond rfl (fun hc => ?_) (fun hc => ?_)
  · replace h := ct hc h
    refine wc_seq (wc_region ?_)
    refine wl_pure tt_ok rfl rfl ?_
    refine wl_nil (wx_then (wc_ret (wx_then_ret ?_)))
    simp only [Option.some.injEq] at h
    obtain rfl := h
    exact wx_pf tt_ok (.inl rfl) Tryd.results4 (Res.tmp rfl Res.nil) rfl
  replace h := cf hc h
  refine wc_skip (wx_then (wc_seq (wc_region ?_)))
  refine wl_pure tt_ok rfl rfl ?_
  replace h := bsome h; obtain ⟨o115_0, x115, h⟩ := h
  refine wl_cs Tryd.call20 rfl rfl rfl (s_sp (k_fold_History_Drop x115) (pCons (Sel.sc (Sel.sa (Sel.sa (Sel.sc (Sel.sa (Sel.sc (Sel.sa Sel.hc))))))) pNil) (fun _ _ => trivial)) rfl ?_
  rintro _ _ ⟨_, ⟨rfl, rfl⟩, rfl⟩
  refine wl_nil (wx_then (wc_seq (wc_region ?_)))
  refine wl_pure tt_ok rfl rfl ?_
  replace h := bsome h; obtain ⟨⟨v118_0, v118_1⟩, x118, h⟩ := h; try dsimp only at h
  refine wl_cq Tryd.call10 rfl rfl rfl (q_rd (k_backfill_Plan x118) (pCons Sel.hc pNil) (fun _ _ => trivial)) rfl ?_
  iterate 5 refine wl_pure tt_ok rfl rfl ?_
  refine wl_nil (wx_then (wc_seq (wc_region ?_)))
  refine wl_pure tt_ok rfl rfl ?_
  replace h := bsome h; obtain ⟨⟨v123_0, v123_1⟩, x123, h⟩ := h; try dsimp only at h
  refine wl_cq Tryd.call13 rfl rfl rfl (q_rd (k_backfill_Pairs_nil0 (p4 := ([] : List (Int × Int))) rfl (Nat.le_refl _) x123) (pCons Sel.hc pNil) (fun _ _ => Rds.nil)) rfl ?_
  iterate 5 refine wl_pure tt_ok rfl rfl ?_
  refine wl_nil (wx_then (wc_seq (wc_region ?_)))
  refine wl_pure tt_ok rfl rfl ?_
  replace h := bsome h; obtain ⟨⟨v128_0, v128_1⟩, x128, h⟩ := h; try dsimp only at h
  refine wl_cq Tryd.call21 rfl rfl rfl (q_rd (k_backfill_Inputs_nil1 (p0 := o100017_0) (p0_4 := o111_1) (p0_5 := o111_2) (p4 := ([] : List Int)) o100017_0N0 o100017_0V0 o100017_0N1 o100017_0V1 o111_1N0 o111_1V0 o111_2G0 o111_2A0 rfl (Nat.le_refl _) x128) (pCons (Sel.sc Sel.hc) (pApp (Sel.sc Sel.ha) (pApp (Sel.sc Sel.ha) (pCons (Sel.sc Sel.hc) (pApp (Sel.sc Sel.ha) (pCons (Sel.sc Sel.hc) (pApp (Sel.sc Sel.ha) pNil))))))) (fun _ _ => Rds.nil)) rfl ?_
  iterate 5 refine wl_pure tt_ok rfl rfl ?_
  refine wl_nil (wx_then (wc_seq (wc_region ?_)))
  iterate 2 refine wl_pure tt_ok rfl rfl ?_
  replace h := bsome h; obtain ⟨⟨o134_1, o134_2, v134_0, v134_1⟩, x134, h⟩ := h; try dsimp only at h
  refine wl_cs Tryd.call13 rfl rfl rfl (s_sp (k_backfill_Pairs (p0 := o100017_0) (p0_4 := o111_1) (p0_5 := o111_2) (p4 := ([] : List (Int × Int))) o100017_0N0 o100017_0V0 o100017_0N1 o100017_0V1 o111_1N0 o111_1V0 o111_2G0 o111_2A0 rfl (Nat.le_refl _) x134) (pCons (Sel.sc Sel.hc) (pApp (Sel.sc Sel.ha) (pApp (Sel.sc Sel.ha) (pCons (Sel.sc Sel.hc) (pApp (Sel.sc Sel.ha) (pCons (Sel.sc Sel.hc) (pApp (Sel.sc Sel.ha) (pCons Sel.hc pNil)))))))) (fun _ _ => Rds.nil)) rfl ?_
  rintro _ _ ⟨_, ⟨o134_1a0, o134_1n0, o134_1c0, o134_1B0, o134_2g0, o134_2P0, o134_1N0, o134_1V0, o134_2G0, o134_2A0, rfl, rfl⟩, rfl⟩
  iterate 5 refine wl_pure tt_ok rfl rfl ?_
  refine wl_nil (wx_then (wc_seq (wc_region ?_)))
  iterate 2 refine wl_pure tt_ok rfl rfl ?_
  refine wl_chg (chg_bsv (enc := (e1 .u8)) (xs := ([(1 : Int), (2 : Int)] : List Int)) tt_ok rfl rfl rfl rfl rfl rfl rfl rfl (e1_len _)) rfl ?_
  rintro _ _ ⟨a140, n140_, c140, B140, rfl, N140, V140, rfl⟩
  replace h := bsome h; obtain ⟨⟨o141_1, o141_2, v141_0, v141_1⟩, x141, h⟩ := h; try dsimp only at h
  refine wl_cs Tryd.call21 rfl rfl rfl (s_sp (k_backfill_Inputs (p0 := o100017_0) (p0_4 := o134_1) (p0_5 := o134_2) (p4 := ([(1 : Int), (2 : Int)] : List Int)) o100017_0N0 o100017_0V0 o100017_0N1 o100017_0V1 o134_1N0 o134_1V0 o134_2G0 o134_2A0 N140 (vec_cap V140) x141) (pCons (Sel.sa Sel.hc) (pApp (Sel.sa Sel.ha) (pApp (Sel.sa Sel.ha) (pCons (Sel.sa Sel.hc) (pApp (Sel.sa Sel.ha) (pCons (Sel.sa Sel.hc) (pApp (Sel.sa Sel.ha) (pCons (Sel.sa Sel.hc) pNil)))))))) (Rds.call (Rds.of_vec V140) (pCons (Sel.sa Sel.hc) (pApp (Sel.sa Sel.ha) (pApp (Sel.sa Sel.ha) (pCons (Sel.sa Sel.hc) (pApp (Sel.sa Sel.ha) (pCons (Sel.sa Sel.hc) (pApp (Sel.sa Sel.ha) (pCons (Sel.sa Sel.hc) pNil)))))))) ⟨_, Sel.ha⟩)) rfl ?_
  rintro _ _ ⟨_, ⟨o141_1a0, o141_1n0, o141_1c0, o141_1B0, o141_2g0, o141_2P0, o141_1N0, o141_1V0, o141_2G0, o141_2A0, rfl, rfl⟩, rfl⟩
  iterate 5 refine wl_pure tt_ok rfl rfl ?_
  refine wl_nil (wx_then (wc_seq (wc_region ?_)))
  replace h := bsome h; obtain ⟨⟨v145_0, v145_1⟩, x145, h⟩ := h; try dsimp only at h
  refine wl_cq Tryd.call10 rfl rfl rfl (q_pf (k_backfill_Plan_nil0 x145) (fun _ _ => trivial)) rfl ?_
  iterate 5 refine wl_pure tt_ok rfl rfl ?_
  refine wl_nil (wx_then (wc_seq (wc_region ?_)))
  refine wl_pure tt_ok rfl rfl ?_
  refine wl_pure (v := .bool (v118_0 == (0 : Int))) tt_ok rfl rfl ?_
  refine wl_pure tt_ok rfl rfl ?_
  replace h := bsome h; obtain ⟨v153, h, hg153⟩ := h
  refine wl_split (t := 150) rfl (fun hc => ?_) (fun hc => ?_)
  · replace h := ct hc h
    refine wl_run rfl ?_
    refine wl_pure tt_ok rfl rfl ?_
    refine wl_run rfl ?_
    refine wl_pure (v := .bool (v118_1 == (0 : Int))) tt_ok rfl rfl ?_
    simp only [Option.some.injEq, Prod.mk.injEq] at h
    obtain rfl := h
    have h := hg153; clear hg153
    refine wl_pure (v := .bool (v118_1 == (0 : Int))) tt_ok rfl rfl ?_
    refine wl_pure tt_ok rfl rfl ?_
    replace h := bsome h; obtain ⟨⟨v161, g161_n100006_0_4_f0, g161_n100006_0_4_f1, g161_n100006_0_4_f2, g161_n100006_0_5_f0, g161_n100006_0_5_f1⟩, h, hg161⟩ := h
    refine wl_split (t := 154) rfl (fun hc => ?_) (fun hc => ?_)
    · replace h := ct hc h
      refine wl_run rfl ?_
      refine wl_pure tt_ok rfl rfl ?_
      refine wl_run rfl ?_
      refine wl_pure tt_ok rfl rfl ?_
      refine wl_run rfl ?_
      refine wl_pure (v := .agg #[.int .u8 (9 : Int), .int .u8 (9 : Int)]) tt_ok rfl rfl ?_
      refine wl_run rfl ?_
      refine wl_chg (chg_bsv (enc := (e2 .u8)) (xs := ([((9 : Int), (9 : Int))] : List (Int × Int))) tt_ok rfl rfl rfl rfl rfl rfl rfl rfl (e2_len _)) rfl ?_
      rintro _ _ ⟨a158, n158_, c158, B158, rfl, N158, V158, rfl⟩
      replace h := bsome h; obtain ⟨⟨o159_1, o159_2, v159⟩, x159, h⟩ := h; try dsimp only at h
      refine wl_run rfl ?_
      refine wl_cs Tryd.call18 rfl rfl rfl (s_sp (k_hindcastlaw28_pairs (p0 := o100017_0) (p0_4 := o141_1) (p0_5 := o141_2) (p3 := ([((9 : Int), (9 : Int))] : List (Int × Int))) o100017_0N0 o100017_0V0 o100017_0N1 o100017_0V1 o141_1N0 o141_1V0 o141_2G0 o141_2A0 N158 (vec_cap V158) x159) (pCons (Sel.sa Sel.hc) (pApp (Sel.sa Sel.ha) (pApp (Sel.sa Sel.ha) (pCons (Sel.sa Sel.hc) (pApp (Sel.sa Sel.ha) (pCons (Sel.sa Sel.hc) (pApp (Sel.sa Sel.ha) (pCons (Sel.sa Sel.hc) pNil)))))))) (Rds.call (Rds.of_vec V158) (pCons (Sel.sa Sel.hc) (pApp (Sel.sa Sel.ha) (pApp (Sel.sa Sel.ha) (pCons (Sel.sa Sel.hc) (pApp (Sel.sa Sel.ha) (pCons (Sel.sa Sel.hc) (pApp (Sel.sa Sel.ha) (pCons (Sel.sa Sel.hc) pNil)))))))) ⟨_, Sel.ha⟩)) rfl ?_
      rintro _ _ ⟨_, ⟨o159_1a0, o159_1n0, o159_1c0, o159_1B0, o159_2g0, o159_2P0, o159_1N0, o159_1V0, o159_2G0, o159_2A0, rfl, rfl⟩, rfl⟩
      refine wl_run rfl ?_
      refine wl_pure (v := .bool (v159 == (1 : Int))) tt_ok rfl rfl ?_
      simp only [Option.some.injEq, Prod.mk.injEq] at h
      obtain ⟨rfl, rfl, rfl, rfl, rfl, rfl⟩ := h
      have h := hg161; clear hg161; try dsimp only at h
      refine wl_pure (v := .bool (v159 == (1 : Int))) tt_ok rfl rfl ?_
      refine wl_pure tt_ok rfl rfl ?_
      replace h := bsome h; obtain ⟨v165, h, hg165⟩ := h
      refine wl_split (t := 162) rfl (fun hc => ?_) (fun hc => ?_)
      · replace h := ct hc h
        refine wl_run rfl ?_
        refine wl_pure tt_ok rfl rfl ?_
        refine wl_run rfl ?_
        refine wl_pure (v := .bool (v123_1 == (1 : Int))) tt_ok rfl rfl ?_
        simp only [Option.some.injEq, Prod.mk.injEq] at h
        obtain rfl := h
        have h := hg165; clear hg165
        refine wl_pure (v := .bool (v123_1 == (1 : Int))) tt_ok rfl rfl ?_
        refine wl_pure tt_ok rfl rfl ?_
        replace h := bsome h; obtain ⟨v169, h, hg169⟩ := h
        refine wl_split (t := 166) rfl (fun hc => ?_) (fun hc => ?_)
        · replace h := ct hc h
          refine wl_run rfl ?_
          refine wl_pure tt_ok rfl rfl ?_
          refine wl_run rfl ?_
          refine wl_pure (v := .bool (v128_1 == (1 : Int))) tt_ok rfl rfl ?_
          simp only [Option.some.injEq, Prod.mk.injEq] at h
          obtain rfl := h
          have h := hg169; clear hg169
          refine wl_pure (v := .bool (v128_1 == (1 : Int))) tt_ok rfl rfl ?_
          refine wl_pure tt_ok rfl rfl ?_
          replace h := bsome h; obtain ⟨v173, h, hg173⟩ := h
          refine wl_split (t := 170) rfl (fun hc => ?_) (fun hc => ?_)
          · replace h := ct hc h
            refine wl_run rfl ?_
            refine wl_pure tt_ok rfl rfl ?_
            refine wl_run rfl ?_
            refine wl_pure (v := .bool (v134_1 == (2 : Int))) tt_ok rfl rfl ?_
            simp only [Option.some.injEq, Prod.mk.injEq] at h
            obtain rfl := h
            have h := hg173; clear hg173
            refine wl_pure (v := .bool (v134_1 == (2 : Int))) tt_ok rfl rfl ?_
            refine wl_pure tt_ok rfl rfl ?_
            replace h := bsome h; obtain ⟨v177, h, hg177⟩ := h
            refine wl_split (t := 174) rfl (fun hc => ?_) (fun hc => ?_)
            · replace h := ct hc h
              refine wl_run rfl ?_
              refine wl_pure tt_ok rfl rfl ?_
              refine wl_run rfl ?_
              refine wl_pure (v := .bool (v141_1 == (2 : Int))) tt_ok rfl rfl ?_
              simp only [Option.some.injEq, Prod.mk.injEq] at h
              obtain rfl := h
              have h := hg177; clear hg177
              refine wl_pure (v := .bool (v141_1 == (2 : Int))) tt_ok rfl rfl ?_
              refine wl_pure tt_ok rfl rfl ?_
              replace h := bsome h; obtain ⟨v181, h, hg181⟩ := h
              refine wl_split (t := 178) rfl (fun hc => ?_) (fun hc => ?_)
              · replace h := ct hc h
                refine wl_run rfl ?_
                refine wl_pure tt_ok rfl rfl ?_
                refine wl_run rfl ?_
                refine wl_pure (v := .bool (v145_1 == (0 : Int))) tt_ok rfl rfl ?_
                simp only [Option.some.injEq, Prod.mk.injEq] at h
                obtain rfl := h
                have h := hg181; clear hg181
                refine wl_pure (v := .bool (v145_1 == (0 : Int))) tt_ok rfl rfl ?_
                refine wl_pure tt_ok rfl rfl ?_
                replace h := bsome h; obtain ⟨v184, h, hg184⟩ := h
                refine wl_split (t := 182) rfl (fun hc => ?_) (fun hc => ?_)
                · replace h := ct hc h
                  replace h := bsome h; obtain ⟨v183, x183, h⟩ := h
                  refine wl_run rfl ?_
                  refine wl_cq Tryd.call5 rfl rfl rfl (q_pf (k_hindcastlaw28_works x183) (fun w hI => ⟨(Rds.call G0S pNil rsub_nil) w hI, (Rds.call G1S pNil rsub_nil) w hI⟩)) rfl ?_
                  simp only [Option.some.injEq, Prod.mk.injEq] at h
                  obtain rfl := h
                  have h := hg184; clear hg184
                  refine wl_pure (v := .bool v183) tt_ok rfl rfl ?_
                  refine wl_pure tt_ok rfl rfl ?_
                  refine wl_nil (wx_then (wc_ret ?_))
                  simp only [Option.some.injEq] at h
                  obtain rfl := h
                  exact wx_pf tt_ok (.inl rfl) Tryd.results4 (Res.tmp rfl Res.nil) rfl
                replace h := cf hc h
                refine wl_skip rfl rfl ?_
                simp only [Option.some.injEq, Prod.mk.injEq] at h
                obtain rfl := h
                have h := hg184; clear hg184
                refine wl_pure (v := .bool false) tt_ok rfl rfl ?_
                refine wl_pure tt_ok rfl rfl ?_
                refine wl_nil (wx_then (wc_ret ?_))
                simp only [Option.some.injEq] at h
                obtain rfl := h
                exact wx_pf tt_ok (.inl rfl) Tryd.results4 (Res.tmp rfl Res.nil) rfl
              replace h := cf hc h
              refine wl_skip rfl rfl ?_
              refine wl_skip rfl rfl ?_
              simp only [Option.some.injEq, Prod.mk.injEq] at h
              obtain rfl := h
              have h := hg181; clear hg181
              refine wl_pure (v := .bool false) tt_ok rfl rfl ?_
              refine wl_pure tt_ok rfl rfl ?_
              replace h := bsome h; obtain ⟨v184, h, hg184⟩ := h
              replace h := cf rfl h
              refine wl_skip rfl rfl ?_
              simp only [Option.some.injEq, Prod.mk.injEq] at h
              obtain rfl := h
              have h := hg184; clear hg184
              refine wl_pure (v := .bool false) tt_ok rfl rfl ?_
              refine wl_pure tt_ok rfl rfl ?_
              refine wl_nil (wx_then (wc_ret ?_))
              simp only [Option.some.injEq] at h
              obtain rfl := h
              exact wx_pf tt_ok (.inl rfl) Tryd.results4 (Res.tmp rfl Res.nil) rfl
            replace h := cf hc h
            refine wl_skip rfl rfl ?_
            refine wl_skip rfl rfl ?_
            simp only [Option.some.injEq, Prod.mk.injEq] at h
            obtain rfl := h
            have h := hg177; clear hg177
            refine wl_pure (v := .bool false) tt_ok rfl rfl ?_
            refine wl_pure tt_ok rfl rfl ?_
            replace h := bsome h; obtain ⟨v181, h, hg181⟩ := h
            replace h := cf rfl h
            refine wl_skip rfl rfl ?_
            refine wl_skip rfl rfl ?_
            simp only [Option.some.injEq, Prod.mk.injEq] at h
            obtain rfl := h
            have h := hg181; clear hg181
            refine wl_pure (v := .bool false) tt_ok rfl rfl ?_
            refine wl_pure tt_ok rfl rfl ?_
            replace h := bsome h; obtain ⟨v184, h, hg184⟩ := h
            replace h := cf rfl h
            refine wl_skip rfl rfl ?_
            simp only [Option.some.injEq, Prod.mk.injEq] at h
            obtain rfl := h
            have h := hg184; clear hg184
            refine wl_pure (v := .bool false) tt_ok rfl rfl ?_
            refine wl_pure tt_ok rfl rfl ?_
            refine wl_nil (wx_then (wc_ret ?_))
            simp only [Option.some.injEq] at h
            obtain rfl := h
            exact wx_pf tt_ok (.inl rfl) Tryd.results4 (Res.tmp rfl Res.nil) rfl
          replace h := cf hc h
          refine wl_skip rfl rfl ?_
          refine wl_skip rfl rfl ?_
          simp only [Option.some.injEq, Prod.mk.injEq] at h
          obtain rfl := h
          have h := hg173; clear hg173
          refine wl_pure (v := .bool false) tt_ok rfl rfl ?_
          refine wl_pure tt_ok rfl rfl ?_
          replace h := bsome h; obtain ⟨v177, h, hg177⟩ := h
          replace h := cf rfl h
          refine wl_skip rfl rfl ?_
          refine wl_skip rfl rfl ?_
          simp only [Option.some.injEq, Prod.mk.injEq] at h
          obtain rfl := h
          have h := hg177; clear hg177
          refine wl_pure (v := .bool false) tt_ok rfl rfl ?_
          refine wl_pure tt_ok rfl rfl ?_
          replace h := bsome h; obtain ⟨v181, h, hg181⟩ := h
          replace h := cf rfl h
          refine wl_skip rfl rfl ?_
          refine wl_skip rfl rfl ?_
          simp only [Option.some.injEq, Prod.mk.injEq] at h
          obtain rfl := h
          have h := hg181; clear hg181
          refine wl_pure (v := .bool false) tt_ok rfl rfl ?_
          refine wl_pure tt_ok rfl rfl ?_
          replace h := bsome h; obtain ⟨v184, h, hg184⟩ := h
          replace h := cf rfl h
          refine wl_skip rfl rfl ?_
          simp only [Option.some.injEq, Prod.mk.injEq] at h
          obtain rfl := h
          have h := hg184; clear hg184
          refine wl_pure (v := .bool false) tt_ok rfl rfl ?_
          refine wl_pure tt_ok rfl rfl ?_
          refine wl_nil (wx_then (wc_ret ?_))
          simp only [Option.some.injEq] at h
          obtain rfl := h
          exact wx_pf tt_ok (.inl rfl) Tryd.results4 (Res.tmp rfl Res.nil) rfl
        replace h := cf hc h
        refine wl_skip rfl rfl ?_
        refine wl_skip rfl rfl ?_
        simp only [Option.some.injEq, Prod.mk.injEq] at h
        obtain rfl := h
        have h := hg169; clear hg169
        refine wl_pure (v := .bool false) tt_ok rfl rfl ?_
        refine wl_pure tt_ok rfl rfl ?_
        replace h := bsome h; obtain ⟨v173, h, hg173⟩ := h
        replace h := cf rfl h
        refine wl_skip rfl rfl ?_
        refine wl_skip rfl rfl ?_
        simp only [Option.some.injEq, Prod.mk.injEq] at h
        obtain rfl := h
        have h := hg173; clear hg173
        refine wl_pure (v := .bool false) tt_ok rfl rfl ?_
        refine wl_pure tt_ok rfl rfl ?_
        replace h := bsome h; obtain ⟨v177, h, hg177⟩ := h
        replace h := cf rfl h
        refine wl_skip rfl rfl ?_
        refine wl_skip rfl rfl ?_
        simp only [Option.some.injEq, Prod.mk.injEq] at h
        obtain rfl := h
        have h := hg177; clear hg177
        refine wl_pure (v := .bool false) tt_ok rfl rfl ?_
        refine wl_pure tt_ok rfl rfl ?_
        replace h := bsome h; obtain ⟨v181, h, hg181⟩ := h
        replace h := cf rfl h
        refine wl_skip rfl rfl ?_
        refine wl_skip rfl rfl ?_
        simp only [Option.some.injEq, Prod.mk.injEq] at h
        obtain rfl := h
        have h := hg181; clear hg181
        refine wl_pure (v := .bool false) tt_ok rfl rfl ?_
        refine wl_pure tt_ok rfl rfl ?_
        replace h := bsome h; obtain ⟨v184, h, hg184⟩ := h
        replace h := cf rfl h
        refine wl_skip rfl rfl ?_
        simp only [Option.some.injEq, Prod.mk.injEq] at h
        obtain rfl := h
        have h := hg184; clear hg184
        refine wl_pure (v := .bool false) tt_ok rfl rfl ?_
        refine wl_pure tt_ok rfl rfl ?_
        refine wl_nil (wx_then (wc_ret ?_))
        simp only [Option.some.injEq] at h
        obtain rfl := h
        exact wx_pf tt_ok (.inl rfl) Tryd.results4 (Res.tmp rfl Res.nil) rfl
      replace h := cf hc h
      refine wl_skip rfl rfl ?_
      refine wl_skip rfl rfl ?_
      simp only [Option.some.injEq, Prod.mk.injEq] at h
      obtain rfl := h
      have h := hg165; clear hg165
      refine wl_pure (v := .bool false) tt_ok rfl rfl ?_
      refine wl_pure tt_ok rfl rfl ?_
      replace h := bsome h; obtain ⟨v169, h, hg169⟩ := h
      replace h := cf rfl h
      refine wl_skip rfl rfl ?_
      refine wl_skip rfl rfl ?_
      simp only [Option.some.injEq, Prod.mk.injEq] at h
      obtain rfl := h
      have h := hg169; clear hg169
      refine wl_pure (v := .bool false) tt_ok rfl rfl ?_
      refine wl_pure tt_ok rfl rfl ?_
      replace h := bsome h; obtain ⟨v173, h, hg173⟩ := h
      replace h := cf rfl h
      refine wl_skip rfl rfl ?_
      refine wl_skip rfl rfl ?_
      simp only [Option.some.injEq, Prod.mk.injEq] at h
      obtain rfl := h
      have h := hg173; clear hg173
      refine wl_pure (v := .bool false) tt_ok rfl rfl ?_
      refine wl_pure tt_ok rfl rfl ?_
      replace h := bsome h; obtain ⟨v177, h, hg177⟩ := h
      replace h := cf rfl h
      refine wl_skip rfl rfl ?_
      refine wl_skip rfl rfl ?_
      simp only [Option.some.injEq, Prod.mk.injEq] at h
      obtain rfl := h
      have h := hg177; clear hg177
      refine wl_pure (v := .bool false) tt_ok rfl rfl ?_
      refine wl_pure tt_ok rfl rfl ?_
      replace h := bsome h; obtain ⟨v181, h, hg181⟩ := h
      replace h := cf rfl h
      refine wl_skip rfl rfl ?_
      refine wl_skip rfl rfl ?_
      simp only [Option.some.injEq, Prod.mk.injEq] at h
      obtain rfl := h
      have h := hg181; clear hg181
      refine wl_pure (v := .bool false) tt_ok rfl rfl ?_
      refine wl_pure tt_ok rfl rfl ?_
      replace h := bsome h; obtain ⟨v184, h, hg184⟩ := h
      replace h := cf rfl h
      refine wl_skip rfl rfl ?_
      simp only [Option.some.injEq, Prod.mk.injEq] at h
      obtain rfl := h
      have h := hg184; clear hg184
      refine wl_pure (v := .bool false) tt_ok rfl rfl ?_
      refine wl_pure tt_ok rfl rfl ?_
      refine wl_nil (wx_then (wc_ret ?_))
      simp only [Option.some.injEq] at h
      obtain rfl := h
      exact wx_pf tt_ok (.inl rfl) Tryd.results4 (Res.tmp rfl Res.nil) rfl
    replace h := cf hc h
    refine wl_skip rfl rfl ?_
    refine wl_skip rfl rfl ?_
    refine wl_skip rfl rfl ?_
    refine wl_skip rfl rfl ?_
    refine wl_skip rfl rfl ?_
    refine wl_skip rfl rfl ?_
    simp only [Option.some.injEq, Prod.mk.injEq] at h
    obtain ⟨rfl, rfl, rfl, rfl, rfl, rfl⟩ := h
    have h := hg161; clear hg161; try dsimp only at h
    refine wl_pure (v := .bool false) tt_ok rfl rfl ?_
    refine wl_pure tt_ok rfl rfl ?_
    replace h := bsome h; obtain ⟨v165, h, hg165⟩ := h
    replace h := cf rfl h
    refine wl_skip rfl rfl ?_
    refine wl_skip rfl rfl ?_
    simp only [Option.some.injEq, Prod.mk.injEq] at h
    obtain rfl := h
    have h := hg165; clear hg165
    refine wl_pure (v := .bool false) tt_ok rfl rfl ?_
    refine wl_pure tt_ok rfl rfl ?_
    replace h := bsome h; obtain ⟨v169, h, hg169⟩ := h
    replace h := cf rfl h
    refine wl_skip rfl rfl ?_
    refine wl_skip rfl rfl ?_
    simp only [Option.some.injEq, Prod.mk.injEq] at h
    obtain rfl := h
    have h := hg169; clear hg169
    refine wl_pure (v := .bool false) tt_ok rfl rfl ?_
    refine wl_pure tt_ok rfl rfl ?_
    replace h := bsome h; obtain ⟨v173, h, hg173⟩ := h
    replace h := cf rfl h
    refine wl_skip rfl rfl ?_
    refine wl_skip rfl rfl ?_
    simp only [Option.some.injEq, Prod.mk.injEq] at h
    obtain rfl := h
    have h := hg173; clear hg173
    refine wl_pure (v := .bool false) tt_ok rfl rfl ?_
    refine wl_pure tt_ok rfl rfl ?_
    replace h := bsome h; obtain ⟨v177, h, hg177⟩ := h
    replace h := cf rfl h
    refine wl_skip rfl rfl ?_
    refine wl_skip rfl rfl ?_
    simp only [Option.some.injEq, Prod.mk.injEq] at h
    obtain rfl := h
    have h := hg177; clear hg177
    refine wl_pure (v := .bool false) tt_ok rfl rfl ?_
    refine wl_pure tt_ok rfl rfl ?_
    replace h := bsome h; obtain ⟨v181, h, hg181⟩ := h
    replace h := cf rfl h
    refine wl_skip rfl rfl ?_
    refine wl_skip rfl rfl ?_
    simp only [Option.some.injEq, Prod.mk.injEq] at h
    obtain rfl := h
    have h := hg181; clear hg181
    refine wl_pure (v := .bool false) tt_ok rfl rfl ?_
    refine wl_pure tt_ok rfl rfl ?_
    replace h := bsome h; obtain ⟨v184, h, hg184⟩ := h
    replace h := cf rfl h
    refine wl_skip rfl rfl ?_
    simp only [Option.some.injEq, Prod.mk.injEq] at h
    obtain rfl := h
    have h := hg184; clear hg184
    refine wl_pure (v := .bool false) tt_ok rfl rfl ?_
    refine wl_pure tt_ok rfl rfl ?_
    refine wl_nil (wx_then (wc_ret ?_))
    simp only [Option.some.injEq] at h
    obtain rfl := h
    exact wx_pf tt_ok (.inl rfl) Tryd.results4 (Res.tmp rfl Res.nil) rfl
  replace h := cf hc h
  refine wl_skip rfl rfl ?_
  refine wl_skip rfl rfl ?_
  simp only [Option.some.injEq, Prod.mk.injEq] at h
  obtain rfl := h
  have h := hg153; clear hg153
  refine wl_pure (v := .bool false) tt_ok rfl rfl ?_
  refine wl_pure tt_ok rfl rfl ?_
  replace h := bsome h; obtain ⟨⟨v161, g161_n100006_0_4_f0, g161_n100006_0_4_f1, g161_n100006_0_4_f2, g161_n100006_0_5_f0, g161_n100006_0_5_f1⟩, h, hg161⟩ := h
  replace h := cf rfl h
  refine wl_skip rfl rfl ?_
  refine wl_skip rfl rfl ?_
  refine wl_skip rfl rfl ?_
  refine wl_skip rfl rfl ?_
  refine wl_skip rfl rfl ?_
  refine wl_skip rfl rfl ?_
  simp only [Option.some.injEq, Prod.mk.injEq] at h
  obtain ⟨rfl, rfl, rfl, rfl, rfl, rfl⟩ := h
  have h := hg161; clear hg161; try dsimp only at h
  refine wl_pure (v := .bool false) tt_ok rfl rfl ?_
  refine wl_pure tt_ok rfl rfl ?_
  replace h := bsome h; obtain ⟨v165, h, hg165⟩ := h
  replace h := cf rfl h
  refine wl_skip rfl rfl ?_
  refine wl_skip rfl rfl ?_
  simp only [Option.some.injEq, Prod.mk.injEq] at h
  obtain rfl := h
  have h := hg165; clear hg165
  refine wl_pure (v := .bool false) tt_ok rfl rfl ?_
  refine wl_pure tt_ok rfl rfl ?_
  replace h := bsome h; obtain ⟨v169, h, hg169⟩ := h
  replace h := cf rfl h
  refine wl_skip rfl rfl ?_
  refine wl_skip rfl rfl ?_
  simp only [Option.some.injEq, Prod.mk.injEq] at h
  obtain rfl := h
  have h := hg169; clear hg169
  refine wl_pure (v := .bool false) tt_ok rfl rfl ?_
  refine wl_pure tt_ok rfl rfl ?_
  replace h := bsome h; obtain ⟨v173, h, hg173⟩ := h
  replace h := cf rfl h
  refine wl_skip rfl rfl ?_
  refine wl_skip rfl rfl ?_
  simp only [Option.some.injEq, Prod.mk.injEq] at h
  obtain rfl := h
  have h := hg173; clear hg173
  refine wl_pure (v := .bool false) tt_ok rfl rfl ?_
  refine wl_pure tt_ok rfl rfl ?_
  replace h := bsome h; obtain ⟨v177, h, hg177⟩ := h
  replace h := cf rfl h
  refine wl_skip rfl rfl ?_
  refine wl_skip rfl rfl ?_
  simp only [Option.some.injEq, Prod.mk.injEq] at h
  obtain rfl := h
  have h := hg177; clear hg177
  refine wl_pure (v := .bool false) tt_ok rfl rfl ?_
  refine wl_pure tt_ok rfl rfl ?_
  replace h := bsome h; obtain ⟨v181, h, hg181⟩ := h
  replace h := cf rfl h
  refine wl_skip rfl rfl ?_
  refine wl_skip rfl rfl ?_
  simp only [Option.some.injEq, Prod.mk.injEq] at h
  obtain rfl := h
  have h := hg181; clear hg181
  refine wl_pure (v := .bool false) tt_ok rfl rfl ?_
  refine wl_pure tt_ok rfl rfl ?_
  replace h := bsome h; obtain ⟨v184, h, hg184⟩ := h
  replace h := cf rfl h
  refine wl_skip rfl rfl ?_
  simp only [Option.some.injEq, Prod.mk.injEq] at h
  obtain rfl := h
  have h := hg184; clear hg184
  refine wl_pure (v := .bool false) tt_ok rfl rfl ?_
  refine wl_pure tt_ok rfl rfl ?_
  refine wl_nil (wx_then (wc_ret ?_))
  simp only [Option.some.injEq] at h
  obtain rfl := h
  exact wx_pf tt_ok (.inl rfl) Tryd.results4 (Res.tmp rfl Res.nil) rfl

end Go.Proofs.YtkdbpenjkcjimaaDoor
