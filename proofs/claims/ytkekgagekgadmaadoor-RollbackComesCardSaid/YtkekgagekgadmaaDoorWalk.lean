/-
  Each function computes what its model says. Printed by a program of this claim's own.
-/
import Derived.Test.YtkekgagekgadmaaDoorTab
import Derived.Test.YtkekgagekgadmaaDoorMod
import Derived.Test.YtkekgagekgadmaaDoorWalk3
namespace Go.Proofs.YtkekgagekgadmaaDoor
open Go.Proofs.YtkekgagekgadmaaDoor.Eng
set_option linter.unusedVariables false
set_option linter.unusedSimpArgs false
set_option maxHeartbeats 4000000
set_option maxRecDepth 20000

theorem k_hindcastlaw26_works {F : Nat} {r0 : Bool} (h : m_hindcastlaw26_works F = some r0) :
    Pf Tryd.prog 6 [] (fun w => Rds w [] [] (some ⟨0, 0, none⟩) (flat (fun _ : Unit => gl_state_playerBounds) [()]) ∧ Rds w [] [] (some ⟨1, 0, none⟩) (flat (fun _ : Unit => gl_state_shotBounds) [()])) (.bool r0) := by
  unfold m_hindcastlaw26_works at h
  refine pf_of_wc Tryd.func6 rfl Tryd.ntmps6 rfl rfl (fun w0 hR => ?_)
  obtain ⟨G0S, G1S⟩ := hR
  refine wc_seq (wc_region ?_)
  refine wl_pure tt_ok rfl rfl ?_
  refine wl_nil (wx_then (wc_seq (wc_region ?_)))
  replace h := bsome h; obtain ⟨v4, x4, h⟩ := h
  refine wl_cs Tryd.call8 rfl rfl rfl (s_sp (k_state_Start x4) pNil (fun _ _ => trivial)) rfl ?_
  rintro _ _ ⟨_, ⟨v4a0, v4n0, v4c0, v4B0, v4N0, v4V0, rfl, rfl⟩, rfl⟩
  replace h := bsome h; obtain ⟨v5, x5, h⟩ := h
  rcases v5 with _ | v5s
  · replace h := poN h
    refine wl_cs Tryd.call7 rfl rfl rfl (s_sp (k_rollback_New_none (p0 := v4) v4N0 (vec_cap v4V0) (own_Z v4V0) x5) pNil (fun w hI => ⟨(Rds.call (Rds.of_vec v4V0) pNil ⟨_, Sel.ha⟩) w hI, (Rds.call G0S pNil rsub_nil) w hI, (Rds.call G1S pNil rsub_nil) w hI⟩)) rfl ?_
    rintro _ _ ⟨_, ⟨rfl, rfl⟩, rfl⟩
    refine wl_pure tt_ok rfl rfl ?_
    refine wl_nil (wx_then (wc_seq (wc_seq (wc_region ?_))))
    refine wl_pure tt_ok rfl rfl ?_
    refine wl_pure (v := .bool true) tt_ok rfl rfl ?_
    refine wl_pure tt_ok rfl rfl ?_
    refine wl_skip rfl rfl ?_
    refine wl_skip rfl rfl ?_
    refine wl_skip rfl rfl ?_
    refine wl_pure (v := .bool true) tt_ok rfl rfl ?_
    refine wl_pure tt_ok rfl rfl ?_
    refine wl_skip rfl rfl ?_
    refine wl_skip rfl rfl ?_
    refine wl_skip rfl rfl ?_
    refine wl_pure (v := .bool true) tt_ok rfl rfl ?_
    refine wl_pure tt_ok rfl rfl ?_
    refine wl_skip rfl rfl ?_
    refine wl_skip rfl rfl ?_
    refine wl_skip rfl rfl ?_
    refine wl_pure (v := .bool true) tt_ok rfl rfl ?_
    refine wl_pure tt_ok rfl rfl ?_
    refine wl_skip rfl rfl ?_
    refine wl_skip rfl rfl ?_
    refine wl_skip rfl rfl ?_
    refine wl_skip rfl rfl ?_
    refine wl_skip rfl rfl ?_
    refine wl_skip rfl rfl ?_
    refine wl_pure (v := .bool true) tt_ok rfl rfl ?_
    refine wl_pure tt_ok rfl rfl ?_
    refine wl_skip rfl rfl ?_
    refine wl_skip rfl rfl ?_
    refine wl_skip rfl rfl ?_
    refine wl_pure (v := .bool true) tt_ok rfl rfl ?_
    refine wl_nil (wx_then ?_)
    refine wc_cond_true rfl ?_
    refine wc_seq (wc_region ?_)
    refine wl_pure tt_ok rfl rfl ?_
    refine wl_nil (wx_then (wc_ret (wx_then_ret ?_)))
    simp only [Option.some.injEq] at h
    obtain rfl := h
    exact wx_pf tt_ok (.inl rfl) Tryd.results6 (Res.tmp rfl Res.nil) rfl
  replace h := poS h
  refine wl_cs Tryd.call7 rfl rfl rfl (s_sp (k_rollback_New (p0 := v4) v4N0 (vec_cap v4V0) (own_Z v4V0) x5) pNil (fun w hI => ⟨(Rds.call (Rds.of_vec v4V0) pNil ⟨_, Sel.ha⟩) w hI, (Rds.call G0S pNil rsub_nil) w hI, (Rds.call G1S pNil rsub_nil) w hI⟩)) rfl ?_
  rintro _ _ ⟨_, ⟨b5_0, b5_0_4, b5_0_5, v5sa0, v5sn0, v5sc0, v5sB0, v5sa1, v5sn1, v5sc1, v5sB1, v5s_4a0, v5s_4n0, v5s_4c0, v5s_4B0, v5s_5g0, v5s_5P0, v5sN0, v5sV0, v5sN1, v5sV1, v5s_4N0, v5s_4V0, v5s_5G0, v5s_5A0, rfl, rfl⟩, rfl⟩
  refine wl_pure tt_ok rfl rfl ?_
  refine wl_nil (wx_then (wc_seq (wc_seq (wc_region ?_))))
  refine wl_pure tt_ok rfl rfl ?_
  refine wl_pure (v := .bool false) tt_ok rfl rfl ?_
  refine wl_pure tt_ok rfl rfl ?_
  refine wl_run rfl ?_
  refine wl_pure tt_ok rfl rfl ?_
  replace h := bsome h; obtain ⟨⟨o10_0, v10⟩, x10, h⟩ := h; try dsimp only at h
  refine wl_run rfl ?_
  refine wl_cs Tryd.call9 rfl rfl rfl (s_sp (k_rollback_Engine_Local (p0 := v5s.1) (p0_4 := v5s.2.1) (p0_5 := v5s.2.2) v5sN0 v5sV0 v5sN1 v5sV1 v5s_4N0 v5s_4V0 v5s_5G0 v5s_5A0 x10) (pCons Sel.hc (pApp Sel.ha (pApp Sel.ha (pCons Sel.hc (pApp Sel.ha (pCons Sel.hc (pApp Sel.ha pNil))))))) (fun _ _ => trivial)) rfl ?_
  rintro _ _ ⟨_, ⟨o10_0a0, o10_0n0, o10_0c0, o10_0B0, o10_0a1, o10_0n1, o10_0c1, o10_0B1, o10_0N0, o10_0V0, o10_0N1, o10_0V1, rfl, rfl⟩, rfl⟩
  refine wl_run rfl ?_
  refine wl_pure (v := .bool (v10 != (0 : Int))) tt_ok rfl rfl ?_
  refine wl_pure (v := .bool (v10 != (0 : Int))) tt_ok rfl rfl ?_
  refine wl_pure tt_ok rfl rfl ?_
  replace h := bsome h; obtain ⟨⟨v17, g17_n5_0_f0, g17_n5_0_f1, g17_n5_0_f2_0, g17_n5_0_f2_1, g17_n5_0_f2_2, g17_n5_0_f2_3, g17_n5_0_f2_4, g17_n5_0_f3⟩, h, hg17⟩ := h
  refine wl_split (t := 13) rfl (fun hc => ?_) (fun hc => ?_)
  · replace h := ct hc h
    refine wl_skip rfl rfl ?_
    refine wl_skip rfl rfl ?_
    refine wl_skip rfl rfl ?_
    simp only [Option.some.injEq, Prod.mk.injEq] at h
    obtain ⟨rfl, rfl, rfl, rfl, rfl, rfl, rfl, rfl, rfl⟩ := h
    have h := hg17; clear hg17; try dsimp only at h
    refine wl_pure (v := .bool true) tt_ok rfl rfl ?_
    refine wl_pure tt_ok rfl rfl ?_
    replace h := bsome h; obtain ⟨⟨v22, g22_n5_0_f0, g22_n5_0_f1, g22_n5_0_f2_0, g22_n5_0_f2_1, g22_n5_0_f2_2, g22_n5_0_f2_3, g22_n5_0_f2_4, g22_n5_0_f3⟩, h, hg22⟩ := h
    replace h := ct rfl h
    refine wl_skip rfl rfl ?_
    refine wl_skip rfl rfl ?_
    refine wl_skip rfl rfl ?_
    simp only [Option.some.injEq, Prod.mk.injEq] at h
    obtain ⟨rfl, rfl, rfl, rfl, rfl, rfl, rfl, rfl, rfl⟩ := h
    have h := hg22; clear hg22; try dsimp only at h
    refine wl_pure (v := .bool true) tt_ok rfl rfl ?_
    refine wl_pure tt_ok rfl rfl ?_
    replace h := bsome h; obtain ⟨⟨v30, g30_n5_0_5_f0, g30_n5_0_5_f1⟩, h, hg30⟩ := h
    replace h := ct rfl h
    refine wl_skip rfl rfl ?_
    refine wl_skip rfl rfl ?_
    refine wl_skip rfl rfl ?_
    refine wl_skip rfl rfl ?_
    refine wl_skip rfl rfl ?_
    refine wl_skip rfl rfl ?_
    simp only [Option.some.injEq, Prod.mk.injEq] at h
    obtain ⟨rfl, rfl, rfl⟩ := h
    have h := hg30; clear hg30; try dsimp only at h
    refine wl_pure (v := .bool true) tt_ok rfl rfl ?_
    refine wl_pure tt_ok rfl rfl ?_
    replace h := bsome h; obtain ⟨⟨v35, g35_n5_0_4_f0, g35_n5_0_4_f1, g35_n5_0_4_f2, g35_n5_0_5_f0, g35_n5_0_5_f1⟩, h, hg35⟩ := h
    replace h := ct rfl h
    refine wl_skip rfl rfl ?_
    refine wl_skip rfl rfl ?_
    refine wl_skip rfl rfl ?_
    simp only [Option.some.injEq, Prod.mk.injEq] at h
    obtain ⟨rfl, rfl, rfl, rfl, rfl, rfl⟩ := h
    have h := hg35; clear hg35; try dsimp only at h
    refine wl_pure (v := .bool true) tt_ok rfl rfl ?_
    refine wl_nil (wx_then ?_)
    replace h := ct rfl h
    refine wc_cond_true rfl ?_
    refine wc_seq (wc_region ?_)
    refine wl_pure tt_ok rfl rfl ?_
    refine wl_nil (wx_then (wc_ret (wx_then_ret ?_)))
    simp only [Option.some.injEq] at h
    obtain rfl := h
    exact wx_pf tt_ok (.inl rfl) Tryd.results6 (Res.tmp rfl Res.nil) rfl
  replace h := cf hc h
  refine wl_run rfl ?_
  refine wl_pure tt_ok rfl rfl ?_
  replace h := bsome h; obtain ⟨⟨o15_0, v15⟩, x15, h⟩ := h; try dsimp only at h
  refine wl_run rfl ?_
  refine wl_cs Tryd.call9 rfl rfl rfl (s_sp (k_rollback_Engine_Local (p0 := o10_0) (p0_4 := v5s.2.1) (p0_5 := v5s.2.2) o10_0N0 o10_0V0 o10_0N1 o10_0V1 v5s_4N0 v5s_4V0 v5s_5G0 v5s_5A0 x15) (pCons Sel.hc (pApp Sel.ha (pApp Sel.ha (pCons Sel.hc (pApp Sel.ha (pCons Sel.hc (pApp Sel.ha pNil))))))) (fun _ _ => trivial)) rfl ?_
  rintro _ _ ⟨_, ⟨o15_0a0, o15_0n0, o15_0c0, o15_0B0, o15_0a1, o15_0n1, o15_0c1, o15_0B1, o15_0N0, o15_0V0, o15_0N1, o15_0V1, rfl, rfl⟩, rfl⟩
  refine wl_run rfl ?_
  refine wl_pure (v := .bool (v15 != (0 : Int))) tt_ok rfl rfl ?_
  simp only [Option.some.injEq, Prod.mk.injEq] at h
  obtain ⟨rfl, rfl, rfl, rfl, rfl, rfl, rfl, rfl, rfl⟩ := h
  have h := hg17; clear hg17; try dsimp only at h
  refine wl_pure (v := .bool (v15 != (0 : Int))) tt_ok rfl rfl ?_
  refine wl_pure tt_ok rfl rfl ?_
  replace h := bsome h; obtain ⟨⟨v22, g22_n5_0_f0, g22_n5_0_f1, g22_n5_0_f2_0, g22_n5_0_f2_1, g22_n5_0_f2_2, g22_n5_0_f2_3, g22_n5_0_f2_4, g22_n5_0_f3⟩, h, hg22⟩ := h
  refine wl_split (t := 18) rfl (fun hc => ?_) (fun hc => ?_)
  · replace h := ct hc h
    refine wl_skip rfl rfl ?_
    refine wl_skip rfl rfl ?_
    refine wl_skip rfl rfl ?_
    simp only [Option.some.injEq, Prod.mk.injEq] at h
    obtain ⟨rfl, rfl, rfl, rfl, rfl, rfl, rfl, rfl, rfl⟩ := h
    have h := hg22; clear hg22; try dsimp only at h
    refine wl_pure (v := .bool true) tt_ok rfl rfl ?_
    refine wl_pure tt_ok rfl rfl ?_
    replace h := bsome h; obtain ⟨⟨v30, g30_n5_0_5_f0, g30_n5_0_5_f1⟩, h, hg30⟩ := h
    replace h := ct rfl h
    refine wl_skip rfl rfl ?_
    refine wl_skip rfl rfl ?_
    refine wl_skip rfl rfl ?_
    refine wl_skip rfl rfl ?_
    refine wl_skip rfl rfl ?_
    refine wl_skip rfl rfl ?_
    simp only [Option.some.injEq, Prod.mk.injEq] at h
    obtain ⟨rfl, rfl, rfl⟩ := h
    have h := hg30; clear hg30; try dsimp only at h
    refine wl_pure (v := .bool true) tt_ok rfl rfl ?_
    refine wl_pure tt_ok rfl rfl ?_
    replace h := bsome h; obtain ⟨⟨v35, g35_n5_0_4_f0, g35_n5_0_4_f1, g35_n5_0_4_f2, g35_n5_0_5_f0, g35_n5_0_5_f1⟩, h, hg35⟩ := h
    replace h := ct rfl h
    refine wl_skip rfl rfl ?_
    refine wl_skip rfl rfl ?_
    refine wl_skip rfl rfl ?_
    simp only [Option.some.injEq, Prod.mk.injEq] at h
    obtain ⟨rfl, rfl, rfl, rfl, rfl, rfl⟩ := h
    have h := hg35; clear hg35; try dsimp only at h
    refine wl_pure (v := .bool true) tt_ok rfl rfl ?_
    refine wl_nil (wx_then ?_)
    replace h := ct rfl h
    refine wc_cond_true rfl ?_
    refine wc_seq (wc_region ?_)
    refine wl_pure tt_ok rfl rfl ?_
    refine wl_nil (wx_then (wc_ret (wx_then_ret ?_)))
    simp only [Option.some.injEq] at h
    obtain rfl := h
    exact wx_pf tt_ok (.inl rfl) Tryd.results6 (Res.tmp rfl Res.nil) rfl
  replace h := cf hc h
  refine wl_run rfl ?_
  refine wl_pure tt_ok rfl rfl ?_
  replace h := bsome h; obtain ⟨⟨o20_0, v20⟩, x20, h⟩ := h; try dsimp only at h
  refine wl_run rfl ?_
  refine wl_cs Tryd.call9 rfl rfl rfl (s_sp (k_rollback_Engine_Local (p0 := o15_0) (p0_4 := v5s.2.1) (p0_5 := v5s.2.2) o15_0N0 o15_0V0 o15_0N1 o15_0V1 v5s_4N0 v5s_4V0 v5s_5G0 v5s_5A0 x20) (pCons Sel.hc (pApp Sel.ha (pApp Sel.ha (pCons Sel.hc (pApp Sel.ha (pCons Sel.hc (pApp Sel.ha pNil))))))) (fun _ _ => trivial)) rfl ?_
  rintro _ _ ⟨_, ⟨o20_0a0, o20_0n0, o20_0c0, o20_0B0, o20_0a1, o20_0n1, o20_0c1, o20_0B1, o20_0N0, o20_0V0, o20_0N1, o20_0V1, rfl, rfl⟩, rfl⟩
  refine wl_run rfl ?_
  refine wl_pure (v := .bool (v20 != (7 : Int))) tt_ok rfl rfl ?_
  simp only [Option.some.injEq, Prod.mk.injEq] at h
  obtain ⟨rfl, rfl, rfl, rfl, rfl, rfl, rfl, rfl, rfl⟩ := h
  have h := hg22; clear hg22; try dsimp only at h
  refine wl_pure (v := .bool (v20 != (7 : Int))) tt_ok rfl rfl ?_
  refine wl_pure tt_ok rfl rfl ?_
  replace h := bsome h; obtain ⟨⟨v30, g30_n5_0_5_f0, g30_n5_0_5_f1⟩, h, hg30⟩ := h
  refine wl_split (t := 23) rfl (fun hc => ?_) (fun hc => ?_)
  · replace h := ct hc h
    refine wl_skip rfl rfl ?_
    refine wl_skip rfl rfl ?_
    refine wl_skip rfl rfl ?_
    refine wl_skip rfl rfl ?_
    refine wl_skip rfl rfl ?_
    refine wl_skip rfl rfl ?_
    simp only [Option.some.injEq, Prod.mk.injEq] at h
    obtain ⟨rfl, rfl, rfl⟩ := h
    have h := hg30; clear hg30; try dsimp only at h
    refine wl_pure (v := .bool true) tt_ok rfl rfl ?_
    refine wl_pure tt_ok rfl rfl ?_
    replace h := bsome h; obtain ⟨⟨v35, g35_n5_0_4_f0, g35_n5_0_4_f1, g35_n5_0_4_f2, g35_n5_0_5_f0, g35_n5_0_5_f1⟩, h, hg35⟩ := h
    replace h := ct rfl h
    refine wl_skip rfl rfl ?_
    refine wl_skip rfl rfl ?_
    refine wl_skip rfl rfl ?_
    simp only [Option.some.injEq, Prod.mk.injEq] at h
    obtain ⟨rfl, rfl, rfl, rfl, rfl, rfl⟩ := h
    have h := hg35; clear hg35; try dsimp only at h
    refine wl_pure (v := .bool true) tt_ok rfl rfl ?_
    refine wl_nil (wx_then ?_)
    replace h := ct rfl h
    refine wc_cond_true rfl ?_
    refine wc_seq (wc_region ?_)
    refine wl_pure tt_ok rfl rfl ?_
    refine wl_nil (wx_then (wc_ret (wx_then_ret ?_)))
    simp only [Option.some.injEq] at h
    obtain rfl := h
    exact wx_pf tt_ok (.inl rfl) Tryd.results6 (Res.tmp rfl Res.nil) rfl
  replace h := cf hc h
  refine wl_run rfl ?_
  refine wl_pure tt_ok rfl rfl ?_
  replace h := bsome h; obtain ⟨⟨o25_2, v25⟩, x25, h⟩ := h; try dsimp only at h
  refine wl_run rfl ?_
  refine wl_cs Tryd.call11 rfl rfl rfl (s_sp (k_rollback_Engine_Shown (p0 := o20_0) (p0_4 := v5s.2.1) (p0_5 := v5s.2.2) o20_0N0 o20_0V0 o20_0N1 o20_0V1 v5s_4N0 v5s_4V0 v5s_5G0 v5s_5A0 x25) (pCons Sel.hc (pApp Sel.ha (pApp Sel.ha (pCons Sel.hc (pApp Sel.ha (pCons Sel.hc (pApp Sel.ha pNil))))))) (fun w hI => ⟨(Rds.call G0S (pCons Sel.hc (pApp Sel.ha (pApp Sel.ha (pCons Sel.hc (pApp Sel.ha (pCons Sel.hc (pApp Sel.ha pNil))))))) rsub_nil) w hI, (Rds.call G1S (pCons Sel.hc (pApp Sel.ha (pApp Sel.ha (pCons Sel.hc (pApp Sel.ha (pCons Sel.hc (pApp Sel.ha pNil))))))) rsub_nil) w hI⟩)) rfl ?_
  rintro _ _ ⟨_, ⟨o25_2g0, o25_2P0, v25a0, v25n0, v25c0, v25B0, o25_2G0, o25_2A0, v25N0, v25V0, rfl, rfl⟩, rfl⟩
  refine wl_run rfl ?_
  refine wl_pure (v := .agg #[.int .i32 v25.Players.1.X, .int .i32 v25.Players.1.Y, .int .i32 v25.Players.1.VX, .int .i32 v25.Players.1.VY, .int .u8 v25.Players.1.Health, .int .u8 v25.Players.1.Cool, .int .u8 v25.Players.1.Face, .int .i32 v25.Players.2.X, .int .i32 v25.Players.2.Y, .int .i32 v25.Players.2.VX, .int .i32 v25.Players.2.VY, .int .u8 v25.Players.2.Health, .int .u8 v25.Players.2.Cool, .int .u8 v25.Players.2.Face]) tt_ok rfl rfl ?_
  refine wl_run rfl ?_
  refine wl_pure (v := .agg #[.int .i32 v25.Players.1.X, .int .i32 v25.Players.1.Y, .int .i32 v25.Players.1.VX, .int .i32 v25.Players.1.VY, .int .u8 v25.Players.1.Health, .int .u8 v25.Players.1.Cool, .int .u8 v25.Players.1.Face]) tt_ok rfl rfl ?_
  refine wl_run rfl ?_
  refine wl_pure (v := .int .i32 v25.Players.1.X) tt_ok rfl rfl ?_
  refine wl_run rfl ?_
  refine wl_pure (v := .bool (v25.Players.1.X != (8384 : Int))) tt_ok rfl rfl ?_
  simp only [Option.some.injEq, Prod.mk.injEq] at h
  obtain ⟨rfl, rfl, rfl⟩ := h
  have h := hg30; clear hg30; try dsimp only at h
  refine wl_pure (v := .bool (v25.Players.1.X != (8384 : Int))) tt_ok rfl rfl ?_
  refine wl_pure tt_ok rfl rfl ?_
  replace h := bsome h; obtain ⟨⟨v35, g35_n5_0_4_f0, g35_n5_0_4_f1, g35_n5_0_4_f2, g35_n5_0_5_f0, g35_n5_0_5_f1⟩, h, hg35⟩ := h
  refine wl_split (t := 31) rfl (fun hc => ?_) (fun hc => ?_)
  · replace h := ct hc h
    refine wl_skip rfl rfl ?_
    refine wl_skip rfl rfl ?_
    refine wl_skip rfl rfl ?_
    simp only [Option.some.injEq, Prod.mk.injEq] at h
    obtain ⟨rfl, rfl, rfl, rfl, rfl, rfl⟩ := h
    have h := hg35; clear hg35; try dsimp only at h
    refine wl_pure (v := .bool true) tt_ok rfl rfl ?_
    refine wl_nil (wx_then ?_)
    replace h := ct rfl h
    refine wc_cond_true rfl ?_
    refine wc_seq (wc_region ?_)
    refine wl_pure tt_ok rfl rfl ?_
    refine wl_nil (wx_then (wc_ret (wx_then_ret ?_)))
    simp only [Option.some.injEq] at h
    obtain rfl := h
    exact wx_pf tt_ok (.inl rfl) Tryd.results6 (Res.tmp rfl Res.nil) rfl
  replace h := cf hc h
  refine wl_run rfl ?_
  refine wl_pure tt_ok rfl rfl ?_
  replace h := bsome h; obtain ⟨⟨o33_1, o33_2, v33⟩, x33, h⟩ := h; try dsimp only at h
  refine wl_run rfl ?_
  refine wl_cs Tryd.call12 rfl rfl rfl (s_sp (k_rollback_Engine_Remote (p0 := o20_0) (p0_4 := v5s.2.1) (p0_5 := o25_2) o20_0N0 o20_0V0 o20_0N1 o20_0V1 v5s_4N0 v5s_4V0 o25_2G0 o25_2A0 x33) (pCons Sel.hc (pApp Sel.ha (pApp Sel.ha (pCons Sel.hc (pApp Sel.ha (pCons Sel.hc (pApp Sel.ha pNil))))))) (fun _ _ => trivial)) rfl ?_
  rintro _ _ ⟨_, ⟨o33_1a0, o33_1n0, o33_1c0, o33_1B0, o33_2g0, o33_2P0, o33_1N0, o33_1V0, o33_2G0, o33_2A0, rfl, rfl⟩, rfl⟩
  refine wl_run rfl ?_
  refine wl_pure (v := .bool (v33 != (0 : Int))) tt_ok rfl rfl ?_
  simp only [Option.some.injEq, Prod.mk.injEq] at h
  obtain ⟨rfl, rfl, rfl, rfl, rfl, rfl⟩ := h
  have h := hg35; clear hg35; try dsimp only at h
  refine wl_pure (v := .bool (v33 != (0 : Int))) tt_ok rfl rfl ?_
  refine wl_nil (wx_then ?_)
  refine wc_cond rfl (fun hc => ?_) (fun hc => ?_)
  · replace h := ct hc h
    refine wc_seq (wc_region ?_)
    refine wl_pure tt_ok rfl rfl ?_
    refine wl_nil (wx_then (wc_ret (wx_then_ret ?_)))
    simp only [Option.some.injEq] at h
    obtain rfl := h
    exact wx_pf tt_ok (.inl rfl) Tryd.results6 (Res.tmp rfl Res.nil) rfl
  replace h := cf hc h
  refine wc_skip (wx_then (wc_seq (wc_region ?_)))
  refine wl_pure tt_ok rfl rfl ?_
  replace h := bsome h; obtain ⟨⟨o38_0, o38_1, o38_2, v38_0, v38_1⟩, x38, h⟩ := h; try dsimp only at h
  refine wl_cs Tryd.call13 rfl rfl rfl (s_sp (k_rollback_Engine_Confirm (p0 := o20_0) (p0_4 := o33_1) (p0_5 := o33_2) o20_0N0 o20_0V0 o20_0N1 o20_0V1 o33_1N0 o33_1V0 o33_2G0 o33_2A0 x38) (pCons Sel.hc (pApp Sel.ha (pApp Sel.ha (pCons Sel.hc (pApp Sel.ha (pCons Sel.hc (pApp Sel.ha pNil))))))) (fun w hI => ⟨(Rds.call G0S (pCons Sel.hc (pApp Sel.ha (pApp Sel.ha (pCons Sel.hc (pApp Sel.ha (pCons Sel.hc (pApp Sel.ha pNil))))))) rsub_nil) w hI, (Rds.call G1S (pCons Sel.hc (pApp Sel.ha (pApp Sel.ha (pCons Sel.hc (pApp Sel.ha (pCons Sel.hc (pApp Sel.ha pNil))))))) rsub_nil) w hI⟩)) rfl ?_
  rintro _ _ ⟨_, ⟨o38_0a0, o38_0n0, o38_0c0, o38_0B0, o38_0a1, o38_0n1, o38_0c1, o38_0B1, o38_1a0, o38_1n0, o38_1c0, o38_1B0, o38_2g0, o38_2P0, o38_0N0, o38_0V0, o38_0N1, o38_0V1, o38_1N0, o38_1V0, o38_2G0, o38_2A0, rfl, rfl⟩, rfl⟩
  iterate 3 refine wl_pure tt_ok rfl rfl ?_
  refine wl_alloc tt_ok rfl rfl (fun b2 => ?_)
  apply wl_store tt_ok; rfl; exact Upd.here; rfl; rfl; rfl; rfl; rfl; rfl
  refine wl_pure tt_ok rfl rfl ?_
  refine wl_nil (wx_then (wc_seq (wc_region ?_)))
  refine wl_pure tt_ok rfl rfl ?_
  replace h := bsome h; obtain ⟨⟨o42_2, v42⟩, x42, h⟩ := h; try dsimp only at h
  refine wl_cs Tryd.call11 rfl rfl rfl (s_sp (k_rollback_Engine_Shown (p0 := o38_0) (p0_4 := o38_1) (p0_5 := o38_2) o38_0N0 o38_0V0 o38_0N1 o38_0V1 o38_1N0 o38_1V0 o38_2G0 o38_2A0 x42) (pCons (Sel.sc Sel.hc) (pApp (Sel.sc Sel.ha) (pApp (Sel.sc Sel.ha) (pCons (Sel.sc Sel.hc) (pApp (Sel.sc Sel.ha) (pCons (Sel.sc Sel.hc) (pApp (Sel.sc Sel.ha) pNil))))))) (fun w hI => ⟨(Rds.call G0S (pCons (Sel.sc Sel.hc) (pApp (Sel.sc Sel.ha) (pApp (Sel.sc Sel.ha) (pCons (Sel.sc Sel.hc) (pApp (Sel.sc Sel.ha) (pCons (Sel.sc Sel.hc) (pApp (Sel.sc Sel.ha) pNil))))))) rsub_nil) w hI, (Rds.call G1S (pCons (Sel.sc Sel.hc) (pApp (Sel.sc Sel.ha) (pApp (Sel.sc Sel.ha) (pCons (Sel.sc Sel.hc) (pApp (Sel.sc Sel.ha) (pCons (Sel.sc Sel.hc) (pApp (Sel.sc Sel.ha) pNil))))))) rsub_nil) w hI⟩)) rfl ?_
  rintro _ _ ⟨_, ⟨o42_2g0, o42_2P0, v42a0, v42n0, v42c0, v42B0, o42_2G0, o42_2A0, v42N0, v42V0, rfl, rfl⟩, rfl⟩
  refine wl_pure (v := .agg #[.int .i32 v42.Players.1.X, .int .i32 v42.Players.1.Y, .int .i32 v42.Players.1.VX, .int .i32 v42.Players.1.VY, .int .u8 v42.Players.1.Health, .int .u8 v42.Players.1.Cool, .int .u8 v42.Players.1.Face, .int .i32 v42.Players.2.X, .int .i32 v42.Players.2.Y, .int .i32 v42.Players.2.VX, .int .i32 v42.Players.2.VY, .int .u8 v42.Players.2.Health, .int .u8 v42.Players.2.Cool, .int .u8 v42.Players.2.Face]) tt_ok rfl rfl ?_
  refine wl_pure (v := .agg #[.int .i32 v42.Players.2.X, .int .i32 v42.Players.2.Y, .int .i32 v42.Players.2.VX, .int .i32 v42.Players.2.VY, .int .u8 v42.Players.2.Health, .int .u8 v42.Players.2.Cool, .int .u8 v42.Players.2.Face]) tt_ok rfl rfl ?_
  refine wl_pure (v := .int .i32 v42.Players.2.VX) tt_ok rfl rfl ?_
  refine wl_pure (v := .bool (v42.Players.2.VX == (-128 : Int))) tt_ok rfl rfl ?_
  refine wl_pure tt_ok rfl rfl ?_
  replace h := bsome h; obtain ⟨v49, h, hg49⟩ := h
  refine wl_split (t := 47) rfl (fun hc => ?_) (fun hc => ?_)
  · replace h := ct hc h
    refine wl_run rfl ?_
    refine wl_pure tt_ok rfl rfl ?_
    simp only [Option.some.injEq, Prod.mk.injEq] at h
    obtain rfl := h
    have h := hg49; clear hg49
    refine wl_pure (v := .bool v38_1) tt_ok rfl rfl ?_
    refine wl_pure tt_ok rfl rfl ?_
    replace h := bsome h; obtain ⟨v54, h, hg54⟩ := h
    refine wl_split (t := 50) rfl (fun hc => ?_) (fun hc => ?_)
    · replace h := ct hc h
      refine wl_run rfl ?_
      refine wl_val (v := .agg #[.int .u8 v38_0.1, .int .u8 v38_0.2]) (val_load tt_ok rfl (List.Mem.tail _ (mR (mR (List.Mem.tail _ (mR (List.Mem.tail _ (mR (mR (List.Mem.head _))))))))) rfl) rfl ?_
      refine wl_run rfl ?_
      refine wl_pure (v := .agg #[.int .u8 (2 : Int), .int .u8 (1 : Int)]) tt_ok rfl rfl ?_
      refine wl_run rfl ?_
      refine wl_val (v := .bool ((v38_0.1 == (2 : Int)) && (v38_0.2 == (1 : Int)))) (val_eqs tt_ok tt_eq tt_one Tryd.eqGuardType45 rfl rfl rfl rfl rfl) rfl ?_
      simp only [Option.some.injEq, Prod.mk.injEq] at h
      obtain rfl := h
      have h := hg54; clear hg54
      refine wl_pure (v := .bool ((v38_0.1 == (2 : Int)) && (v38_0.2 == (1 : Int)))) tt_ok rfl rfl ?_
      refine wl_pure tt_ok rfl rfl ?_
      replace h := bsome h; obtain ⟨v59, h, hg59⟩ := h
      refine wl_split (t := 55) rfl (fun hc => ?_) (fun hc => ?_)
      · replace h := ct hc h
        refine wl_run rfl ?_
        refine wl_pure tt_ok rfl rfl ?_
        replace h := bsome h; obtain ⟨v57, x57, h⟩ := h
        refine wl_run rfl ?_
        refine wl_cq Tryd.call16 rfl rfl rfl (q_rd (k_rollback_Engine_C (p0 := o38_0) (p0_4 := o38_1) (p0_5 := o42_2) o38_0N0 o38_0V0 o38_0N1 o38_0V1 o38_1N0 o38_1V0 o42_2G0 o42_2A0 x57) (pCons Sel.hc (pApp Sel.ha (pApp Sel.ha (pCons Sel.hc (pApp Sel.ha (pCons Sel.hc (pApp Sel.ha pNil))))))) (fun _ _ => trivial)) rfl ?_
        refine wl_run rfl ?_
        refine wl_pure (v := .bool (v57 == (1 : Int))) tt_ok rfl rfl ?_
        simp only [Option.some.injEq, Prod.mk.injEq] at h
        obtain rfl := h
        have h := hg59; clear hg59
        refine wl_pure (v := .bool (v57 == (1 : Int))) tt_ok rfl rfl ?_
        refine wl_pure tt_ok rfl rfl ?_
        replace h := bsome h; obtain ⟨v64, h, hg64⟩ := h
        refine wl_split (t := 60) rfl (fun hc => ?_) (fun hc => ?_)
        · replace h := ct hc h
          refine wl_run rfl ?_
          refine wl_pure tt_ok rfl rfl ?_
          replace h := bsome h; obtain ⟨v62, x62, h⟩ := h
          refine wl_run rfl ?_
          refine wl_cq Tryd.call17 rfl rfl rfl (q_rd (k_rollback_Engine_T (p0 := o38_0) (p0_4 := o38_1) (p0_5 := o42_2) o38_0N0 o38_0V0 o38_0N1 o38_0V1 o38_1N0 o38_1V0 o42_2G0 o42_2A0 x62) (pCons Sel.hc (pApp Sel.ha (pApp Sel.ha (pCons Sel.hc (pApp Sel.ha (pCons Sel.hc (pApp Sel.ha pNil))))))) (fun _ _ => trivial)) rfl ?_
          refine wl_run rfl ?_
          refine wl_pure (v := .bool (v62 == (2 : Int))) tt_ok rfl rfl ?_
          simp only [Option.some.injEq, Prod.mk.injEq] at h
          obtain rfl := h
          have h := hg64; clear hg64
          refine wl_pure (v := .bool (v62 == (2 : Int))) tt_ok rfl rfl ?_
          refine wl_pure tt_ok rfl rfl ?_
          refine wl_nil (wx_then (wc_ret ?_))
          simp only [Option.some.injEq] at h
          obtain rfl := h
          exact wx_pf tt_ok (.inl rfl) Tryd.results6 (Res.tmp rfl Res.nil) rfl
        replace h := cf hc h
        refine wl_skip rfl rfl ?_
        refine wl_skip rfl rfl ?_
        refine wl_skip rfl rfl ?_
        simp only [Option.some.injEq, Prod.mk.injEq] at h
        obtain rfl := h
        have h := hg64; clear hg64
        refine wl_pure (v := .bool false) tt_ok rfl rfl ?_
        refine wl_pure tt_ok rfl rfl ?_
        refine wl_nil (wx_then (wc_ret ?_))
        simp only [Option.some.injEq] at h
        obtain rfl := h
        exact wx_pf tt_ok (.inl rfl) Tryd.results6 (Res.tmp rfl Res.nil) rfl
      replace h := cf hc h
      refine wl_skip rfl rfl ?_
      refine wl_skip rfl rfl ?_
      refine wl_skip rfl rfl ?_
      simp only [Option.some.injEq, Prod.mk.injEq] at h
      obtain rfl := h
      have h := hg59; clear hg59
      refine wl_pure (v := .bool false) tt_ok rfl rfl ?_
      refine wl_pure tt_ok rfl rfl ?_
      replace h := bsome h; obtain ⟨v64, h, hg64⟩ := h
      replace h := cf rfl h
      refine wl_skip rfl rfl ?_
      refine wl_skip rfl rfl ?_
      refine wl_skip rfl rfl ?_
      simp only [Option.some.injEq, Prod.mk.injEq] at h
      obtain rfl := h
      have h := hg64; clear hg64
      refine wl_pure (v := .bool false) tt_ok rfl rfl ?_
      refine wl_pure tt_ok rfl rfl ?_
      refine wl_nil (wx_then (wc_ret ?_))
      simp only [Option.some.injEq] at h
      obtain rfl := h
      exact wx_pf tt_ok (.inl rfl) Tryd.results6 (Res.tmp rfl Res.nil) rfl
    replace h := cf hc h
    refine wl_skip rfl rfl ?_
    refine wl_skip rfl rfl ?_
    refine wl_skip rfl rfl ?_
    simp only [Option.some.injEq, Prod.mk.injEq] at h
    obtain rfl := h
    have h := hg54; clear hg54
    refine wl_pure (v := .bool false) tt_ok rfl rfl ?_
    refine wl_pure tt_ok rfl rfl ?_
    replace h := bsome h; obtain ⟨v59, h, hg59⟩ := h
    replace h := cf rfl h
    refine wl_skip rfl rfl ?_
    refine wl_skip rfl rfl ?_
    refine wl_skip rfl rfl ?_
    simp only [Option.some.injEq, Prod.mk.injEq] at h
    obtain rfl := h
    have h := hg59; clear hg59
    refine wl_pure (v := .bool false) tt_ok rfl rfl ?_
    refine wl_pure tt_ok rfl rfl ?_
    replace h := bsome h; obtain ⟨v64, h, hg64⟩ := h
    replace h := cf rfl h
    refine wl_skip rfl rfl ?_
    refine wl_skip rfl rfl ?_
    refine wl_skip rfl rfl ?_
    simp only [Option.some.injEq, Prod.mk.injEq] at h
    obtain rfl := h
    have h := hg64; clear hg64
    refine wl_pure (v := .bool false) tt_ok rfl rfl ?_
    refine wl_pure tt_ok rfl rfl ?_
    refine wl_nil (wx_then (wc_ret ?_))
    simp only [Option.some.injEq] at h
    obtain rfl := h
    exact wx_pf tt_ok (.inl rfl) Tryd.results6 (Res.tmp rfl Res.nil) rfl
  replace h := cf hc h
  refine wl_skip rfl rfl ?_
  simp only [Option.some.injEq, Prod.mk.injEq] at h
  obtain rfl := h
  have h := hg49; clear hg49
  refine wl_pure (v := .bool false) tt_ok rfl rfl ?_
  refine wl_pure tt_ok rfl rfl ?_
  replace h := bsome h; obtain ⟨v54, h, hg54⟩ := h
  replace h := cf rfl h
  refine wl_skip rfl rfl ?_
  refine wl_skip rfl rfl ?_
  refine wl_skip rfl rfl ?_
  simp only [Option.some.injEq, Prod.mk.injEq] at h
  obtain rfl := h
  have h := hg54; clear hg54
  refine wl_pure (v := .bool false) tt_ok rfl rfl ?_
  refine wl_pure tt_ok rfl rfl ?_
  replace h := bsome h; obtain ⟨v59, h, hg59⟩ := h
  replace h := cf rfl h
  refine wl_skip rfl rfl ?_
  refine wl_skip rfl rfl ?_
  refine wl_skip rfl rfl ?_
  simp only [Option.some.injEq, Prod.mk.injEq] at h
  obtain rfl := h
  have h := hg59; clear hg59
  refine wl_pure (v := .bool false) tt_ok rfl rfl ?_
  refine wl_pure tt_ok rfl rfl ?_
  replace h := bsome h; obtain ⟨v64, h, hg64⟩ := h
  replace h := cf rfl h
  refine wl_skip rfl rfl ?_
  refine wl_skip rfl rfl ?_
  refine wl_skip rfl rfl ?_
  simp only [Option.some.injEq, Prod.mk.injEq] at h
  obtain rfl := h
  have h := hg64; clear hg64
  refine wl_pure (v := .bool false) tt_ok rfl rfl ?_
  refine wl_pure tt_ok rfl rfl ?_
  refine wl_nil (wx_then (wc_ret ?_))
  simp only [Option.some.injEq] at h
  obtain rfl := h
  exact wx_pf tt_ok (.inl rfl) Tryd.results6 (Res.tmp rfl Res.nil) rfl

theorem k_hindcastlaw26_at {F : Nat} {p0 : (List Int)} {p0a0 : Option Addr} {p0n0 p0c0 : Nat} {p1 : Int} {r0 : Int} (p0N0 : p0n0 = p0.length) (p0H0 : p0n0 ≤ p0c0) (h : m_hindcastlaw26_at F p0 p1 = some r0) :
    Pf Tryd.prog 10 [.slice p0a0 p0n0 p0c0, .int .i64 p1] (fun w => Rds w [] [] p0a0 (flat (e1 .u8) p0)) (.int .u8 r0) := by
  unfold m_hindcastlaw26_at at h
  refine pf_of_wc Tryd.func10 rfl Tryd.ntmps10 rfl rfl (fun w0 hR => ?_)
  have p0S0 := hR
  refine wc_seq (wc_region ?_)
  refine wl_pure tt_ok rfl rfl ?_
  refine wl_nil (wx_then (wc_seq (wc_seq (wc_region ?_))))
  iterate 2 refine wl_pure tt_ok rfl rfl ?_
  refine wl_val (v := .int .i64 (p0.length : Int)) (val_len tt_ok rfl rfl p0N0) rfl ?_
  refine wl_pure (v := .bool (decide (p1 < (p0.length : Int)))) tt_ok rfl rfl ?_
  refine wl_nil (wx_then ?_)
  refine wc_cond rfl (fun hc => ?_) (fun hc => ?_)
  · replace h := ct hc h
    refine wc_seq (wc_region ?_)
    iterate 2 refine wl_pure tt_ok rfl rfl ?_
    replace h := bsome h; obtain ⟨v11, x11, h⟩ := h
    refine wl_val (v := .pointer (some ((adOf p0a0).add (p1.toNat * 1 + 0)))) (val_ix (enc := (e1 .u8)) tt_ok rfl rfl rfl rfl p0N0 p0S0 (e1_len _) rfl x11) rfl ?_
    refine wl_val (v := .int .u8 v11) (val_le (enc := (e1 .u8)) (xs := p0) tt_ok rfl p0S0 rsub_nil (e1_len _) x11 rfl) rfl ?_
    refine wl_pure (v := .int .u8 (Int.tmod v11 64)) tt_ok rfl rfl ?_
    refine wl_pure tt_ok rfl rfl ?_
    refine wl_nil (wx_then (wc_ret (wx_then_ret ?_)))
    simp only [Option.some.injEq] at h
    obtain rfl := h
    exact wx_pf tt_ok (.inl rfl) Tryd.results10 (Res.tmp rfl Res.nil) rfl
  replace h := cf hc h
  refine wc_skip (wx_then (wc_seq (wc_region ?_)))
  refine wl_pure tt_ok rfl rfl ?_
  refine wl_nil (wx_then (wc_ret ?_))
  simp only [Option.some.injEq] at h
  obtain rfl := h
  exact wx_pf tt_ok (.inl rfl) Tryd.results10 (Res.tmp rfl Res.nil) rfl

theorem k_rollback_Engine_State {F : Nat} {p0 : T_rollback_Engine} {p0b p0t : Nat} {p0a0 : Option Addr} {p0n0 : Nat} {p0c0 : Nat} {p0B0 : List Blk} {p0a1 : Option Addr} {p0n1 : Nat} {p0c1 : Nat} {p0B1 : List Blk} {p0_4 : T_queue_Queue} {p0_4b p0_4t : Nat} {p0_4a0 : Option Addr} {p0_4n0 : Nat} {p0_4c0 : Nat} {p0_4B0 : List Blk} {p0_5 : T_ring_Ring} {p0_5b p0_5t : Nat} {p0_5g0 : List (T_ring_place × G)} {p0_5P0 : List Blk} {r0 : T_api_State} (p0N0 : p0n0 = p0.sure.Shots.length) (p0V0 : Own 80 6 p0a0 p0n0 p0c0 (flat c_T_api_Shot p0.sure.Shots) p0B0) (p0N1 : p0n1 = p0.own.length) (p0V1 : Own 40 1 p0a1 p0n1 p0c1 (flat (e1 .u8) p0.own) p0B1) (p0_4N0 : p0_4n0 = p0_4.l.length) (p0_4V0 : Own 40 1 p0_4a0 p0_4n0 p0_4c0 (flat (e1 .u8) p0_4.l) p0_4B0) (p0_5G0 : p0_5.places.1 = unG p0_5g0) (p0_5A0 : AllP sh_T_ring_place c_T_api_Shot p0_5P0 p0_5g0) (h : m_rollback_Engine_State F p0 p0_4 p0_5 = some r0) :
    SpD Tryd.prog 15 [.pointer (some ⟨p0b, 0, none⟩)] (⟨p0b, [.int .u8 p0.player, .int .i64 p0.window, .int .u64 p0.sure.Frame, .int .u64 p0.sure.Seed, .int .i32 p0.sure.Players.1.X, .int .i32 p0.sure.Players.1.Y, .int .i32 p0.sure.Players.1.VX, .int .i32 p0.sure.Players.1.VY, .int .u8 p0.sure.Players.1.Health, .int .u8 p0.sure.Players.1.Cool, .int .u8 p0.sure.Players.1.Face, .int .i32 p0.sure.Players.2.X, .int .i32 p0.sure.Players.2.Y, .int .i32 p0.sure.Players.2.VX, .int .i32 p0.sure.Players.2.VY, .int .u8 p0.sure.Players.2.Health, .int .u8 p0.sure.Players.2.Cool, .int .u8 p0.sure.Players.2.Face, .slice p0a0 p0n0 p0c0, .int .u16 p0.sure.Score.1, .int .u16 p0.sure.Score.2, .slice p0a1 p0n1 p0c1, .pointer (some ⟨p0_4b, 0, none⟩), .pointer (some ⟨p0_5b, 0, none⟩)], p0t, (0, 0)⟩ :: (p0B0 ++ (p0B1 ++ (⟨p0_4b, [.int .u64 p0_4.first_, .slice p0_4a0 p0_4n0 p0_4c0, .int .u8 p0_4.last], p0_4t, (0, 0)⟩ :: (p0_4B0 ++ (⟨p0_5b, ([.int .i64 p0_5.size] ++ flat cg_T_ring_place p0_5g0), p0_5t, (0, 0)⟩ :: (p0_5P0 ++ []))))))) (fun w => True) (fun v D => ∃ (r0a0 : Option Addr) (r0n0 : Nat) (r0c0 : Nat) (r0B0 : List Blk), r0n0 = r0.Shots.length ∧ Own 80 6 r0a0 r0n0 r0c0 (flat c_T_api_Shot r0.Shots) r0B0 ∧ v = .agg #[.int .u64 r0.Frame, .int .u64 r0.Seed, .int .i32 r0.Players.1.X, .int .i32 r0.Players.1.Y, .int .i32 r0.Players.1.VX, .int .i32 r0.Players.1.VY, .int .u8 r0.Players.1.Health, .int .u8 r0.Players.1.Cool, .int .u8 r0.Players.1.Face, .int .i32 r0.Players.2.X, .int .i32 r0.Players.2.Y, .int .i32 r0.Players.2.VX, .int .i32 r0.Players.2.VY, .int .u8 r0.Players.2.Health, .int .u8 r0.Players.2.Cool, .int .u8 r0.Players.2.Face, .slice r0a0 r0n0 r0c0, .int .u16 r0.Score.1, .int .u16 r0.Score.2] ∧ D = fun F => (⟨p0b, [.int .u8 p0.player, .int .i64 p0.window, .int .u64 p0.sure.Frame, .int .u64 p0.sure.Seed, .int .i32 p0.sure.Players.1.X, .int .i32 p0.sure.Players.1.Y, .int .i32 p0.sure.Players.1.VX, .int .i32 p0.sure.Players.1.VY, .int .u8 p0.sure.Players.1.Health, .int .u8 p0.sure.Players.1.Cool, .int .u8 p0.sure.Players.1.Face, .int .i32 p0.sure.Players.2.X, .int .i32 p0.sure.Players.2.Y, .int .i32 p0.sure.Players.2.VX, .int .i32 p0.sure.Players.2.VY, .int .u8 p0.sure.Players.2.Health, .int .u8 p0.sure.Players.2.Cool, .int .u8 p0.sure.Players.2.Face, .slice p0a0 p0n0 p0c0, .int .u16 p0.sure.Score.1, .int .u16 p0.sure.Score.2, .slice p0a1 p0n1 p0c1, .pointer (some ⟨p0_4b, 0, none⟩), .pointer (some ⟨p0_5b, 0, none⟩)], p0t, (0, 0)⟩ :: (p0B0 ++ (p0B1 ++ (⟨p0_4b, [.int .u64 p0_4.first_, .slice p0_4a0 p0_4n0 p0_4c0, .int .u8 p0_4.last], p0_4t, (0, 0)⟩ :: (p0_4B0 ++ (⟨p0_5b, ([.int .i64 p0_5.size] ++ flat cg_T_ring_place p0_5g0), p0_5t, (0, 0)⟩ :: (p0_5P0 ++ (r0B0 ++ F))))))))) := by
  unfold m_rollback_Engine_State at h
  refine sp_of_wc Tryd.func15 rfl Tryd.ntmps15 rfl rfl (fun w0 hR => ?_)
  refine wc_seq (wc_region ?_)
  refine wl_alloc tt_ok rfl rfl (fun b2 => ?_)
  refine wl_nil (wx_then (wc_seq (wc_seq (wc_region ?_))))
  refine wl_pure tt_ok rfl rfl ?_
  replace h := bsome h; obtain ⟨v4, x4, h⟩ := h
  refine wl_cq Tryd.call30 rfl rfl rfl (q_rd (k_rollback_Engine_is (p0 := p0) (p0_4 := p0_4) (p0_5 := p0_5) p0N0 p0V0 p0N1 p0V1 p0_4N0 p0_4V0 p0_5G0 p0_5A0 x4) (pCons (Sel.sc Sel.hc) (pApp (Sel.sc Sel.ha) (pApp (Sel.sc Sel.ha) (pCons (Sel.sc Sel.hc) (pApp (Sel.sc Sel.ha) (pCons (Sel.sc Sel.hc) (pApp (Sel.sc Sel.ha) pNil))))))) (fun _ _ => trivial)) rfl ?_
  refine wl_pure (v := .bool (!v4)) tt_ok rfl rfl ?_
  refine wl_nil (wx_then ?_)
  refine wc_cond rfl (fun hc => ?_) (fun hc => ?_)
  · replace h := ct hc h
    refine wc_seq (wc_region ?_)
    refine wl_pure (v := .agg #[.int .u64 (0 : Int), .int .u64 (0 : Int), .int .i32 (0 : Int), .int .i32 (0 : Int), .int .i32 (0 : Int), .int .i32 (0 : Int), .int .u8 (0 : Int), .int .u8 (0 : Int), .int .u8 (0 : Int), .int .i32 (0 : Int), .int .i32 (0 : Int), .int .i32 (0 : Int), .int .i32 (0 : Int), .int .u8 (0 : Int), .int .u8 (0 : Int), .int .u8 (0 : Int), .slice none 0 0, .int .u16 (0 : Int), .int .u16 (0 : Int)]) tt_ok rfl rfl ?_
    apply wl_store tt_ok; rfl; exact Upd.here; rfl; rfl; rfl; rfl; rfl; rfl
    refine wl_nil (wx_then (wc_ret (wx_then_ret ?_)))
    simp only [Option.some.injEq] at h
    obtain rfl := h
    exact wx_spD tt_ok (.inl rfl) Tryd.results15 (Res.cell rfl (List.Mem.head _) rfl Res.nil) ⟨none, 0, 0, [], rfl, Own.zero, rfl, rfl⟩ (fun F => by simp) (pSub (pCons (Sel.sc Sel.hc) (pApp (Sel.sc Sel.ha) (pApp (Sel.sc Sel.ha) (pCons (Sel.sc Sel.hc) (pApp (Sel.sc Sel.ha) (pCons (Sel.sc Sel.hc) (pApp (Sel.sc Sel.ha) (pNo pNil)))))))))
  replace h := cf hc h
  refine wc_skip (wx_then (wc_seq (wc_region ?_)))
  iterate 2 refine wl_pure tt_ok rfl rfl ?_
  refine wl_pure (v := .pointer (some ⟨p0b, 2, none⟩)) tt_ok rfl rfl ?_
  refine wl_val (v := .agg #[.int .u64 p0.sure.Frame, .int .u64 p0.sure.Seed, .int .i32 p0.sure.Players.1.X, .int .i32 p0.sure.Players.1.Y, .int .i32 p0.sure.Players.1.VX, .int .i32 p0.sure.Players.1.VY, .int .u8 p0.sure.Players.1.Health, .int .u8 p0.sure.Players.1.Cool, .int .u8 p0.sure.Players.1.Face, .int .i32 p0.sure.Players.2.X, .int .i32 p0.sure.Players.2.Y, .int .i32 p0.sure.Players.2.VX, .int .i32 p0.sure.Players.2.VY, .int .u8 p0.sure.Players.2.Health, .int .u8 p0.sure.Players.2.Cool, .int .u8 p0.sure.Players.2.Face, .slice p0a0 p0n0 p0c0, .int .u16 p0.sure.Score.1, .int .u16 p0.sure.Score.2]) (val_load tt_ok rfl (List.Mem.tail _ (List.Mem.head _)) rfl) rfl ?_
  replace h := bsome h; obtain ⟨v11, x11, h⟩ := h
  refine wl_cs Tryd.call26 rfl rfl rfl (s_sp (k_state_Copy (p0 := p0.sure) p0N0 (vec_cap p0V0) x11) pNil (Rds.call (Rds.of_vec p0V0) pNil ⟨_, (Sel.sc (Sel.sc Sel.ha))⟩)) rfl ?_
  rintro _ _ ⟨_, ⟨v11a0, v11n0, v11c0, v11B0, v11N0, v11V0, rfl, rfl⟩, rfl⟩
  apply wl_store tt_ok; rfl; exact (Upd.right Upd.here); rfl; rfl; rfl; rfl; rfl; rfl
  refine wl_nil (wx_then (wc_ret ?_))
  simp only [Option.some.injEq] at h
  obtain rfl := h
  exact wx_spD tt_ok (.inl rfl) Tryd.results15 (Res.cell rfl (mR (List.Mem.head _)) rfl Res.nil) ⟨v11a0, v11n0, v11c0, v11B0, v11N0, v11V0, rfl, rfl⟩ (fun F => by simp) (pSub (pCons (Sel.sa (Sel.sc Sel.hc)) (pApp (Sel.sa (Sel.sc Sel.ha)) (pApp (Sel.sa (Sel.sc Sel.ha)) (pCons (Sel.sa (Sel.sc Sel.hc)) (pApp (Sel.sa (Sel.sc Sel.ha)) (pCons (Sel.sa (Sel.sc Sel.hc)) (pApp (Sel.sa (Sel.sc Sel.ha)) (pApp Sel.ha pNil)))))))))

theorem k_slices_Equal___api_Shot_api_Shot {F : Nat} {p0 : (List T_api_Shot)} {p0a0 : Option Addr} {p0n0 p0c0 : Nat} {p1 : (List T_api_Shot)} {p1a0 : Option Addr} {p1n0 p1c0 : Nat} {r0 : Bool} (p0N0 : p0n0 = p0.length) (p0H0 : p0n0 ≤ p0c0) (p1N0 : p1n0 = p1.length) (p1H0 : p1n0 ≤ p1c0) (h : m_slices_Equal___api_Shot_api_Shot F p0 p1 = some r0) :
    Pf Tryd.prog 41 [.slice p0a0 p0n0 p0c0, .slice p1a0 p1n0 p1c0] (fun w => Rds w [] [] p0a0 (flat c_T_api_Shot p0) ∧ Rds w [] [] p1a0 (flat c_T_api_Shot p1)) (.bool r0) := by
  unfold m_slices_Equal___api_Shot_api_Shot at h
  refine pf_of_wc Tryd.func41 rfl Tryd.ntmps41 rfl rfl (fun w0 hR => ?_)
  obtain ⟨p0S0, p1S0⟩ := hR
  refine wc_seq (wc_region ?_)
  refine wl_pure tt_ok rfl rfl ?_
  refine wl_nil (wx_then (wc_seq (wc_seq (wc_region ?_))))
  refine wl_pure tt_ok rfl rfl ?_
  refine wl_val (v := .int .i64 (p0.length : Int)) (val_len tt_ok rfl rfl p0N0) rfl ?_
  refine wl_pure tt_ok rfl rfl ?_
  refine wl_val (v := .int .i64 (p1.length : Int)) (val_len tt_ok rfl rfl p1N0) rfl ?_
  refine wl_pure (v := .bool ((p0.length : Int) != (p1.length : Int))) tt_ok rfl rfl ?_
  refine wl_nil (wx_then ?_)
  refine wc_cond rfl (fun hc => ?_) (fun hc => ?_)
  · replace h := ct hc h
    refine wc_seq (wc_region ?_)
    refine wl_pure tt_ok rfl rfl ?_
    refine wl_nil (wx_then (wc_ret (wx_then_ret ?_)))
    simp only [Option.some.injEq] at h
    obtain rfl := h
    exact wx_pf tt_ok (.inl rfl) Tryd.results41 (Res.tmp rfl Res.nil) rfl
  replace h := cf hc h
  refine wc_skip (wx_then (wc_seq (wc_seq (wc_region ?_))))
  refine wl_pure tt_ok rfl rfl ?_
  refine wl_val (v := .int .i64 (p0.length : Int)) (val_len tt_ok rfl rfl p0N0) rfl ?_
  refine wl_pure tt_ok rfl rfl ?_
  refine wl_nil (wx_then (wc_block ?_))
  replace h := bsome h; obtain ⟨o15, h, hl15⟩ := h
  refine wc_loop (fun m E L => ∃ (j15_13 : Int), m_slices_Equal___api_Shot_api_Shot_L14 F p0 p1 m j15_13 = some o15 ∧ E = [(0, .slice p0a0 p0n0 p0c0), (1, .slice p1a0 p1n0 p1c0), (4, .bool false), (12, .int .i64 (p0.length : Int)), (13, .int .i64 j15_13)] ∧ L = []) F ⟨(0 : Int), h, rfl, rfl⟩ (agree_cons rfl (agree_cons rfl (agree_cons rfl (agree_cons rfl (agree_cons rfl agree_nil))))) (pSub pNil) ?_
  clear h
  rintro m15 _ _ ⟨j15_13, h, rfl, rfl⟩
  rcases m15 with _ | m15
  · rw [m_slices_Equal___api_Shot_api_Shot_L14.eq_1] at h; cases h
  rw [m_slices_Equal___api_Shot_api_Shot_L14.eq_2] at h
  refine wc_seq (wc_region ?_)
  refine wl_pure (v := .bool (decide (j15_13 < (p0.length : Int)))) tt_ok rfl rfl ?_
  refine wl_nil (wx_then (wc_seq ?_))
  refine wc_cond rfl (fun hc => ?_) (fun hc => ?_)
  · replace h := ct hc h
    refine wc_skip (wx_then (wc_seq (wc_block (wc_seq (wc_region ?_)))))
    iterate 2 refine wl_pure tt_ok rfl rfl ?_
    refine wl_nil (wx_then (wc_seq ?_))
    refine wc_quiet (by kernel_rfl) (by kernel_rfl) ?_
    refine wq_pure tt_ok rfl rfl ?_
    refine wq_pure tt_ok rfl rfl ?_
    replace h := bsome h; obtain ⟨v18, x18, h⟩ := h
    refine wq_val (v := .pointer (some ((adOf p0a0).add (j15_13.toNat * 6 + 0)))) (val_ix (enc := c_T_api_Shot) tt_ok rfl rfl rfl rfl p0N0 p0S0 c_T_api_Shot_len rfl x18) rfl ?_
    refine wq_val (v := .agg #[.int .i32 v18.X, .int .i32 v18.Y, .int .i32 v18.VX, .int .i32 v18.VY, .int .u8 v18.Owner, .int .u8 v18.Life]) (val_le (enc := c_T_api_Shot) (xs := p0) tt_ok rfl p0S0 rsub_nil c_T_api_Shot_len x18 rfl) rfl ?_
    refine wq_pure tt_ok rfl rfl ?_
    refine wq_pure tt_ok rfl rfl ?_
    replace h := bsome h; obtain ⟨v22, x22, h⟩ := h
    refine wq_val (v := .pointer (some ((adOf p1a0).add (j15_13.toNat * 6 + 0)))) (val_ix (enc := c_T_api_Shot) tt_ok rfl rfl rfl rfl p1N0 p1S0 c_T_api_Shot_len rfl x22) rfl ?_
    refine wq_val (v := .agg #[.int .i32 v22.X, .int .i32 v22.Y, .int .i32 v22.VX, .int .i32 v22.VY, .int .u8 v22.Owner, .int .u8 v22.Life]) (val_le (enc := c_T_api_Shot) (xs := p1) tt_ok rfl p1S0 rsub_nil c_T_api_Shot_len x22 rfl) rfl ?_
    refine wq_val (v := .bool (!((v18.X == v22.X) && ((v18.Y == v22.Y) && ((v18.VX == v22.VX) && ((v18.VY == v22.VY) && ((v18.Owner == v22.Owner) && (v18.Life == v22.Life)))))))) (val_nes tt_ok tt_eq tt_one Tryd.eqGuardType80 rfl rfl rfl rfl rfl) rfl ?_
    refine wq_nil ?_
    refine wx_then ?_
    refine wc_cond rfl (fun hc => ?_) (fun hc => ?_)
    · replace h := ct hc h
      refine wc_seq (wc_region ?_)
      refine wl_pure tt_ok rfl rfl ?_
      refine wl_nil (wx_then (wc_ret (wx_block_ret (wx_then_ret ?_))))
      obtain rfl := Option.some.inj h
      have h := hl15; clear hl15; try dsimp only [orE_l, orE_r] at h
      refine wx_then_ret (wx_block_ret (wx_then_ret ?_))
      simp only [Option.some.injEq] at h
      obtain rfl := h
      exact wx_pf tt_ok (.inl rfl) Tryd.results41 (Res.tmp rfl Res.nil) rfl
    replace h := cf hc h
    refine wc_skip (wx_block (wx_then (wc_region ?_)))
    refine wl_pure (v := .int .i64 (IntKind.wrap .i64 (j15_13 + (1 : Int)))) tt_ok rfl rfl ?_
    refine wl_pure tt_ok rfl rfl ?_
    refine wl_nil ?_
    exact wx_round m15 (Nat.lt_succ_self m15) ⟨(IntKind.wrap .i64 (j15_13 + (1 : Int))), h, rfl, rfl⟩ (agree_cons rfl (agree_cons rfl (agree_cons rfl (agree_cons rfl (agree_cons rfl agree_nil))))) (pSub pNil)
  replace h := cf hc h
  refine wc_exit (wx_then_exit ?_)
  obtain rfl := Option.some.inj h
  have h := hl15; clear hl15; try dsimp only [orE_l, orE_r] at h
  refine wx_then_exit (wx_block_exit (wx_then (wc_seq (wc_region ?_))))
  refine wl_pure tt_ok rfl rfl ?_
  refine wl_nil (wx_then (wc_ret ?_))
  simp only [Option.some.injEq] at h
  obtain rfl := h
  exact wx_pf tt_ok (.inl rfl) Tryd.results41 (Res.tmp rfl Res.nil) rfl

theorem k_state_Same {F : Nat} {p0 : T_api_State} {p0a0 : Option Addr} {p0n0 p0c0 : Nat} {p1 : T_api_State} {p1a0 : Option Addr} {p1n0 p1c0 : Nat} {r0 : Bool} (p0N0 : p0n0 = p0.Shots.length) (p0H0 : p0n0 ≤ p0c0) (p1N0 : p1n0 = p1.Shots.length) (p1H0 : p1n0 ≤ p1c0) (h : m_state_Same F p0 p1 = some r0) :
    Pf Tryd.prog 14 [.agg #[.int .u64 p0.Frame, .int .u64 p0.Seed, .int .i32 p0.Players.1.X, .int .i32 p0.Players.1.Y, .int .i32 p0.Players.1.VX, .int .i32 p0.Players.1.VY, .int .u8 p0.Players.1.Health, .int .u8 p0.Players.1.Cool, .int .u8 p0.Players.1.Face, .int .i32 p0.Players.2.X, .int .i32 p0.Players.2.Y, .int .i32 p0.Players.2.VX, .int .i32 p0.Players.2.VY, .int .u8 p0.Players.2.Health, .int .u8 p0.Players.2.Cool, .int .u8 p0.Players.2.Face, .slice p0a0 p0n0 p0c0, .int .u16 p0.Score.1, .int .u16 p0.Score.2], .agg #[.int .u64 p1.Frame, .int .u64 p1.Seed, .int .i32 p1.Players.1.X, .int .i32 p1.Players.1.Y, .int .i32 p1.Players.1.VX, .int .i32 p1.Players.1.VY, .int .u8 p1.Players.1.Health, .int .u8 p1.Players.1.Cool, .int .u8 p1.Players.1.Face, .int .i32 p1.Players.2.X, .int .i32 p1.Players.2.Y, .int .i32 p1.Players.2.VX, .int .i32 p1.Players.2.VY, .int .u8 p1.Players.2.Health, .int .u8 p1.Players.2.Cool, .int .u8 p1.Players.2.Face, .slice p1a0 p1n0 p1c0, .int .u16 p1.Score.1, .int .u16 p1.Score.2]] (fun w => Rds w [] [] p0a0 (flat c_T_api_Shot p0.Shots) ∧ Rds w [] [] p1a0 (flat c_T_api_Shot p1.Shots)) (.bool r0) := by
  unfold m_state_Same at h
  refine pf_of_wc Tryd.func14 rfl Tryd.ntmps14 rfl rfl (fun w0 hR => ?_)
  obtain ⟨p0S0, p1S0⟩ := hR
  refine wc_seq (wc_region ?_)
  refine wl_box rfl rfl rfl (fun b2 => ?_)
  refine wl_box rfl rfl rfl (fun b3 => ?_)
  refine wl_pure tt_ok rfl rfl ?_
  refine wl_nil (wx_then (wc_seq (wc_region ?_)))
  refine wl_pure (v := .pointer (some ⟨b2, 0, none⟩)) tt_ok rfl rfl ?_
  refine wl_val (v := .int .u64 p0.Frame) (val_load tt_ok rfl (List.Mem.tail _ (List.Mem.head _)) rfl) rfl ?_
  refine wl_pure (v := .pointer (some ⟨b3, 0, none⟩)) tt_ok rfl rfl ?_
  refine wl_val (v := .int .u64 p1.Frame) (val_load tt_ok rfl (List.Mem.head _) rfl) rfl ?_
  refine wl_pure (v := .bool (p0.Frame == p1.Frame)) tt_ok rfl rfl ?_
  refine wl_pure tt_ok rfl rfl ?_
  replace h := bsome h; obtain ⟨v16, h, hg16⟩ := h
  refine wl_split (t := 10) rfl (fun hc => ?_) (fun hc => ?_)
  · replace h := ct hc h
    refine wl_run rfl ?_
    refine wl_pure (v := .pointer (some ⟨b2, 1, none⟩)) tt_ok rfl rfl ?_
    refine wl_run rfl ?_
    refine wl_val (v := .int .u64 p0.Seed) (val_load tt_ok rfl (List.Mem.tail _ (List.Mem.head _)) rfl) rfl ?_
    refine wl_run rfl ?_
    refine wl_pure (v := .pointer (some ⟨b3, 1, none⟩)) tt_ok rfl rfl ?_
    refine wl_run rfl ?_
    refine wl_val (v := .int .u64 p1.Seed) (val_load tt_ok rfl (List.Mem.head _) rfl) rfl ?_
    refine wl_run rfl ?_
    refine wl_pure (v := .bool (p0.Seed == p1.Seed)) tt_ok rfl rfl ?_
    simp only [Option.some.injEq, Prod.mk.injEq] at h
    obtain rfl := h
    have h := hg16; clear hg16
    refine wl_pure (v := .bool (p0.Seed == p1.Seed)) tt_ok rfl rfl ?_
    refine wl_pure tt_ok rfl rfl ?_
    replace h := bsome h; obtain ⟨v23, h, hg23⟩ := h
    refine wl_split (t := 17) rfl (fun hc => ?_) (fun hc => ?_)
    · replace h := ct hc h
      refine wl_run rfl ?_
      refine wl_pure (v := .pointer (some ⟨b2, 2, none⟩)) tt_ok rfl rfl ?_
      refine wl_run rfl ?_
      refine wl_val (v := .agg #[.int .i32 p0.Players.1.X, .int .i32 p0.Players.1.Y, .int .i32 p0.Players.1.VX, .int .i32 p0.Players.1.VY, .int .u8 p0.Players.1.Health, .int .u8 p0.Players.1.Cool, .int .u8 p0.Players.1.Face, .int .i32 p0.Players.2.X, .int .i32 p0.Players.2.Y, .int .i32 p0.Players.2.VX, .int .i32 p0.Players.2.VY, .int .u8 p0.Players.2.Health, .int .u8 p0.Players.2.Cool, .int .u8 p0.Players.2.Face]) (val_load tt_ok rfl (List.Mem.tail _ (List.Mem.head _)) rfl) rfl ?_
      refine wl_run rfl ?_
      refine wl_pure (v := .pointer (some ⟨b3, 2, none⟩)) tt_ok rfl rfl ?_
      refine wl_run rfl ?_
      refine wl_val (v := .agg #[.int .i32 p1.Players.1.X, .int .i32 p1.Players.1.Y, .int .i32 p1.Players.1.VX, .int .i32 p1.Players.1.VY, .int .u8 p1.Players.1.Health, .int .u8 p1.Players.1.Cool, .int .u8 p1.Players.1.Face, .int .i32 p1.Players.2.X, .int .i32 p1.Players.2.Y, .int .i32 p1.Players.2.VX, .int .i32 p1.Players.2.VY, .int .u8 p1.Players.2.Health, .int .u8 p1.Players.2.Cool, .int .u8 p1.Players.2.Face]) (val_load tt_ok rfl (List.Mem.head _) rfl) rfl ?_
      refine wl_run rfl ?_
      refine wl_val (v := .bool (((p0.Players.1.X == p1.Players.1.X) && ((p0.Players.1.Y == p1.Players.1.Y) && ((p0.Players.1.VX == p1.Players.1.VX) && ((p0.Players.1.VY == p1.Players.1.VY) && ((p0.Players.1.Health == p1.Players.1.Health) && ((p0.Players.1.Cool == p1.Players.1.Cool) && (p0.Players.1.Face == p1.Players.1.Face))))))) && ((p0.Players.2.X == p1.Players.2.X) && ((p0.Players.2.Y == p1.Players.2.Y) && ((p0.Players.2.VX == p1.Players.2.VX) && ((p0.Players.2.VY == p1.Players.2.VY) && ((p0.Players.2.Health == p1.Players.2.Health) && ((p0.Players.2.Cool == p1.Players.2.Cool) && (p0.Players.2.Face == p1.Players.2.Face))))))))) (val_eqs tt_ok tt_eq tt_one Tryd.eqGuardType31 rfl rfl rfl rfl rfl) rfl ?_
      simp only [Option.some.injEq, Prod.mk.injEq] at h
      obtain rfl := h
      have h := hg23; clear hg23
      refine wl_pure (v := .bool (((p0.Players.1.X == p1.Players.1.X) && ((p0.Players.1.Y == p1.Players.1.Y) && ((p0.Players.1.VX == p1.Players.1.VX) && ((p0.Players.1.VY == p1.Players.1.VY) && ((p0.Players.1.Health == p1.Players.1.Health) && ((p0.Players.1.Cool == p1.Players.1.Cool) && (p0.Players.1.Face == p1.Players.1.Face))))))) && ((p0.Players.2.X == p1.Players.2.X) && ((p0.Players.2.Y == p1.Players.2.Y) && ((p0.Players.2.VX == p1.Players.2.VX) && ((p0.Players.2.VY == p1.Players.2.VY) && ((p0.Players.2.Health == p1.Players.2.Health) && ((p0.Players.2.Cool == p1.Players.2.Cool) && (p0.Players.2.Face == p1.Players.2.Face))))))))) tt_ok rfl rfl ?_
      refine wl_pure tt_ok rfl rfl ?_
      replace h := bsome h; obtain ⟨v30, h, hg30⟩ := h
      refine wl_split (t := 24) rfl (fun hc => ?_) (fun hc => ?_)
      · replace h := ct hc h
        refine wl_run rfl ?_
        refine wl_pure (v := .pointer (some ⟨b2, 17, none⟩)) tt_ok rfl rfl ?_
        refine wl_run rfl ?_
        refine wl_val (v := .agg #[.int .u16 p0.Score.1, .int .u16 p0.Score.2]) (val_load tt_ok rfl (List.Mem.tail _ (List.Mem.head _)) rfl) rfl ?_
        refine wl_run rfl ?_
        refine wl_pure (v := .pointer (some ⟨b3, 17, none⟩)) tt_ok rfl rfl ?_
        refine wl_run rfl ?_
        refine wl_val (v := .agg #[.int .u16 p1.Score.1, .int .u16 p1.Score.2]) (val_load tt_ok rfl (List.Mem.head _) rfl) rfl ?_
        refine wl_run rfl ?_
        refine wl_val (v := .bool ((p0.Score.1 == p1.Score.1) && (p0.Score.2 == p1.Score.2))) (val_eqs tt_ok tt_eq tt_one Tryd.eqGuardType34 rfl rfl rfl rfl rfl) rfl ?_
        simp only [Option.some.injEq, Prod.mk.injEq] at h
        obtain rfl := h
        have h := hg30; clear hg30
        refine wl_pure (v := .bool ((p0.Score.1 == p1.Score.1) && (p0.Score.2 == p1.Score.2))) tt_ok rfl rfl ?_
        refine wl_pure tt_ok rfl rfl ?_
        replace h := bsome h; obtain ⟨v37, h, hg37⟩ := h
        refine wl_split (t := 31) rfl (fun hc => ?_) (fun hc => ?_)
        · replace h := ct hc h
          refine wl_run rfl ?_
          refine wl_pure (v := .pointer (some ⟨b2, 16, none⟩)) tt_ok rfl rfl ?_
          refine wl_run rfl ?_
          refine wl_val (v := .slice p0a0 p0n0 p0c0) (val_load tt_ok rfl (List.Mem.tail _ (List.Mem.head _)) rfl) rfl ?_
          refine wl_run rfl ?_
          refine wl_pure (v := .pointer (some ⟨b3, 16, none⟩)) tt_ok rfl rfl ?_
          refine wl_run rfl ?_
          refine wl_val (v := .slice p1a0 p1n0 p1c0) (val_load tt_ok rfl (List.Mem.head _) rfl) rfl ?_
          replace h := bsome h; obtain ⟨v36, x36, h⟩ := h
          refine wl_run rfl ?_
          refine wl_cq Tryd.call41 rfl rfl rfl (q_pf (k_slices_Equal___api_Shot_api_Shot (p0 := p0.Shots) (p1 := p1.Shots) p0N0 p0H0 p1N0 p1H0 x36) (fun w hI => ⟨(Rds.call p0S0 pNil rsub_nil) w hI, (Rds.call p1S0 pNil rsub_nil) w hI⟩)) rfl ?_
          simp only [Option.some.injEq, Prod.mk.injEq] at h
          obtain rfl := h
          have h := hg37; clear hg37
          refine wl_pure (v := .bool v36) tt_ok rfl rfl ?_
          refine wl_pure tt_ok rfl rfl ?_
          refine wl_nil (wx_then (wc_ret ?_))
          simp only [Option.some.injEq] at h
          obtain rfl := h
          exact wx_pf tt_ok (.inl rfl) Tryd.results14 (Res.tmp rfl Res.nil) rfl
        replace h := cf hc h
        refine wl_skip rfl rfl ?_
        refine wl_skip rfl rfl ?_
        refine wl_skip rfl rfl ?_
        refine wl_skip rfl rfl ?_
        refine wl_skip rfl rfl ?_
        simp only [Option.some.injEq, Prod.mk.injEq] at h
        obtain rfl := h
        have h := hg37; clear hg37
        refine wl_pure (v := .bool false) tt_ok rfl rfl ?_
        refine wl_pure tt_ok rfl rfl ?_
        refine wl_nil (wx_then (wc_ret ?_))
        simp only [Option.some.injEq] at h
        obtain rfl := h
        exact wx_pf tt_ok (.inl rfl) Tryd.results14 (Res.tmp rfl Res.nil) rfl
      replace h := cf hc h
      refine wl_skip rfl rfl ?_
      refine wl_skip rfl rfl ?_
      refine wl_skip rfl rfl ?_
      refine wl_skip rfl rfl ?_
      refine wl_skip rfl rfl ?_
      simp only [Option.some.injEq, Prod.mk.injEq] at h
      obtain rfl := h
      have h := hg30; clear hg30
      refine wl_pure (v := .bool false) tt_ok rfl rfl ?_
      refine wl_pure tt_ok rfl rfl ?_
      replace h := bsome h; obtain ⟨v37, h, hg37⟩ := h
      replace h := cf rfl h
      refine wl_skip rfl rfl ?_
      refine wl_skip rfl rfl ?_
      refine wl_skip rfl rfl ?_
      refine wl_skip rfl rfl ?_
      refine wl_skip rfl rfl ?_
      simp only [Option.some.injEq, Prod.mk.injEq] at h
      obtain rfl := h
      have h := hg37; clear hg37
      refine wl_pure (v := .bool false) tt_ok rfl rfl ?_
      refine wl_pure tt_ok rfl rfl ?_
      refine wl_nil (wx_then (wc_ret ?_))
      simp only [Option.some.injEq] at h
      obtain rfl := h
      exact wx_pf tt_ok (.inl rfl) Tryd.results14 (Res.tmp rfl Res.nil) rfl
    replace h := cf hc h
    refine wl_skip rfl rfl ?_
    refine wl_skip rfl rfl ?_
    refine wl_skip rfl rfl ?_
    refine wl_skip rfl rfl ?_
    refine wl_skip rfl rfl ?_
    simp only [Option.some.injEq, Prod.mk.injEq] at h
    obtain rfl := h
    have h := hg23; clear hg23
    refine wl_pure (v := .bool false) tt_ok rfl rfl ?_
    refine wl_pure tt_ok rfl rfl ?_
    replace h := bsome h; obtain ⟨v30, h, hg30⟩ := h
    replace h := cf rfl h
    refine wl_skip rfl rfl ?_
    refine wl_skip rfl rfl ?_
    refine wl_skip rfl rfl ?_
    refine wl_skip rfl rfl ?_
    refine wl_skip rfl rfl ?_
    simp only [Option.some.injEq, Prod.mk.injEq] at h
    obtain rfl := h
    have h := hg30; clear hg30
    refine wl_pure (v := .bool false) tt_ok rfl rfl ?_
    refine wl_pure tt_ok rfl rfl ?_
    replace h := bsome h; obtain ⟨v37, h, hg37⟩ := h
    replace h := cf rfl h
    refine wl_skip rfl rfl ?_
    refine wl_skip rfl rfl ?_
    refine wl_skip rfl rfl ?_
    refine wl_skip rfl rfl ?_
    refine wl_skip rfl rfl ?_
    simp only [Option.some.injEq, Prod.mk.injEq] at h
    obtain rfl := h
    have h := hg37; clear hg37
    refine wl_pure (v := .bool false) tt_ok rfl rfl ?_
    refine wl_pure tt_ok rfl rfl ?_
    refine wl_nil (wx_then (wc_ret ?_))
    simp only [Option.some.injEq] at h
    obtain rfl := h
    exact wx_pf tt_ok (.inl rfl) Tryd.results14 (Res.tmp rfl Res.nil) rfl
  replace h := cf hc h
  refine wl_skip rfl rfl ?_
  refine wl_skip rfl rfl ?_
  refine wl_skip rfl rfl ?_
  refine wl_skip rfl rfl ?_
  refine wl_skip rfl rfl ?_
  simp only [Option.some.injEq, Prod.mk.injEq] at h
  obtain rfl := h
  have h := hg16; clear hg16
  refine wl_pure (v := .bool false) tt_ok rfl rfl ?_
  refine wl_pure tt_ok rfl rfl ?_
  replace h := bsome h; obtain ⟨v23, h, hg23⟩ := h
  replace h := cf rfl h
  refine wl_skip rfl rfl ?_
  refine wl_skip rfl rfl ?_
  refine wl_skip rfl rfl ?_
  refine wl_skip rfl rfl ?_
  refine wl_skip rfl rfl ?_
  simp only [Option.some.injEq, Prod.mk.injEq] at h
  obtain rfl := h
  have h := hg23; clear hg23
  refine wl_pure (v := .bool false) tt_ok rfl rfl ?_
  refine wl_pure tt_ok rfl rfl ?_
  replace h := bsome h; obtain ⟨v30, h, hg30⟩ := h
  replace h := cf rfl h
  refine wl_skip rfl rfl ?_
  refine wl_skip rfl rfl ?_
  refine wl_skip rfl rfl ?_
  refine wl_skip rfl rfl ?_
  refine wl_skip rfl rfl ?_
  simp only [Option.some.injEq, Prod.mk.injEq] at h
  obtain rfl := h
  have h := hg30; clear hg30
  refine wl_pure (v := .bool false) tt_ok rfl rfl ?_
  refine wl_pure tt_ok rfl rfl ?_
  replace h := bsome h; obtain ⟨v37, h, hg37⟩ := h
  replace h := cf rfl h
  refine wl_skip rfl rfl ?_
  refine wl_skip rfl rfl ?_
  refine wl_skip rfl rfl ?_
  refine wl_skip rfl rfl ?_
  refine wl_skip rfl rfl ?_
  simp only [Option.some.injEq, Prod.mk.injEq] at h
  obtain rfl := h
  have h := hg37; clear hg37
  refine wl_pure (v := .bool false) tt_ok rfl rfl ?_
  refine wl_pure tt_ok rfl rfl ?_
  refine wl_nil (wx_then (wc_ret ?_))
  simp only [Option.some.injEq] at h
  obtain rfl := h
  exact wx_pf tt_ok (.inl rfl) Tryd.results14 (Res.tmp rfl Res.nil) rfl

theorem k_hindcastlaw26_RollbackComes {F : Nat} {p0 : T_hindcastlaw26_Game} {p0a0 : Option Addr} {p0n0 p0c0 : Nat} {p0a1 : Option Addr} {p0n1 p0c1 : Nat} {p1 : Int} {p2 : Int} {r0 : Bool} (p0N0 : p0n0 = p0.Mine.length) (p0H0 : p0n0 ≤ p0c0) (p0N1 : p0n1 = p0.Theirs.length) (p0H1 : p0n1 ≤ p0c1) (h : m_hindcastlaw26_RollbackComes F p0 p1 p2 = some r0) :
    Pf Tryd.prog 3 [.agg #[.int .u64 p0.Seed, .int .u8 p0.Player, .int .u8 p0.Window, .slice p0a0 p0n0 p0c0, .slice p0a1 p0n1 p0c1], .int .u8 p1, .int .u8 p2] (fun w => Rds w [] [] p0a0 (flat (e1 .u8) p0.Mine) ∧ Rds w [] [] p0a1 (flat (e1 .u8) p0.Theirs) ∧ Rds w [] [] (some ⟨0, 0, none⟩) (flat (fun _ : Unit => gl_state_playerBounds) [()]) ∧ Rds w [] [] (some ⟨1, 0, none⟩) (flat (fun _ : Unit => gl_state_shotBounds) [()])) (.bool r0) := by
  unfold m_hindcastlaw26_RollbackComes at h
  refine pf_of_wc Tryd.func3 rfl Tryd.ntmps3 rfl rfl (fun w0 hR => ?_)
  obtain ⟨p0S0, p0S1, G0S, G1S⟩ := hR
  refine wc_seq (wc_region ?_)
  refine wl_box rfl rfl rfl (fun b3 => ?_)
  refine wl_pure tt_ok rfl rfl ?_
  refine wl_nil (wx_then (wc_seq (wc_seq (wc_region ?_))))
  refine wl_pure (v := .pointer (some ⟨b3, 3, none⟩)) tt_ok rfl rfl ?_
  refine wl_val (v := .slice p0a0 p0n0 p0c0) (val_load tt_ok rfl (List.Mem.head _) rfl) rfl ?_
  refine wl_val (v := .int .i64 (p0.Mine.length : Int)) (val_len tt_ok rfl rfl p0N0) rfl ?_
  refine wl_pure (v := .bool (decide ((100 : Int) < (p0.Mine.length : Int)))) tt_ok rfl rfl ?_
  refine wl_pure tt_ok rfl rfl ?_
  replace h := bsome h; obtain ⟨v29, h, hg29⟩ := h
  refine wl_split (t := 24) rfl (fun hc => ?_) (fun hc => ?_)
  · replace h := ct hc h
    refine wl_skip rfl rfl ?_
    refine wl_skip rfl rfl ?_
    refine wl_skip rfl rfl ?_
    refine wl_skip rfl rfl ?_
    simp only [Option.some.injEq, Prod.mk.injEq] at h
    obtain rfl := h
    have h := hg29; clear hg29
    refine wl_pure (v := .bool true) tt_ok rfl rfl ?_
    refine wl_nil (wx_then ?_)
    replace h := ct rfl h
    refine wc_cond_true rfl ?_
    refine wc_seq (wc_region ?_)
    replace h := bsome h; obtain ⟨v30, x30, h⟩ := h
    refine wl_cq Tryd.call6 rfl rfl rfl (q_pf (k_hindcastlaw26_works x30) (fun w hI => ⟨(Rds.call G0S pNil rsub_nil) w hI, (Rds.call G1S pNil rsub_nil) w hI⟩)) rfl ?_
    refine wl_pure tt_ok rfl rfl ?_
    refine wl_nil (wx_then (wc_ret (wx_then_ret ?_)))
    simp only [Option.some.injEq] at h
    obtain rfl := h
    exact wx_pf tt_ok (.inl rfl) Tryd.results3 (Res.tmp rfl Res.nil) rfl
  replace h := cf hc h
  refine wl_run rfl ?_
  refine wl_pure (v := .pointer (some ⟨b3, 4, none⟩)) tt_ok rfl rfl ?_
  refine wl_run rfl ?_
  refine wl_val (v := .slice p0a1 p0n1 p0c1) (val_load tt_ok rfl (List.Mem.head _) rfl) rfl ?_
  refine wl_run rfl ?_
  refine wl_val (v := .int .i64 (p0.Theirs.length : Int)) (val_len tt_ok rfl rfl p0N1) rfl ?_
  refine wl_run rfl ?_
  refine wl_pure (v := .bool (decide ((100 : Int) < (p0.Theirs.length : Int)))) tt_ok rfl rfl ?_
  simp only [Option.some.injEq, Prod.mk.injEq] at h
  obtain rfl := h
  have h := hg29; clear hg29
  refine wl_pure (v := .bool (decide ((100 : Int) < (p0.Theirs.length : Int)))) tt_ok rfl rfl ?_
  refine wl_nil (wx_then ?_)
  refine wc_cond rfl (fun hc => ?_) (fun hc => ?_)
  · replace h := ct hc h
    refine wc_seq (wc_region ?_)
    replace h := bsome h; obtain ⟨v30, x30, h⟩ := h
    refine wl_cq Tryd.call6 rfl rfl rfl (q_pf (k_hindcastlaw26_works x30) (fun w hI => ⟨(Rds.call G0S pNil rsub_nil) w hI, (Rds.call G1S pNil rsub_nil) w hI⟩)) rfl ?_
    refine wl_pure tt_ok rfl rfl ?_
    refine wl_nil (wx_then (wc_ret (wx_then_ret ?_)))
    simp only [Option.some.injEq] at h
    obtain rfl := h
    exact wx_pf tt_ok (.inl rfl) Tryd.results3 (Res.tmp rfl Res.nil) rfl
  replace h := cf hc h
  refine wc_skip (wx_then (wc_seq (wc_region ?_)))
  refine wl_pure (v := .pointer (some ⟨b3, 2, none⟩)) tt_ok rfl rfl ?_
  refine wl_val (v := .int .u8 p0.Window) (val_load tt_ok rfl (List.Mem.head _) rfl) rfl ?_
  refine wl_pure (v := .int .u8 (Int.tmod p0.Window 12)) tt_ok rfl rfl ?_
  refine wl_pure (v := .int .i64 (IntKind.wrap .i64 (Int.tmod p0.Window 12))) tt_ok rfl rfl ?_
  refine wl_pure (v := .int .i64 (IntKind.wrap .i64 ((1 : Int) + (IntKind.wrap .i64 (Int.tmod p0.Window 12))))) tt_ok rfl rfl ?_
  refine wl_pure tt_ok rfl rfl ?_
  refine wl_nil (wx_then (wc_seq ?_))
  refine wc_k2 (Ls := (⟨b3, [.int .u64 p0.Seed, .int .u8 p0.Player, .int .u8 p0.Window, .slice p0a0 p0n0 p0c0, .slice p0a1 p0n1 p0c1], 25, (0, 0)⟩ :: [])) [2, 7, 8] [7, 8] [0, 1, 3, 0, 8, 24, 0, 127, 255] [0, 1, 3, 4, 5, 6, 2, 7, 8] (by kernel_rfl) (by kernel_rfl) (by kernel_rfl) ?_
  refine k_val (v := .pointer (some ⟨b3, 0, none⟩)) rfl rfl rfl (pSub (pCons Sel.hc pNil)) (stepV_ok tt_ok rfl) rfl ?_
  refine k_val (v := .int .u64 p0.Seed) rfl rfl rfl (pSub (pCons Sel.hc pNil)) (val_load tt_ok rfl (List.Mem.head _) rfl) rfl ?_
  refine k_val (v := .pointer (some ⟨b3, 1, none⟩)) rfl rfl rfl (pSub (pCons Sel.hc pNil)) (stepV_ok tt_ok rfl) rfl ?_
  refine k_val (v := .int .u8 p0.Player) rfl rfl rfl (pSub (pCons Sel.hc pNil)) (val_load tt_ok rfl (List.Mem.head _) rfl) rfl ?_
  refine k_val (v := .int .u8 (Int.tmod p0.Player 2)) rfl rfl rfl (pSub (pCons Sel.hc pNil)) (stepV_ok tt_ok rfl) rfl ?_
  refine k_val rfl rfl rfl (pSub (pCons Sel.hc pNil)) (stepV_ok tt_ok rfl) rfl ?_
  replace h := bsome h; obtain ⟨v38, x38, h⟩ := h
  refine k_cs rfl rfl rfl Tryd.call8 rfl rfl rfl (s_sp (k_state_Start x38) pNil (fun _ _ => trivial)) rfl (.inr (by rintro _ _ ⟨_, ⟨_, _, _, _, _, _, rfl, rfl⟩, rfl⟩; exact ⟨_, (pCons (Sel.sa Sel.hc) pNil)⟩)) ?_
  rintro _ _ ⟨_, ⟨v38a0, v38n0, v38c0, v38B0, v38N0, v38V0, rfl, rfl⟩, rfl⟩
  replace h := bsome h; obtain ⟨v43, x43, h⟩ := h
  rcases v43 with _ | v43s
  · replace h := poN h
    refine k_cs rfl rfl rfl Tryd.call7 rfl rfl rfl (s_sp (k_rollback_New_none (p0 := v38) v38N0 (vec_cap v38V0) (own_Z v38V0) x43) pNil (fun w hI => ⟨(Rds.call (Rds.of_vec v38V0) pNil ⟨_, Sel.ha⟩) w hI, (Rds.call G0S pNil rsub_nil) w hI, (Rds.call G1S pNil rsub_nil) w hI⟩)) rfl (.inl rfl) ?_
    rintro _ _ ⟨_, ⟨rfl, rfl⟩, rfl⟩
    refine k_chg rfl rfl rfl (Chg.of_val (stepV_ok tt_ok rfl)) rfl (.inl rfl) ?_
    rintro _ _ ⟨rfl, rfl⟩
    refine k_end (by kernel_rfl) ?_
    refine wx_then (wc_seq (wc_seq (wc_region ?_)))
    refine wl_pure tt_ok rfl rfl ?_
    refine wl_pure (v := .bool true) tt_ok rfl rfl ?_
    refine wl_nil (wx_then ?_)
    refine wc_cond_true rfl ?_
    refine wc_seq (wc_region ?_)
    refine wl_pure tt_ok rfl rfl ?_
    refine wl_nil (wx_then (wc_ret (wx_then_ret ?_)))
    simp only [Option.some.injEq] at h
    obtain rfl := h
    exact wx_pf tt_ok (.inl rfl) Tryd.results3 (Res.tmp rfl Res.nil) rfl
  replace h := poS h
  refine k_cs rfl rfl rfl Tryd.call7 rfl rfl rfl (s_sp (k_rollback_New (p0 := v38) v38N0 (vec_cap v38V0) (own_Z v38V0) x43) pNil (fun w hI => ⟨(Rds.call (Rds.of_vec v38V0) pNil ⟨_, Sel.ha⟩) w hI, (Rds.call G0S pNil rsub_nil) w hI, (Rds.call G1S pNil rsub_nil) w hI⟩)) rfl (.inl rfl) ?_
  rintro _ _ ⟨_, ⟨b43_0, b43_0_4, b43_0_5, v43sa0, v43sn0, v43sc0, v43sB0, v43sa1, v43sn1, v43sc1, v43sB1, v43s_4a0, v43s_4n0, v43s_4c0, v43s_4B0, v43s_5g0, v43s_5P0, v43sN0, v43sV0, v43sN1, v43sV1, v43s_4N0, v43s_4V0, v43s_5G0, v43s_5A0, rfl, rfl⟩, rfl⟩
  refine k_chg rfl rfl rfl (Chg.of_val (stepV_ok tt_ok rfl)) rfl (.inl rfl) ?_
  rintro _ _ ⟨rfl, rfl⟩
  refine k_end (by kernel_rfl) ?_
  refine wx_then (wc_seq (wc_seq (wc_region ?_)))
  refine wl_pure tt_ok rfl rfl ?_
  refine wl_pure (v := .bool false) tt_ok rfl rfl ?_
  refine wl_nil (wx_then ?_)
  refine wc_cond_false rfl ?_
  refine wc_skip (wx_then (wc_seq (wc_region ?_)))
  refine wl_pure tt_ok rfl rfl ?_
  refine wl_pure (v := .int .u8 (Int.tmod p1 40)) tt_ok rfl rfl ?_
  refine wl_pure (v := .int .i64 (IntKind.wrap .i64 (Int.tmod p1 40))) tt_ok rfl rfl ?_
  refine wl_pure tt_ok rfl rfl ?_
  refine wl_nil (wx_then (wc_seq (wc_seq (wc_region ?_))))
  refine wl_pure tt_ok rfl rfl ?_
  refine wl_nil (wx_then (wc_block ?_))
  replace h := bsome h; obtain ⟨o29, h, hl29⟩ := h
  refine wc_loop (fun m E L => ∃ (j29_10 : Int) (j29_n43_0_f0 : Int) (j29_n43_0_f1 : Int) (j29_n43_0_f2_0 : Int) (j29_n43_0_f2_1 : Int) (j29_n43_0_f2_2 : (T_api_Player × T_api_Player)) (j29_n43_0_f2_3 : (List T_api_Shot)) (j29_n43_0_f2_4 : (Int × Int)) (j29_n43_0_f3 : (List Int)) (j29_n43_0_4_f0 : Int) (j29_n43_0_4_f1 : (List Int)) (j29_n43_0_4_f2 : Int) (j29_n43_0_5_f0 : Int) (j29_n43_0_5_f1 : (Arr T_ring_place 14)) (j29_n43_0_f2_3a0 : Option Addr) (j29_n43_0_f2_3n0 : Nat) (j29_n43_0_f2_3c0 : Nat) (j29_n43_0_f2_3B0 : List Blk) (j29_n43_0_f3a0 : Option Addr) (j29_n43_0_f3n0 : Nat) (j29_n43_0_f3c0 : Nat) (j29_n43_0_f3B0 : List Blk) (j29_n43_0_4_f1a0 : Option Addr) (j29_n43_0_4_f1n0 : Nat) (j29_n43_0_4_f1c0 : Nat) (j29_n43_0_4_f1B0 : List Blk) (j29_n43_0_5_f1g0 : List (T_ring_place × G)) (j29_n43_0_5_f1P0 : List Blk), m_hindcastlaw26_RollbackComes_L28 F p0 p1 m j29_10 j29_n43_0_f0 j29_n43_0_f1 j29_n43_0_f2_0 j29_n43_0_f2_1 j29_n43_0_f2_2 j29_n43_0_f2_3 j29_n43_0_f2_4 j29_n43_0_f3 j29_n43_0_4_f0 j29_n43_0_4_f1 j29_n43_0_4_f2 j29_n43_0_5_f0 j29_n43_0_5_f1 = some o29 ∧ j29_n43_0_f2_3n0 = j29_n43_0_f2_3.length ∧ Own 80 6 j29_n43_0_f2_3a0 j29_n43_0_f2_3n0 j29_n43_0_f2_3c0 (flat c_T_api_Shot j29_n43_0_f2_3) j29_n43_0_f2_3B0 ∧ j29_n43_0_f3n0 = j29_n43_0_f3.length ∧ Own 40 1 j29_n43_0_f3a0 j29_n43_0_f3n0 j29_n43_0_f3c0 (flat (e1 .u8) j29_n43_0_f3) j29_n43_0_f3B0 ∧ j29_n43_0_4_f1n0 = j29_n43_0_4_f1.length ∧ Own 40 1 j29_n43_0_4_f1a0 j29_n43_0_4_f1n0 j29_n43_0_4_f1c0 (flat (e1 .u8) j29_n43_0_4_f1) j29_n43_0_4_f1B0 ∧ j29_n43_0_5_f1.1 = unG j29_n43_0_5_f1g0 ∧ AllP sh_T_ring_place c_T_api_Shot j29_n43_0_5_f1P0 j29_n43_0_5_f1g0 ∧ E = [(2, .int .u8 p2), (3, .pointer (some ⟨b3, 0, none⟩)), (6, .bool false), (7, .int .i64 (IntKind.wrap .i64 ((1 : Int) + (IntKind.wrap .i64 (Int.tmod p0.Window 12))))), (8, .pointer (some ⟨b43_0, 0, none⟩)), (9, .int .i64 (IntKind.wrap .i64 (Int.tmod p1 40))), (10, .int .i64 j29_10)] ∧ L = (⟨b3, [.int .u64 p0.Seed, .int .u8 p0.Player, .int .u8 p0.Window, .slice p0a0 p0n0 p0c0, .slice p0a1 p0n1 p0c1], 25, (0, 0)⟩ :: (⟨b43_0, [.int .u8 j29_n43_0_f0, .int .i64 j29_n43_0_f1, .int .u64 j29_n43_0_f2_0, .int .u64 j29_n43_0_f2_1, .int .i32 j29_n43_0_f2_2.1.X, .int .i32 j29_n43_0_f2_2.1.Y, .int .i32 j29_n43_0_f2_2.1.VX, .int .i32 j29_n43_0_f2_2.1.VY, .int .u8 j29_n43_0_f2_2.1.Health, .int .u8 j29_n43_0_f2_2.1.Cool, .int .u8 j29_n43_0_f2_2.1.Face, .int .i32 j29_n43_0_f2_2.2.X, .int .i32 j29_n43_0_f2_2.2.Y, .int .i32 j29_n43_0_f2_2.2.VX, .int .i32 j29_n43_0_f2_2.2.VY, .int .u8 j29_n43_0_f2_2.2.Health, .int .u8 j29_n43_0_f2_2.2.Cool, .int .u8 j29_n43_0_f2_2.2.Face, .slice j29_n43_0_f2_3a0 j29_n43_0_f2_3n0 j29_n43_0_f2_3c0, .int .u16 j29_n43_0_f2_4.1, .int .u16 j29_n43_0_f2_4.2, .slice j29_n43_0_f3a0 j29_n43_0_f3n0 j29_n43_0_f3c0, .pointer (some ⟨b43_0_4, 0, none⟩), .pointer (some ⟨b43_0_5, 0, none⟩)], 55, (0, 0)⟩ :: (⟨b43_0_4, [.int .u64 j29_n43_0_4_f0, .slice j29_n43_0_4_f1a0 j29_n43_0_4_f1n0 j29_n43_0_4_f1c0, .int .u8 j29_n43_0_4_f2], 94, (0, 0)⟩ :: (⟨b43_0_5, ([.int .i64 j29_n43_0_5_f0] ++ flat cg_T_ring_place j29_n43_0_5_f1g0), 99, (0, 0)⟩ :: (j29_n43_0_f2_3B0 ++ (j29_n43_0_f3B0 ++ (j29_n43_0_4_f1B0 ++ (j29_n43_0_5_f1P0 ++ []))))))))) F ⟨(0 : Int), v43s.1.player, v43s.1.window, v43s.1.sure.Frame, v43s.1.sure.Seed, v43s.1.sure.Players, v43s.1.sure.Shots, v43s.1.sure.Score, v43s.1.own, v43s.2.1.first_, v43s.2.1.l, v43s.2.1.last, v43s.2.2.size, v43s.2.2.places, v43sa0, v43sn0, v43sc0, v43sB0, v43sa1, v43sn1, v43sc1, v43sB1, v43s_4a0, v43s_4n0, v43s_4c0, v43s_4B0, v43s_5g0, v43s_5P0, h, v43sN0, v43sV0, v43sN1, v43sV1, v43s_4N0, v43s_4V0, v43s_5G0, v43s_5A0, rfl, rfl⟩ (agree_cons rfl (agree_cons rfl (agree_cons rfl (agree_cons rfl (agree_cons rfl (agree_cons rfl (agree_cons rfl agree_nil))))))) (pSub (pCons (Sel.sc (Sel.sa (Sel.sa (Sel.sc (Sel.sa (Sel.sc (Sel.sa (Sel.sa Sel.hc)))))))) (pCons Sel.hc (pCons (Sel.sa (Sel.sa Sel.hc)) (pCons (Sel.sa (Sel.sa (Sel.sa Sel.hc))) (pApp Sel.ha (pApp Sel.ha (pApp Sel.ha (pApp Sel.ha pNil))))))))) ?_
  clear h
  rintro m29 _ _ ⟨j29_10, j29_n43_0_f0, j29_n43_0_f1, j29_n43_0_f2_0, j29_n43_0_f2_1, j29_n43_0_f2_2, j29_n43_0_f2_3, j29_n43_0_f2_4, j29_n43_0_f3, j29_n43_0_4_f0, j29_n43_0_4_f1, j29_n43_0_4_f2, j29_n43_0_5_f0, j29_n43_0_5_f1, j29_n43_0_f2_3a0, j29_n43_0_f2_3n0, j29_n43_0_f2_3c0, j29_n43_0_f2_3B0, j29_n43_0_f3a0, j29_n43_0_f3n0, j29_n43_0_f3c0, j29_n43_0_f3B0, j29_n43_0_4_f1a0, j29_n43_0_4_f1n0, j29_n43_0_4_f1c0, j29_n43_0_4_f1B0, j29_n43_0_5_f1g0, j29_n43_0_5_f1P0, h, j29_n43_0_f2_3N0, j29_n43_0_f2_3V0, j29_n43_0_f3N0, j29_n43_0_f3V0, j29_n43_0_4_f1N0, j29_n43_0_4_f1V0, j29_n43_0_5_f1G0, j29_n43_0_5_f1A0, rfl, rfl⟩
  rcases m29 with _ | m29
  · rw [m_hindcastlaw26_RollbackComes_L28.eq_1] at h; cases h
  rw [m_hindcastlaw26_RollbackComes_L28.eq_2] at h
  refine wc_seq (wc_seq (wc_region ?_))
  iterate 2 refine wl_pure tt_ok rfl rfl ?_
  refine wl_pure (v := .bool (decide (j29_10 < (IntKind.wrap .i64 (Int.tmod p1 40))))) tt_ok rfl rfl ?_
  refine wl_nil (wx_then ?_)
  refine wc_cond rfl (fun hc => ?_) (fun hc => ?_)
  · replace h := ct hc h
    refine wc_skip (wx_then (wc_seq (wc_block (wc_seq (wc_region ?_)))))
    refine wl_pure tt_ok rfl rfl ?_
    refine wl_pure (v := .pointer (some ⟨b3, 3, none⟩)) tt_ok rfl rfl ?_
    refine wl_val (v := .slice p0a0 p0n0 p0c0) (val_load tt_ok rfl (List.Mem.head _) rfl) rfl ?_
    refine wl_pure tt_ok rfl rfl ?_
    replace h := bsome h; obtain ⟨v58, x58, h⟩ := h
    refine wl_cq Tryd.call10 rfl rfl rfl (q_pf (k_hindcastlaw26_at (p0 := p0.Mine) p0N0 p0H0 x58) (Rds.call p0S0 pNil rsub_nil)) rfl ?_
    replace h := bsome h; obtain ⟨⟨o59_0, v59⟩, x59, h⟩ := h; try dsimp only at h
    refine wl_cs Tryd.call9 rfl rfl rfl (s_sp (k_rollback_Engine_Local (p0 := (T_rollback_Engine.mk j29_n43_0_f0 j29_n43_0_f1 (T_api_State.mk j29_n43_0_f2_0 j29_n43_0_f2_1 j29_n43_0_f2_2 j29_n43_0_f2_3 j29_n43_0_f2_4) j29_n43_0_f3)) (p0_4 := (T_queue_Queue.mk j29_n43_0_4_f0 j29_n43_0_4_f1 j29_n43_0_4_f2)) (p0_5 := (T_ring_Ring.mk j29_n43_0_5_f0 j29_n43_0_5_f1)) j29_n43_0_f2_3N0 j29_n43_0_f2_3V0 j29_n43_0_f3N0 j29_n43_0_f3V0 j29_n43_0_4_f1N0 j29_n43_0_4_f1V0 j29_n43_0_5_f1G0 j29_n43_0_5_f1A0 x59) (pCons (Sel.sc Sel.hc) (pApp (Sel.sc (Sel.sc (Sel.sc Sel.ha))) (pApp (Sel.sc (Sel.sc (Sel.sc Sel.ha))) (pCons (Sel.sc Sel.hc) (pApp (Sel.sc (Sel.sc Sel.ha)) (pCons (Sel.sc Sel.hc) (pApp (Sel.sc Sel.ha) pNil))))))) (fun _ _ => trivial)) rfl ?_
    rintro _ _ ⟨_, ⟨o59_0a0, o59_0n0, o59_0c0, o59_0B0, o59_0a1, o59_0n1, o59_0c1, o59_0B1, o59_0N0, o59_0V0, o59_0N1, o59_0V1, rfl, rfl⟩, rfl⟩
    refine wl_nil (wx_then (wc_seq (wc_region ?_)))
    refine wl_pure tt_ok rfl rfl ?_
    replace h := bsome h; obtain ⟨⟨o61_2, v61⟩, x61, h⟩ := h; try dsimp only at h
    refine wl_cs Tryd.call11 rfl rfl rfl (s_sp (k_rollback_Engine_Shown (p0 := o59_0) (p0_4 := (T_queue_Queue.mk j29_n43_0_4_f0 j29_n43_0_4_f1 j29_n43_0_4_f2)) (p0_5 := (T_ring_Ring.mk j29_n43_0_5_f0 j29_n43_0_5_f1)) o59_0N0 o59_0V0 o59_0N1 o59_0V1 j29_n43_0_4_f1N0 j29_n43_0_4_f1V0 j29_n43_0_5_f1G0 j29_n43_0_5_f1A0 x61) (pCons Sel.hc (pApp Sel.ha (pApp Sel.ha (pCons Sel.hc (pApp Sel.ha (pCons Sel.hc (pApp Sel.ha pNil))))))) (fun w hI => ⟨(Rds.call G0S (pCons Sel.hc (pApp Sel.ha (pApp Sel.ha (pCons Sel.hc (pApp Sel.ha (pCons Sel.hc (pApp Sel.ha pNil))))))) rsub_nil) w hI, (Rds.call G1S (pCons Sel.hc (pApp Sel.ha (pApp Sel.ha (pCons Sel.hc (pApp Sel.ha (pCons Sel.hc (pApp Sel.ha pNil))))))) rsub_nil) w hI⟩)) rfl ?_
    rintro _ _ ⟨_, ⟨o61_2g0, o61_2P0, v61a0, v61n0, v61c0, v61B0, o61_2G0, o61_2A0, v61N0, v61V0, rfl, rfl⟩, rfl⟩
    refine wl_nil (wx_then (wc_seq (wc_region ?_)))
    iterate 2 refine wl_pure tt_ok rfl rfl ?_
    refine wl_pure (v := .int .u64 (IntKind.wrap .u64 j29_10)) tt_ok rfl rfl ?_
    refine wl_pure (v := .pointer (some ⟨b3, 4, none⟩)) tt_ok rfl rfl ?_
    refine wl_val (v := .slice p0a1 p0n1 p0c1) (val_load tt_ok rfl (List.Mem.tail _ (mR (mR (List.Mem.tail _ (mR (List.Mem.tail _ (mR (mR (List.Mem.head _))))))))) rfl) rfl ?_
    refine wl_pure tt_ok rfl rfl ?_
    replace h := bsome h; obtain ⟨v68, x68, h⟩ := h
    refine wl_cq Tryd.call10 rfl rfl rfl (q_pf (k_hindcastlaw26_at (p0 := p0.Theirs) p0N1 p0H1 x68) (Rds.call p0S1 pNil rsub_nil)) rfl ?_
    replace h := bsome h; obtain ⟨⟨o69_1, o69_2, v69⟩, x69, h⟩ := h; try dsimp only at h
    refine wl_cs Tryd.call12 rfl rfl rfl (s_sp (k_rollback_Engine_Remote (p0 := o59_0) (p0_4 := (T_queue_Queue.mk j29_n43_0_4_f0 j29_n43_0_4_f1 j29_n43_0_4_f2)) (p0_5 := o61_2) o59_0N0 o59_0V0 o59_0N1 o59_0V1 j29_n43_0_4_f1N0 j29_n43_0_4_f1V0 o61_2G0 o61_2A0 x69) (pCons Sel.hc (pApp Sel.ha (pApp Sel.ha (pCons Sel.hc (pApp Sel.ha (pCons Sel.hc (pApp Sel.ha pNil))))))) (fun _ _ => trivial)) rfl ?_
    rintro _ _ ⟨_, ⟨o69_1a0, o69_1n0, o69_1c0, o69_1B0, o69_2g0, o69_2P0, o69_1N0, o69_1V0, o69_2G0, o69_2A0, rfl, rfl⟩, rfl⟩
    refine wl_nil (wx_then (wc_seq (wc_region ?_)))
    iterate 2 refine wl_pure tt_ok rfl rfl ?_
    refine wl_pure (v := .int .i64 (IntKind.wrap .i64 (j29_10 + (1 : Int)))) tt_ok rfl rfl ?_
    refine wl_pure (v := .int .u64 (IntKind.wrap .u64 (IntKind.wrap .i64 (j29_10 + (1 : Int))))) tt_ok rfl rfl ?_
    replace h := bsome h; obtain ⟨⟨o75_0, o75_1, o75_2, v75_0, v75_1⟩, x75, h⟩ := h; try dsimp only at h
    refine wl_cs Tryd.call13 rfl rfl rfl (s_sp (k_rollback_Engine_Confirm (p0 := o59_0) (p0_4 := o69_1) (p0_5 := o69_2) o59_0N0 o59_0V0 o59_0N1 o59_0V1 o69_1N0 o69_1V0 o69_2G0 o69_2A0 x75) (pCons Sel.hc (pApp Sel.ha (pApp Sel.ha (pCons Sel.hc (pApp Sel.ha (pCons Sel.hc (pApp Sel.ha pNil))))))) (fun w hI => ⟨(Rds.call G0S (pCons Sel.hc (pApp Sel.ha (pApp Sel.ha (pCons Sel.hc (pApp Sel.ha (pCons Sel.hc (pApp Sel.ha pNil))))))) rsub_nil) w hI, (Rds.call G1S (pCons Sel.hc (pApp Sel.ha (pApp Sel.ha (pCons Sel.hc (pApp Sel.ha (pCons Sel.hc (pApp Sel.ha pNil))))))) rsub_nil) w hI⟩)) rfl ?_
    rintro _ _ ⟨_, ⟨o75_0a0, o75_0n0, o75_0c0, o75_0B0, o75_0a1, o75_0n1, o75_0c1, o75_0B1, o75_1a0, o75_1n0, o75_1c0, o75_1B0, o75_2g0, o75_2P0, o75_0N0, o75_0V0, o75_0N1, o75_0V1, o75_1N0, o75_1V0, o75_2G0, o75_2A0, rfl, rfl⟩, rfl⟩
    iterate 3 refine wl_pure tt_ok rfl rfl ?_
    refine wl_alloc tt_ok rfl rfl (fun b11 => ?_)
    apply wl_store tt_ok; rfl; exact Upd.here; rfl; rfl; rfl; rfl; rfl; rfl
    refine wl_pure tt_ok rfl rfl ?_
    refine wl_nil (wx_then (wc_seq (wc_region ?_)))
    refine wl_pure tt_ok rfl rfl ?_
    refine wl_pure (v := .bool (!v75_1)) tt_ok rfl rfl ?_
    refine wl_nil (wx_then ?_)
    refine wc_cond rfl (fun hc => ?_) (fun hc => ?_)
    · replace h := ct hc h
      refine wc_seq (wc_region ?_)
      refine wl_pure tt_ok rfl rfl ?_
      refine wl_nil (wx_then (wc_ret (wx_block_ret (wx_then_ret ?_))))
      obtain rfl := Option.some.inj h
      have h := hl29; clear hl29; try dsimp only [orE_l, orE_r] at h
      refine wx_then_ret (wx_block_ret (wx_then_ret ?_))
      simp only [Option.some.injEq] at h
      obtain rfl := h
      exact wx_pf tt_ok (.inl rfl) Tryd.results3 (Res.tmp rfl Res.nil) rfl
    replace h := cf hc h
    refine wc_skip (wx_block (wx_then (wc_region ?_)))
    refine wl_pure tt_ok rfl rfl ?_
    refine wl_pure (v := .int .i64 (IntKind.wrap .i64 (j29_10 + (1 : Int)))) tt_ok rfl rfl ?_
    refine wl_pure tt_ok rfl rfl ?_
    refine wl_nil ?_
    exact wx_round m29 (Nat.lt_succ_self m29) ⟨(IntKind.wrap .i64 (j29_10 + (1 : Int))), o75_0.player, o75_0.window, o75_0.sure.Frame, o75_0.sure.Seed, o75_0.sure.Players, o75_0.sure.Shots, o75_0.sure.Score, o75_0.own, o75_1.first_, o75_1.l, o75_1.last, o75_2.size, o75_2.places, o75_0a0, o75_0n0, o75_0c0, o75_0B0, o75_0a1, o75_0n1, o75_0c1, o75_0B1, o75_1a0, o75_1n0, o75_1c0, o75_1B0, o75_2g0, o75_2P0, h, o75_0N0, o75_0V0, o75_0N1, o75_0V1, o75_1N0, o75_1V0, o75_2G0, o75_2A0, rfl, rfl⟩ (agree_cons rfl (agree_cons rfl (agree_cons rfl (agree_cons rfl (agree_cons rfl (agree_cons rfl (agree_cons rfl agree_nil))))))) (pSub (pCons (Sel.sc (Sel.sc (Sel.sa (Sel.sa (Sel.sc (Sel.sa (Sel.sc (Sel.sa (Sel.sa Sel.hc))))))))) (pCons (Sel.sc Sel.hc) (pCons (Sel.sc (Sel.sa (Sel.sa Sel.hc))) (pCons (Sel.sc (Sel.sa (Sel.sa (Sel.sa Sel.hc)))) (pApp (Sel.sc Sel.ha) (pApp (Sel.sc Sel.ha) (pApp (Sel.sc Sel.ha) (pApp (Sel.sc Sel.ha) pNil)))))))))
  replace h := cf hc h
  refine wc_exit (wx_then_exit ?_)
  obtain rfl := Option.some.inj h
  have h := hl29; clear hl29; try dsimp only [orE_l, orE_r] at h
  refine wx_then_exit (wx_block_exit (wx_then (wc_seq (wc_region ?_))))
  refine wl_pure tt_ok rfl rfl ?_
  refine wl_pure (v := .int .i64 (IntKind.wrap .i64 p2)) tt_ok rfl rfl ?_
  refine wl_pure tt_ok rfl rfl ?_
  replace h := bsome h; obtain ⟨v83, x83, h⟩ := h
  refine wl_val (v := .int .i64 v83) (val_rem rfl rfl x83) rfl ?_
  refine wl_pure (v := .int .i64 (IntKind.wrap .i64 ((1 : Int) + v83))) tt_ok rfl rfl ?_
  refine wl_pure tt_ok rfl rfl ?_
  refine wl_nil (wx_then (wc_seq (wc_seq (wc_region ?_))))
  iterate 2 refine wl_pure tt_ok rfl rfl ?_
  refine wl_nil (wx_then (wc_block ?_))
  replace h := bsome h; obtain ⟨o60, h, hl60⟩ := h
  refine wc_loop (fun m E L => ∃ (j60_14 : Int) (j60_n43_0_f0 : Int) (j60_n43_0_f1 : Int) (j60_n43_0_f2_0 : Int) (j60_n43_0_f2_1 : Int) (j60_n43_0_f2_2 : (T_api_Player × T_api_Player)) (j60_n43_0_f2_3 : (List T_api_Shot)) (j60_n43_0_f2_4 : (Int × Int)) (j60_n43_0_f3 : (List Int)) (j60_n43_0_5_f0 : Int) (j60_n43_0_5_f1 : (Arr T_ring_place 14)) (j60_n43_0_f2_3a0 : Option Addr) (j60_n43_0_f2_3n0 : Nat) (j60_n43_0_f2_3c0 : Nat) (j60_n43_0_f2_3B0 : List Blk) (j60_n43_0_f3a0 : Option Addr) (j60_n43_0_f3n0 : Nat) (j60_n43_0_f3c0 : Nat) (j60_n43_0_f3B0 : List Blk) (j60_n43_0_5_f1g0 : List (T_ring_place × G)) (j60_n43_0_5_f1P0 : List Blk), m_hindcastlaw26_RollbackComes_L59 F p0 p1 false j29_n43_0_4_f0 j29_n43_0_4_f1 j29_n43_0_4_f2 v83 m j60_14 j60_n43_0_f0 j60_n43_0_f1 j60_n43_0_f2_0 j60_n43_0_f2_1 j60_n43_0_f2_2 j60_n43_0_f2_3 j60_n43_0_f2_4 j60_n43_0_f3 j60_n43_0_5_f0 j60_n43_0_5_f1 = some o60 ∧ j60_n43_0_f2_3n0 = j60_n43_0_f2_3.length ∧ Own 80 6 j60_n43_0_f2_3a0 j60_n43_0_f2_3n0 j60_n43_0_f2_3c0 (flat c_T_api_Shot j60_n43_0_f2_3) j60_n43_0_f2_3B0 ∧ j60_n43_0_f3n0 = j60_n43_0_f3.length ∧ Own 40 1 j60_n43_0_f3a0 j60_n43_0_f3n0 j60_n43_0_f3c0 (flat (e1 .u8) j60_n43_0_f3) j60_n43_0_f3B0 ∧ j60_n43_0_5_f1.1 = unG j60_n43_0_5_f1g0 ∧ AllP sh_T_ring_place c_T_api_Shot j60_n43_0_5_f1P0 j60_n43_0_5_f1g0 ∧ E = [(3, .pointer (some ⟨b3, 0, none⟩)), (6, .bool false), (8, .pointer (some ⟨b43_0, 0, none⟩)), (9, .int .i64 (IntKind.wrap .i64 (Int.tmod p1 40))), (13, .int .i64 (IntKind.wrap .i64 ((1 : Int) + v83))), (14, .int .i64 j60_14)] ∧ L = (⟨b3, [.int .u64 p0.Seed, .int .u8 p0.Player, .int .u8 p0.Window, .slice p0a0 p0n0 p0c0, .slice p0a1 p0n1 p0c1], 25, (0, 0)⟩ :: (⟨b43_0, [.int .u8 j60_n43_0_f0, .int .i64 j60_n43_0_f1, .int .u64 j60_n43_0_f2_0, .int .u64 j60_n43_0_f2_1, .int .i32 j60_n43_0_f2_2.1.X, .int .i32 j60_n43_0_f2_2.1.Y, .int .i32 j60_n43_0_f2_2.1.VX, .int .i32 j60_n43_0_f2_2.1.VY, .int .u8 j60_n43_0_f2_2.1.Health, .int .u8 j60_n43_0_f2_2.1.Cool, .int .u8 j60_n43_0_f2_2.1.Face, .int .i32 j60_n43_0_f2_2.2.X, .int .i32 j60_n43_0_f2_2.2.Y, .int .i32 j60_n43_0_f2_2.2.VX, .int .i32 j60_n43_0_f2_2.2.VY, .int .u8 j60_n43_0_f2_2.2.Health, .int .u8 j60_n43_0_f2_2.2.Cool, .int .u8 j60_n43_0_f2_2.2.Face, .slice j60_n43_0_f2_3a0 j60_n43_0_f2_3n0 j60_n43_0_f2_3c0, .int .u16 j60_n43_0_f2_4.1, .int .u16 j60_n43_0_f2_4.2, .slice j60_n43_0_f3a0 j60_n43_0_f3n0 j60_n43_0_f3c0, .pointer (some ⟨b43_0_4, 0, none⟩), .pointer (some ⟨b43_0_5, 0, none⟩)], 55, (0, 0)⟩ :: (⟨b43_0_4, [.int .u64 j29_n43_0_4_f0, .slice j29_n43_0_4_f1a0 j29_n43_0_4_f1n0 j29_n43_0_4_f1c0, .int .u8 j29_n43_0_4_f2], 94, (0, 0)⟩ :: (⟨b43_0_5, ([.int .i64 j60_n43_0_5_f0] ++ flat cg_T_ring_place j60_n43_0_5_f1g0), 99, (0, 0)⟩ :: (j60_n43_0_f2_3B0 ++ (j60_n43_0_f3B0 ++ (j29_n43_0_4_f1B0 ++ (j60_n43_0_5_f1P0 ++ []))))))))) F ⟨(IntKind.wrap .i64 (Int.tmod p1 40)), j29_n43_0_f0, j29_n43_0_f1, j29_n43_0_f2_0, j29_n43_0_f2_1, j29_n43_0_f2_2, j29_n43_0_f2_3, j29_n43_0_f2_4, j29_n43_0_f3, j29_n43_0_5_f0, j29_n43_0_5_f1, j29_n43_0_f2_3a0, j29_n43_0_f2_3n0, j29_n43_0_f2_3c0, j29_n43_0_f2_3B0, j29_n43_0_f3a0, j29_n43_0_f3n0, j29_n43_0_f3c0, j29_n43_0_f3B0, j29_n43_0_5_f1g0, j29_n43_0_5_f1P0, h, j29_n43_0_f2_3N0, j29_n43_0_f2_3V0, j29_n43_0_f3N0, j29_n43_0_f3V0, j29_n43_0_5_f1G0, j29_n43_0_5_f1A0, rfl, rfl⟩ (agree_cons rfl (agree_cons rfl (agree_cons rfl (agree_cons rfl (agree_cons rfl (agree_cons rfl agree_nil)))))) (pSub (pCons Sel.hc (pCons Sel.hc (pCons Sel.hc (pCons Sel.hc (pApp Sel.ha (pApp Sel.ha (pApp Sel.ha (pApp Sel.ha pNil))))))))) ?_
  clear h
  rintro m60 _ _ ⟨j60_14, j60_n43_0_f0, j60_n43_0_f1, j60_n43_0_f2_0, j60_n43_0_f2_1, j60_n43_0_f2_2, j60_n43_0_f2_3, j60_n43_0_f2_4, j60_n43_0_f3, j60_n43_0_5_f0, j60_n43_0_5_f1, j60_n43_0_f2_3a0, j60_n43_0_f2_3n0, j60_n43_0_f2_3c0, j60_n43_0_f2_3B0, j60_n43_0_f3a0, j60_n43_0_f3n0, j60_n43_0_f3c0, j60_n43_0_f3B0, j60_n43_0_5_f1g0, j60_n43_0_5_f1P0, h, j60_n43_0_f2_3N0, j60_n43_0_f2_3V0, j60_n43_0_f3N0, j60_n43_0_f3V0, j60_n43_0_5_f1G0, j60_n43_0_5_f1A0, rfl, rfl⟩
  rcases m60 with _ | m60
  · rw [m_hindcastlaw26_RollbackComes_L59.eq_1] at h; cases h
  rw [m_hindcastlaw26_RollbackComes_L59.eq_2] at h
  refine wc_seq (wc_seq (wc_region ?_))
  iterate 3 refine wl_pure tt_ok rfl rfl ?_
  refine wl_pure (v := .int .i64 (IntKind.wrap .i64 ((IntKind.wrap .i64 (Int.tmod p1 40)) + (IntKind.wrap .i64 ((1 : Int) + v83))))) tt_ok rfl rfl ?_
  refine wl_pure (v := .bool (decide (j60_14 < (IntKind.wrap .i64 ((IntKind.wrap .i64 (Int.tmod p1 40)) + (IntKind.wrap .i64 ((1 : Int) + v83))))))) tt_ok rfl rfl ?_
  refine wl_nil (wx_then ?_)
  refine wc_cond rfl (fun hc => ?_) (fun hc => ?_)
  · replace h := ct hc h
    refine wc_skip (wx_then (wc_seq (wc_block (wc_seq (wc_seq (wc_region ?_))))))
    refine wl_pure tt_ok rfl rfl ?_
    refine wl_pure (v := .pointer (some ⟨b3, 3, none⟩)) tt_ok rfl rfl ?_
    refine wl_val (v := .slice p0a0 p0n0 p0c0) (val_load tt_ok rfl (List.Mem.head _) rfl) rfl ?_
    refine wl_pure tt_ok rfl rfl ?_
    replace h := bsome h; obtain ⟨v97, x97, h⟩ := h
    refine wl_cq Tryd.call10 rfl rfl rfl (q_pf (k_hindcastlaw26_at (p0 := p0.Mine) p0N0 p0H0 x97) (Rds.call p0S0 pNil rsub_nil)) rfl ?_
    replace h := bsome h; obtain ⟨⟨o98_0, v98⟩, x98, h⟩ := h; try dsimp only at h
    refine wl_cs Tryd.call9 rfl rfl rfl (s_sp (k_rollback_Engine_Local (p0 := (T_rollback_Engine.mk j60_n43_0_f0 j60_n43_0_f1 (T_api_State.mk j60_n43_0_f2_0 j60_n43_0_f2_1 j60_n43_0_f2_2 j60_n43_0_f2_3 j60_n43_0_f2_4) j60_n43_0_f3)) (p0_4 := (T_queue_Queue.mk j29_n43_0_4_f0 j29_n43_0_4_f1 j29_n43_0_4_f2)) (p0_5 := (T_ring_Ring.mk j60_n43_0_5_f0 j60_n43_0_5_f1)) j60_n43_0_f2_3N0 j60_n43_0_f2_3V0 j60_n43_0_f3N0 j60_n43_0_f3V0 j29_n43_0_4_f1N0 j29_n43_0_4_f1V0 j60_n43_0_5_f1G0 j60_n43_0_5_f1A0 x98) (pCons (Sel.sc Sel.hc) (pApp (Sel.sc (Sel.sc (Sel.sc Sel.ha))) (pApp (Sel.sc (Sel.sc (Sel.sc Sel.ha))) (pCons (Sel.sc Sel.hc) (pApp (Sel.sc (Sel.sc Sel.ha)) (pCons (Sel.sc Sel.hc) (pApp (Sel.sc Sel.ha) pNil))))))) (fun _ _ => trivial)) rfl ?_
    rintro _ _ ⟨_, ⟨o98_0a0, o98_0n0, o98_0c0, o98_0B0, o98_0a1, o98_0n1, o98_0c1, o98_0B1, o98_0N0, o98_0V0, o98_0N1, o98_0V1, rfl, rfl⟩, rfl⟩
    refine wl_pure (v := .bool (v98 != (0 : Int))) tt_ok rfl rfl ?_
    refine wl_nil (wx_then ?_)
    refine wc_cond rfl (fun hc => ?_) (fun hc => ?_)
    · replace h := ct hc h
      refine wc_seq (wc_region ?_)
      refine wl_pure tt_ok rfl rfl ?_
      refine wl_nil (wx_then (wc_ret (wx_then_ret (wx_block_ret (wx_then_ret ?_)))))
      obtain rfl := Option.some.inj h
      have h := hl60; clear hl60; try dsimp only [orE_l, orE_r] at h
      refine wx_then_ret (wx_block_ret (wx_then_ret ?_))
      simp only [Option.some.injEq] at h
      obtain rfl := h
      exact wx_pf tt_ok (.inl rfl) Tryd.results3 (Res.tmp rfl Res.nil) rfl
    replace h := cf hc h
    refine wc_skip (wx_then (wc_region ?_))
    refine wl_pure tt_ok rfl rfl ?_
    replace h := bsome h; obtain ⟨⟨o101_2, v101⟩, x101, h⟩ := h; try dsimp only at h
    refine wl_cs Tryd.call11 rfl rfl rfl (s_sp (k_rollback_Engine_Shown (p0 := o98_0) (p0_4 := (T_queue_Queue.mk j29_n43_0_4_f0 j29_n43_0_4_f1 j29_n43_0_4_f2)) (p0_5 := (T_ring_Ring.mk j60_n43_0_5_f0 j60_n43_0_5_f1)) o98_0N0 o98_0V0 o98_0N1 o98_0V1 j29_n43_0_4_f1N0 j29_n43_0_4_f1V0 j60_n43_0_5_f1G0 j60_n43_0_5_f1A0 x101) (pCons Sel.hc (pApp Sel.ha (pApp Sel.ha (pCons Sel.hc (pApp Sel.ha (pCons Sel.hc (pApp Sel.ha pNil))))))) (fun w hI => ⟨(Rds.call G0S (pCons Sel.hc (pApp Sel.ha (pApp Sel.ha (pCons Sel.hc (pApp Sel.ha (pCons Sel.hc (pApp Sel.ha pNil))))))) rsub_nil) w hI, (Rds.call G1S (pCons Sel.hc (pApp Sel.ha (pApp Sel.ha (pCons Sel.hc (pApp Sel.ha (pCons Sel.hc (pApp Sel.ha pNil))))))) rsub_nil) w hI⟩)) rfl ?_
    rintro _ _ ⟨_, ⟨o101_2g0, o101_2P0, v101a0, v101n0, v101c0, v101B0, o101_2G0, o101_2A0, v101N0, v101V0, rfl, rfl⟩, rfl⟩
    refine wl_nil (wx_block (wx_then (wc_region ?_)))
    refine wl_pure tt_ok rfl rfl ?_
    refine wl_pure (v := .int .i64 (IntKind.wrap .i64 (j60_14 + (1 : Int)))) tt_ok rfl rfl ?_
    refine wl_pure tt_ok rfl rfl ?_
    refine wl_nil ?_
    exact wx_round m60 (Nat.lt_succ_self m60) ⟨(IntKind.wrap .i64 (j60_14 + (1 : Int))), o98_0.player, o98_0.window, o98_0.sure.Frame, o98_0.sure.Seed, o98_0.sure.Players, o98_0.sure.Shots, o98_0.sure.Score, o98_0.own, o101_2.size, o101_2.places, o98_0a0, o98_0n0, o98_0c0, o98_0B0, o98_0a1, o98_0n1, o98_0c1, o98_0B1, o101_2g0, o101_2P0, h, o98_0N0, o98_0V0, o98_0N1, o98_0V1, o101_2G0, o101_2A0, rfl, rfl⟩ (agree_cons rfl (agree_cons rfl (agree_cons rfl (agree_cons rfl (agree_cons rfl (agree_cons rfl agree_nil)))))) (pSub (pCons (Sel.sc (Sel.sa (Sel.sa (Sel.sc (Sel.sa (Sel.sc (Sel.sa (Sel.sa Sel.hc)))))))) (pCons Sel.hc (pCons (Sel.sa (Sel.sa Sel.hc)) (pCons (Sel.sa (Sel.sa (Sel.sa Sel.hc))) (pApp Sel.ha (pApp Sel.ha (pApp Sel.ha (pApp Sel.ha pNil)))))))))
  replace h := cf hc h
  refine wc_exit (wx_then_exit ?_)
  obtain rfl := Option.some.inj h
  have h := hl60; clear hl60; try dsimp only [orE_l, orE_r] at h
  refine wx_then_exit (wx_block_exit (wx_then (wc_seq (wc_seq (wc_region ?_)))))
  iterate 2 refine wl_pure tt_ok rfl rfl ?_
  refine wl_nil (wx_then (wc_block ?_))
  replace h := bsome h; obtain ⟨o83, h, hl83⟩ := h
  refine wc_loop (fun m E L => ∃ (j83_15 : Int) (j83_n43_0_4_f0 : Int) (j83_n43_0_4_f1 : (List Int)) (j83_n43_0_4_f2 : Int) (j83_n43_0_5_f0 : Int) (j83_n43_0_5_f1 : (Arr T_ring_place 14)) (j83_n43_0_4_f1a0 : Option Addr) (j83_n43_0_4_f1n0 : Nat) (j83_n43_0_4_f1c0 : Nat) (j83_n43_0_4_f1B0 : List Blk) (j83_n43_0_5_f1g0 : List (T_ring_place × G)) (j83_n43_0_5_f1P0 : List Blk), m_hindcastlaw26_RollbackComes_L82 F p0 p1 v83 false j60_n43_0_f0 j60_n43_0_f1 j60_n43_0_f2_0 j60_n43_0_f2_1 j60_n43_0_f2_2 j60_n43_0_f2_3 j60_n43_0_f2_4 j60_n43_0_f3 m j83_15 j83_n43_0_4_f0 j83_n43_0_4_f1 j83_n43_0_4_f2 j83_n43_0_5_f0 j83_n43_0_5_f1 = some o83 ∧ j83_n43_0_4_f1n0 = j83_n43_0_4_f1.length ∧ Own 40 1 j83_n43_0_4_f1a0 j83_n43_0_4_f1n0 j83_n43_0_4_f1c0 (flat (e1 .u8) j83_n43_0_4_f1) j83_n43_0_4_f1B0 ∧ j83_n43_0_5_f1.1 = unG j83_n43_0_5_f1g0 ∧ AllP sh_T_ring_place c_T_api_Shot j83_n43_0_5_f1P0 j83_n43_0_5_f1g0 ∧ E = [(3, .pointer (some ⟨b3, 0, none⟩)), (6, .bool false), (8, .pointer (some ⟨b43_0, 0, none⟩)), (9, .int .i64 (IntKind.wrap .i64 (Int.tmod p1 40))), (13, .int .i64 (IntKind.wrap .i64 ((1 : Int) + v83))), (15, .int .i64 j83_15)] ∧ L = (⟨b3, [.int .u64 p0.Seed, .int .u8 p0.Player, .int .u8 p0.Window, .slice p0a0 p0n0 p0c0, .slice p0a1 p0n1 p0c1], 25, (0, 0)⟩ :: (⟨b43_0, [.int .u8 j60_n43_0_f0, .int .i64 j60_n43_0_f1, .int .u64 j60_n43_0_f2_0, .int .u64 j60_n43_0_f2_1, .int .i32 j60_n43_0_f2_2.1.X, .int .i32 j60_n43_0_f2_2.1.Y, .int .i32 j60_n43_0_f2_2.1.VX, .int .i32 j60_n43_0_f2_2.1.VY, .int .u8 j60_n43_0_f2_2.1.Health, .int .u8 j60_n43_0_f2_2.1.Cool, .int .u8 j60_n43_0_f2_2.1.Face, .int .i32 j60_n43_0_f2_2.2.X, .int .i32 j60_n43_0_f2_2.2.Y, .int .i32 j60_n43_0_f2_2.2.VX, .int .i32 j60_n43_0_f2_2.2.VY, .int .u8 j60_n43_0_f2_2.2.Health, .int .u8 j60_n43_0_f2_2.2.Cool, .int .u8 j60_n43_0_f2_2.2.Face, .slice j60_n43_0_f2_3a0 j60_n43_0_f2_3n0 j60_n43_0_f2_3c0, .int .u16 j60_n43_0_f2_4.1, .int .u16 j60_n43_0_f2_4.2, .slice j60_n43_0_f3a0 j60_n43_0_f3n0 j60_n43_0_f3c0, .pointer (some ⟨b43_0_4, 0, none⟩), .pointer (some ⟨b43_0_5, 0, none⟩)], 55, (0, 0)⟩ :: (⟨b43_0_4, [.int .u64 j83_n43_0_4_f0, .slice j83_n43_0_4_f1a0 j83_n43_0_4_f1n0 j83_n43_0_4_f1c0, .int .u8 j83_n43_0_4_f2], 94, (0, 0)⟩ :: (⟨b43_0_5, ([.int .i64 j83_n43_0_5_f0] ++ flat cg_T_ring_place j83_n43_0_5_f1g0), 99, (0, 0)⟩ :: (j60_n43_0_f2_3B0 ++ (j60_n43_0_f3B0 ++ (j83_n43_0_4_f1B0 ++ (j83_n43_0_5_f1P0 ++ []))))))))) F ⟨(IntKind.wrap .i64 (Int.tmod p1 40)), j29_n43_0_4_f0, j29_n43_0_4_f1, j29_n43_0_4_f2, j60_n43_0_5_f0, j60_n43_0_5_f1, j29_n43_0_4_f1a0, j29_n43_0_4_f1n0, j29_n43_0_4_f1c0, j29_n43_0_4_f1B0, j60_n43_0_5_f1g0, j60_n43_0_5_f1P0, h, j29_n43_0_4_f1N0, j29_n43_0_4_f1V0, j60_n43_0_5_f1G0, j60_n43_0_5_f1A0, rfl, rfl⟩ (agree_cons rfl (agree_cons rfl (agree_cons rfl (agree_cons rfl (agree_cons rfl (agree_cons rfl agree_nil)))))) (pSub (pCons Sel.hc (pCons Sel.hc (pCons Sel.hc (pCons Sel.hc (pApp Sel.ha (pApp Sel.ha (pApp Sel.ha (pApp Sel.ha pNil))))))))) ?_
  clear h
  rintro m83 _ _ ⟨j83_15, j83_n43_0_4_f0, j83_n43_0_4_f1, j83_n43_0_4_f2, j83_n43_0_5_f0, j83_n43_0_5_f1, j83_n43_0_4_f1a0, j83_n43_0_4_f1n0, j83_n43_0_4_f1c0, j83_n43_0_4_f1B0, j83_n43_0_5_f1g0, j83_n43_0_5_f1P0, h, j83_n43_0_4_f1N0, j83_n43_0_4_f1V0, j83_n43_0_5_f1G0, j83_n43_0_5_f1A0, rfl, rfl⟩
  rcases m83 with _ | m83
  · rw [m_hindcastlaw26_RollbackComes_L82.eq_1] at h; cases h
  rw [m_hindcastlaw26_RollbackComes_L82.eq_2] at h
  refine wc_seq (wc_seq (wc_region ?_))
  iterate 3 refine wl_pure tt_ok rfl rfl ?_
  refine wl_pure (v := .int .i64 (IntKind.wrap .i64 ((IntKind.wrap .i64 (Int.tmod p1 40)) + (IntKind.wrap .i64 ((1 : Int) + v83))))) tt_ok rfl rfl ?_
  refine wl_pure (v := .bool (decide (j83_15 < (IntKind.wrap .i64 ((IntKind.wrap .i64 (Int.tmod p1 40)) + (IntKind.wrap .i64 ((1 : Int) + v83))))))) tt_ok rfl rfl ?_
  refine wl_nil (wx_then ?_)
  refine wc_cond rfl (fun hc => ?_) (fun hc => ?_)
  · replace h := ct hc h
    refine wc_skip (wx_then (wc_seq (wc_block (wc_seq (wc_region ?_)))))
    iterate 2 refine wl_pure tt_ok rfl rfl ?_
    refine wl_pure (v := .int .u64 (IntKind.wrap .u64 j83_15)) tt_ok rfl rfl ?_
    refine wl_pure (v := .pointer (some ⟨b3, 4, none⟩)) tt_ok rfl rfl ?_
    refine wl_val (v := .slice p0a1 p0n1 p0c1) (val_load tt_ok rfl (List.Mem.head _) rfl) rfl ?_
    refine wl_pure tt_ok rfl rfl ?_
    replace h := bsome h; obtain ⟨v116, x116, h⟩ := h
    refine wl_cq Tryd.call10 rfl rfl rfl (q_pf (k_hindcastlaw26_at (p0 := p0.Theirs) p0N1 p0H1 x116) (Rds.call p0S1 pNil rsub_nil)) rfl ?_
    replace h := bsome h; obtain ⟨⟨o117_1, o117_2, v117⟩, x117, h⟩ := h; try dsimp only at h
    refine wl_cs Tryd.call12 rfl rfl rfl (s_sp (k_rollback_Engine_Remote (p0 := (T_rollback_Engine.mk j60_n43_0_f0 j60_n43_0_f1 (T_api_State.mk j60_n43_0_f2_0 j60_n43_0_f2_1 j60_n43_0_f2_2 j60_n43_0_f2_3 j60_n43_0_f2_4) j60_n43_0_f3)) (p0_4 := (T_queue_Queue.mk j83_n43_0_4_f0 j83_n43_0_4_f1 j83_n43_0_4_f2)) (p0_5 := (T_ring_Ring.mk j83_n43_0_5_f0 j83_n43_0_5_f1)) j60_n43_0_f2_3N0 j60_n43_0_f2_3V0 j60_n43_0_f3N0 j60_n43_0_f3V0 j83_n43_0_4_f1N0 j83_n43_0_4_f1V0 j83_n43_0_5_f1G0 j83_n43_0_5_f1A0 x117) (pCons (Sel.sc Sel.hc) (pApp (Sel.sc (Sel.sc (Sel.sc Sel.ha))) (pApp (Sel.sc (Sel.sc (Sel.sc Sel.ha))) (pCons (Sel.sc Sel.hc) (pApp (Sel.sc (Sel.sc Sel.ha)) (pCons (Sel.sc Sel.hc) (pApp (Sel.sc Sel.ha) pNil))))))) (fun _ _ => trivial)) rfl ?_
    rintro _ _ ⟨_, ⟨o117_1a0, o117_1n0, o117_1c0, o117_1B0, o117_2g0, o117_2P0, o117_1N0, o117_1V0, o117_2G0, o117_2A0, rfl, rfl⟩, rfl⟩
    refine wl_pure (v := .bool (v117 != (0 : Int))) tt_ok rfl rfl ?_
    refine wl_nil (wx_then ?_)
    refine wc_cond rfl (fun hc => ?_) (fun hc => ?_)
    · replace h := ct hc h
      refine wc_seq (wc_region ?_)
      refine wl_pure tt_ok rfl rfl ?_
      refine wl_nil (wx_then (wc_ret (wx_block_ret (wx_then_ret ?_))))
      obtain rfl := Option.some.inj h
      have h := hl83; clear hl83; try dsimp only [orE_l, orE_r] at h
      refine wx_then_ret (wx_block_ret (wx_then_ret ?_))
      simp only [Option.some.injEq] at h
      obtain rfl := h
      exact wx_pf tt_ok (.inl rfl) Tryd.results3 (Res.tmp rfl Res.nil) rfl
    replace h := cf hc h
    refine wc_skip (wx_block (wx_then (wc_region ?_)))
    refine wl_pure tt_ok rfl rfl ?_
    refine wl_pure (v := .int .i64 (IntKind.wrap .i64 (j83_15 + (1 : Int)))) tt_ok rfl rfl ?_
    refine wl_pure tt_ok rfl rfl ?_
    refine wl_nil ?_
    exact wx_round m83 (Nat.lt_succ_self m83) ⟨(IntKind.wrap .i64 (j83_15 + (1 : Int))), o117_1.first_, o117_1.l, o117_1.last, o117_2.size, o117_2.places, o117_1a0, o117_1n0, o117_1c0, o117_1B0, o117_2g0, o117_2P0, h, o117_1N0, o117_1V0, o117_2G0, o117_2A0, rfl, rfl⟩ (agree_cons rfl (agree_cons rfl (agree_cons rfl (agree_cons rfl (agree_cons rfl (agree_cons rfl agree_nil)))))) (pSub (pCons (Sel.sc (Sel.sa (Sel.sa (Sel.sc (Sel.sa (Sel.sc (Sel.sa Sel.hc))))))) (pCons Sel.hc (pCons (Sel.sa (Sel.sa Sel.hc)) (pCons (Sel.sa (Sel.sa (Sel.sa Sel.hc))) (pApp Sel.ha (pApp Sel.ha (pApp Sel.ha (pApp Sel.ha pNil)))))))))
  replace h := cf hc h
  refine wc_exit (wx_then_exit ?_)
  obtain rfl := Option.some.inj h
  have h := hl83; clear hl83; try dsimp only [orE_l, orE_r] at h
  refine wx_then_exit (wx_block_exit (wx_then (wc_seq (wc_region ?_))))
  refine wl_pure tt_ok rfl rfl ?_
  replace h := bsome h; obtain ⟨⟨o120_2, v120⟩, x120, h⟩ := h; try dsimp only at h
  refine wl_cs Tryd.call11 rfl rfl rfl (s_sp (k_rollback_Engine_Shown (p0 := (T_rollback_Engine.mk j60_n43_0_f0 j60_n43_0_f1 (T_api_State.mk j60_n43_0_f2_0 j60_n43_0_f2_1 j60_n43_0_f2_2 j60_n43_0_f2_3 j60_n43_0_f2_4) j60_n43_0_f3)) (p0_4 := (T_queue_Queue.mk j83_n43_0_4_f0 j83_n43_0_4_f1 j83_n43_0_4_f2)) (p0_5 := (T_ring_Ring.mk j83_n43_0_5_f0 j83_n43_0_5_f1)) j60_n43_0_f2_3N0 j60_n43_0_f2_3V0 j60_n43_0_f3N0 j60_n43_0_f3V0 j83_n43_0_4_f1N0 j83_n43_0_4_f1V0 j83_n43_0_5_f1G0 j83_n43_0_5_f1A0 x120) (pCons (Sel.sc Sel.hc) (pApp (Sel.sc (Sel.sc (Sel.sc Sel.ha))) (pApp (Sel.sc (Sel.sc (Sel.sc Sel.ha))) (pCons (Sel.sc Sel.hc) (pApp (Sel.sc (Sel.sc Sel.ha)) (pCons (Sel.sc Sel.hc) (pApp (Sel.sc Sel.ha) pNil))))))) (fun w hI => ⟨(Rds.call G0S (pCons (Sel.sc Sel.hc) (pApp (Sel.sc (Sel.sc (Sel.sc Sel.ha))) (pApp (Sel.sc (Sel.sc (Sel.sc Sel.ha))) (pCons (Sel.sc Sel.hc) (pApp (Sel.sc (Sel.sc Sel.ha)) (pCons (Sel.sc Sel.hc) (pApp (Sel.sc Sel.ha) pNil))))))) rsub_nil) w hI, (Rds.call G1S (pCons (Sel.sc Sel.hc) (pApp (Sel.sc (Sel.sc (Sel.sc Sel.ha))) (pApp (Sel.sc (Sel.sc (Sel.sc Sel.ha))) (pCons (Sel.sc Sel.hc) (pApp (Sel.sc (Sel.sc Sel.ha)) (pCons (Sel.sc Sel.hc) (pApp (Sel.sc Sel.ha) pNil))))))) rsub_nil) w hI⟩)) rfl ?_
  rintro _ _ ⟨_, ⟨o120_2g0, o120_2P0, v120a0, v120n0, v120c0, v120B0, o120_2G0, o120_2A0, v120N0, v120V0, rfl, rfl⟩, rfl⟩
  refine wl_alloc tt_ok rfl rfl (fun b16 => ?_)
  apply wl_store tt_ok; rfl; exact Upd.here; rfl; rfl; rfl; rfl; rfl; rfl
  refine wl_nil (wx_then (wc_seq (wc_seq (wc_region ?_))))
  iterate 2 refine wl_pure tt_ok rfl rfl ?_
  refine wl_nil (wx_then (wc_block ?_))
  replace h := bsome h; obtain ⟨o106, h, hl106⟩ := h
  refine wc_loop (fun m E L => ∃ (j106_17 : Int) (j106_n43_0_f0 : Int) (j106_n43_0_f1 : Int) (j106_n43_0_f2_0 : Int) (j106_n43_0_f2_1 : Int) (j106_n43_0_f2_2 : (T_api_Player × T_api_Player)) (j106_n43_0_f2_3 : (List T_api_Shot)) (j106_n43_0_f2_4 : (Int × Int)) (j106_n43_0_f3 : (List Int)) (j106_n43_0_4_f0 : Int) (j106_n43_0_4_f1 : (List Int)) (j106_n43_0_4_f2 : Int) (j106_n43_0_5_f0 : Int) (j106_n43_0_5_f1 : (Arr T_ring_place 14)) (j106_n43_0_f2_3a0 : Option Addr) (j106_n43_0_f2_3n0 : Nat) (j106_n43_0_f2_3c0 : Nat) (j106_n43_0_f2_3B0 : List Blk) (j106_n43_0_f3a0 : Option Addr) (j106_n43_0_f3n0 : Nat) (j106_n43_0_f3c0 : Nat) (j106_n43_0_f3B0 : List Blk) (j106_n43_0_4_f1a0 : Option Addr) (j106_n43_0_4_f1n0 : Nat) (j106_n43_0_4_f1c0 : Nat) (j106_n43_0_4_f1B0 : List Blk) (j106_n43_0_5_f1g0 : List (T_ring_place × G)) (j106_n43_0_5_f1P0 : List Blk), m_hindcastlaw26_RollbackComes_L105 F p1 v83 false m j106_17 j106_n43_0_f0 j106_n43_0_f1 j106_n43_0_f2_0 j106_n43_0_f2_1 j106_n43_0_f2_2 j106_n43_0_f2_3 j106_n43_0_f2_4 j106_n43_0_f3 j106_n43_0_4_f0 j106_n43_0_4_f1 j106_n43_0_4_f2 j106_n43_0_5_f0 j106_n43_0_5_f1 = some o106 ∧ j106_n43_0_f2_3n0 = j106_n43_0_f2_3.length ∧ Own 80 6 j106_n43_0_f2_3a0 j106_n43_0_f2_3n0 j106_n43_0_f2_3c0 (flat c_T_api_Shot j106_n43_0_f2_3) j106_n43_0_f2_3B0 ∧ j106_n43_0_f3n0 = j106_n43_0_f3.length ∧ Own 40 1 j106_n43_0_f3a0 j106_n43_0_f3n0 j106_n43_0_f3c0 (flat (e1 .u8) j106_n43_0_f3) j106_n43_0_f3B0 ∧ j106_n43_0_4_f1n0 = j106_n43_0_4_f1.length ∧ Own 40 1 j106_n43_0_4_f1a0 j106_n43_0_4_f1n0 j106_n43_0_4_f1c0 (flat (e1 .u8) j106_n43_0_4_f1) j106_n43_0_4_f1B0 ∧ j106_n43_0_5_f1.1 = unG j106_n43_0_5_f1g0 ∧ AllP sh_T_ring_place c_T_api_Shot j106_n43_0_5_f1P0 j106_n43_0_5_f1g0 ∧ E = [(6, .bool false), (8, .pointer (some ⟨b43_0, 0, none⟩)), (9, .int .i64 (IntKind.wrap .i64 (Int.tmod p1 40))), (13, .int .i64 (IntKind.wrap .i64 ((1 : Int) + v83))), (16, .pointer (some ⟨b16, 0, none⟩)), (17, .int .i64 j106_17)] ∧ L = (⟨b43_0, [.int .u8 j106_n43_0_f0, .int .i64 j106_n43_0_f1, .int .u64 j106_n43_0_f2_0, .int .u64 j106_n43_0_f2_1, .int .i32 j106_n43_0_f2_2.1.X, .int .i32 j106_n43_0_f2_2.1.Y, .int .i32 j106_n43_0_f2_2.1.VX, .int .i32 j106_n43_0_f2_2.1.VY, .int .u8 j106_n43_0_f2_2.1.Health, .int .u8 j106_n43_0_f2_2.1.Cool, .int .u8 j106_n43_0_f2_2.1.Face, .int .i32 j106_n43_0_f2_2.2.X, .int .i32 j106_n43_0_f2_2.2.Y, .int .i32 j106_n43_0_f2_2.2.VX, .int .i32 j106_n43_0_f2_2.2.VY, .int .u8 j106_n43_0_f2_2.2.Health, .int .u8 j106_n43_0_f2_2.2.Cool, .int .u8 j106_n43_0_f2_2.2.Face, .slice j106_n43_0_f2_3a0 j106_n43_0_f2_3n0 j106_n43_0_f2_3c0, .int .u16 j106_n43_0_f2_4.1, .int .u16 j106_n43_0_f2_4.2, .slice j106_n43_0_f3a0 j106_n43_0_f3n0 j106_n43_0_f3c0, .pointer (some ⟨b43_0_4, 0, none⟩), .pointer (some ⟨b43_0_5, 0, none⟩)], 55, (0, 0)⟩ :: (⟨b43_0_4, [.int .u64 j106_n43_0_4_f0, .slice j106_n43_0_4_f1a0 j106_n43_0_4_f1n0 j106_n43_0_4_f1c0, .int .u8 j106_n43_0_4_f2], 94, (0, 0)⟩ :: (⟨b43_0_5, ([.int .i64 j106_n43_0_5_f0] ++ flat cg_T_ring_place j106_n43_0_5_f1g0), 99, (0, 0)⟩ :: (⟨b16, [.int .u64 v120.Frame, .int .u64 v120.Seed, .int .i32 v120.Players.1.X, .int .i32 v120.Players.1.Y, .int .i32 v120.Players.1.VX, .int .i32 v120.Players.1.VY, .int .u8 v120.Players.1.Health, .int .u8 v120.Players.1.Cool, .int .u8 v120.Players.1.Face, .int .i32 v120.Players.2.X, .int .i32 v120.Players.2.Y, .int .i32 v120.Players.2.VX, .int .i32 v120.Players.2.VY, .int .u8 v120.Players.2.Health, .int .u8 v120.Players.2.Cool, .int .u8 v120.Players.2.Face, .slice v120a0 v120n0 v120c0, .int .u16 v120.Score.1, .int .u16 v120.Score.2], 36, (0, 0)⟩ :: (j106_n43_0_f2_3B0 ++ (j106_n43_0_f3B0 ++ (j106_n43_0_4_f1B0 ++ (j106_n43_0_5_f1P0 ++ (v120B0 ++ [])))))))))) F ⟨(IntKind.wrap .i64 (Int.tmod p1 40)), j60_n43_0_f0, j60_n43_0_f1, j60_n43_0_f2_0, j60_n43_0_f2_1, j60_n43_0_f2_2, j60_n43_0_f2_3, j60_n43_0_f2_4, j60_n43_0_f3, j83_n43_0_4_f0, j83_n43_0_4_f1, j83_n43_0_4_f2, o120_2.size, o120_2.places, j60_n43_0_f2_3a0, j60_n43_0_f2_3n0, j60_n43_0_f2_3c0, j60_n43_0_f2_3B0, j60_n43_0_f3a0, j60_n43_0_f3n0, j60_n43_0_f3c0, j60_n43_0_f3B0, j83_n43_0_4_f1a0, j83_n43_0_4_f1n0, j83_n43_0_4_f1c0, j83_n43_0_4_f1B0, o120_2g0, o120_2P0, h, j60_n43_0_f2_3N0, j60_n43_0_f2_3V0, j60_n43_0_f3N0, j60_n43_0_f3V0, j83_n43_0_4_f1N0, j83_n43_0_4_f1V0, o120_2G0, o120_2A0, rfl, rfl⟩ (agree_cons rfl (agree_cons rfl (agree_cons rfl (agree_cons rfl (agree_cons rfl (agree_cons rfl agree_nil)))))) (pSub (pCons (Sel.sc Sel.hc) (pCons (Sel.sc (Sel.sa (Sel.sa Sel.hc))) (pCons (Sel.sc (Sel.sa (Sel.sa (Sel.sa Sel.hc)))) (pCons Sel.hc (pApp Sel.ha (pApp Sel.ha (pApp Sel.ha (pApp Sel.ha (pApp Sel.ha pNil)))))))))) ?_
  clear h
  rintro m106 _ _ ⟨j106_17, j106_n43_0_f0, j106_n43_0_f1, j106_n43_0_f2_0, j106_n43_0_f2_1, j106_n43_0_f2_2, j106_n43_0_f2_3, j106_n43_0_f2_4, j106_n43_0_f3, j106_n43_0_4_f0, j106_n43_0_4_f1, j106_n43_0_4_f2, j106_n43_0_5_f0, j106_n43_0_5_f1, j106_n43_0_f2_3a0, j106_n43_0_f2_3n0, j106_n43_0_f2_3c0, j106_n43_0_f2_3B0, j106_n43_0_f3a0, j106_n43_0_f3n0, j106_n43_0_f3c0, j106_n43_0_f3B0, j106_n43_0_4_f1a0, j106_n43_0_4_f1n0, j106_n43_0_4_f1c0, j106_n43_0_4_f1B0, j106_n43_0_5_f1g0, j106_n43_0_5_f1P0, h, j106_n43_0_f2_3N0, j106_n43_0_f2_3V0, j106_n43_0_f3N0, j106_n43_0_f3V0, j106_n43_0_4_f1N0, j106_n43_0_4_f1V0, j106_n43_0_5_f1G0, j106_n43_0_5_f1A0, rfl, rfl⟩
  rcases m106 with _ | m106
  · rw [m_hindcastlaw26_RollbackComes_L105.eq_1] at h; cases h
  rw [m_hindcastlaw26_RollbackComes_L105.eq_2] at h
  refine wc_seq (wc_seq (wc_region ?_))
  iterate 3 refine wl_pure tt_ok rfl rfl ?_
  refine wl_pure (v := .int .i64 (IntKind.wrap .i64 ((IntKind.wrap .i64 (Int.tmod p1 40)) + (IntKind.wrap .i64 ((1 : Int) + v83))))) tt_ok rfl rfl ?_
  refine wl_pure (v := .bool (decide (j106_17 < (IntKind.wrap .i64 ((IntKind.wrap .i64 (Int.tmod p1 40)) + (IntKind.wrap .i64 ((1 : Int) + v83))))))) tt_ok rfl rfl ?_
  refine wl_nil (wx_then ?_)
  refine wc_cond rfl (fun hc => ?_) (fun hc => ?_)
  · replace h := ct hc h
    refine wc_skip (wx_then (wc_seq (wc_block (wc_seq (wc_region ?_)))))
    iterate 2 refine wl_pure tt_ok rfl rfl ?_
    refine wl_pure (v := .int .i64 (IntKind.wrap .i64 (j106_17 + (1 : Int)))) tt_ok rfl rfl ?_
    refine wl_pure (v := .int .u64 (IntKind.wrap .u64 (IntKind.wrap .i64 (j106_17 + (1 : Int))))) tt_ok rfl rfl ?_
    replace h := bsome h; obtain ⟨⟨o134_0, o134_1, o134_2, v134_0, v134_1⟩, x134, h⟩ := h; try dsimp only at h
    refine wl_cs Tryd.call13 rfl rfl rfl (s_sp (k_rollback_Engine_Confirm (p0 := (T_rollback_Engine.mk j106_n43_0_f0 j106_n43_0_f1 (T_api_State.mk j106_n43_0_f2_0 j106_n43_0_f2_1 j106_n43_0_f2_2 j106_n43_0_f2_3 j106_n43_0_f2_4) j106_n43_0_f3)) (p0_4 := (T_queue_Queue.mk j106_n43_0_4_f0 j106_n43_0_4_f1 j106_n43_0_4_f2)) (p0_5 := (T_ring_Ring.mk j106_n43_0_5_f0 j106_n43_0_5_f1)) j106_n43_0_f2_3N0 j106_n43_0_f2_3V0 j106_n43_0_f3N0 j106_n43_0_f3V0 j106_n43_0_4_f1N0 j106_n43_0_4_f1V0 j106_n43_0_5_f1G0 j106_n43_0_5_f1A0 x134) (pCons Sel.hc (pApp (Sel.sc (Sel.sc (Sel.sc Sel.ha))) (pApp (Sel.sc (Sel.sc (Sel.sc Sel.ha))) (pCons Sel.hc (pApp (Sel.sc (Sel.sc Sel.ha)) (pCons Sel.hc (pApp (Sel.sc Sel.ha) pNil))))))) (fun w hI => ⟨(Rds.call G0S (pCons Sel.hc (pApp (Sel.sc (Sel.sc (Sel.sc Sel.ha))) (pApp (Sel.sc (Sel.sc (Sel.sc Sel.ha))) (pCons Sel.hc (pApp (Sel.sc (Sel.sc Sel.ha)) (pCons Sel.hc (pApp (Sel.sc Sel.ha) pNil))))))) rsub_nil) w hI, (Rds.call G1S (pCons Sel.hc (pApp (Sel.sc (Sel.sc (Sel.sc Sel.ha))) (pApp (Sel.sc (Sel.sc (Sel.sc Sel.ha))) (pCons Sel.hc (pApp (Sel.sc (Sel.sc Sel.ha)) (pCons Sel.hc (pApp (Sel.sc Sel.ha) pNil))))))) rsub_nil) w hI⟩)) rfl ?_
    rintro _ _ ⟨_, ⟨o134_0a0, o134_0n0, o134_0c0, o134_0B0, o134_0a1, o134_0n1, o134_0c1, o134_0B1, o134_1a0, o134_1n0, o134_1c0, o134_1B0, o134_2g0, o134_2P0, o134_0N0, o134_0V0, o134_0N1, o134_0V1, o134_1N0, o134_1V0, o134_2G0, o134_2A0, rfl, rfl⟩, rfl⟩
    iterate 3 refine wl_pure tt_ok rfl rfl ?_
    refine wl_alloc tt_ok rfl rfl (fun b18 => ?_)
    apply wl_store tt_ok; rfl; exact Upd.here; rfl; rfl; rfl; rfl; rfl; rfl
    refine wl_pure tt_ok rfl rfl ?_
    refine wl_nil (wx_then (wc_seq (wc_region ?_)))
    refine wl_pure tt_ok rfl rfl ?_
    refine wl_pure (v := .bool (!v134_1)) tt_ok rfl rfl ?_
    refine wl_nil (wx_then ?_)
    refine wc_cond rfl (fun hc => ?_) (fun hc => ?_)
    · replace h := ct hc h
      refine wc_seq (wc_region ?_)
      refine wl_pure tt_ok rfl rfl ?_
      refine wl_nil (wx_then (wc_ret (wx_block_ret (wx_then_ret ?_))))
      obtain rfl := Option.some.inj h
      have h := hl106; clear hl106; try dsimp only [orE_l, orE_r] at h
      refine wx_then_ret (wx_block_ret (wx_then_ret ?_))
      simp only [Option.some.injEq] at h
      obtain rfl := h
      exact wx_pf tt_ok (.inl rfl) Tryd.results3 (Res.tmp rfl Res.nil) rfl
    replace h := cf hc h
    refine wc_skip (wx_block (wx_then (wc_region ?_)))
    refine wl_pure tt_ok rfl rfl ?_
    refine wl_pure (v := .int .i64 (IntKind.wrap .i64 (j106_17 + (1 : Int)))) tt_ok rfl rfl ?_
    refine wl_pure tt_ok rfl rfl ?_
    refine wl_nil ?_
    exact wx_round m106 (Nat.lt_succ_self m106) ⟨(IntKind.wrap .i64 (j106_17 + (1 : Int))), o134_0.player, o134_0.window, o134_0.sure.Frame, o134_0.sure.Seed, o134_0.sure.Players, o134_0.sure.Shots, o134_0.sure.Score, o134_0.own, o134_1.first_, o134_1.l, o134_1.last, o134_2.size, o134_2.places, o134_0a0, o134_0n0, o134_0c0, o134_0B0, o134_0a1, o134_0n1, o134_0c1, o134_0B1, o134_1a0, o134_1n0, o134_1c0, o134_1B0, o134_2g0, o134_2P0, h, o134_0N0, o134_0V0, o134_0N1, o134_0V1, o134_1N0, o134_1V0, o134_2G0, o134_2A0, rfl, rfl⟩ (agree_cons rfl (agree_cons rfl (agree_cons rfl (agree_cons rfl (agree_cons rfl (agree_cons rfl agree_nil)))))) (pSub (pCons (Sel.sc Sel.hc) (pCons (Sel.sc (Sel.sa (Sel.sa Sel.hc))) (pCons (Sel.sc (Sel.sa (Sel.sa (Sel.sa Sel.hc)))) (pCons (Sel.sc (Sel.sa (Sel.sa (Sel.sa (Sel.sa Sel.hc))))) (pApp (Sel.sc Sel.ha) (pApp (Sel.sc Sel.ha) (pApp (Sel.sc Sel.ha) (pApp (Sel.sc Sel.ha) (pApp (Sel.sc Sel.ha) pNil))))))))))
  replace h := cf hc h
  refine wc_exit (wx_then_exit ?_)
  obtain rfl := Option.some.inj h
  have h := hl106; clear hl106; try dsimp only [orE_l, orE_r] at h
  refine wx_then_exit (wx_block_exit (wx_then (wc_seq ?_)))
  refine wc_k2 (Ls := (⟨b43_0, [.int .u8 j106_n43_0_f0, .int .i64 j106_n43_0_f1, .int .u64 j106_n43_0_f2_0, .int .u64 j106_n43_0_f2_1, .int .i32 j106_n43_0_f2_2.1.X, .int .i32 j106_n43_0_f2_2.1.Y, .int .i32 j106_n43_0_f2_2.1.VX, .int .i32 j106_n43_0_f2_2.1.VY, .int .u8 j106_n43_0_f2_2.1.Health, .int .u8 j106_n43_0_f2_2.1.Cool, .int .u8 j106_n43_0_f2_2.1.Face, .int .i32 j106_n43_0_f2_2.2.X, .int .i32 j106_n43_0_f2_2.2.Y, .int .i32 j106_n43_0_f2_2.2.VX, .int .i32 j106_n43_0_f2_2.2.VY, .int .u8 j106_n43_0_f2_2.2.Health, .int .u8 j106_n43_0_f2_2.2.Cool, .int .u8 j106_n43_0_f2_2.2.Face, .slice j106_n43_0_f2_3a0 j106_n43_0_f2_3n0 j106_n43_0_f2_3c0, .int .u16 j106_n43_0_f2_4.1, .int .u16 j106_n43_0_f2_4.2, .slice j106_n43_0_f3a0 j106_n43_0_f3n0 j106_n43_0_f3c0, .pointer (some ⟨b43_0_4, 0, none⟩), .pointer (some ⟨b43_0_5, 0, none⟩)], 55, (0, 0)⟩ :: (⟨b43_0_4, [.int .u64 j106_n43_0_4_f0, .slice j106_n43_0_4_f1a0 j106_n43_0_4_f1n0 j106_n43_0_4_f1c0, .int .u8 j106_n43_0_4_f2], 94, (0, 0)⟩ :: (⟨b16, [.int .u64 v120.Frame, .int .u64 v120.Seed, .int .i32 v120.Players.1.X, .int .i32 v120.Players.1.Y, .int .i32 v120.Players.1.VX, .int .i32 v120.Players.1.VY, .int .u8 v120.Players.1.Health, .int .u8 v120.Players.1.Cool, .int .u8 v120.Players.1.Face, .int .i32 v120.Players.2.X, .int .i32 v120.Players.2.Y, .int .i32 v120.Players.2.VX, .int .i32 v120.Players.2.VY, .int .u8 v120.Players.2.Health, .int .u8 v120.Players.2.Cool, .int .u8 v120.Players.2.Face, .slice v120a0 v120n0 v120c0, .int .u16 v120.Score.1, .int .u16 v120.Score.2], 36, (0, 0)⟩ :: (j106_n43_0_f2_3B0 ++ (j106_n43_0_f3B0 ++ (j106_n43_0_4_f1B0 ++ (v120B0 ++ [])))))))) [2, 3, 7, 8, 12, 14, 18] [] [0, 0, 2, 7, 15, 31, 31, 95, 255, 511, 1023, 2047, 4095, 2047, 16383, 32767, 65535, 131071, 262143, 524287, 1048575] [0, 1, 2, 3, 4, 5, 6, 7, 8, 9, 10, 11, 13, 12, 14, 15, 16, 17, 18, 19, 20] (by kernel_rfl) (by kernel_rfl) (by kernel_rfl) ?_
  refine k_val (v := .agg #[.int .u64 v120.Frame, .int .u64 v120.Seed, .int .i32 v120.Players.1.X, .int .i32 v120.Players.1.Y, .int .i32 v120.Players.1.VX, .int .i32 v120.Players.1.VY, .int .u8 v120.Players.1.Health, .int .u8 v120.Players.1.Cool, .int .u8 v120.Players.1.Face, .int .i32 v120.Players.2.X, .int .i32 v120.Players.2.Y, .int .i32 v120.Players.2.VX, .int .i32 v120.Players.2.VY, .int .u8 v120.Players.2.Health, .int .u8 v120.Players.2.Cool, .int .u8 v120.Players.2.Face, .slice v120a0 v120n0 v120c0, .int .u16 v120.Score.1, .int .u16 v120.Score.2]) rfl rfl rfl (pSub (pCons Sel.hc (pCons Sel.hc (pCons (Sel.sc Sel.hc) (pApp (Sel.sc Sel.ha) (pApp (Sel.sc Sel.ha) (pApp (Sel.sc Sel.ha) (pApp (Sel.sc (Sel.sa Sel.ha)) pNil)))))))) (val_load tt_ok rfl (List.Mem.tail _ (List.Mem.tail _ (List.Mem.head _))) rfl) rfl ?_
  refine k_val rfl rfl rfl (pSub (pCons Sel.hc (pCons Sel.hc (pCons (Sel.sc Sel.hc) (pApp (Sel.sc Sel.ha) (pApp (Sel.sc Sel.ha) (pApp (Sel.sc Sel.ha) (pApp (Sel.sc (Sel.sa Sel.ha)) pNil)))))))) (stepV_ok tt_ok rfl) rfl ?_
  replace h := bsome h; obtain ⟨v141, x141, h⟩ := h
  refine k_cs rfl rfl rfl Tryd.call15 rfl rfl rfl (s_sp (k_rollback_Engine_State (p0 := (T_rollback_Engine.mk j106_n43_0_f0 j106_n43_0_f1 (T_api_State.mk j106_n43_0_f2_0 j106_n43_0_f2_1 j106_n43_0_f2_2 j106_n43_0_f2_3 j106_n43_0_f2_4) j106_n43_0_f3)) (p0_4 := (T_queue_Queue.mk j106_n43_0_4_f0 j106_n43_0_4_f1 j106_n43_0_4_f2)) (p0_5 := (T_ring_Ring.mk j106_n43_0_5_f0 j106_n43_0_5_f1)) j106_n43_0_f2_3N0 j106_n43_0_f2_3V0 j106_n43_0_f3N0 j106_n43_0_f3V0 j106_n43_0_4_f1N0 j106_n43_0_4_f1V0 j106_n43_0_5_f1G0 j106_n43_0_5_f1A0 x141) (pCons Sel.hc (pApp (Sel.sc (Sel.sc (Sel.sc Sel.ha))) (pApp (Sel.sc (Sel.sc (Sel.sc Sel.ha))) (pCons Sel.hc (pApp (Sel.sc (Sel.sc Sel.ha)) (pCons Sel.hc (pApp (Sel.sc Sel.ha) pNil))))))) (fun _ _ => trivial)) rfl (.inr (by rintro _ _ ⟨_, ⟨_, _, _, _, _, _, rfl, rfl⟩, rfl⟩; exact ⟨_, (pCons Sel.hc (pCons (Sel.sa (Sel.sa Sel.hc)) (pCons (Sel.sa (Sel.sa (Sel.sa (Sel.sc (Sel.sa (Sel.sa Sel.hc)))))) (pApp Sel.ha (pApp Sel.ha (pApp Sel.ha (pApp (Sel.sc (Sel.sa (Sel.sa Sel.ha))) pNil)))))))⟩)) ?_
  rintro _ _ ⟨_, ⟨v141a0, v141n0, v141c0, v141B0, v141N0, v141V0, rfl, rfl⟩, rfl⟩
  replace h := bsome h; obtain ⟨v142, x142, h⟩ := h
  refine k_cq rfl rfl rfl Tryd.call14 rfl rfl rfl (q_pf (k_state_Same (p0 := v120) (p1 := v141) v120N0 (vec_cap v120V0) v141N0 (vec_cap v141V0) x142) (fun w hI => ⟨(Rds.call (Rds.of_vec v120V0) pNil ⟨_, (Sel.sc (Sel.sa (Sel.sa (Sel.sc (Sel.sa (Sel.sc (Sel.sa (Sel.sa (Sel.sc Sel.ha)))))))))⟩) w hI, (Rds.call (Rds.of_vec v141V0) pNil ⟨_, (Sel.sc (Sel.sa (Sel.sa (Sel.sc (Sel.sa (Sel.sc (Sel.sa Sel.ha)))))))⟩) w hI⟩)) rfl (pSub (pCons Sel.hc (pCons (Sel.sa (Sel.sa Sel.hc)) (pCons (Sel.sa (Sel.sa (Sel.sa (Sel.sc (Sel.sa (Sel.sa Sel.hc)))))) (pApp Sel.ha (pApp Sel.ha (pApp Sel.ha (pApp (Sel.sc (Sel.sa (Sel.sa Sel.ha))) pNil)))))))) ?_
  refine k_val rfl rfl rfl (pSub (pCons Sel.hc (pCons (Sel.sa (Sel.sa Sel.hc)) (pCons (Sel.sa (Sel.sa (Sel.sa (Sel.sc (Sel.sa (Sel.sa Sel.hc)))))) (pApp Sel.ha (pApp Sel.ha (pApp Sel.ha (pApp (Sel.sc (Sel.sa (Sel.sa Sel.ha))) pNil)))))))) (stepV_ok tt_ok rfl) rfl ?_
  replace h := bsome h; obtain ⟨⟨v148, g148_n43_0_5_f0, g148_n43_0_5_f1⟩, h, hg148⟩ := h
  refine k_split (t := 143) rfl (fun hc => ?_) (fun hc => ?_)
  · replace h := ct hc h
    refine k_val (v := .agg #[.int .u64 v120.Frame, .int .u64 v120.Seed, .int .i32 v120.Players.1.X, .int .i32 v120.Players.1.Y, .int .i32 v120.Players.1.VX, .int .i32 v120.Players.1.VY, .int .u8 v120.Players.1.Health, .int .u8 v120.Players.1.Cool, .int .u8 v120.Players.1.Face, .int .i32 v120.Players.2.X, .int .i32 v120.Players.2.Y, .int .i32 v120.Players.2.VX, .int .i32 v120.Players.2.VY, .int .u8 v120.Players.2.Health, .int .u8 v120.Players.2.Cool, .int .u8 v120.Players.2.Face, .slice v120a0 v120n0 v120c0, .int .u16 v120.Score.1, .int .u16 v120.Score.2]) rfl rfl rfl (pSub (pCons Sel.hc (pCons (Sel.sa (Sel.sa Sel.hc)) (pCons (Sel.sa (Sel.sa (Sel.sa (Sel.sc (Sel.sa (Sel.sa Sel.hc)))))) (pApp Sel.ha (pApp Sel.ha (pApp Sel.ha (pApp (Sel.sc (Sel.sa (Sel.sa Sel.ha))) pNil)))))))) (val_load tt_ok rfl (List.Mem.tail _ (List.Mem.tail _ (List.Mem.head _))) rfl) rfl ?_
    refine k_val rfl rfl rfl (pSub (pCons Sel.hc (pCons (Sel.sa (Sel.sa Sel.hc)) (pCons (Sel.sa (Sel.sa (Sel.sa (Sel.sc (Sel.sa (Sel.sa Sel.hc)))))) (pApp Sel.ha (pApp Sel.ha (pApp Sel.ha (pApp (Sel.sc (Sel.sa (Sel.sa Sel.ha))) pNil)))))))) (stepV_ok tt_ok rfl) rfl ?_
    replace h := bsome h; obtain ⟨⟨o146_2, v146⟩, x146, h⟩ := h; try dsimp only at h
    refine k_cs rfl rfl rfl Tryd.call11 rfl rfl rfl (s_sp (k_rollback_Engine_Shown (p0 := (T_rollback_Engine.mk j106_n43_0_f0 j106_n43_0_f1 (T_api_State.mk j106_n43_0_f2_0 j106_n43_0_f2_1 j106_n43_0_f2_2 j106_n43_0_f2_3 j106_n43_0_f2_4) j106_n43_0_f3)) (p0_4 := (T_queue_Queue.mk j106_n43_0_4_f0 j106_n43_0_4_f1 j106_n43_0_4_f2)) (p0_5 := (T_ring_Ring.mk j106_n43_0_5_f0 j106_n43_0_5_f1)) j106_n43_0_f2_3N0 j106_n43_0_f2_3V0 j106_n43_0_f3N0 j106_n43_0_f3V0 j106_n43_0_4_f1N0 j106_n43_0_4_f1V0 j106_n43_0_5_f1G0 j106_n43_0_5_f1A0 x146) (pCons Sel.hc (pApp Sel.ha (pApp Sel.ha (pCons Sel.hc (pApp Sel.ha (pCons Sel.hc (pApp Sel.ha pNil))))))) (fun w hI => ⟨(Rds.call G0S (pCons Sel.hc (pApp Sel.ha (pApp Sel.ha (pCons Sel.hc (pApp Sel.ha (pCons Sel.hc (pApp Sel.ha pNil))))))) rsub_nil) w hI, (Rds.call G1S (pCons Sel.hc (pApp Sel.ha (pApp Sel.ha (pCons Sel.hc (pApp Sel.ha (pCons Sel.hc (pApp Sel.ha pNil))))))) rsub_nil) w hI⟩)) rfl (.inr (by rintro _ _ ⟨_, ⟨_, _, _, _, _, _, _, _, _, _, rfl, rfl⟩, rfl⟩; exact ⟨_, (pCons Sel.hc (pCons (Sel.sa (Sel.sa Sel.hc)) (pCons (Sel.sa (Sel.sa (Sel.sa (Sel.sc (Sel.sa (Sel.sa (Sel.sa Sel.hc))))))) (pApp Sel.ha (pApp Sel.ha (pApp Sel.ha (pApp (Sel.sc (Sel.sa (Sel.sa (Sel.sa Sel.ha)))) pNil)))))))⟩)) ?_
    rintro _ _ ⟨_, ⟨o146_2g0, o146_2P0, v146a0, v146n0, v146c0, v146B0, o146_2G0, o146_2A0, v146N0, v146V0, rfl, rfl⟩, rfl⟩
    replace h := bsome h; obtain ⟨v147, x147, h⟩ := h
    refine k_cq rfl rfl rfl Tryd.call14 rfl rfl rfl (q_pf (k_state_Same (p0 := v120) (p1 := v146) v120N0 (vec_cap v120V0) v146N0 (vec_cap v146V0) x147) (fun w hI => ⟨(Rds.call (Rds.of_vec v120V0) pNil ⟨_, (Sel.sc (Sel.sa (Sel.sa (Sel.sc (Sel.sa (Sel.sc (Sel.sa (Sel.sa (Sel.sa (Sel.sc Sel.ha))))))))))⟩) w hI, (Rds.call (Rds.of_vec v146V0) pNil ⟨_, (Sel.sc (Sel.sa (Sel.sa (Sel.sc (Sel.sa (Sel.sc (Sel.sa Sel.ha)))))))⟩) w hI⟩)) rfl (pSub (pCons Sel.hc (pCons (Sel.sa (Sel.sa Sel.hc)) (pCons (Sel.sa (Sel.sa (Sel.sa (Sel.sc (Sel.sa (Sel.sa (Sel.sa Sel.hc))))))) (pApp Sel.ha (pApp Sel.ha (pApp Sel.ha (pApp (Sel.sc (Sel.sa (Sel.sa (Sel.sa Sel.ha)))) pNil)))))))) ?_
    simp only [Option.some.injEq, Prod.mk.injEq] at h
    obtain ⟨rfl, rfl, rfl⟩ := h
    have h := hg148; clear hg148; try dsimp only at h
    refine k_val (v := .bool v147) rfl rfl rfl (pSub (pCons Sel.hc (pCons (Sel.sa (Sel.sa Sel.hc)) (pCons (Sel.sa (Sel.sa (Sel.sa (Sel.sc (Sel.sa (Sel.sa (Sel.sa Sel.hc))))))) (pApp Sel.ha (pApp Sel.ha (pApp Sel.ha (pApp (Sel.sc (Sel.sa (Sel.sa (Sel.sa Sel.ha)))) pNil)))))))) (stepV_ok tt_ok rfl) rfl ?_
    refine k_val rfl rfl rfl (pSub (pCons Sel.hc (pCons (Sel.sa (Sel.sa Sel.hc)) (pCons (Sel.sa (Sel.sa (Sel.sa (Sel.sc (Sel.sa (Sel.sa (Sel.sa Sel.hc))))))) (pApp Sel.ha (pApp Sel.ha (pApp Sel.ha (pApp (Sel.sc (Sel.sa (Sel.sa (Sel.sa Sel.ha)))) pNil)))))))) (stepV_ok tt_ok rfl) rfl ?_
    replace h := bsome h; obtain ⟨v155, h, hg155⟩ := h
    refine k_split (t := 149) rfl (fun hc => ?_) (fun hc => ?_)
    · replace h := ct hc h
      refine k_val rfl rfl rfl (pSub (pCons Sel.hc (pCons (Sel.sa (Sel.sa Sel.hc)) (pCons (Sel.sa (Sel.sa (Sel.sa (Sel.sc (Sel.sa (Sel.sa (Sel.sa Sel.hc))))))) (pApp Sel.ha (pApp Sel.ha (pApp Sel.ha (pApp (Sel.sc (Sel.sa (Sel.sa (Sel.sa Sel.ha)))) pNil)))))))) (stepV_ok tt_ok rfl) rfl ?_
      refine k_val rfl rfl rfl (pSub (pCons Sel.hc (pCons (Sel.sa (Sel.sa Sel.hc)) (pCons (Sel.sa (Sel.sa (Sel.sa (Sel.sc (Sel.sa (Sel.sa (Sel.sa Sel.hc))))))) (pApp Sel.ha (pApp Sel.ha (pApp Sel.ha (pApp (Sel.sc (Sel.sa (Sel.sa (Sel.sa Sel.ha)))) pNil)))))))) (stepV_ok tt_ok rfl) rfl ?_
      replace h := bsome h; obtain ⟨v151, x151, h⟩ := h
      refine k_cq rfl rfl rfl Tryd.call16 rfl rfl rfl (q_rd (k_rollback_Engine_C (p0 := (T_rollback_Engine.mk j106_n43_0_f0 j106_n43_0_f1 (T_api_State.mk j106_n43_0_f2_0 j106_n43_0_f2_1 j106_n43_0_f2_2 j106_n43_0_f2_3 j106_n43_0_f2_4) j106_n43_0_f3)) (p0_4 := (T_queue_Queue.mk j106_n43_0_4_f0 j106_n43_0_4_f1 j106_n43_0_4_f2)) (p0_5 := o146_2) j106_n43_0_f2_3N0 j106_n43_0_f2_3V0 j106_n43_0_f3N0 j106_n43_0_f3V0 j106_n43_0_4_f1N0 j106_n43_0_4_f1V0 o146_2G0 o146_2A0 x151) (pCons Sel.hc (pApp Sel.ha (pApp Sel.ha (pCons Sel.hc (pApp Sel.ha (pCons Sel.hc (pApp Sel.ha pNil))))))) (fun _ _ => trivial)) rfl (pSub (pCons Sel.hc (pCons (Sel.sa (Sel.sa Sel.hc)) (pCons (Sel.sa (Sel.sa (Sel.sa (Sel.sc (Sel.sa (Sel.sa (Sel.sa Sel.hc))))))) (pApp Sel.ha (pApp Sel.ha (pApp Sel.ha (pApp (Sel.sc (Sel.sa (Sel.sa (Sel.sa Sel.ha)))) pNil)))))))) ?_
      replace h := bsome h; obtain ⟨v153, x153, h⟩ := h
      refine k_cq rfl rfl rfl Tryd.call17 rfl rfl rfl (q_rd (k_rollback_Engine_T (p0 := (T_rollback_Engine.mk j106_n43_0_f0 j106_n43_0_f1 (T_api_State.mk j106_n43_0_f2_0 j106_n43_0_f2_1 j106_n43_0_f2_2 j106_n43_0_f2_3 j106_n43_0_f2_4) j106_n43_0_f3)) (p0_4 := (T_queue_Queue.mk j106_n43_0_4_f0 j106_n43_0_4_f1 j106_n43_0_4_f2)) (p0_5 := o146_2) j106_n43_0_f2_3N0 j106_n43_0_f2_3V0 j106_n43_0_f3N0 j106_n43_0_f3V0 j106_n43_0_4_f1N0 j106_n43_0_4_f1V0 o146_2G0 o146_2A0 x153) (pCons Sel.hc (pApp Sel.ha (pApp Sel.ha (pCons Sel.hc (pApp Sel.ha (pCons Sel.hc (pApp Sel.ha pNil))))))) (fun _ _ => trivial)) rfl (pSub (pCons Sel.hc (pCons (Sel.sa (Sel.sa Sel.hc)) (pCons (Sel.sa (Sel.sa (Sel.sa (Sel.sc (Sel.sa (Sel.sa (Sel.sa Sel.hc))))))) (pApp Sel.ha (pApp Sel.ha (pApp Sel.ha (pApp (Sel.sc (Sel.sa (Sel.sa (Sel.sa Sel.ha)))) pNil)))))))) ?_
      refine k_val (v := .bool (v151 == v153)) rfl rfl rfl (pSub (pCons Sel.hc (pCons (Sel.sa (Sel.sa Sel.hc)) (pCons (Sel.sa (Sel.sa (Sel.sa (Sel.sc (Sel.sa (Sel.sa (Sel.sa Sel.hc))))))) (pApp Sel.ha (pApp Sel.ha (pApp Sel.ha (pApp (Sel.sc (Sel.sa (Sel.sa (Sel.sa Sel.ha)))) pNil)))))))) (stepV_ok tt_ok rfl) rfl ?_
      simp only [Option.some.injEq, Prod.mk.injEq] at h
      obtain rfl := h
      have h := hg155; clear hg155
      refine k_val (v := .bool (v151 == v153)) rfl rfl rfl (pSub (pCons Sel.hc (pCons (Sel.sa (Sel.sa Sel.hc)) (pCons (Sel.sa (Sel.sa (Sel.sa (Sel.sc (Sel.sa (Sel.sa (Sel.sa Sel.hc))))))) (pApp Sel.ha (pApp Sel.ha (pApp Sel.ha (pApp (Sel.sc (Sel.sa (Sel.sa (Sel.sa Sel.ha)))) pNil)))))))) (stepV_ok tt_ok rfl) rfl ?_
      refine k_val rfl rfl rfl (pSub (pCons Sel.hc (pCons (Sel.sa (Sel.sa Sel.hc)) (pCons (Sel.sa (Sel.sa (Sel.sa (Sel.sc (Sel.sa (Sel.sa (Sel.sa Sel.hc))))))) (pApp Sel.ha (pApp Sel.ha (pApp Sel.ha (pApp (Sel.sc (Sel.sa (Sel.sa (Sel.sa Sel.ha)))) pNil)))))))) (stepV_ok tt_ok rfl) rfl ?_
      replace h := bsome h; obtain ⟨v158, h, hg158⟩ := h
      refine k_split (t := 156) rfl (fun hc => ?_) (fun hc => ?_)
      · replace h := ct hc h
        replace h := bsome h; obtain ⟨v157, x157, h⟩ := h
        refine k_cq rfl rfl rfl Tryd.call6 rfl rfl rfl (q_pf (k_hindcastlaw26_works x157) (fun w hI => ⟨(Rds.call G0S pNil rsub_nil) w hI, (Rds.call G1S pNil rsub_nil) w hI⟩)) rfl (pSub (pCons Sel.hc (pCons (Sel.sa (Sel.sa Sel.hc)) (pCons (Sel.sa (Sel.sa (Sel.sa (Sel.sc (Sel.sa (Sel.sa (Sel.sa Sel.hc))))))) (pApp Sel.ha (pApp Sel.ha (pApp Sel.ha (pApp (Sel.sc (Sel.sa (Sel.sa (Sel.sa Sel.ha)))) pNil)))))))) ?_
        simp only [Option.some.injEq, Prod.mk.injEq] at h
        obtain rfl := h
        have h := hg158; clear hg158
        refine k_val (v := .bool v157) rfl rfl rfl (pSub (pCons Sel.hc (pCons (Sel.sa (Sel.sa Sel.hc)) (pCons (Sel.sa (Sel.sa (Sel.sa (Sel.sc (Sel.sa (Sel.sa (Sel.sa Sel.hc))))))) (pApp Sel.ha (pApp Sel.ha (pApp Sel.ha (pApp (Sel.sc (Sel.sa (Sel.sa (Sel.sa Sel.ha)))) pNil)))))))) (stepV_ok tt_ok rfl) rfl ?_
        refine k_val rfl rfl rfl (pSub (pCons Sel.hc (pCons (Sel.sa (Sel.sa Sel.hc)) (pCons (Sel.sa (Sel.sa (Sel.sa (Sel.sc (Sel.sa (Sel.sa (Sel.sa Sel.hc))))))) (pApp Sel.ha (pApp Sel.ha (pApp Sel.ha (pApp (Sel.sc (Sel.sa (Sel.sa (Sel.sa Sel.ha)))) pNil)))))))) (stepV_ok tt_ok rfl) rfl ?_
        refine k_end (by kernel_rfl) ?_
        refine wx_then (wc_ret ?_)
        simp only [Option.some.injEq] at h
        obtain rfl := h
        exact wx_pf tt_ok (.inl rfl) Tryd.results3 (Res.tmp rfl Res.nil) rfl
      replace h := cf hc h
      refine k_skip rfl rfl (pSub (pCons Sel.hc (pCons (Sel.sa (Sel.sa Sel.hc)) (pCons (Sel.sa (Sel.sa (Sel.sa (Sel.sc (Sel.sa (Sel.sa (Sel.sa Sel.hc))))))) (pApp Sel.ha (pApp Sel.ha (pApp Sel.ha (pApp (Sel.sc (Sel.sa (Sel.sa (Sel.sa Sel.ha)))) pNil)))))))) rfl ?_
      simp only [Option.some.injEq, Prod.mk.injEq] at h
      obtain rfl := h
      have h := hg158; clear hg158
      refine k_val (v := .bool false) rfl rfl rfl (pSub (pCons Sel.hc (pCons (Sel.sa (Sel.sa Sel.hc)) (pCons (Sel.sa (Sel.sa (Sel.sa (Sel.sc (Sel.sa (Sel.sa (Sel.sa Sel.hc))))))) (pApp Sel.ha (pApp Sel.ha (pApp Sel.ha (pApp (Sel.sc (Sel.sa (Sel.sa (Sel.sa Sel.ha)))) pNil)))))))) (stepV_ok tt_ok rfl) rfl ?_
      refine k_val rfl rfl rfl (pSub (pCons Sel.hc (pCons (Sel.sa (Sel.sa Sel.hc)) (pCons (Sel.sa (Sel.sa (Sel.sa (Sel.sc (Sel.sa (Sel.sa (Sel.sa Sel.hc))))))) (pApp Sel.ha (pApp Sel.ha (pApp Sel.ha (pApp (Sel.sc (Sel.sa (Sel.sa (Sel.sa Sel.ha)))) pNil)))))))) (stepV_ok tt_ok rfl) rfl ?_
      refine k_end (by kernel_rfl) ?_
      refine wx_then (wc_ret ?_)
      simp only [Option.some.injEq] at h
      obtain rfl := h
      exact wx_pf tt_ok (.inl rfl) Tryd.results3 (Res.tmp rfl Res.nil) rfl
    replace h := cf hc h
    refine k_skip rfl rfl (pSub (pCons Sel.hc (pCons (Sel.sa (Sel.sa Sel.hc)) (pCons (Sel.sa (Sel.sa (Sel.sa (Sel.sc (Sel.sa (Sel.sa (Sel.sa Sel.hc))))))) (pApp Sel.ha (pApp Sel.ha (pApp Sel.ha (pApp (Sel.sc (Sel.sa (Sel.sa (Sel.sa Sel.ha)))) pNil)))))))) rfl ?_
    refine k_skip rfl rfl (pSub (pCons Sel.hc (pCons (Sel.sa (Sel.sa Sel.hc)) (pCons (Sel.sa (Sel.sa (Sel.sa (Sel.sc (Sel.sa (Sel.sa (Sel.sa Sel.hc))))))) (pApp Sel.ha (pApp Sel.ha (pApp Sel.ha (pApp (Sel.sc (Sel.sa (Sel.sa (Sel.sa Sel.ha)))) pNil)))))))) rfl ?_
    refine k_skip rfl rfl (pSub (pCons Sel.hc (pCons (Sel.sa (Sel.sa Sel.hc)) (pCons (Sel.sa (Sel.sa (Sel.sa (Sel.sc (Sel.sa (Sel.sa (Sel.sa Sel.hc))))))) (pApp Sel.ha (pApp Sel.ha (pApp Sel.ha (pApp (Sel.sc (Sel.sa (Sel.sa (Sel.sa Sel.ha)))) pNil)))))))) rfl ?_
    refine k_skip rfl rfl (pSub (pCons Sel.hc (pCons (Sel.sa (Sel.sa Sel.hc)) (pCons (Sel.sa (Sel.sa (Sel.sa (Sel.sc (Sel.sa (Sel.sa (Sel.sa Sel.hc))))))) (pApp Sel.ha (pApp Sel.ha (pApp Sel.ha (pApp (Sel.sc (Sel.sa (Sel.sa (Sel.sa Sel.ha)))) pNil)))))))) rfl ?_
    refine k_skip rfl rfl (pSub (pCons Sel.hc (pCons (Sel.sa (Sel.sa Sel.hc)) (pCons (Sel.sa (Sel.sa (Sel.sa (Sel.sc (Sel.sa (Sel.sa (Sel.sa Sel.hc))))))) (pApp Sel.ha (pApp Sel.ha (pApp Sel.ha (pApp (Sel.sc (Sel.sa (Sel.sa (Sel.sa Sel.ha)))) pNil)))))))) rfl ?_
    simp only [Option.some.injEq, Prod.mk.injEq] at h
    obtain rfl := h
    have h := hg155; clear hg155
    refine k_val (v := .bool false) rfl rfl rfl (pSub (pCons Sel.hc (pCons (Sel.sa (Sel.sa Sel.hc)) (pCons (Sel.sa (Sel.sa (Sel.sa (Sel.sc (Sel.sa (Sel.sa (Sel.sa Sel.hc))))))) (pApp Sel.ha (pApp Sel.ha (pApp Sel.ha (pApp (Sel.sc (Sel.sa (Sel.sa (Sel.sa Sel.ha)))) pNil)))))))) (stepV_ok tt_ok rfl) rfl ?_
    refine k_val rfl rfl rfl (pSub (pCons Sel.hc (pCons (Sel.sa (Sel.sa Sel.hc)) (pCons (Sel.sa (Sel.sa (Sel.sa (Sel.sc (Sel.sa (Sel.sa (Sel.sa Sel.hc))))))) (pApp Sel.ha (pApp Sel.ha (pApp Sel.ha (pApp (Sel.sc (Sel.sa (Sel.sa (Sel.sa Sel.ha)))) pNil)))))))) (stepV_ok tt_ok rfl) rfl ?_
    replace h := bsome h; obtain ⟨v158, h, hg158⟩ := h
    replace h := cf rfl h
    refine k_skip rfl rfl (pSub (pCons Sel.hc (pCons (Sel.sa (Sel.sa Sel.hc)) (pCons (Sel.sa (Sel.sa (Sel.sa (Sel.sc (Sel.sa (Sel.sa (Sel.sa Sel.hc))))))) (pApp Sel.ha (pApp Sel.ha (pApp Sel.ha (pApp (Sel.sc (Sel.sa (Sel.sa (Sel.sa Sel.ha)))) pNil)))))))) rfl ?_
    simp only [Option.some.injEq, Prod.mk.injEq] at h
    obtain rfl := h
    have h := hg158; clear hg158
    refine k_val (v := .bool false) rfl rfl rfl (pSub (pCons Sel.hc (pCons (Sel.sa (Sel.sa Sel.hc)) (pCons (Sel.sa (Sel.sa (Sel.sa (Sel.sc (Sel.sa (Sel.sa (Sel.sa Sel.hc))))))) (pApp Sel.ha (pApp Sel.ha (pApp Sel.ha (pApp (Sel.sc (Sel.sa (Sel.sa (Sel.sa Sel.ha)))) pNil)))))))) (stepV_ok tt_ok rfl) rfl ?_
    refine k_val rfl rfl rfl (pSub (pCons Sel.hc (pCons (Sel.sa (Sel.sa Sel.hc)) (pCons (Sel.sa (Sel.sa (Sel.sa (Sel.sc (Sel.sa (Sel.sa (Sel.sa Sel.hc))))))) (pApp Sel.ha (pApp Sel.ha (pApp Sel.ha (pApp (Sel.sc (Sel.sa (Sel.sa (Sel.sa Sel.ha)))) pNil)))))))) (stepV_ok tt_ok rfl) rfl ?_
    refine k_end (by kernel_rfl) ?_
    refine wx_then (wc_ret ?_)
    simp only [Option.some.injEq] at h
    obtain rfl := h
    exact wx_pf tt_ok (.inl rfl) Tryd.results3 (Res.tmp rfl Res.nil) rfl
  replace h := cf hc h
  refine k_skip rfl rfl (pSub (pCons Sel.hc (pCons (Sel.sa (Sel.sa Sel.hc)) (pCons (Sel.sa (Sel.sa (Sel.sa (Sel.sc (Sel.sa (Sel.sa Sel.hc)))))) (pApp Sel.ha (pApp Sel.ha (pApp Sel.ha (pApp (Sel.sc (Sel.sa (Sel.sa Sel.ha))) pNil)))))))) rfl ?_
  refine k_skip rfl rfl (pSub (pCons Sel.hc (pCons (Sel.sa (Sel.sa Sel.hc)) (pCons (Sel.sa (Sel.sa (Sel.sa (Sel.sc (Sel.sa (Sel.sa Sel.hc)))))) (pApp Sel.ha (pApp Sel.ha (pApp Sel.ha (pApp (Sel.sc (Sel.sa (Sel.sa Sel.ha))) pNil)))))))) rfl ?_
  refine k_skip rfl rfl (pSub (pCons Sel.hc (pCons (Sel.sa (Sel.sa Sel.hc)) (pCons (Sel.sa (Sel.sa (Sel.sa (Sel.sc (Sel.sa (Sel.sa Sel.hc)))))) (pApp Sel.ha (pApp Sel.ha (pApp Sel.ha (pApp (Sel.sc (Sel.sa (Sel.sa Sel.ha))) pNil)))))))) rfl ?_
  refine k_skip rfl rfl (pSub (pCons Sel.hc (pCons (Sel.sa (Sel.sa Sel.hc)) (pCons (Sel.sa (Sel.sa (Sel.sa (Sel.sc (Sel.sa (Sel.sa Sel.hc)))))) (pApp Sel.ha (pApp Sel.ha (pApp Sel.ha (pApp (Sel.sc (Sel.sa (Sel.sa Sel.ha))) pNil)))))))) rfl ?_
  simp only [Option.some.injEq, Prod.mk.injEq] at h
  obtain ⟨rfl, rfl, rfl⟩ := h
  have h := hg148; clear hg148; try dsimp only at h
  refine k_val (v := .bool false) rfl rfl rfl (pSub (pCons Sel.hc (pCons (Sel.sa (Sel.sa Sel.hc)) (pCons (Sel.sa (Sel.sa (Sel.sa (Sel.sc (Sel.sa (Sel.sa Sel.hc)))))) (pApp Sel.ha (pApp Sel.ha (pApp Sel.ha (pApp (Sel.sc (Sel.sa (Sel.sa Sel.ha))) pNil)))))))) (stepV_ok tt_ok rfl) rfl ?_
  refine k_val rfl rfl rfl (pSub (pCons Sel.hc (pCons (Sel.sa (Sel.sa Sel.hc)) (pCons (Sel.sa (Sel.sa (Sel.sa (Sel.sc (Sel.sa (Sel.sa Sel.hc)))))) (pApp Sel.ha (pApp Sel.ha (pApp Sel.ha (pApp (Sel.sc (Sel.sa (Sel.sa Sel.ha))) pNil)))))))) (stepV_ok tt_ok rfl) rfl ?_
  replace h := bsome h; obtain ⟨v155, h, hg155⟩ := h
  replace h := cf rfl h
  refine k_skip rfl rfl (pSub (pCons Sel.hc (pCons (Sel.sa (Sel.sa Sel.hc)) (pCons (Sel.sa (Sel.sa (Sel.sa (Sel.sc (Sel.sa (Sel.sa Sel.hc)))))) (pApp Sel.ha (pApp Sel.ha (pApp Sel.ha (pApp (Sel.sc (Sel.sa (Sel.sa Sel.ha))) pNil)))))))) rfl ?_
  refine k_skip rfl rfl (pSub (pCons Sel.hc (pCons (Sel.sa (Sel.sa Sel.hc)) (pCons (Sel.sa (Sel.sa (Sel.sa (Sel.sc (Sel.sa (Sel.sa Sel.hc)))))) (pApp Sel.ha (pApp Sel.ha (pApp Sel.ha (pApp (Sel.sc (Sel.sa (Sel.sa Sel.ha))) pNil)))))))) rfl ?_
  refine k_skip rfl rfl (pSub (pCons Sel.hc (pCons (Sel.sa (Sel.sa Sel.hc)) (pCons (Sel.sa (Sel.sa (Sel.sa (Sel.sc (Sel.sa (Sel.sa Sel.hc)))))) (pApp Sel.ha (pApp Sel.ha (pApp Sel.ha (pApp (Sel.sc (Sel.sa (Sel.sa Sel.ha))) pNil)))))))) rfl ?_
  refine k_skip rfl rfl (pSub (pCons Sel.hc (pCons (Sel.sa (Sel.sa Sel.hc)) (pCons (Sel.sa (Sel.sa (Sel.sa (Sel.sc (Sel.sa (Sel.sa Sel.hc)))))) (pApp Sel.ha (pApp Sel.ha (pApp Sel.ha (pApp (Sel.sc (Sel.sa (Sel.sa Sel.ha))) pNil)))))))) rfl ?_
  refine k_skip rfl rfl (pSub (pCons Sel.hc (pCons (Sel.sa (Sel.sa Sel.hc)) (pCons (Sel.sa (Sel.sa (Sel.sa (Sel.sc (Sel.sa (Sel.sa Sel.hc)))))) (pApp Sel.ha (pApp Sel.ha (pApp Sel.ha (pApp (Sel.sc (Sel.sa (Sel.sa Sel.ha))) pNil)))))))) rfl ?_
  simp only [Option.some.injEq, Prod.mk.injEq] at h
  obtain rfl := h
  have h := hg155; clear hg155
  refine k_val (v := .bool false) rfl rfl rfl (pSub (pCons Sel.hc (pCons (Sel.sa (Sel.sa Sel.hc)) (pCons (Sel.sa (Sel.sa (Sel.sa (Sel.sc (Sel.sa (Sel.sa Sel.hc)))))) (pApp Sel.ha (pApp Sel.ha (pApp Sel.ha (pApp (Sel.sc (Sel.sa (Sel.sa Sel.ha))) pNil)))))))) (stepV_ok tt_ok rfl) rfl ?_
  refine k_val rfl rfl rfl (pSub (pCons Sel.hc (pCons (Sel.sa (Sel.sa Sel.hc)) (pCons (Sel.sa (Sel.sa (Sel.sa (Sel.sc (Sel.sa (Sel.sa Sel.hc)))))) (pApp Sel.ha (pApp Sel.ha (pApp Sel.ha (pApp (Sel.sc (Sel.sa (Sel.sa Sel.ha))) pNil)))))))) (stepV_ok tt_ok rfl) rfl ?_
  replace h := bsome h; obtain ⟨v158, h, hg158⟩ := h
  replace h := cf rfl h
  refine k_skip rfl rfl (pSub (pCons Sel.hc (pCons (Sel.sa (Sel.sa Sel.hc)) (pCons (Sel.sa (Sel.sa (Sel.sa (Sel.sc (Sel.sa (Sel.sa Sel.hc)))))) (pApp Sel.ha (pApp Sel.ha (pApp Sel.ha (pApp (Sel.sc (Sel.sa (Sel.sa Sel.ha))) pNil)))))))) rfl ?_
  simp only [Option.some.injEq, Prod.mk.injEq] at h
  obtain rfl := h
  have h := hg158; clear hg158
  refine k_val (v := .bool false) rfl rfl rfl (pSub (pCons Sel.hc (pCons (Sel.sa (Sel.sa Sel.hc)) (pCons (Sel.sa (Sel.sa (Sel.sa (Sel.sc (Sel.sa (Sel.sa Sel.hc)))))) (pApp Sel.ha (pApp Sel.ha (pApp Sel.ha (pApp (Sel.sc (Sel.sa (Sel.sa Sel.ha))) pNil)))))))) (stepV_ok tt_ok rfl) rfl ?_
  refine k_val rfl rfl rfl (pSub (pCons Sel.hc (pCons (Sel.sa (Sel.sa Sel.hc)) (pCons (Sel.sa (Sel.sa (Sel.sa (Sel.sc (Sel.sa (Sel.sa Sel.hc)))))) (pApp Sel.ha (pApp Sel.ha (pApp Sel.ha (pApp (Sel.sc (Sel.sa (Sel.sa Sel.ha))) pNil)))))))) (stepV_ok tt_ok rfl) rfl ?_
  refine k_end (by kernel_rfl) ?_
  refine wx_then (wc_ret ?_)
  simp only [Option.some.injEq] at h
  obtain rfl := h
  exact wx_pf tt_ok (.inl rfl) Tryd.results3 (Res.tmp rfl Res.nil) rfl

end Go.Proofs.YtkekgagekgadmaaDoor
