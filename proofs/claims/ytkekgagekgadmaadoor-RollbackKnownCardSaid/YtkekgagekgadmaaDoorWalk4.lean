/-
  Each function computes what its model says. Printed by a program of this claim's own.
-/
import Derived.Test.YtkekgagekgadmaaDoorTab
import Derived.Test.YtkekgagekgadmaaDoorMod
import Derived.Test.YtkekgagekgadmaaDoorWalk3
namespace Go.Proofs.YtkekgagekgadmaaDoor
open Go.Proofs.YtkekgagekgadmaaDoor.Eng
set_option linter.unusedVariables false
set_option linter.unusedSimpArgs false
set_option maxHeartbeats 4000000
set_option maxRecDepth 20000

theorem k_hindcastlaw26_works {F : Nat} {r0 : Bool} (h : m_hindcastlaw26_works F = some r0) :
    Pf Tryd.prog 6 [] (fun w => Rds w [] [] (some ⟨0, 0, none⟩) (flat (fun _ : Unit => gl_state_playerBounds) [()]) ∧ Rds w [] [] (some ⟨1, 0, none⟩) (flat (fun _ : Unit => gl_state_shotBounds) [()])) (.bool r0) := by
  unfold m_hindcastlaw26_works at h
  refine pf_of_wc Tryd.func6 rfl Tryd.ntmps6 rfl rfl (fun w0 hR => ?_)
  obtain ⟨G0S, G1S⟩ := hR
  refine wc_seq (wc_region ?_)
  refine wl_pure tt_ok rfl rfl ?_
  refine wl_nil (wx_then (wc_seq (wc_region ?_)))
  replace h := bsome h; obtain ⟨v4, x4, h⟩ := h
  refine wl_cs Tryd.call8 rfl rfl rfl (s_sp (k_state_Start x4) pNil (fun _ _ => trivial)) rfl ?_
  rintro _ _ ⟨_, ⟨v4a0, v4n0, v4c0, v4B0, v4N0, v4V0, rfl, rfl⟩, rfl⟩
  replace h := bsome h; obtain ⟨v5, x5, h⟩ := h
  rcases v5 with _ | v5s
  · replace h := poN h
    refine wl_cs Tryd.call7 rfl rfl rfl (s_sp (k_rollback_New_none (p0 := v4) v4N0 (vec_cap v4V0) (own_Z v4V0) x5) pNil (fun w hI => ⟨(Rds.call (Rds.of_vec v4V0) pNil ⟨_, Sel.ha⟩) w hI, (Rds.call G0S pNil rsub_nil) w hI, (Rds.call G1S pNil rsub_nil) w hI⟩)) rfl ?_
    rintro _ _ ⟨_, ⟨rfl, rfl⟩, rfl⟩
    refine wl_pure tt_ok rfl rfl ?_
    refine wl_nil (wx_then (wc_seq (wc_seq (wc_region ?_))))
    refine wl_pure tt_ok rfl rfl ?_
    refine wl_pure (v := .bool true) tt_ok rfl rfl ?_
    refine wl_pure tt_ok rfl rfl ?_
    refine wl_skip rfl rfl ?_
    refine wl_skip rfl rfl ?_
    refine wl_skip rfl rfl ?_
    refine wl_pure (v := .bool true) tt_ok rfl rfl ?_
    refine wl_pure tt_ok rfl rfl ?_
    refine wl_skip rfl rfl ?_
    refine wl_skip rfl rfl ?_
    refine wl_skip rfl rfl ?_
    refine wl_pure (v := .bool true) tt_ok rfl rfl ?_
    refine wl_pure tt_ok rfl rfl ?_
    refine wl_skip rfl rfl ?_
    refine wl_skip rfl rfl ?_
    refine wl_skip rfl rfl ?_
    refine wl_pure (v := .bool true) tt_ok rfl rfl ?_
    refine wl_pure tt_ok rfl rfl ?_
    refine wl_skip rfl rfl ?_
    refine wl_skip rfl rfl ?_
    refine wl_skip rfl rfl ?_
    refine wl_skip rfl rfl ?_
    refine wl_skip rfl rfl ?_
    refine wl_skip rfl rfl ?_
    refine wl_pure (v := .bool true) tt_ok rfl rfl ?_
    refine wl_pure tt_ok rfl rfl ?_
    refine wl_skip rfl rfl ?_
    refine wl_skip rfl rfl ?_
    refine wl_skip rfl rfl ?_
    refine wl_pure (v := .bool true) tt_ok rfl rfl ?_
    refine wl_nil (wx_then ?_)
    refine wc_cond_true rfl ?_
    refine wc_seq (wc_region ?_)
    refine wl_pure tt_ok rfl rfl ?_
    refine wl_nil (wx_then (wc_ret (wx_then_ret ?_)))
    simp only [Option.some.injEq] at h
    obtain rfl := h
    exact wx_pf tt_ok (.inl rfl) Tryd.results6 (Res.tmp rfl Res.nil) rfl
  replace h := poS h
  refine wl_cs Tryd.call7 rfl rfl rfl (s_sp (k_rollback_New (p0 := v4) v4N0 (vec_cap v4V0) (own_Z v4V0) x5) pNil (fun w hI => ⟨(Rds.call (Rds.of_vec v4V0) pNil ⟨_, Sel.ha⟩) w hI, (Rds.call G0S pNil rsub_nil) w hI, (Rds.call G1S pNil rsub_nil) w hI⟩)) rfl ?_
  rintro _ _ ⟨_, ⟨b5_0, b5_0_4, b5_0_5, v5sa0, v5sn0, v5sc0, v5sB0, v5sa1, v5sn1, v5sc1, v5sB1, v5s_4a0, v5s_4n0, v5s_4c0, v5s_4B0, v5s_5g0, v5s_5P0, v5sN0, v5sV0, v5sN1, v5sV1, v5s_4N0, v5s_4V0, v5s_5G0, v5s_5A0, rfl, rfl⟩, rfl⟩
  refine wl_pure tt_ok rfl rfl ?_
  refine wl_nil (wx_then (wc_seq (wc_seq (wc_region ?_))))
  refine wl_pure tt_ok rfl rfl ?_
  refine wl_pure (v := .bool false) tt_ok rfl rfl ?_
  refine wl_pure tt_ok rfl rfl ?_
  refine wl_run rfl ?_
  refine wl_pure tt_ok rfl rfl ?_
  replace h := bsome h; obtain ⟨⟨o10_0, v10⟩, x10, h⟩ := h; try dsimp only at h
  refine wl_run rfl ?_
  refine wl_cs Tryd.call9 rfl rfl rfl (s_sp (k_rollback_Engine_Local (p0 := v5s.1) (p0_4 := v5s.2.1) (p0_5 := v5s.2.2) v5sN0 v5sV0 v5sN1 v5sV1 v5s_4N0 v5s_4V0 v5s_5G0 v5s_5A0 x10) (pCons Sel.hc (pApp Sel.ha (pApp Sel.ha (pCons Sel.hc (pApp Sel.ha (pCons Sel.hc (pApp Sel.ha pNil))))))) (fun _ _ => trivial)) rfl ?_
  rintro _ _ ⟨_, ⟨o10_0a0, o10_0n0, o10_0c0, o10_0B0, o10_0a1, o10_0n1, o10_0c1, o10_0B1, o10_0N0, o10_0V0, o10_0N1, o10_0V1, rfl, rfl⟩, rfl⟩
  refine wl_run rfl ?_
  refine wl_pure (v := .bool (v10 != (0 : Int))) tt_ok rfl rfl ?_
  refine wl_pure (v := .bool (v10 != (0 : Int))) tt_ok rfl rfl ?_
  refine wl_pure tt_ok rfl rfl ?_
  replace h := bsome h; obtain ⟨⟨v17, g17_n5_0_f0, g17_n5_0_f1, g17_n5_0_f2_0, g17_n5_0_f2_1, g17_n5_0_f2_2, g17_n5_0_f2_3, g17_n5_0_f2_4, g17_n5_0_f3⟩, h, hg17⟩ := h
  refine wl_split (t := 13) rfl (fun hc => ?_) (fun hc => ?_)
  · replace h := ct hc h
    refine wl_skip rfl rfl ?_
    refine wl_skip rfl rfl ?_
    refine wl_skip rfl rfl ?_
    simp only [Option.some.injEq, Prod.mk.injEq] at h
    obtain ⟨rfl, rfl, rfl, rfl, rfl, rfl, rfl, rfl, rfl⟩ := h
    have h := hg17; clear hg17; try dsimp only at h
    refine wl_pure (v := .bool true) tt_ok rfl rfl ?_
    refine wl_pure tt_ok rfl rfl ?_
    replace h := bsome h; obtain ⟨⟨v22, g22_n5_0_f0, g22_n5_0_f1, g22_n5_0_f2_0, g22_n5_0_f2_1, g22_n5_0_f2_2, g22_n5_0_f2_3, g22_n5_0_f2_4, g22_n5_0_f3⟩, h, hg22⟩ := h
    replace h := ct rfl h
    refine wl_skip rfl rfl ?_
    refine wl_skip rfl rfl ?_
    refine wl_skip rfl rfl ?_
    simp only [Option.some.injEq, Prod.mk.injEq] at h
    obtain ⟨rfl, rfl, rfl, rfl, rfl, rfl, rfl, rfl, rfl⟩ := h
    have h := hg22; clear hg22; try dsimp only at h
    refine wl_pure (v := .bool true) tt_ok rfl rfl ?_
    refine wl_pure tt_ok rfl rfl ?_
    replace h := bsome h; obtain ⟨⟨v30, g30_n5_0_5_f0, g30_n5_0_5_f1⟩, h, hg30⟩ := h
    replace h := ct rfl h
    refine wl_skip rfl rfl ?_
    refine wl_skip rfl rfl ?_
    refine wl_skip rfl rfl ?_
    refine wl_skip rfl rfl ?_
    refine wl_skip rfl rfl ?_
    refine wl_skip rfl rfl ?_
    simp only [Option.some.injEq, Prod.mk.injEq] at h
    obtain ⟨rfl, rfl, rfl⟩ := h
    have h := hg30; clear hg30; try dsimp only at h
    refine wl_pure (v := .bool true) tt_ok rfl rfl ?_
    refine wl_pure tt_ok rfl rfl ?_
    replace h := bsome h; obtain ⟨⟨v35, g35_n5_0_4_f0, g35_n5_0_4_f1, g35_n5_0_4_f2, g35_n5_0_5_f0, g35_n5_0_5_f1⟩, h, hg35⟩ := h
    replace h := ct rfl h
    refine wl_skip rfl rfl ?_
    refine wl_skip rfl rfl ?_
    refine wl_skip rfl rfl ?_
    simp only [Option.some.injEq, Prod.mk.injEq] at h
    obtain ⟨rfl, rfl, rfl, rfl, rfl, rfl⟩ := h
    have h := hg35; clear hg35; try dsimp only at h
    refine wl_pure (v := .bool true) tt_ok rfl rfl ?_
    refine wl_nil (wx_then ?_)
    replace h := ct rfl h
    refine wc_cond_true rfl ?_
    refine wc_seq (wc_region ?_)
    refine wl_pure tt_ok rfl rfl ?_
    refine wl_nil (wx_then (wc_ret (wx_then_ret ?_)))
    simp only [Option.some.injEq] at h
    obtain rfl := h
    exact wx_pf tt_ok (.inl rfl) Tryd.results6 (Res.tmp rfl Res.nil) rfl
  replace h := cf hc h
  refine wl_run rfl ?_
  refine wl_pure tt_ok rfl rfl ?_
  replace h := bsome h; obtain ⟨⟨o15_0, v15⟩, x15, h⟩ := h; try dsimp only at h
  refine wl_run rfl ?_
  refine wl_cs Tryd.call9 rfl rfl rfl (s_sp (k_rollback_Engine_Local (p0 := o10_0) (p0_4 := v5s.2.1) (p0_5 := v5s.2.2) o10_0N0 o10_0V0 o10_0N1 o10_0V1 v5s_4N0 v5s_4V0 v5s_5G0 v5s_5A0 x15) (pCons Sel.hc (pApp Sel.ha (pApp Sel.ha (pCons Sel.hc (pApp Sel.ha (pCons Sel.hc (pApp Sel.ha pNil))))))) (fun _ _ => trivial)) rfl ?_
  rintro _ _ ⟨_, ⟨o15_0a0, o15_0n0, o15_0c0, o15_0B0, o15_0a1, o15_0n1, o15_0c1, o15_0B1, o15_0N0, o15_0V0, o15_0N1, o15_0V1, rfl, rfl⟩, rfl⟩
  refine wl_run rfl ?_
  refine wl_pure (v := .bool (v15 != (0 : Int))) tt_ok rfl rfl ?_
  simp only [Option.some.injEq, Prod.mk.injEq] at h
  obtain ⟨rfl, rfl, rfl, rfl, rfl, rfl, rfl, rfl, rfl⟩ := h
  have h := hg17; clear hg17; try dsimp only at h
  refine wl_pure (v := .bool (v15 != (0 : Int))) tt_ok rfl rfl ?_
  refine wl_pure tt_ok rfl rfl ?_
  replace h := bsome h; obtain ⟨⟨v22, g22_n5_0_f0, g22_n5_0_f1, g22_n5_0_f2_0, g22_n5_0_f2_1, g22_n5_0_f2_2, g22_n5_0_f2_3, g22_n5_0_f2_4, g22_n5_0_f3⟩, h, hg22⟩ := h
  refine wl_split (t := 18) rfl (fun hc => ?_) (fun hc => ?_)
  · replace h := ct hc h
    refine wl_skip rfl rfl ?_
    refine wl_skip rfl rfl ?_
    refine wl_skip rfl rfl ?_
    simp only [Option.some.injEq, Prod.mk.injEq] at h
    obtain ⟨rfl, rfl, rfl, rfl, rfl, rfl, rfl, rfl, rfl⟩ := h
    have h := hg22; clear hg22; try dsimp only at h
    refine wl_pure (v := .bool true) tt_ok rfl rfl ?_
    refine wl_pure tt_ok rfl rfl ?_
    replace h := bsome h; obtain ⟨⟨v30, g30_n5_0_5_f0, g30_n5_0_5_f1⟩, h, hg30⟩ := h
    replace h := ct rfl h
    refine wl_skip rfl rfl ?_
    refine wl_skip rfl rfl ?_
    refine wl_skip rfl rfl ?_
    refine wl_skip rfl rfl ?_
    refine wl_skip rfl rfl ?_
    refine wl_skip rfl rfl ?_
    simp only [Option.some.injEq, Prod.mk.injEq] at h
    obtain ⟨rfl, rfl, rfl⟩ := h
    have h := hg30; clear hg30; try dsimp only at h
    refine wl_pure (v := .bool true) tt_ok rfl rfl ?_
    refine wl_pure tt_ok rfl rfl ?_
    replace h := bsome h; obtain ⟨⟨v35, g35_n5_0_4_f0, g35_n5_0_4_f1, g35_n5_0_4_f2, g35_n5_0_5_f0, g35_n5_0_5_f1⟩, h, hg35⟩ := h
    replace h := ct rfl h
    refine wl_skip rfl rfl ?_
    refine wl_skip rfl rfl ?_
    refine wl_skip rfl rfl ?_
    simp only [Option.some.injEq, Prod.mk.injEq] at h
    obtain ⟨rfl, rfl, rfl, rfl, rfl, rfl⟩ := h
    have h := hg35; clear hg35; try dsimp only at h
    refine wl_pure (v := .bool true) tt_ok rfl rfl ?_
    refine wl_nil (wx_then ?_)
    replace h := ct rfl h
    refine wc_cond_true rfl ?_
    refine wc_seq (wc_region ?_)
    refine wl_pure tt_ok rfl rfl ?_
    refine wl_nil (wx_then (wc_ret (wx_then_ret ?_)))
    simp only [Option.some.injEq] at h
    obtain rfl := h
    exact wx_pf tt_ok (.inl rfl) Tryd.results6 (Res.tmp rfl Res.nil) rfl
  replace h := cf hc h
  refine wl_run rfl ?_
  refine wl_pure tt_ok rfl rfl ?_
  replace h := bsome h; obtain ⟨⟨o20_0, v20⟩, x20, h⟩ := h; try dsimp only at h
  refine wl_run rfl ?_
  refine wl_cs Tryd.call9 rfl rfl rfl (s_sp (k_rollback_Engine_Local (p0 := o15_0) (p0_4 := v5s.2.1) (p0_5 := v5s.2.2) o15_0N0 o15_0V0 o15_0N1 o15_0V1 v5s_4N0 v5s_4V0 v5s_5G0 v5s_5A0 x20) (pCons Sel.hc (pApp Sel.ha (pApp Sel.ha (pCons Sel.hc (pApp Sel.ha (pCons Sel.hc (pApp Sel.ha pNil))))))) (fun _ _ => trivial)) rfl ?_
  rintro _ _ ⟨_, ⟨o20_0a0, o20_0n0, o20_0c0, o20_0B0, o20_0a1, o20_0n1, o20_0c1, o20_0B1, o20_0N0, o20_0V0, o20_0N1, o20_0V1, rfl, rfl⟩, rfl⟩
  refine wl_run rfl ?_
  refine wl_pure (v := .bool (v20 != (7 : Int))) tt_ok rfl rfl ?_
  simp only [Option.some.injEq, Prod.mk.injEq] at h
  obtain ⟨rfl, rfl, rfl, rfl, rfl, rfl, rfl, rfl, rfl⟩ := h
  have h := hg22; clear hg22; try dsimp only at h
  refine wl_pure (v := .bool (v20 != (7 : Int))) tt_ok rfl rfl ?_
  refine wl_pure tt_ok rfl rfl ?_
  replace h := bsome h; obtain ⟨⟨v30, g30_n5_0_5_f0, g30_n5_0_5_f1⟩, h, hg30⟩ := h
  refine wl_split (t := 23) rfl (fun hc => ?_) (fun hc => ?_)
  · replace h := ct hc h
    refine wl_skip rfl rfl ?_
    refine wl_skip rfl rfl ?_
    refine wl_skip rfl rfl ?_
    refine wl_skip rfl rfl ?_
    refine wl_skip rfl rfl ?_
    refine wl_skip rfl rfl ?_
    simp only [Option.some.injEq, Prod.mk.injEq] at h
    obtain ⟨rfl, rfl, rfl⟩ := h
    have h := hg30; clear hg30; try dsimp only at h
    refine wl_pure (v := .bool true) tt_ok rfl rfl ?_
    refine wl_pure tt_ok rfl rfl ?_
    replace h := bsome h; obtain ⟨⟨v35, g35_n5_0_4_f0, g35_n5_0_4_f1, g35_n5_0_4_f2, g35_n5_0_5_f0, g35_n5_0_5_f1⟩, h, hg35⟩ := h
    replace h := ct rfl h
    refine wl_skip rfl rfl ?_
    refine wl_skip rfl rfl ?_
    refine wl_skip rfl rfl ?_
    simp only [Option.some.injEq, Prod.mk.injEq] at h
    obtain ⟨rfl, rfl, rfl, rfl, rfl, rfl⟩ := h
    have h := hg35; clear hg35; try dsimp only at h
    refine wl_pure (v := .bool true) tt_ok rfl rfl ?_
    refine wl_nil (wx_then ?_)
    replace h := ct rfl h
    refine wc_cond_true rfl ?_
    refine wc_seq (wc_region ?_)
    refine wl_pure tt_ok rfl rfl ?_
    refine wl_nil (wx_then (wc_ret (wx_then_ret ?_)))
    simp only [Option.some.injEq] at h
    obtain rfl := h
    exact wx_pf tt_ok (.inl rfl) Tryd.results6 (Res.tmp rfl Res.nil) rfl
  replace h := cf hc h
  refine wl_run rfl ?_
  refine wl_pure tt_ok rfl rfl ?_
  replace h := bsome h; obtain ⟨⟨o25_2, v25⟩, x25, h⟩ := h; try dsimp only at h
  refine wl_run rfl ?_
  refine wl_cs Tryd.call11 rfl rfl rfl (s_sp (k_rollback_Engine_Shown (p0 := o20_0) (p0_4 := v5s.2.1) (p0_5 := v5s.2.2) o20_0N0 o20_0V0 o20_0N1 o20_0V1 v5s_4N0 v5s_4V0 v5s_5G0 v5s_5A0 x25) (pCons Sel.hc (pApp Sel.ha (pApp Sel.ha (pCons Sel.hc (pApp Sel.ha (pCons Sel.hc (pApp Sel.ha pNil))))))) (fun w hI => ⟨(Rds.call G0S (pCons Sel.hc (pApp Sel.ha (pApp Sel.ha (pCons Sel.hc (pApp Sel.ha (pCons Sel.hc (pApp Sel.ha pNil))))))) rsub_nil) w hI, (Rds.call G1S (pCons Sel.hc (pApp Sel.ha (pApp Sel.ha (pCons Sel.hc (pApp Sel.ha (pCons Sel.hc (pApp Sel.ha pNil))))))) rsub_nil) w hI⟩)) rfl ?_
  rintro _ _ ⟨_, ⟨o25_2g0, o25_2P0, v25a0, v25n0, v25c0, v25B0, o25_2G0, o25_2A0, v25N0, v25V0, rfl, rfl⟩, rfl⟩
  refine wl_run rfl ?_
  refine wl_pure (v := .agg #[.int .i32 v25.Players.1.X, .int .i32 v25.Players.1.Y, .int .i32 v25.Players.1.VX, .int .i32 v25.Players.1.VY, .int .u8 v25.Players.1.Health, .int .u8 v25.Players.1.Cool, .int .u8 v25.Players.1.Face, .int .i32 v25.Players.2.X, .int .i32 v25.Players.2.Y, .int .i32 v25.Players.2.VX, .int .i32 v25.Players.2.VY, .int .u8 v25.Players.2.Health, .int .u8 v25.Players.2.Cool, .int .u8 v25.Players.2.Face]) tt_ok rfl rfl ?_
  refine wl_run rfl ?_
  refine wl_pure (v := .agg #[.int .i32 v25.Players.1.X, .int .i32 v25.Players.1.Y, .int .i32 v25.Players.1.VX, .int .i32 v25.Players.1.VY, .int .u8 v25.Players.1.Health, .int .u8 v25.Players.1.Cool, .int .u8 v25.Players.1.Face]) tt_ok rfl rfl ?_
  refine wl_run rfl ?_
  refine wl_pure (v := .int .i32 v25.Players.1.X) tt_ok rfl rfl ?_
  refine wl_run rfl ?_
  refine wl_pure (v := .bool (v25.Players.1.X != (8384 : Int))) tt_ok rfl rfl ?_
  simp only [Option.some.injEq, Prod.mk.injEq] at h
  obtain ⟨rfl, rfl, rfl⟩ := h
  have h := hg30; clear hg30; try dsimp only at h
  refine wl_pure (v := .bool (v25.Players.1.X != (8384 : Int))) tt_ok rfl rfl ?_
  refine wl_pure tt_ok rfl rfl ?_
  replace h := bsome h; obtain ⟨⟨v35, g35_n5_0_4_f0, g35_n5_0_4_f1, g35_n5_0_4_f2, g35_n5_0_5_f0, g35_n5_0_5_f1⟩, h, hg35⟩ := h
  refine wl_split (t := 31) rfl (fun hc => ?_) (fun hc => ?_)
  · replace h := ct hc h
    refine wl_skip rfl rfl ?_
    refine wl_skip rfl rfl ?_
    refine wl_skip rfl rfl ?_
    simp only [Option.some.injEq, Prod.mk.injEq] at h
    obtain ⟨rfl, rfl, rfl, rfl, rfl, rfl⟩ := h
    have h := hg35; clear hg35; try dsimp only at h
    refine wl_pure (v := .bool true) tt_ok rfl rfl ?_
    refine wl_nil (wx_then ?_)
    replace h := ct rfl h
    refine wc_cond_true rfl ?_
    refine wc_seq (wc_region ?_)
    refine wl_pure tt_ok rfl rfl ?_
    refine wl_nil (wx_then (wc_ret (wx_then_ret ?_)))
    simp only [Option.some.injEq] at h
    obtain rfl := h
    exact wx_pf tt_ok (.inl rfl) Tryd.results6 (Res.tmp rfl Res.nil) rfl
  replace h := cf hc h
  refine wl_run rfl ?_
  refine wl_pure tt_ok rfl rfl ?_
  replace h := bsome h; obtain ⟨⟨o33_1, o33_2, v33⟩, x33, h⟩ := h; try dsimp only at h
  refine wl_run rfl ?_
  refine wl_cs Tryd.call12 rfl rfl rfl (s_sp (k_rollback_Engine_Remote (p0 := o20_0) (p0_4 := v5s.2.1) (p0_5 := o25_2) o20_0N0 o20_0V0 o20_0N1 o20_0V1 v5s_4N0 v5s_4V0 o25_2G0 o25_2A0 x33) (pCons Sel.hc (pApp Sel.ha (pApp Sel.ha (pCons Sel.hc (pApp Sel.ha (pCons Sel.hc (pApp Sel.ha pNil))))))) (fun _ _ => trivial)) rfl ?_
  rintro _ _ ⟨_, ⟨o33_1a0, o33_1n0, o33_1c0, o33_1B0, o33_2g0, o33_2P0, o33_1N0, o33_1V0, o33_2G0, o33_2A0, rfl, rfl⟩, rfl⟩
  refine wl_run rfl ?_
  refine wl_pure (v := .bool (v33 != (0 : Int))) tt_ok rfl rfl ?_
  simp only [Option.some.injEq, Prod.mk.injEq] at h
  obtain ⟨rfl, rfl, rfl, rfl, rfl, rfl⟩ := h
  have h := hg35; clear hg35; try dsimp only at h
  refine wl_pure (v := .bool (v33 != (0 : Int))) tt_ok rfl rfl ?_
  refine wl_nil (wx_then ?_)
  refine wc_cond rfl (fun hc => ?_) (fun hc => ?_)
  · replace h := ct hc h
    refine wc_seq (wc_region ?_)
    refine wl_pure tt_ok rfl rfl ?_
    refine wl_nil (wx_then (wc_ret (wx_then_ret ?_)))
    simp only [Option.some.injEq] at h
    obtain rfl := h
    exact wx_pf tt_ok (.inl rfl) Tryd.results6 (Res.tmp rfl Res.nil) rfl
  replace h := cf hc h
  refine wc_skip (wx_then (wc_seq (wc_region ?_)))
  refine wl_pure tt_ok rfl rfl ?_
  replace h := bsome h; obtain ⟨⟨o38_0, o38_1, o38_2, v38_0, v38_1⟩, x38, h⟩ := h; try dsimp only at h
  refine wl_cs Tryd.call13 rfl rfl rfl (s_sp (k_rollback_Engine_Confirm (p0 := o20_0) (p0_4 := o33_1) (p0_5 := o33_2) o20_0N0 o20_0V0 o20_0N1 o20_0V1 o33_1N0 o33_1V0 o33_2G0 o33_2A0 x38) (pCons Sel.hc (pApp Sel.ha (pApp Sel.ha (pCons Sel.hc (pApp Sel.ha (pCons Sel.hc (pApp Sel.ha pNil))))))) (fun w hI => ⟨(Rds.call G0S (pCons Sel.hc (pApp Sel.ha (pApp Sel.ha (pCons Sel.hc (pApp Sel.ha (pCons Sel.hc (pApp Sel.ha pNil))))))) rsub_nil) w hI, (Rds.call G1S (pCons Sel.hc (pApp Sel.ha (pApp Sel.ha (pCons Sel.hc (pApp Sel.ha (pCons Sel.hc (pApp Sel.ha pNil))))))) rsub_nil) w hI⟩)) rfl ?_
  rintro _ _ ⟨_, ⟨o38_0a0, o38_0n0, o38_0c0, o38_0B0, o38_0a1, o38_0n1, o38_0c1, o38_0B1, o38_1a0, o38_1n0, o38_1c0, o38_1B0, o38_2g0, o38_2P0, o38_0N0, o38_0V0, o38_0N1, o38_0V1, o38_1N0, o38_1V0, o38_2G0, o38_2A0, rfl, rfl⟩, rfl⟩
  iterate 3 refine wl_pure tt_ok rfl rfl ?_
  refine wl_alloc tt_ok rfl rfl (fun b2 => ?_)
  apply wl_store tt_ok; rfl; exact Upd.here; rfl; rfl; rfl; rfl; rfl; rfl
  refine wl_pure tt_ok rfl rfl ?_
  refine wl_nil (wx_then (wc_seq (wc_region ?_)))
  refine wl_pure tt_ok rfl rfl ?_
  replace h := bsome h; obtain ⟨⟨o42_2, v42⟩, x42, h⟩ := h; try dsimp only at h
  refine wl_cs Tryd.call11 rfl rfl rfl (s_sp (k_rollback_Engine_Shown (p0 := o38_0) (p0_4 := o38_1) (p0_5 := o38_2) o38_0N0 o38_0V0 o38_0N1 o38_0V1 o38_1N0 o38_1V0 o38_2G0 o38_2A0 x42) (pCons (Sel.sc Sel.hc) (pApp (Sel.sc Sel.ha) (pApp (Sel.sc Sel.ha) (pCons (Sel.sc Sel.hc) (pApp (Sel.sc Sel.ha) (pCons (Sel.sc Sel.hc) (pApp (Sel.sc Sel.ha) pNil))))))) (fun w hI => ⟨(Rds.call G0S (pCons (Sel.sc Sel.hc) (pApp (Sel.sc Sel.ha) (pApp (Sel.sc Sel.ha) (pCons (Sel.sc Sel.hc) (pApp (Sel.sc Sel.ha) (pCons (Sel.sc Sel.hc) (pApp (Sel.sc Sel.ha) pNil))))))) rsub_nil) w hI, (Rds.call G1S (pCons (Sel.sc Sel.hc) (pApp (Sel.sc Sel.ha) (pApp (Sel.sc Sel.ha) (pCons (Sel.sc Sel.hc) (pApp (Sel.sc Sel.ha) (pCons (Sel.sc Sel.hc) (pApp (Sel.sc Sel.ha) pNil))))))) rsub_nil) w hI⟩)) rfl ?_
  rintro _ _ ⟨_, ⟨o42_2g0, o42_2P0, v42a0, v42n0, v42c0, v42B0, o42_2G0, o42_2A0, v42N0, v42V0, rfl, rfl⟩, rfl⟩
  refine wl_pure (v := .agg #[.int .i32 v42.Players.1.X, .int .i32 v42.Players.1.Y, .int .i32 v42.Players.1.VX, .int .i32 v42.Players.1.VY, .int .u8 v42.Players.1.Health, .int .u8 v42.Players.1.Cool, .int .u8 v42.Players.1.Face, .int .i32 v42.Players.2.X, .int .i32 v42.Players.2.Y, .int .i32 v42.Players.2.VX, .int .i32 v42.Players.2.VY, .int .u8 v42.Players.2.Health, .int .u8 v42.Players.2.Cool, .int .u8 v42.Players.2.Face]) tt_ok rfl rfl ?_
  refine wl_pure (v := .agg #[.int .i32 v42.Players.2.X, .int .i32 v42.Players.2.Y, .int .i32 v42.Players.2.VX, .int .i32 v42.Players.2.VY, .int .u8 v42.Players.2.Health, .int .u8 v42.Players.2.Cool, .int .u8 v42.Players.2.Face]) tt_ok rfl rfl ?_
  refine wl_pure (v := .int .i32 v42.Players.2.VX) tt_ok rfl rfl ?_
  refine wl_pure (v := .bool (v42.Players.2.VX == (-128 : Int))) tt_ok rfl rfl ?_
  refine wl_pure tt_ok rfl rfl ?_
  replace h := bsome h; obtain ⟨v49, h, hg49⟩ := h
  refine wl_split (t := 47) rfl (fun hc => ?_) (fun hc => ?_)
  · replace h := ct hc h
    refine wl_run rfl ?_
    refine wl_pure tt_ok rfl rfl ?_
    simp only [Option.some.injEq, Prod.mk.injEq] at h
    obtain rfl := h
    have h := hg49; clear hg49
    refine wl_pure (v := .bool v38_1) tt_ok rfl rfl ?_
    refine wl_pure tt_ok rfl rfl ?_
    replace h := bsome h; obtain ⟨v54, h, hg54⟩ := h
    refine wl_split (t := 50) rfl (fun hc => ?_) (fun hc => ?_)
    · replace h := ct hc h
      refine wl_run rfl ?_
      refine wl_val (v := .agg #[.int .u8 v38_0.1, .int .u8 v38_0.2]) (val_load tt_ok rfl (List.Mem.tail _ (mR (mR (List.Mem.tail _ (mR (List.Mem.tail _ (mR (mR (List.Mem.head _))))))))) rfl) rfl ?_
      refine wl_run rfl ?_
      refine wl_pure (v := .agg #[.int .u8 (2 : Int), .int .u8 (1 : Int)]) tt_ok rfl rfl ?_
      refine wl_run rfl ?_
      refine wl_val (v := .bool ((v38_0.1 == (2 : Int)) && (v38_0.2 == (1 : Int)))) (val_eqs tt_ok tt_eq tt_one Tryd.eqGuardType45 rfl rfl rfl rfl rfl) rfl ?_
      simp only [Option.some.injEq, Prod.mk.injEq] at h
      obtain rfl := h
      have h := hg54; clear hg54
      refine wl_pure (v := .bool ((v38_0.1 == (2 : Int)) && (v38_0.2 == (1 : Int)))) tt_ok rfl rfl ?_
      refine wl_pure tt_ok rfl rfl ?_
      replace h := bsome h; obtain ⟨v59, h, hg59⟩ := h
      refine wl_split (t := 55) rfl (fun hc => ?_) (fun hc => ?_)
      · replace h := ct hc h
        refine wl_run rfl ?_
        refine wl_pure tt_ok rfl rfl ?_
        replace h := bsome h; obtain ⟨v57, x57, h⟩ := h
        refine wl_run rfl ?_
        refine wl_cq Tryd.call16 rfl rfl rfl (q_rd (k_rollback_Engine_C (p0 := o38_0) (p0_4 := o38_1) (p0_5 := o42_2) o38_0N0 o38_0V0 o38_0N1 o38_0V1 o38_1N0 o38_1V0 o42_2G0 o42_2A0 x57) (pCons Sel.hc (pApp Sel.ha (pApp Sel.ha (pCons Sel.hc (pApp Sel.ha (pCons Sel.hc (pApp Sel.ha pNil))))))) (fun _ _ => trivial)) rfl ?_
        refine wl_run rfl ?_
        refine wl_pure (v := .bool (v57 == (1 : Int))) tt_ok rfl rfl ?_
        simp only [Option.some.injEq, Prod.mk.injEq] at h
        obtain rfl := h
        have h := hg59; clear hg59
        refine wl_pure (v := .bool (v57 == (1 : Int))) tt_ok rfl rfl ?_
        refine wl_pure tt_ok rfl rfl ?_
        replace h := bsome h; obtain ⟨v64, h, hg64⟩ := h
        refine wl_split (t := 60) rfl (fun hc => ?_) (fun hc => ?_)
        · replace h := ct hc h
          refine wl_run rfl ?_
          refine wl_pure tt_ok rfl rfl ?_
          replace h := bsome h; obtain ⟨v62, x62, h⟩ := h
          refine wl_run rfl ?_
          refine wl_cq Tryd.call17 rfl rfl rfl (q_rd (k_rollback_Engine_T (p0 := o38_0) (p0_4 := o38_1) (p0_5 := o42_2) o38_0N0 o38_0V0 o38_0N1 o38_0V1 o38_1N0 o38_1V0 o42_2G0 o42_2A0 x62) (pCons Sel.hc (pApp Sel.ha (pApp Sel.ha (pCons Sel.hc (pApp Sel.ha (pCons Sel.hc (pApp Sel.ha pNil))))))) (fun _ _ => trivial)) rfl ?_
          refine wl_run rfl ?_
          refine wl_pure (v := .bool (v62 == (2 : Int))) tt_ok rfl rfl ?_
          simp only [Option.some.injEq, Prod.mk.injEq] at h
          obtain rfl := h
          have h := hg64; clear hg64
          refine wl_pure (v := .bool (v62 == (2 : Int))) tt_ok rfl rfl ?_
          refine wl_pure tt_ok rfl rfl ?_
          refine wl_nil (wx_then (wc_ret ?_))
          simp only [Option.some.injEq] at h
          obtain rfl := h
          exact wx_pf tt_ok (.inl rfl) Tryd.results6 (Res.tmp rfl Res.nil) rfl
        replace h := cf hc h
        refine wl_skip rfl rfl ?_
        refine wl_skip rfl rfl ?_
        refine wl_skip rfl rfl ?_
        simp only [Option.some.injEq, Prod.mk.injEq] at h
        obtain rfl := h
        have h := hg64; clear hg64
        refine wl_pure (v := .bool false) tt_ok rfl rfl ?_
        refine wl_pure tt_ok rfl rfl ?_
        refine wl_nil (wx_then (wc_ret ?_))
        simp only [Option.some.injEq] at h
        obtain rfl := h
        exact wx_pf tt_ok (.inl rfl) Tryd.results6 (Res.tmp rfl Res.nil) rfl
      replace h := cf hc h
      refine wl_skip rfl rfl ?_
      refine wl_skip rfl rfl ?_
      refine wl_skip rfl rfl ?_
      simp only [Option.some.injEq, Prod.mk.injEq] at h
      obtain rfl := h
      have h := hg59; clear hg59
      refine wl_pure (v := .bool false) tt_ok rfl rfl ?_
      refine wl_pure tt_ok rfl rfl ?_
      replace h := bsome h; obtain ⟨v64, h, hg64⟩ := h
      replace h := cf rfl h
      refine wl_skip rfl rfl ?_
      refine wl_skip rfl rfl ?_
      refine wl_skip rfl rfl ?_
      simp only [Option.some.injEq, Prod.mk.injEq] at h
      obtain rfl := h
      have h := hg64; clear hg64
      refine wl_pure (v := .bool false) tt_ok rfl rfl ?_
      refine wl_pure tt_ok rfl rfl ?_
      refine wl_nil (wx_then (wc_ret ?_))
      simp only [Option.some.injEq] at h
      obtain rfl := h
      exact wx_pf tt_ok (.inl rfl) Tryd.results6 (Res.tmp rfl Res.nil) rfl
    replace h := cf hc h
    refine wl_skip rfl rfl ?_
    refine wl_skip rfl rfl ?_
    refine wl_skip rfl rfl ?_
    simp only [Option.some.injEq, Prod.mk.injEq] at h
    obtain rfl := h
    have h := hg54; clear hg54
    refine wl_pure (v := .bool false) tt_ok rfl rfl ?_
    refine wl_pure tt_ok rfl rfl ?_
    replace h := bsome h; obtain ⟨v59, h, hg59⟩ := h
    replace h := cf rfl h
    refine wl_skip rfl rfl ?_
    refine wl_skip rfl rfl ?_
    refine wl_skip rfl rfl ?_
    simp only [Option.some.injEq, Prod.mk.injEq] at h
    obtain rfl := h
    have h := hg59; clear hg59
    refine wl_pure (v := .bool false) tt_ok rfl rfl ?_
    refine wl_pure tt_ok rfl rfl ?_
    replace h := bsome h; obtain ⟨v64, h, hg64⟩ := h
    replace h := cf rfl h
    refine wl_skip rfl rfl ?_
    refine wl_skip rfl rfl ?_
    refine wl_skip rfl rfl ?_
    simp only [Option.some.injEq, Prod.mk.injEq] at h
    obtain rfl := h
    have h := hg64; clear hg64
    refine wl_pure (v := .bool false) tt_ok rfl rfl ?_
    refine wl_pure tt_ok rfl rfl ?_
    refine wl_nil (wx_then (wc_ret ?_))
    simp only [Option.some.injEq] at h
    obtain rfl := h
    exact wx_pf tt_ok (.inl rfl) Tryd.results6 (Res.tmp rfl Res.nil) rfl
  replace h := cf hc h
  refine wl_skip rfl rfl ?_
  simp only [Option.some.injEq, Prod.mk.injEq] at h
  obtain rfl := h
  have h := hg49; clear hg49
  refine wl_pure (v := .bool false) tt_ok rfl rfl ?_
  refine wl_pure tt_ok rfl rfl ?_
  replace h := bsome h; obtain ⟨v54, h, hg54⟩ := h
  replace h := cf rfl h
  refine wl_skip rfl rfl ?_
  refine wl_skip rfl rfl ?_
  refine wl_skip rfl rfl ?_
  simp only [Option.some.injEq, Prod.mk.injEq] at h
  obtain rfl := h
  have h := hg54; clear hg54
  refine wl_pure (v := .bool false) tt_ok rfl rfl ?_
  refine wl_pure tt_ok rfl rfl ?_
  replace h := bsome h; obtain ⟨v59, h, hg59⟩ := h
  replace h := cf rfl h
  refine wl_skip rfl rfl ?_
  refine wl_skip rfl rfl ?_
  refine wl_skip rfl rfl ?_
  simp only [Option.some.injEq, Prod.mk.injEq] at h
  obtain rfl := h
  have h := hg59; clear hg59
  refine wl_pure (v := .bool false) tt_ok rfl rfl ?_
  refine wl_pure tt_ok rfl rfl ?_
  replace h := bsome h; obtain ⟨v64, h, hg64⟩ := h
  replace h := cf rfl h
  refine wl_skip rfl rfl ?_
  refine wl_skip rfl rfl ?_
  refine wl_skip rfl rfl ?_
  simp only [Option.some.injEq, Prod.mk.injEq] at h
  obtain rfl := h
  have h := hg64; clear hg64
  refine wl_pure (v := .bool false) tt_ok rfl rfl ?_
  refine wl_pure tt_ok rfl rfl ?_
  refine wl_nil (wx_then (wc_ret ?_))
  simp only [Option.some.injEq] at h
  obtain rfl := h
  exact wx_pf tt_ok (.inl rfl) Tryd.results6 (Res.tmp rfl Res.nil) rfl

theorem k_rollback_Engine_C_nil0 {F : Nat} {r0 : Int} (h : m_rollback_Engine_C_nil0 F = some r0) :
    Pf Tryd.prog 16 [.pointer none] (fun w => True) (.int .u64 r0) := by
  unfold m_rollback_Engine_C_nil0 at h
  refine pf_of_wc Tryd.func16 rfl Tryd.ntmps16 rfl rfl (fun w0 hR => ?_)
  refine wc_seq (wc_region ?_)
  refine wl_pure tt_ok rfl rfl ?_
  refine wl_nil (wx_then (wc_seq (wc_seq (wc_region ?_))))
  refine wl_pure tt_ok rfl rfl ?_
  replace h := bsome h; obtain ⟨v4, x4, h⟩ := h
  refine wl_cq Tryd.call30 rfl rfl rfl (q_pf (k_rollback_Engine_is_nil0 x4) (fun _ _ => trivial)) rfl ?_
  refine wl_pure (v := .bool (!v4)) tt_ok rfl rfl ?_
  refine wl_nil (wx_then ?_)
  refine wc_cond rfl (fun hc => ?_) (fun hc => ?_)
  · replace h := ct hc h
    refine wc_seq (wc_region ?_)
    refine wl_pure tt_ok rfl rfl ?_
    refine wl_nil (wx_then (wc_ret (wx_then_ret ?_)))
    simp only [Option.some.injEq] at h
    obtain rfl := h
    exact wx_pf tt_ok (.inl rfl) Tryd.results16 (Res.tmp rfl Res.nil) rfl
  replace h := cf hc h
  refine wc_skip (wx_then (wc_seq (wc_region ?_)))
  refine wl_pure tt_ok rfl rfl ?_
  cases h

theorem k_rollback_Engine_Own_nil0 {F : Nat} {r0 : (List Int)} (h : m_rollback_Engine_Own_nil0 F = some r0) :
    SpD Tryd.prog 18 [.pointer none] [] (fun w => True) (fun v D => ∃ (r0a0 : Option Addr) (r0n0 : Nat) (r0c0 : Nat) (r0B0 : List Blk), r0n0 = r0.length ∧ Own 40 1 r0a0 r0n0 r0c0 (flat (e1 .u8) r0) r0B0 ∧ v = .slice r0a0 r0n0 r0c0 ∧ D = fun F => (r0B0 ++ F)) := by
  unfold m_rollback_Engine_Own_nil0 at h
  refine sp_of_wc Tryd.func18 rfl Tryd.ntmps18 rfl rfl (fun w0 hR => ?_)
  refine wc_seq (wc_region ?_)
  refine wl_pure tt_ok rfl rfl ?_
  refine wl_nil (wx_then (wc_seq (wc_seq (wc_region ?_))))
  refine wl_pure tt_ok rfl rfl ?_
  replace h := bsome h; obtain ⟨v4, x4, h⟩ := h
  refine wl_cq Tryd.call30 rfl rfl rfl (q_pf (k_rollback_Engine_is_nil0 x4) (fun _ _ => trivial)) rfl ?_
  refine wl_pure (v := .bool (!v4)) tt_ok rfl rfl ?_
  refine wl_nil (wx_then ?_)
  refine wc_cond rfl (fun hc => ?_) (fun hc => ?_)
  · replace h := ct hc h
    refine wc_seq (wc_region ?_)
    refine wl_pure tt_ok rfl rfl ?_
    refine wl_nil (wx_then (wc_ret (wx_then_ret ?_)))
    simp only [Option.some.injEq] at h
    obtain rfl := h
    exact wx_spD tt_ok (.inl rfl) Tryd.results18 (Res.tmp rfl Res.nil) ⟨none, 0, 0, [], rfl, Own.zero, rfl, rfl⟩ (fun F => by simp) (pSub (pNo pNil))
  replace h := cf hc h
  refine wc_skip (wx_then (wc_seq (wc_region ?_)))
  refine wl_pure tt_ok rfl rfl ?_
  cases h

theorem k_rollback_Engine_T_nil0 {F : Nat} {r0 : Int} (h : m_rollback_Engine_T_nil0 F = some r0) :
    Pf Tryd.prog 17 [.pointer none] (fun w => True) (.int .u64 r0) := by
  unfold m_rollback_Engine_T_nil0 at h
  refine pf_of_wc Tryd.func17 rfl Tryd.ntmps17 rfl rfl (fun w0 hR => ?_)
  refine wc_seq (wc_region ?_)
  refine wl_pure tt_ok rfl rfl ?_
  refine wl_nil (wx_then (wc_seq (wc_region ?_)))
  refine wl_pure tt_ok rfl rfl ?_
  replace h := bsome h; obtain ⟨v4, x4, h⟩ := h
  refine wl_cq Tryd.call16 rfl rfl rfl (q_pf (k_rollback_Engine_C_nil0 x4) (fun _ _ => trivial)) rfl ?_
  refine wl_pure tt_ok rfl rfl ?_
  replace h := bsome h; obtain ⟨v6, x6, h⟩ := h
  refine wl_cs Tryd.call18 rfl rfl rfl (s_sp (k_rollback_Engine_Own_nil0 x6) pNil (fun _ _ => trivial)) rfl ?_
  rintro _ _ ⟨_, ⟨v6a0, v6n0, v6c0, v6B0, v6N0, v6V0, rfl, rfl⟩, rfl⟩
  refine wl_val (v := .int .i64 (v6.length : Int)) (val_len tt_ok rfl rfl v6N0) rfl ?_
  refine wl_pure (v := .int .u64 (IntKind.wrap .u64 (v6.length : Int))) tt_ok rfl rfl ?_
  refine wl_pure (v := .int .u64 (IntKind.wrap .u64 (v4 + (IntKind.wrap .u64 (v6.length : Int))))) tt_ok rfl rfl ?_
  refine wl_pure tt_ok rfl rfl ?_
  refine wl_nil (wx_then (wc_ret ?_))
  simp only [Option.some.injEq] at h
  obtain rfl := h
  exact wx_pf tt_ok (.inl rfl) Tryd.results17 (Res.tmp rfl Res.nil) rfl

theorem k_rollback_Engine_Known {F : Nat} {p0 : T_rollback_Engine} {p0b p0t : Nat} {p0a0 : Option Addr} {p0n0 : Nat} {p0c0 : Nat} {p0B0 : List Blk} {p0a1 : Option Addr} {p0n1 : Nat} {p0c1 : Nat} {p0B1 : List Blk} {p0_4 : T_queue_Queue} {p0_4b p0_4t : Nat} {p0_4a0 : Option Addr} {p0_4n0 : Nat} {p0_4c0 : Nat} {p0_4B0 : List Blk} {p0_5 : T_ring_Ring} {p0_5b p0_5t : Nat} {p0_5g0 : List (T_ring_place × G)} {p0_5P0 : List Blk} {r0 : Int} (p0N0 : p0n0 = p0.sure.Shots.length) (p0V0 : Own 80 6 p0a0 p0n0 p0c0 (flat c_T_api_Shot p0.sure.Shots) p0B0) (p0N1 : p0n1 = p0.own.length) (p0V1 : Own 40 1 p0a1 p0n1 p0c1 (flat (e1 .u8) p0.own) p0B1) (p0_4N0 : p0_4n0 = p0_4.l.length) (p0_4V0 : Own 40 1 p0_4a0 p0_4n0 p0_4c0 (flat (e1 .u8) p0_4.l) p0_4B0) (p0_5G0 : p0_5.places.1 = unG p0_5g0) (p0_5A0 : AllP sh_T_ring_place c_T_api_Shot p0_5P0 p0_5g0) (h : m_rollback_Engine_Known F p0 p0_4 p0_5 = some r0) :
    Rd2 Tryd.prog 19 [.pointer (some ⟨p0b, 0, none⟩)] (⟨p0b, [.int .u8 p0.player, .int .i64 p0.window, .int .u64 p0.sure.Frame, .int .u64 p0.sure.Seed, .int .i32 p0.sure.Players.1.X, .int .i32 p0.sure.Players.1.Y, .int .i32 p0.sure.Players.1.VX, .int .i32 p0.sure.Players.1.VY, .int .u8 p0.sure.Players.1.Health, .int .u8 p0.sure.Players.1.Cool, .int .u8 p0.sure.Players.1.Face, .int .i32 p0.sure.Players.2.X, .int .i32 p0.sure.Players.2.Y, .int .i32 p0.sure.Players.2.VX, .int .i32 p0.sure.Players.2.VY, .int .u8 p0.sure.Players.2.Health, .int .u8 p0.sure.Players.2.Cool, .int .u8 p0.sure.Players.2.Face, .slice p0a0 p0n0 p0c0, .int .u16 p0.sure.Score.1, .int .u16 p0.sure.Score.2, .slice p0a1 p0n1 p0c1, .pointer (some ⟨p0_4b, 0, none⟩), .pointer (some ⟨p0_5b, 0, none⟩)], p0t, (0, 0)⟩ :: (p0B0 ++ (p0B1 ++ (⟨p0_4b, [.int .u64 p0_4.first_, .slice p0_4a0 p0_4n0 p0_4c0, .int .u8 p0_4.last], p0_4t, (0, 0)⟩ :: (p0_4B0 ++ (⟨p0_5b, ([.int .i64 p0_5.size] ++ flat cg_T_ring_place p0_5g0), p0_5t, (0, 0)⟩ :: (p0_5P0 ++ []))))))) (fun w => True) (.int .u64 r0) := by
  unfold m_rollback_Engine_Known at h
  refine sp_of_wc Tryd.func19 rfl Tryd.ntmps19 rfl rfl (fun w0 hR => ?_)
  refine wc_seq (wc_region ?_)
  refine wl_pure tt_ok rfl rfl ?_
  refine wl_nil (wx_then (wc_seq (wc_seq (wc_region ?_))))
  refine wl_pure tt_ok rfl rfl ?_
  replace h := bsome h; obtain ⟨v4, x4, h⟩ := h
  refine wl_cq Tryd.call30 rfl rfl rfl (q_rd (k_rollback_Engine_is (p0 := p0) (p0_4 := p0_4) (p0_5 := p0_5) p0N0 p0V0 p0N1 p0V1 p0_4N0 p0_4V0 p0_5G0 p0_5A0 x4) (pCons Sel.hc (pApp Sel.ha (pApp Sel.ha (pCons Sel.hc (pApp Sel.ha (pCons Sel.hc (pApp Sel.ha pNil))))))) (fun _ _ => trivial)) rfl ?_
  refine wl_pure (v := .bool (!v4)) tt_ok rfl rfl ?_
  refine wl_nil (wx_then ?_)
  refine wc_cond rfl (fun hc => ?_) (fun hc => ?_)
  · replace h := ct hc h
    refine wc_seq (wc_region ?_)
    refine wl_pure tt_ok rfl rfl ?_
    refine wl_nil (wx_then (wc_ret (wx_then_ret ?_)))
    simp only [Option.some.injEq] at h
    obtain rfl := h
    exact wx_rd tt_ok (.inl rfl) Tryd.results19 (Res.tmp rfl Res.nil) (pSub (pCons Sel.hc (pApp Sel.ha (pApp Sel.ha (pCons Sel.hc (pApp Sel.ha (pCons Sel.hc (pApp Sel.ha pNil)))))))) rfl
  replace h := cf hc h
  refine wc_skip (wx_then (wc_seq (wc_region ?_)))
  iterate 2 refine wl_pure tt_ok rfl rfl ?_
  refine wl_pure (v := .pointer (some ⟨p0b, 22, none⟩)) tt_ok rfl rfl ?_
  refine wl_val (v := .pointer (some ⟨p0_4b, 0, none⟩)) (val_load tt_ok rfl (List.Mem.head _) rfl) rfl ?_
  replace h := bsome h; obtain ⟨v10, x10, h⟩ := h
  refine wl_cq Tryd.call34 rfl rfl rfl (q_rd (k_queue_Queue_Known (p0 := p0_4) p0_4N0 p0_4V0 x10) (pCons (Sel.sc (Sel.sa (Sel.sa Sel.hc))) (pApp (Sel.sc (Sel.sa (Sel.sa Sel.ha))) pNil)) (fun _ _ => trivial)) rfl ?_
  refine wl_pure tt_ok rfl rfl ?_
  refine wl_nil (wx_then (wc_ret ?_))
  simp only [Option.some.injEq] at h
  obtain rfl := h
  exact wx_rd tt_ok (.inl rfl) Tryd.results19 (Res.tmp rfl Res.nil) (pSub (pCons Sel.hc (pApp Sel.ha (pApp Sel.ha (pCons Sel.hc (pApp Sel.ha (pCons Sel.hc (pApp Sel.ha pNil)))))))) rfl

theorem k_rollback_Engine_State {F : Nat} {p0 : T_rollback_Engine} {p0b p0t : Nat} {p0a0 : Option Addr} {p0n0 : Nat} {p0c0 : Nat} {p0B0 : List Blk} {p0a1 : Option Addr} {p0n1 : Nat} {p0c1 : Nat} {p0B1 : List Blk} {p0_4 : T_queue_Queue} {p0_4b p0_4t : Nat} {p0_4a0 : Option Addr} {p0_4n0 : Nat} {p0_4c0 : Nat} {p0_4B0 : List Blk} {p0_5 : T_ring_Ring} {p0_5b p0_5t : Nat} {p0_5g0 : List (T_ring_place × G)} {p0_5P0 : List Blk} {r0 : T_api_State} (p0N0 : p0n0 = p0.sure.Shots.length) (p0V0 : Own 80 6 p0a0 p0n0 p0c0 (flat c_T_api_Shot p0.sure.Shots) p0B0) (p0N1 : p0n1 = p0.own.length) (p0V1 : Own 40 1 p0a1 p0n1 p0c1 (flat (e1 .u8) p0.own) p0B1) (p0_4N0 : p0_4n0 = p0_4.l.length) (p0_4V0 : Own 40 1 p0_4a0 p0_4n0 p0_4c0 (flat (e1 .u8) p0_4.l) p0_4B0) (p0_5G0 : p0_5.places.1 = unG p0_5g0) (p0_5A0 : AllP sh_T_ring_place c_T_api_Shot p0_5P0 p0_5g0) (h : m_rollback_Engine_State F p0 p0_4 p0_5 = some r0) :
    SpD Tryd.prog 15 [.pointer (some ⟨p0b, 0, none⟩)] (⟨p0b, [.int .u8 p0.player, .int .i64 p0.window, .int .u64 p0.sure.Frame, .int .u64 p0.sure.Seed, .int .i32 p0.sure.Players.1.X, .int .i32 p0.sure.Players.1.Y, .int .i32 p0.sure.Players.1.VX, .int .i32 p0.sure.Players.1.VY, .int .u8 p0.sure.Players.1.Health, .int .u8 p0.sure.Players.1.Cool, .int .u8 p0.sure.Players.1.Face, .int .i32 p0.sure.Players.2.X, .int .i32 p0.sure.Players.2.Y, .int .i32 p0.sure.Players.2.VX, .int .i32 p0.sure.Players.2.VY, .int .u8 p0.sure.Players.2.Health, .int .u8 p0.sure.Players.2.Cool, .int .u8 p0.sure.Players.2.Face, .slice p0a0 p0n0 p0c0, .int .u16 p0.sure.Score.1, .int .u16 p0.sure.Score.2, .slice p0a1 p0n1 p0c1, .pointer (some ⟨p0_4b, 0, none⟩), .pointer (some ⟨p0_5b, 0, none⟩)], p0t, (0, 0)⟩ :: (p0B0 ++ (p0B1 ++ (⟨p0_4b, [.int .u64 p0_4.first_, .slice p0_4a0 p0_4n0 p0_4c0, .int .u8 p0_4.last], p0_4t, (0, 0)⟩ :: (p0_4B0 ++ (⟨p0_5b, ([.int .i64 p0_5.size] ++ flat cg_T_ring_place p0_5g0), p0_5t, (0, 0)⟩ :: (p0_5P0 ++ []))))))) (fun w => True) (fun v D => ∃ (r0a0 : Option Addr) (r0n0 : Nat) (r0c0 : Nat) (r0B0 : List Blk), r0n0 = r0.Shots.length ∧ Own 80 6 r0a0 r0n0 r0c0 (flat c_T_api_Shot r0.Shots) r0B0 ∧ v = .agg #[.int .u64 r0.Frame, .int .u64 r0.Seed, .int .i32 r0.Players.1.X, .int .i32 r0.Players.1.Y, .int .i32 r0.Players.1.VX, .int .i32 r0.Players.1.VY, .int .u8 r0.Players.1.Health, .int .u8 r0.Players.1.Cool, .int .u8 r0.Players.1.Face, .int .i32 r0.Players.2.X, .int .i32 r0.Players.2.Y, .int .i32 r0.Players.2.VX, .int .i32 r0.Players.2.VY, .int .u8 r0.Players.2.Health, .int .u8 r0.Players.2.Cool, .int .u8 r0.Players.2.Face, .slice r0a0 r0n0 r0c0, .int .u16 r0.Score.1, .int .u16 r0.Score.2] ∧ D = fun F => (⟨p0b, [.int .u8 p0.player, .int .i64 p0.window, .int .u64 p0.sure.Frame, .int .u64 p0.sure.Seed, .int .i32 p0.sure.Players.1.X, .int .i32 p0.sure.Players.1.Y, .int .i32 p0.sure.Players.1.VX, .int .i32 p0.sure.Players.1.VY, .int .u8 p0.sure.Players.1.Health, .int .u8 p0.sure.Players.1.Cool, .int .u8 p0.sure.Players.1.Face, .int .i32 p0.sure.Players.2.X, .int .i32 p0.sure.Players.2.Y, .int .i32 p0.sure.Players.2.VX, .int .i32 p0.sure.Players.2.VY, .int .u8 p0.sure.Players.2.Health, .int .u8 p0.sure.Players.2.Cool, .int .u8 p0.sure.Players.2.Face, .slice p0a0 p0n0 p0c0, .int .u16 p0.sure.Score.1, .int .u16 p0.sure.Score.2, .slice p0a1 p0n1 p0c1, .pointer (some ⟨p0_4b, 0, none⟩), .pointer (some ⟨p0_5b, 0, none⟩)], p0t, (0, 0)⟩ :: (p0B0 ++ (p0B1 ++ (⟨p0_4b, [.int .u64 p0_4.first_, .slice p0_4a0 p0_4n0 p0_4c0, .int .u8 p0_4.last], p0_4t, (0, 0)⟩ :: (p0_4B0 ++ (⟨p0_5b, ([.int .i64 p0_5.size] ++ flat cg_T_ring_place p0_5g0), p0_5t, (0, 0)⟩ :: (p0_5P0 ++ (r0B0 ++ F))))))))) := by
  unfold m_rollback_Engine_State at h
  refine sp_of_wc Tryd.func15 rfl Tryd.ntmps15 rfl rfl (fun w0 hR => ?_)
  refine wc_seq (wc_region ?_)
  refine wl_alloc tt_ok rfl rfl (fun b2 => ?_)
  refine wl_nil (wx_then (wc_seq (wc_seq (wc_region ?_))))
  refine wl_pure tt_ok rfl rfl ?_
  replace h := bsome h; obtain ⟨v4, x4, h⟩ := h
  refine wl_cq Tryd.call30 rfl rfl rfl (q_rd (k_rollback_Engine_is (p0 := p0) (p0_4 := p0_4) (p0_5 := p0_5) p0N0 p0V0 p0N1 p0V1 p0_4N0 p0_4V0 p0_5G0 p0_5A0 x4) (pCons (Sel.sc Sel.hc) (pApp (Sel.sc Sel.ha) (pApp (Sel.sc Sel.ha) (pCons (Sel.sc Sel.hc) (pApp (Sel.sc Sel.ha) (pCons (Sel.sc Sel.hc) (pApp (Sel.sc Sel.ha) pNil))))))) (fun _ _ => trivial)) rfl ?_
  refine wl_pure (v := .bool (!v4)) tt_ok rfl rfl ?_
  refine wl_nil (wx_then ?_)
  refine wc_cond rfl (fun hc => ?_) (fun hc => ?_)
  · replace h := ct hc h
    refine wc_seq (wc_region ?_)
    refine wl_pure (v := .agg #[.int .u64 (0 : Int), .int .u64 (0 : Int), .int .i32 (0 : Int), .int .i32 (0 : Int), .int .i32 (0 : Int), .int .i32 (0 : Int), .int .u8 (0 : Int), .int .u8 (0 : Int), .int .u8 (0 : Int), .int .i32 (0 : Int), .int .i32 (0 : Int), .int .i32 (0 : Int), .int .i32 (0 : Int), .int .u8 (0 : Int), .int .u8 (0 : Int), .int .u8 (0 : Int), .slice none 0 0, .int .u16 (0 : Int), .int .u16 (0 : Int)]) tt_ok rfl rfl ?_
    apply wl_store tt_ok; rfl; exact Upd.here; rfl; rfl; rfl; rfl; rfl; rfl
    refine wl_nil (wx_then (wc_ret (wx_then_ret ?_)))
    simp only [Option.some.injEq] at h
    obtain rfl := h
    exact wx_spD tt_ok (.inl rfl) Tryd.results15 (Res.cell rfl (List.Mem.head _) rfl Res.nil) ⟨none, 0, 0, [], rfl, Own.zero, rfl, rfl⟩ (fun F => by simp) (pSub (pCons (Sel.sc Sel.hc) (pApp (Sel.sc Sel.ha) (pApp (Sel.sc Sel.ha) (pCons (Sel.sc Sel.hc) (pApp (Sel.sc Sel.ha) (pCons (Sel.sc Sel.hc) (pApp (Sel.sc Sel.ha) (pNo pNil)))))))))
  replace h := cf hc h
  refine wc_skip (wx_then (wc_seq (wc_region ?_)))
  iterate 2 refine wl_pure tt_ok rfl rfl ?_
  refine wl_pure (v := .pointer (some ⟨p0b, 2, none⟩)) tt_ok rfl rfl ?_
  refine wl_val (v := .agg #[.int .u64 p0.sure.Frame, .int .u64 p0.sure.Seed, .int .i32 p0.sure.Players.1.X, .int .i32 p0.sure.Players.1.Y, .int .i32 p0.sure.Players.1.VX, .int .i32 p0.sure.Players.1.VY, .int .u8 p0.sure.Players.1.Health, .int .u8 p0.sure.Players.1.Cool, .int .u8 p0.sure.Players.1.Face, .int .i32 p0.sure.Players.2.X, .int .i32 p0.sure.Players.2.Y, .int .i32 p0.sure.Players.2.VX, .int .i32 p0.sure.Players.2.VY, .int .u8 p0.sure.Players.2.Health, .int .u8 p0.sure.Players.2.Cool, .int .u8 p0.sure.Players.2.Face, .slice p0a0 p0n0 p0c0, .int .u16 p0.sure.Score.1, .int .u16 p0.sure.Score.2]) (val_load tt_ok rfl (List.Mem.tail _ (List.Mem.head _)) rfl) rfl ?_
  replace h := bsome h; obtain ⟨v11, x11, h⟩ := h
  refine wl_cs Tryd.call26 rfl rfl rfl (s_sp (k_state_Copy (p0 := p0.sure) p0N0 (vec_cap p0V0) x11) pNil (Rds.call (Rds.of_vec p0V0) pNil ⟨_, (Sel.sc (Sel.sc Sel.ha))⟩)) rfl ?_
  rintro _ _ ⟨_, ⟨v11a0, v11n0, v11c0, v11B0, v11N0, v11V0, rfl, rfl⟩, rfl⟩
  apply wl_store tt_ok; rfl; exact (Upd.right Upd.here); rfl; rfl; rfl; rfl; rfl; rfl
  refine wl_nil (wx_then (wc_ret ?_))
  simp only [Option.some.injEq] at h
  obtain rfl := h
  exact wx_spD tt_ok (.inl rfl) Tryd.results15 (Res.cell rfl (mR (List.Mem.head _)) rfl Res.nil) ⟨v11a0, v11n0, v11c0, v11B0, v11N0, v11V0, rfl, rfl⟩ (fun F => by simp) (pSub (pCons (Sel.sa (Sel.sc Sel.hc)) (pApp (Sel.sa (Sel.sc Sel.ha)) (pApp (Sel.sa (Sel.sc Sel.ha)) (pCons (Sel.sa (Sel.sc Sel.hc)) (pApp (Sel.sa (Sel.sc Sel.ha)) (pCons (Sel.sa (Sel.sc Sel.hc)) (pApp (Sel.sa (Sel.sc Sel.ha)) (pApp Sel.ha pNil)))))))))

theorem k_rollback_Engine_pair_nil0 {F : Nat} {p1 : Int} {r0 : (Int × Int)} (h : m_rollback_Engine_pair_nil0 F p1 = some r0) :
    Pf Tryd.prog 42 [.pointer none, .int .u64 p1] (fun w => True) (.agg #[.int .u8 r0.1, .int .u8 r0.2]) := by
  unfold m_rollback_Engine_pair_nil0 at h
  refine pf_of_wc Tryd.func42 rfl Tryd.ntmps42 rfl rfl (fun w0 hR => ?_)
  refine wc_seq (wc_region ?_)
  refine wl_alloc tt_ok rfl rfl (fun b4 => ?_)
  refine wl_nil (wx_then (wc_seq ?_))
  refine wc_k2 (Ls := (⟨b4, [.int .u8 (0 : Int), .int .u8 (0 : Int)], 45, (0, 0)⟩ :: [])) [18] [18] [0, 1, 3, 7, 0, 16, 48, 112, 0, 0, 512, 1536, 3584, 7680, 16128, 32752, 65520, 131071, 262143] [0, 1, 2, 3, 4, 5, 6, 7, 8, 9, 10, 11, 12, 13, 14, 15, 16, 17, 18] (by kernel_rfl) (by kernel_rfl) (by kernel_rfl) ?_
  refine k_val rfl rfl rfl (pSub (pCons Sel.hc pNil)) (stepV_ok tt_ok rfl) rfl ?_
  cases h

theorem k_rollback_Engine_Next_nil0 {F : Nat} {r0 : (Int × Int)} {r1 : Bool} (h : m_rollback_Engine_Next_nil0 F = some (r0, r1)) :
    Pf Tryd.prog 20 [.pointer none] (fun w => True) (.tuple #[.agg #[.int .u8 r0.1, .int .u8 r0.2], .bool r1]) := by
  unfold m_rollback_Engine_Next_nil0 at h
  refine pf_of_wc Tryd.func20 rfl Tryd.ntmps20 rfl rfl (fun w0 hR => ?_)
  refine wc_seq (wc_region ?_)
  refine wl_alloc tt_ok rfl rfl (fun b2 => ?_)
  refine wl_pure tt_ok rfl rfl ?_
  refine wl_nil (wx_then (wc_seq (wc_seq ?_)))
  refine wc_quiet (by kernel_rfl) (by kernel_rfl) ?_
  refine wq_pure tt_ok rfl rfl ?_
  replace h := bsome h; obtain ⟨v5, x5, h⟩ := h
  refine wq_cq Tryd.call30 rfl rfl rfl (q_pf (k_rollback_Engine_is_nil0 x5) (fun _ _ => trivial)) rfl ?_
  refine wq_pure (v := .bool (!v5)) tt_ok rfl rfl ?_
  refine wq_pure tt_ok rfl rfl ?_
  replace h := bsome h; obtain ⟨v14, h, hg14⟩ := h
  refine wq_split (t := 7) rfl (fun hc => ?_) (fun hc => ?_)
  · replace h := ct hc h
    refine wq_skip rfl rfl ?_
    refine wq_skip rfl rfl ?_
    refine wq_skip rfl rfl ?_
    refine wq_skip rfl rfl ?_
    refine wq_skip rfl rfl ?_
    refine wq_skip rfl rfl ?_
    simp only [Option.some.injEq, Prod.mk.injEq] at h
    obtain rfl := h
    have h := hg14; clear hg14
    refine wq_pure (v := .bool true) tt_ok rfl rfl ?_
    refine wq_pure tt_ok rfl rfl ?_
    replace h := bsome h; obtain ⟨v27, h, hg27⟩ := h
    replace h := ct rfl h
    refine wq_skip rfl rfl ?_
    refine wq_skip rfl rfl ?_
    refine wq_skip rfl rfl ?_
    refine wq_skip rfl rfl ?_
    refine wq_skip rfl rfl ?_
    refine wq_skip rfl rfl ?_
    refine wq_skip rfl rfl ?_
    refine wq_skip rfl rfl ?_
    refine wq_skip rfl rfl ?_
    refine wq_skip rfl rfl ?_
    refine wq_skip rfl rfl ?_
    simp only [Option.some.injEq, Prod.mk.injEq] at h
    obtain rfl := h
    have h := hg27; clear hg27
    refine wq_pure (v := .bool true) tt_ok rfl rfl ?_
    refine wq_nil ?_
    refine wx_then ?_
    replace h := ct rfl h
    refine wc_cond_true rfl ?_
    refine wc_seq (wc_region ?_)
    refine wl_pure (v := .agg #[.int .u8 (0 : Int), .int .u8 (0 : Int)]) tt_ok rfl rfl ?_
    apply wl_store tt_ok; rfl; exact Upd.here; rfl; rfl; rfl; rfl; rfl; rfl
    refine wl_pure tt_ok rfl rfl ?_
    refine wl_nil (wx_then (wc_ret (wx_then_ret ?_)))
    simp only [Option.some.injEq, Prod.mk.injEq] at h
    obtain ⟨rfl, rfl⟩ := h
    exact wx_pf tt_ok (.inl rfl) Tryd.results20 (Res.cell rfl (List.Mem.head _) rfl (Res.tmp rfl Res.nil)) rfl
  replace h := cf hc h
  refine wq_run rfl ?_
  refine wq_pure tt_ok rfl rfl ?_
  cases h

theorem k_rollback_Engine_Confirm_nil0 {F : Nat} {p1 : Int} {r0 : (Int × Int)} {r1 : Bool} (h : m_rollback_Engine_Confirm_nil0 F p1 = some (r0, r1)) :
    Pf Tryd.prog 13 [.pointer none, .int .u64 p1] (fun w => True) (.tuple #[.agg #[.int .u8 r0.1, .int .u8 r0.2], .bool r1]) := by
  unfold m_rollback_Engine_Confirm_nil0 at h
  refine pf_of_wc Tryd.func13 rfl Tryd.ntmps13 rfl rfl (fun w0 hR => ?_)
  refine wc_seq (wc_region ?_)
  refine wl_alloc tt_ok rfl rfl (fun b4 => ?_)
  refine wl_pure tt_ok rfl rfl ?_
  refine wl_nil (wx_then (wc_seq (wc_region ?_)))
  refine wl_pure tt_ok rfl rfl ?_
  replace h := bsome h; obtain ⟨⟨v10_0, v10_1⟩, x10, h⟩ := h; try dsimp only at h
  refine wl_cq Tryd.call20 rfl rfl rfl (q_pf (k_rollback_Engine_Next_nil0 x10) (fun _ _ => trivial)) rfl ?_
  iterate 3 refine wl_pure tt_ok rfl rfl ?_
  refine wl_alloc tt_ok rfl rfl (fun b6 => ?_)
  apply wl_store tt_ok; rfl; exact Upd.here; rfl; rfl; rfl; rfl; rfl; rfl
  refine wl_pure tt_ok rfl rfl ?_
  refine wl_nil (wx_then (wc_seq (wc_seq (wc_region ?_))))
  refine wl_pure tt_ok rfl rfl ?_
  refine wl_pure (v := .bool (!v10_1)) tt_ok rfl rfl ?_
  refine wl_pure tt_ok rfl rfl ?_
  replace h := bsome h; obtain ⟨v23, h, hg23⟩ := h
  refine wl_split (t := 15) rfl (fun hc => ?_) (fun hc => ?_)
  · replace h := ct hc h
    refine wl_skip rfl rfl ?_
    refine wl_skip rfl rfl ?_
    refine wl_skip rfl rfl ?_
    refine wl_skip rfl rfl ?_
    refine wl_skip rfl rfl ?_
    refine wl_skip rfl rfl ?_
    refine wl_skip rfl rfl ?_
    simp only [Option.some.injEq, Prod.mk.injEq] at h
    obtain rfl := h
    have h := hg23; clear hg23
    refine wl_pure (v := .bool true) tt_ok rfl rfl ?_
    refine wl_nil (wx_then ?_)
    replace h := ct rfl h
    refine wc_cond_true rfl ?_
    refine wc_seq (wc_region ?_)
    refine wl_pure (v := .agg #[.int .u8 (0 : Int), .int .u8 (0 : Int)]) tt_ok rfl rfl ?_
    apply wl_store tt_ok; rfl; exact (Upd.there Upd.here); rfl; rfl; rfl; rfl; rfl; rfl
    refine wl_pure tt_ok rfl rfl ?_
    refine wl_nil (wx_then (wc_ret (wx_then_ret ?_)))
    simp only [Option.some.injEq, Prod.mk.injEq] at h
    obtain ⟨rfl, rfl⟩ := h
    exact wx_pf tt_ok (.inl rfl) Tryd.results13 (Res.cell rfl (List.Mem.tail _ (List.Mem.head _)) rfl (Res.tmp rfl Res.nil)) rfl
  replace h := cf hc h
  refine wl_run rfl ?_
  refine wl_pure tt_ok rfl rfl ?_
  cases h

theorem k_rollback_Engine_is_z0 {F : Nat} {p0 : T_rollback_Engine} {p0b p0t : Nat} {p0a0 : Option Addr} {p0n0 : Nat} {p0c0 : Nat} {p0B0 : List Blk} {p0a1 : Option Addr} {p0n1 : Nat} {p0c1 : Nat} {p0B1 : List Blk} {r0 : Bool} (p0N0 : p0n0 = p0.sure.Shots.length) (p0V0 : Own 80 6 p0a0 p0n0 p0c0 (flat c_T_api_Shot p0.sure.Shots) p0B0) (p0N1 : p0n1 = p0.own.length) (p0V1 : Own 40 1 p0a1 p0n1 p0c1 (flat (e1 .u8) p0.own) p0B1) (h : m_rollback_Engine_is_z0 F p0 = some r0) :
    Rd2 Tryd.prog 30 [.pointer (some ⟨p0b, 0, none⟩)] (⟨p0b, [.int .u8 p0.player, .int .i64 p0.window, .int .u64 p0.sure.Frame, .int .u64 p0.sure.Seed, .int .i32 p0.sure.Players.1.X, .int .i32 p0.sure.Players.1.Y, .int .i32 p0.sure.Players.1.VX, .int .i32 p0.sure.Players.1.VY, .int .u8 p0.sure.Players.1.Health, .int .u8 p0.sure.Players.1.Cool, .int .u8 p0.sure.Players.1.Face, .int .i32 p0.sure.Players.2.X, .int .i32 p0.sure.Players.2.Y, .int .i32 p0.sure.Players.2.VX, .int .i32 p0.sure.Players.2.VY, .int .u8 p0.sure.Players.2.Health, .int .u8 p0.sure.Players.2.Cool, .int .u8 p0.sure.Players.2.Face, .slice p0a0 p0n0 p0c0, .int .u16 p0.sure.Score.1, .int .u16 p0.sure.Score.2, .slice p0a1 p0n1 p0c1, .pointer none, .pointer none], p0t, (0, 0)⟩ :: (p0B0 ++ (p0B1 ++ []))) (fun w => True) (.bool r0) := by
  unfold m_rollback_Engine_is_z0 at h
  refine sp_of_wc Tryd.func30 rfl Tryd.ntmps30 rfl rfl (fun w0 hR => ?_)
  refine wc_seq (wc_region ?_)
  refine wl_pure tt_ok rfl rfl ?_
  refine wl_nil (wx_then (wc_seq (wc_region ?_)))
  refine wl_pure tt_ok rfl rfl ?_
  refine wl_pure (v := .bool true) tt_ok rfl rfl ?_
  refine wl_pure tt_ok rfl rfl ?_
  refine wl_run rfl ?_
  refine wl_pure tt_ok rfl rfl ?_
  refine wl_run rfl ?_
  refine wl_pure tt_ok rfl rfl ?_
  refine wl_run rfl ?_
  refine wl_pure (v := .pointer (some ⟨p0b, 22, none⟩)) tt_ok rfl rfl ?_
  refine wl_run rfl ?_
  refine wl_val (v := .pointer none) (val_load tt_ok rfl (List.Mem.head _) rfl) rfl ?_
  refine wl_run rfl ?_
  refine wl_pure (v := .bool false) tt_ok rfl rfl ?_
  refine wl_pure (v := .bool false) tt_ok rfl rfl ?_
  refine wl_pure tt_ok rfl rfl ?_
  refine wl_nil (wx_then (wc_ret ?_))
  simp only [Option.some.injEq] at h
  obtain rfl := h
  exact wx_rd tt_ok (.inl rfl) Tryd.results30 (Res.tmp rfl Res.nil) (pSub (pCons Sel.hc (pApp Sel.ha (pApp Sel.ha pNil)))) rfl

theorem k_queue_Queue_Known_nil0 {F : Nat} {r0 : Int} (h : m_queue_Queue_Known_nil0 F = some r0) :
    Pf Tryd.prog 34 [.pointer none] (fun w => True) (.int .u64 r0) := by
  unfold m_queue_Queue_Known_nil0 at h
  refine pf_of_wc Tryd.func34 rfl Tryd.ntmps34 rfl rfl (fun w0 hR => ?_)
  refine wc_seq (wc_region ?_)
  refine wl_pure tt_ok rfl rfl ?_
  refine wl_nil (wx_then (wc_seq (wc_seq (wc_region ?_))))
  refine wl_pure tt_ok rfl rfl ?_
  refine wl_pure (v := .bool true) tt_ok rfl rfl ?_
  refine wl_nil (wx_then ?_)
  refine wc_cond_true rfl ?_
  refine wc_seq (wc_region ?_)
  refine wl_pure tt_ok rfl rfl ?_
  refine wl_nil (wx_then (wc_ret (wx_then_ret ?_)))
  simp only [Option.some.injEq] at h
  obtain rfl := h
  exact wx_pf tt_ok (.inl rfl) Tryd.results34 (Res.tmp rfl Res.nil) rfl

theorem k_queue_Queue_from_nil0 {F : Nat} {p1 : Int} {r0 : (List Int)} (h : m_queue_Queue_from_nil0 F p1 = some r0) :
    SpD Tryd.prog 64 [.pointer none, .int .u64 p1] [] (fun w => True) (fun v D => ∃ (r0a0 : Option Addr) (r0n0 : Nat) (r0c0 : Nat) (r0B0 : List Blk), r0n0 = r0.length ∧ Own 40 1 r0a0 r0n0 r0c0 (flat (e1 .u8) r0) r0B0 ∧ v = .slice r0a0 r0n0 r0c0 ∧ D = fun F => (r0B0 ++ F)) := by
  unfold m_queue_Queue_from_nil0 at h
  refine sp_of_wc Tryd.func64 rfl Tryd.ntmps64 rfl rfl (fun w0 hR => ?_)
  refine wc_seq (wc_region ?_)
  refine wl_pure tt_ok rfl rfl ?_
  refine wl_nil (wx_then (wc_seq (wc_seq (wc_region ?_))))
  refine wl_pure tt_ok rfl rfl ?_
  refine wl_pure (v := .bool true) tt_ok rfl rfl ?_
  refine wl_pure tt_ok rfl rfl ?_
  refine wl_skip rfl rfl ?_
  refine wl_skip rfl rfl ?_
  refine wl_skip rfl rfl ?_
  refine wl_skip rfl rfl ?_
  refine wl_skip rfl rfl ?_
  refine wl_skip rfl rfl ?_
  refine wl_pure (v := .bool true) tt_ok rfl rfl ?_
  refine wl_pure tt_ok rfl rfl ?_
  refine wl_skip rfl rfl ?_
  refine wl_skip rfl rfl ?_
  refine wl_skip rfl rfl ?_
  refine wl_skip rfl rfl ?_
  refine wl_pure (v := .bool true) tt_ok rfl rfl ?_
  refine wl_nil (wx_then ?_)
  refine wc_cond_true rfl ?_
  refine wc_seq (wc_region ?_)
  refine wl_pure tt_ok rfl rfl ?_
  refine wl_nil (wx_then (wc_ret (wx_then_ret ?_)))
  simp only [Option.some.injEq] at h
  obtain rfl := h
  exact wx_spD tt_ok (.inl rfl) Tryd.results64 (Res.tmp rfl Res.nil) ⟨none, 0, 0, [], rfl, Own.zero, rfl, rfl⟩ (fun F => by simp) (pSub (pNo pNil))

theorem k_queue_Queue_At_nil0 {F : Nat} {p1 : Int} {r0 : Int} {r1 : Bool} (h : m_queue_Queue_At_nil0 F p1 = some (r0, r1)) :
    Pf Tryd.prog 53 [.pointer none, .int .u64 p1] (fun w => True) (.tuple #[.int .u8 r0, .bool r1]) := by
  unfold m_queue_Queue_At_nil0 at h
  refine pf_of_wc Tryd.func53 rfl Tryd.ntmps53 rfl rfl (fun w0 hR => ?_)
  refine wc_seq (wc_region ?_)
  iterate 2 refine wl_pure tt_ok rfl rfl ?_
  refine wl_nil (wx_then (wc_seq (wc_seq (wc_region ?_))))
  iterate 2 refine wl_pure tt_ok rfl rfl ?_
  replace h := bsome h; obtain ⟨v9, x9, h⟩ := h
  refine wl_cs Tryd.call64 rfl rfl rfl (s_sp (k_queue_Queue_from_nil0 x9) pNil (fun _ _ => trivial)) rfl ?_
  rintro _ _ ⟨_, ⟨v9a0, v9n0, v9c0, v9B0, v9N0, v9V0, rfl, rfl⟩, rfl⟩
  refine wl_pure tt_ok rfl rfl ?_
  refine wl_nil (wx_then (wc_seq (wc_region ?_)))
  refine wl_pure tt_ok rfl rfl ?_
  refine wl_val (v := .int .i64 (v9.length : Int)) (val_len tt_ok rfl rfl v9N0) rfl ?_
  refine wl_pure (v := .bool (decide ((0 : Int) < (v9.length : Int)))) tt_ok rfl rfl ?_
  refine wl_nil (wx_then ?_)
  refine wc_cond rfl (fun hc => ?_) (fun hc => ?_)
  · replace h := ct hc h
    refine wc_seq (wc_region ?_)
    refine wl_pure tt_ok rfl rfl ?_
    replace h := bsome h; obtain ⟨v14, x14, h⟩ := h
    refine wl_val (v := .pointer (some ((adOf v9a0).add ((0 : Int).toNat * 1 + 0)))) (val_ix (enc := (e1 .u8)) tt_ok rfl rfl rfl rfl v9N0 (Rds.of_vec v9V0) (e1_len _) rfl x14) rfl ?_
    refine wl_val (v := .int .u8 v14) (val_le (enc := (e1 .u8)) (xs := v9) tt_ok rfl (Rds.of_vec v9V0) ⟨_, Sel.ha⟩ (e1_len _) x14 rfl) rfl ?_
    iterate 2 refine wl_pure tt_ok rfl rfl ?_
    refine wl_nil (wx_then (wc_ret (wx_then_ret ?_)))
    simp only [Option.some.injEq, Prod.mk.injEq] at h
    obtain ⟨rfl, rfl⟩ := h
    exact wx_pf tt_ok (.inl rfl) Tryd.results53 (Res.tmp rfl (Res.tmp rfl Res.nil)) rfl
  replace h := cf hc h
  refine wc_skip (wx_then (wc_seq (wc_region ?_)))
  iterate 2 refine wl_pure tt_ok rfl rfl ?_
  refine wl_nil (wx_then (wc_ret ?_))
  simp only [Option.some.injEq, Prod.mk.injEq] at h
  obtain ⟨rfl, rfl⟩ := h
  exact wx_pf tt_ok (.inl rfl) Tryd.results53 (Res.tmp rfl (Res.tmp rfl Res.nil)) rfl

theorem k_queue_Queue_Guess_nil0 {F : Nat} {p1 : Int} {r0 : Int} (h : m_queue_Queue_Guess_nil0 F p1 = some r0) :
    Pf Tryd.prog 35 [.pointer none, .int .u64 p1] (fun w => True) (.int .u8 r0) := by
  unfold m_queue_Queue_Guess_nil0 at h
  refine pf_of_wc Tryd.func35 rfl Tryd.ntmps35 rfl rfl (fun w0 hR => ?_)
  refine wc_seq (wc_region ?_)
  refine wl_pure tt_ok rfl rfl ?_
  refine wl_nil (wx_then (wc_seq (wc_seq (wc_region ?_))))
  iterate 2 refine wl_pure tt_ok rfl rfl ?_
  replace h := bsome h; obtain ⟨⟨v10_0, v10_1⟩, x10, h⟩ := h; try dsimp only at h
  refine wl_cq Tryd.call53 rfl rfl rfl (q_pf (k_queue_Queue_At_nil0 x10) (fun _ _ => trivial)) rfl ?_
  iterate 5 refine wl_pure tt_ok rfl rfl ?_
  refine wl_nil (wx_then (wc_seq (wc_region ?_)))
  iterate 2 refine wl_pure tt_ok rfl rfl ?_
  replace h := bsome h; obtain ⟨v17, h, hg17⟩ := h
  refine wl_split (t := 14) rfl (fun hc => ?_) (fun hc => ?_)
  · replace h := ct hc h
    refine wl_skip rfl rfl ?_
    refine wl_skip rfl rfl ?_
    simp only [Option.some.injEq, Prod.mk.injEq] at h
    obtain rfl := h
    have h := hg17; clear hg17
    refine wl_pure (v := .bool true) tt_ok rfl rfl ?_
    refine wl_nil (wx_then ?_)
    replace h := ct rfl h
    refine wc_cond_true rfl ?_
    refine wc_seq (wc_region ?_)
    iterate 2 refine wl_pure tt_ok rfl rfl ?_
    refine wl_nil (wx_then (wc_ret (wx_then_ret ?_)))
    simp only [Option.some.injEq] at h
    obtain rfl := h
    exact wx_pf tt_ok (.inl rfl) Tryd.results35 (Res.tmp rfl Res.nil) rfl
  replace h := cf hc h
  refine wl_run rfl ?_
  refine wl_pure tt_ok rfl rfl ?_
  refine wl_run rfl ?_
  refine wl_pure (v := .bool true) tt_ok rfl rfl ?_
  simp only [Option.some.injEq, Prod.mk.injEq] at h
  obtain rfl := h
  have h := hg17; clear hg17
  refine wl_pure (v := .bool true) tt_ok rfl rfl ?_
  refine wl_nil (wx_then ?_)
  replace h := ct rfl h
  refine wc_cond_true rfl ?_
  refine wc_seq (wc_region ?_)
  iterate 2 refine wl_pure tt_ok rfl rfl ?_
  refine wl_nil (wx_then (wc_ret (wx_then_ret ?_)))
  simp only [Option.some.injEq] at h
  obtain rfl := h
  exact wx_pf tt_ok (.inl rfl) Tryd.results35 (Res.tmp rfl Res.nil) rfl

theorem k_rollback_Engine_pair_z0 {F : Nat} {p0 : T_rollback_Engine} {p0b p0t : Nat} {p0a0 : Option Addr} {p0n0 : Nat} {p0c0 : Nat} {p0B0 : List Blk} {p0a1 : Option Addr} {p0n1 : Nat} {p0c1 : Nat} {p0B1 : List Blk} {p1 : Int} {r0 : (Int × Int)} (p0N0 : p0n0 = p0.sure.Shots.length) (p0V0 : Own 80 6 p0a0 p0n0 p0c0 (flat c_T_api_Shot p0.sure.Shots) p0B0) (p0N1 : p0n1 = p0.own.length) (p0V1 : Own 40 1 p0a1 p0n1 p0c1 (flat (e1 .u8) p0.own) p0B1) (h : m_rollback_Engine_pair_z0 F p0 p1 = some r0) :
    Rd2 Tryd.prog 42 [.pointer (some ⟨p0b, 0, none⟩), .int .u64 p1] (⟨p0b, [.int .u8 p0.player, .int .i64 p0.window, .int .u64 p0.sure.Frame, .int .u64 p0.sure.Seed, .int .i32 p0.sure.Players.1.X, .int .i32 p0.sure.Players.1.Y, .int .i32 p0.sure.Players.1.VX, .int .i32 p0.sure.Players.1.VY, .int .u8 p0.sure.Players.1.Health, .int .u8 p0.sure.Players.1.Cool, .int .u8 p0.sure.Players.1.Face, .int .i32 p0.sure.Players.2.X, .int .i32 p0.sure.Players.2.Y, .int .i32 p0.sure.Players.2.VX, .int .i32 p0.sure.Players.2.VY, .int .u8 p0.sure.Players.2.Health, .int .u8 p0.sure.Players.2.Cool, .int .u8 p0.sure.Players.2.Face, .slice p0a0 p0n0 p0c0, .int .u16 p0.sure.Score.1, .int .u16 p0.sure.Score.2, .slice p0a1 p0n1 p0c1, .pointer none, .pointer none], p0t, (0, 0)⟩ :: (p0B0 ++ (p0B1 ++ []))) (fun w => True) (.agg #[.int .u8 r0.1, .int .u8 r0.2]) := by
  unfold m_rollback_Engine_pair_z0 at h
  refine sp_of_wc Tryd.func42 rfl Tryd.ntmps42 rfl rfl (fun w0 hR => ?_)
  refine wc_seq (wc_region ?_)
  refine wl_alloc tt_ok rfl rfl (fun b4 => ?_)
  refine wl_nil (wx_then (wc_seq ?_))
  refine wc_k2 (Ls := (⟨b4, [.int .u8 (0 : Int), .int .u8 (0 : Int)], 45, (0, 0)⟩ :: (⟨p0b, [.int .u8 p0.player, .int .i64 p0.window, .int .u64 p0.sure.Frame, .int .u64 p0.sure.Seed, .int .i32 p0.sure.Players.1.X, .int .i32 p0.sure.Players.1.Y, .int .i32 p0.sure.Players.1.VX, .int .i32 p0.sure.Players.1.VY, .int .u8 p0.sure.Players.1.Health, .int .u8 p0.sure.Players.1.Cool, .int .u8 p0.sure.Players.1.Face, .int .i32 p0.sure.Players.2.X, .int .i32 p0.sure.Players.2.Y, .int .i32 p0.sure.Players.2.VX, .int .i32 p0.sure.Players.2.VY, .int .u8 p0.sure.Players.2.Health, .int .u8 p0.sure.Players.2.Cool, .int .u8 p0.sure.Players.2.Face, .slice p0a0 p0n0 p0c0, .int .u16 p0.sure.Score.1, .int .u16 p0.sure.Score.2, .slice p0a1 p0n1 p0c1, .pointer none, .pointer none], p0t, (0, 0)⟩ :: (p0B0 ++ (p0B1 ++ []))))) [18] [18] [0, 1, 3, 7, 0, 16, 48, 112, 0, 0, 512, 1536, 3584, 7680, 16128, 32752, 65520, 131071, 262143] [0, 1, 2, 3, 4, 5, 6, 7, 8, 9, 10, 11, 12, 13, 14, 15, 16, 17, 18] (by kernel_rfl) (by kernel_rfl) (by kernel_rfl) ?_
  refine k_val rfl rfl rfl (pSub (pCons Sel.hc (pCons Sel.hc (pApp Sel.ha (pApp Sel.ha pNil))))) (stepV_ok tt_ok rfl) rfl ?_
  refine k_val rfl rfl rfl (pSub (pCons Sel.hc (pCons Sel.hc (pApp Sel.ha (pApp Sel.ha pNil))))) (stepV_ok tt_ok rfl) rfl ?_
  refine k_val (v := .pointer (some ⟨p0b, 0, none⟩)) rfl rfl rfl (pSub (pCons Sel.hc (pCons Sel.hc (pApp Sel.ha (pApp Sel.ha pNil))))) (stepV_ok tt_ok rfl) rfl ?_
  refine k_val (v := .int .u8 p0.player) rfl rfl rfl (pSub (pCons Sel.hc (pCons Sel.hc (pApp Sel.ha (pApp Sel.ha pNil))))) (val_load tt_ok rfl (List.Mem.tail _ (List.Mem.head _)) rfl) rfl ?_
  refine k_val rfl rfl rfl (pSub (pCons Sel.hc (pCons Sel.hc (pApp Sel.ha (pApp Sel.ha pNil))))) (stepV_ok tt_ok rfl) rfl ?_
  refine k_val rfl rfl rfl (pSub (pCons Sel.hc (pCons Sel.hc (pApp Sel.ha (pApp Sel.ha pNil))))) (stepV_ok tt_ok rfl) rfl ?_
  refine k_val (v := .pointer (some ⟨p0b, 21, none⟩)) rfl rfl rfl (pSub (pCons Sel.hc (pCons Sel.hc (pApp Sel.ha (pApp Sel.ha pNil))))) (stepV_ok tt_ok rfl) rfl ?_
  refine k_val (v := .slice p0a1 p0n1 p0c1) rfl rfl rfl (pSub (pCons Sel.hc (pCons Sel.hc (pApp Sel.ha (pApp Sel.ha pNil))))) (val_load tt_ok rfl (List.Mem.tail _ (List.Mem.head _)) rfl) rfl ?_
  refine k_val rfl rfl rfl (pSub (pCons Sel.hc (pCons Sel.hc (pApp Sel.ha (pApp Sel.ha pNil))))) (stepV_ok tt_ok rfl) rfl ?_
  refine k_val rfl rfl rfl (pSub (pCons Sel.hc (pCons Sel.hc (pApp Sel.ha (pApp Sel.ha pNil))))) (stepV_ok tt_ok rfl) rfl ?_
  refine k_val rfl rfl rfl (pSub (pCons Sel.hc (pCons Sel.hc (pApp Sel.ha (pApp Sel.ha pNil))))) (stepV_ok tt_ok rfl) rfl ?_
  refine k_val (v := .pointer (some ⟨p0b, 2, none⟩)) rfl rfl rfl (pSub (pCons Sel.hc (pCons Sel.hc (pApp Sel.ha (pApp Sel.ha pNil))))) (stepV_ok tt_ok rfl) rfl ?_
  refine k_val (v := .pointer (some ⟨p0b, 2, none⟩)) rfl rfl rfl (pSub (pCons Sel.hc (pCons Sel.hc (pApp Sel.ha (pApp Sel.ha pNil))))) (stepV_ok tt_ok rfl) rfl ?_
  refine k_val (v := .int .u64 p0.sure.Frame) rfl rfl rfl (pSub (pCons Sel.hc (pCons Sel.hc (pApp Sel.ha (pApp Sel.ha pNil))))) (val_load tt_ok rfl (List.Mem.tail _ (List.Mem.head _)) rfl) rfl ?_
  refine k_val (v := .int .u64 (IntKind.wrap .u64 (p1 - p0.sure.Frame))) rfl rfl rfl (pSub (pCons Sel.hc (pCons Sel.hc (pApp Sel.ha (pApp Sel.ha pNil))))) (stepV_ok tt_ok rfl) rfl ?_
  replace h := bsome h; obtain ⟨v20, x20, h⟩ := h
  refine k_val (v := .pointer (some ((adOf p0a1).add ((IntKind.wrap .u64 (p1 - p0.sure.Frame)).toNat * 1 + 0)))) rfl rfl rfl (pSub (pCons Sel.hc (pCons Sel.hc (pApp Sel.ha (pApp Sel.ha pNil))))) (val_ix (enc := (e1 .u8)) tt_ok rfl rfl rfl rfl p0N1 (Rds.of_vec p0V1) (e1_len _) rfl x20) rfl ?_
  refine k_val (v := .int .u8 v20) rfl rfl rfl (pSub (pCons Sel.hc (pCons Sel.hc (pApp Sel.ha (pApp Sel.ha pNil))))) (val_le (enc := (e1 .u8)) (xs := p0.own) tt_ok rfl (Rds.of_vec p0V1) ⟨_, (Sel.sc (Sel.sc (Sel.sa Sel.ha)))⟩ (e1_len _) x20 rfl) rfl ?_
  rcases Bool.eq_false_or_eq_true (p0.player == (0 : Int)) with hx220 | hx220
  · replace h := ct hx220 h
    refine k_val (v := .pointer (some ⟨b4, 0, none⟩)) rfl rfl rfl (pSub (pCons Sel.hc (pCons Sel.hc (pApp Sel.ha (pApp Sel.ha pNil))))) (val_ia (j := 0) tt_ok rfl rfl rfl rfl (by simpa using hx220) rfl rfl) rfl ?_
    refine k_chg0 rfl rfl rfl (chg_store tt_ok rfl Upd.here rfl rfl rfl rfl rfl rfl) (.inl rfl) ?_
    rintro _ _ rfl
    refine k_end (by kernel_rfl) ?_
    refine wx_then (wc_seq ?_)
    refine wc_k2 (Ls := (⟨b4, [.int .u8 v20, .int .u8 (0 : Int)], 45, (0, 0)⟩ :: (⟨p0b, [.int .u8 p0.player, .int .i64 p0.window, .int .u64 p0.sure.Frame, .int .u64 p0.sure.Seed, .int .i32 p0.sure.Players.1.X, .int .i32 p0.sure.Players.1.Y, .int .i32 p0.sure.Players.1.VX, .int .i32 p0.sure.Players.1.VY, .int .u8 p0.sure.Players.1.Health, .int .u8 p0.sure.Players.1.Cool, .int .u8 p0.sure.Players.1.Face, .int .i32 p0.sure.Players.2.X, .int .i32 p0.sure.Players.2.Y, .int .i32 p0.sure.Players.2.VX, .int .i32 p0.sure.Players.2.VY, .int .u8 p0.sure.Players.2.Health, .int .u8 p0.sure.Players.2.Cool, .int .u8 p0.sure.Players.2.Face, .slice p0a0 p0n0 p0c0, .int .u16 p0.sure.Score.1, .int .u16 p0.sure.Score.2, .slice p0a1 p0n1 p0c1, .pointer none, .pointer none], p0t, (0, 0)⟩ :: (p0B0 ++ (p0B1 ++ []))))) [10, 11, 12] [11, 12] [0, 1, 3, 7, 15, 0, 32, 96, 224, 0, 992, 2047, 4095] [0, 1, 2, 3, 4, 5, 6, 7, 8, 9, 10, 11, 12] (by kernel_rfl) (by kernel_rfl) (by kernel_rfl) ?_
    refine k_val rfl rfl rfl (pSub (pCons Sel.hc (pCons Sel.hc (pApp Sel.ha (pApp Sel.ha pNil))))) (stepV_ok tt_ok rfl) rfl ?_
    refine k_val rfl rfl rfl (pSub (pCons Sel.hc (pCons Sel.hc (pApp Sel.ha (pApp Sel.ha pNil))))) (stepV_ok tt_ok rfl) rfl ?_
    refine k_val (v := .pointer (some ⟨p0b, 0, none⟩)) rfl rfl rfl (pSub (pCons Sel.hc (pCons Sel.hc (pApp Sel.ha (pApp Sel.ha pNil))))) (stepV_ok tt_ok rfl) rfl ?_
    refine k_val (v := .int .u8 p0.player) rfl rfl rfl (pSub (pCons Sel.hc (pCons Sel.hc (pApp Sel.ha (pApp Sel.ha pNil))))) (val_load tt_ok rfl (List.Mem.tail _ (List.Mem.head _)) rfl) rfl ?_
    refine k_val (v := .int .u8 (IntKind.wrap .u8 ((1 : Int) - p0.player))) rfl rfl rfl (pSub (pCons Sel.hc (pCons Sel.hc (pApp Sel.ha (pApp Sel.ha pNil))))) (stepV_ok tt_ok rfl) rfl ?_
    refine k_val rfl rfl rfl (pSub (pCons Sel.hc (pCons Sel.hc (pApp Sel.ha (pApp Sel.ha pNil))))) (stepV_ok tt_ok rfl) rfl ?_
    refine k_val rfl rfl rfl (pSub (pCons Sel.hc (pCons Sel.hc (pApp Sel.ha (pApp Sel.ha pNil))))) (stepV_ok tt_ok rfl) rfl ?_
    refine k_val (v := .pointer (some ⟨p0b, 22, none⟩)) rfl rfl rfl (pSub (pCons Sel.hc (pCons Sel.hc (pApp Sel.ha (pApp Sel.ha pNil))))) (stepV_ok tt_ok rfl) rfl ?_
    refine k_val (v := .pointer none) rfl rfl rfl (pSub (pCons Sel.hc (pCons Sel.hc (pApp Sel.ha (pApp Sel.ha pNil))))) (val_load tt_ok rfl (List.Mem.tail _ (List.Mem.head _)) rfl) rfl ?_
    refine k_val rfl rfl rfl (pSub (pCons Sel.hc (pCons Sel.hc (pApp Sel.ha (pApp Sel.ha pNil))))) (stepV_ok tt_ok rfl) rfl ?_
    replace h := bsome h; obtain ⟨v33, x33, h⟩ := h
    refine k_cq rfl rfl rfl Tryd.call35 rfl rfl rfl (q_pf (k_queue_Queue_Guess_nil0 x33) (fun _ _ => trivial)) rfl (pSub (pCons Sel.hc (pCons Sel.hc (pApp Sel.ha (pApp Sel.ha pNil))))) ?_
    rcases Bool.eq_false_or_eq_true ((IntKind.wrap .u8 ((1 : Int) - p0.player)) == (0 : Int)) with hx340 | hx340
    · replace h := ct hx340 h
      refine k_chg rfl rfl rfl (Chg.of_val (v := .pointer (some ⟨b4, 0, none⟩)) (val_ia (j := 0) tt_ok rfl rfl rfl rfl (by simpa using hx340) rfl rfl)) rfl (.inl rfl) ?_
      rintro _ _ ⟨rfl, rfl⟩
      refine k_chg0 rfl rfl rfl (chg_store tt_ok rfl Upd.here rfl rfl rfl rfl rfl rfl) (.inl rfl) ?_
      rintro _ _ rfl
      refine k_end (by kernel_rfl) ?_
      refine wx_then (wc_seq (wc_region ?_))
      refine wl_val (v := .agg #[.int .u8 v33, .int .u8 (0 : Int)]) (val_load tt_ok rfl (List.Mem.head _) rfl) rfl ?_
      apply wl_store tt_ok; rfl; exact Upd.here; rfl; rfl; rfl; rfl; rfl; rfl
      refine wl_nil (wx_then (wc_ret ?_))
      simp only [Option.some.injEq] at h
      obtain rfl := h
      exact wx_rd tt_ok (.inl rfl) Tryd.results42 (Res.cell rfl (List.Mem.head _) rfl Res.nil) (pSub (pCons (Sel.sc Sel.hc) (pApp (Sel.sc Sel.ha) (pApp (Sel.sc Sel.ha) pNil)))) rfl
    replace h := cf hx340 h
    rcases Bool.eq_false_or_eq_true ((IntKind.wrap .u8 ((1 : Int) - p0.player)) == (1 : Int)) with hx341 | hx341
    · replace h := ct hx341 h
      refine k_chg rfl rfl rfl (Chg.of_val (v := .pointer (some ⟨b4, 1, none⟩)) (val_ia (j := 1) tt_ok rfl rfl rfl rfl (by simpa using hx341) rfl rfl)) rfl (.inl rfl) ?_
      rintro _ _ ⟨rfl, rfl⟩
      refine k_chg0 rfl rfl rfl (chg_store tt_ok rfl Upd.here rfl rfl rfl rfl rfl rfl) (.inl rfl) ?_
      rintro _ _ rfl
      refine k_end (by kernel_rfl) ?_
      refine wx_then (wc_seq (wc_region ?_))
      refine wl_val (v := .agg #[.int .u8 v20, .int .u8 v33]) (val_load tt_ok rfl (List.Mem.head _) rfl) rfl ?_
      apply wl_store tt_ok; rfl; exact Upd.here; rfl; rfl; rfl; rfl; rfl; rfl
      refine wl_nil (wx_then (wc_ret ?_))
      simp only [Option.some.injEq] at h
      obtain rfl := h
      exact wx_rd tt_ok (.inl rfl) Tryd.results42 (Res.cell rfl (List.Mem.head _) rfl Res.nil) (pSub (pCons (Sel.sc Sel.hc) (pApp (Sel.sc Sel.ha) (pApp (Sel.sc Sel.ha) pNil)))) rfl
    replace h := cf hx341 h
    cases h
  replace h := cf hx220 h
  rcases Bool.eq_false_or_eq_true (p0.player == (1 : Int)) with hx221 | hx221
  · replace h := ct hx221 h
    refine k_val (v := .pointer (some ⟨b4, 1, none⟩)) rfl rfl rfl (pSub (pCons Sel.hc (pCons Sel.hc (pApp Sel.ha (pApp Sel.ha pNil))))) (val_ia (j := 1) tt_ok rfl rfl rfl rfl (by simpa using hx221) rfl rfl) rfl ?_
    refine k_chg0 rfl rfl rfl (chg_store tt_ok rfl Upd.here rfl rfl rfl rfl rfl rfl) (.inl rfl) ?_
    rintro _ _ rfl
    refine k_end (by kernel_rfl) ?_
    refine wx_then (wc_seq ?_)
    refine wc_k2 (Ls := (⟨b4, [.int .u8 (0 : Int), .int .u8 v20], 45, (0, 0)⟩ :: (⟨p0b, [.int .u8 p0.player, .int .i64 p0.window, .int .u64 p0.sure.Frame, .int .u64 p0.sure.Seed, .int .i32 p0.sure.Players.1.X, .int .i32 p0.sure.Players.1.Y, .int .i32 p0.sure.Players.1.VX, .int .i32 p0.sure.Players.1.VY, .int .u8 p0.sure.Players.1.Health, .int .u8 p0.sure.Players.1.Cool, .int .u8 p0.sure.Players.1.Face, .int .i32 p0.sure.Players.2.X, .int .i32 p0.sure.Players.2.Y, .int .i32 p0.sure.Players.2.VX, .int .i32 p0.sure.Players.2.VY, .int .u8 p0.sure.Players.2.Health, .int .u8 p0.sure.Players.2.Cool, .int .u8 p0.sure.Players.2.Face, .slice p0a0 p0n0 p0c0, .int .u16 p0.sure.Score.1, .int .u16 p0.sure.Score.2, .slice p0a1 p0n1 p0c1, .pointer none, .pointer none], p0t, (0, 0)⟩ :: (p0B0 ++ (p0B1 ++ []))))) [10, 11, 12] [11, 12] [0, 1, 3, 7, 15, 0, 32, 96, 224, 0, 992, 2047, 4095] [0, 1, 2, 3, 4, 5, 6, 7, 8, 9, 10, 11, 12] (by kernel_rfl) (by kernel_rfl) (by kernel_rfl) ?_
    refine k_val rfl rfl rfl (pSub (pCons Sel.hc (pCons Sel.hc (pApp Sel.ha (pApp Sel.ha pNil))))) (stepV_ok tt_ok rfl) rfl ?_
    refine k_val rfl rfl rfl (pSub (pCons Sel.hc (pCons Sel.hc (pApp Sel.ha (pApp Sel.ha pNil))))) (stepV_ok tt_ok rfl) rfl ?_
    refine k_val (v := .pointer (some ⟨p0b, 0, none⟩)) rfl rfl rfl (pSub (pCons Sel.hc (pCons Sel.hc (pApp Sel.ha (pApp Sel.ha pNil))))) (stepV_ok tt_ok rfl) rfl ?_
    refine k_val (v := .int .u8 p0.player) rfl rfl rfl (pSub (pCons Sel.hc (pCons Sel.hc (pApp Sel.ha (pApp Sel.ha pNil))))) (val_load tt_ok rfl (List.Mem.tail _ (List.Mem.head _)) rfl) rfl ?_
    refine k_val (v := .int .u8 (IntKind.wrap .u8 ((1 : Int) - p0.player))) rfl rfl rfl (pSub (pCons Sel.hc (pCons Sel.hc (pApp Sel.ha (pApp Sel.ha pNil))))) (stepV_ok tt_ok rfl) rfl ?_
    refine k_val rfl rfl rfl (pSub (pCons Sel.hc (pCons Sel.hc (pApp Sel.ha (pApp Sel.ha pNil))))) (stepV_ok tt_ok rfl) rfl ?_
    refine k_val rfl rfl rfl (pSub (pCons Sel.hc (pCons Sel.hc (pApp Sel.ha (pApp Sel.ha pNil))))) (stepV_ok tt_ok rfl) rfl ?_
    refine k_val (v := .pointer (some ⟨p0b, 22, none⟩)) rfl rfl rfl (pSub (pCons Sel.hc (pCons Sel.hc (pApp Sel.ha (pApp Sel.ha pNil))))) (stepV_ok tt_ok rfl) rfl ?_
    refine k_val (v := .pointer none) rfl rfl rfl (pSub (pCons Sel.hc (pCons Sel.hc (pApp Sel.ha (pApp Sel.ha pNil))))) (val_load tt_ok rfl (List.Mem.tail _ (List.Mem.head _)) rfl) rfl ?_
    refine k_val rfl rfl rfl (pSub (pCons Sel.hc (pCons Sel.hc (pApp Sel.ha (pApp Sel.ha pNil))))) (stepV_ok tt_ok rfl) rfl ?_
    replace h := bsome h; obtain ⟨v33, x33, h⟩ := h
    refine k_cq rfl rfl rfl Tryd.call35 rfl rfl rfl (q_pf (k_queue_Queue_Guess_nil0 x33) (fun _ _ => trivial)) rfl (pSub (pCons Sel.hc (pCons Sel.hc (pApp Sel.ha (pApp Sel.ha pNil))))) ?_
    rcases Bool.eq_false_or_eq_true ((IntKind.wrap .u8 ((1 : Int) - p0.player)) == (0 : Int)) with hx340 | hx340
    · replace h := ct hx340 h
      refine k_chg rfl rfl rfl (Chg.of_val (v := .pointer (some ⟨b4, 0, none⟩)) (val_ia (j := 0) tt_ok rfl rfl rfl rfl (by simpa using hx340) rfl rfl)) rfl (.inl rfl) ?_
      rintro _ _ ⟨rfl, rfl⟩
      refine k_chg0 rfl rfl rfl (chg_store tt_ok rfl Upd.here rfl rfl rfl rfl rfl rfl) (.inl rfl) ?_
      rintro _ _ rfl
      refine k_end (by kernel_rfl) ?_
      refine wx_then (wc_seq (wc_region ?_))
      refine wl_val (v := .agg #[.int .u8 v33, .int .u8 v20]) (val_load tt_ok rfl (List.Mem.head _) rfl) rfl ?_
      apply wl_store tt_ok; rfl; exact Upd.here; rfl; rfl; rfl; rfl; rfl; rfl
      refine wl_nil (wx_then (wc_ret ?_))
      simp only [Option.some.injEq] at h
      obtain rfl := h
      exact wx_rd tt_ok (.inl rfl) Tryd.results42 (Res.cell rfl (List.Mem.head _) rfl Res.nil) (pSub (pCons (Sel.sc Sel.hc) (pApp (Sel.sc Sel.ha) (pApp (Sel.sc Sel.ha) pNil)))) rfl
    replace h := cf hx340 h
    rcases Bool.eq_false_or_eq_true ((IntKind.wrap .u8 ((1 : Int) - p0.player)) == (1 : Int)) with hx341 | hx341
    · replace h := ct hx341 h
      refine k_chg rfl rfl rfl (Chg.of_val (v := .pointer (some ⟨b4, 1, none⟩)) (val_ia (j := 1) tt_ok rfl rfl rfl rfl (by simpa using hx341) rfl rfl)) rfl (.inl rfl) ?_
      rintro _ _ ⟨rfl, rfl⟩
      refine k_chg0 rfl rfl rfl (chg_store tt_ok rfl Upd.here rfl rfl rfl rfl rfl rfl) (.inl rfl) ?_
      rintro _ _ rfl
      refine k_end (by kernel_rfl) ?_
      refine wx_then (wc_seq (wc_region ?_))
      refine wl_val (v := .agg #[.int .u8 (0 : Int), .int .u8 v33]) (val_load tt_ok rfl (List.Mem.head _) rfl) rfl ?_
      apply wl_store tt_ok; rfl; exact Upd.here; rfl; rfl; rfl; rfl; rfl; rfl
      refine wl_nil (wx_then (wc_ret ?_))
      simp only [Option.some.injEq] at h
      obtain rfl := h
      exact wx_rd tt_ok (.inl rfl) Tryd.results42 (Res.cell rfl (List.Mem.head _) rfl Res.nil) (pSub (pCons (Sel.sc Sel.hc) (pApp (Sel.sc Sel.ha) (pApp (Sel.sc Sel.ha) pNil)))) rfl
    replace h := cf hx341 h
    cases h
  replace h := cf hx221 h
  cases h

theorem k_rollback_Engine_Next_z0 {F : Nat} {p0 : T_rollback_Engine} {p0b p0t : Nat} {p0a0 : Option Addr} {p0n0 : Nat} {p0c0 : Nat} {p0B0 : List Blk} {p0a1 : Option Addr} {p0n1 : Nat} {p0c1 : Nat} {p0B1 : List Blk} {r0 : (Int × Int)} {r1 : Bool} (p0N0 : p0n0 = p0.sure.Shots.length) (p0V0 : Own 80 6 p0a0 p0n0 p0c0 (flat c_T_api_Shot p0.sure.Shots) p0B0) (p0N1 : p0n1 = p0.own.length) (p0V1 : Own 40 1 p0a1 p0n1 p0c1 (flat (e1 .u8) p0.own) p0B1) (h : m_rollback_Engine_Next_z0 F p0 = some (r0, r1)) :
    Rd2 Tryd.prog 20 [.pointer (some ⟨p0b, 0, none⟩)] (⟨p0b, [.int .u8 p0.player, .int .i64 p0.window, .int .u64 p0.sure.Frame, .int .u64 p0.sure.Seed, .int .i32 p0.sure.Players.1.X, .int .i32 p0.sure.Players.1.Y, .int .i32 p0.sure.Players.1.VX, .int .i32 p0.sure.Players.1.VY, .int .u8 p0.sure.Players.1.Health, .int .u8 p0.sure.Players.1.Cool, .int .u8 p0.sure.Players.1.Face, .int .i32 p0.sure.Players.2.X, .int .i32 p0.sure.Players.2.Y, .int .i32 p0.sure.Players.2.VX, .int .i32 p0.sure.Players.2.VY, .int .u8 p0.sure.Players.2.Health, .int .u8 p0.sure.Players.2.Cool, .int .u8 p0.sure.Players.2.Face, .slice p0a0 p0n0 p0c0, .int .u16 p0.sure.Score.1, .int .u16 p0.sure.Score.2, .slice p0a1 p0n1 p0c1, .pointer none, .pointer none], p0t, (0, 0)⟩ :: (p0B0 ++ (p0B1 ++ []))) (fun w => True) (.tuple #[.agg #[.int .u8 r0.1, .int .u8 r0.2], .bool r1]) := by
  unfold m_rollback_Engine_Next_z0 at h
  refine sp_of_wc Tryd.func20 rfl Tryd.ntmps20 rfl rfl (fun w0 hR => ?_)
  refine wc_seq (wc_region ?_)
  refine wl_alloc tt_ok rfl rfl (fun b2 => ?_)
  refine wl_pure tt_ok rfl rfl ?_
  refine wl_nil (wx_then (wc_seq (wc_seq ?_)))
  refine wc_quiet (by kernel_rfl) (by kernel_rfl) ?_
  refine wq_pure tt_ok rfl rfl ?_
  replace h := bsome h; obtain ⟨v5, x5, h⟩ := h
  refine wq_cq Tryd.call30 rfl rfl rfl (q_rd (k_rollback_Engine_is_z0 (p0 := p0) p0N0 p0V0 p0N1 p0V1 x5) (pCons (Sel.sc Sel.hc) (pApp (Sel.sc Sel.ha) (pApp (Sel.sc Sel.ha) pNil))) (fun _ _ => trivial)) rfl ?_
  refine wq_pure (v := .bool (!v5)) tt_ok rfl rfl ?_
  refine wq_pure tt_ok rfl rfl ?_
  replace h := bsome h; obtain ⟨v14, h, hg14⟩ := h
  refine wq_split (t := 7) rfl (fun hc => ?_) (fun hc => ?_)
  · replace h := ct hc h
    refine wq_skip rfl rfl ?_
    refine wq_skip rfl rfl ?_
    refine wq_skip rfl rfl ?_
    refine wq_skip rfl rfl ?_
    refine wq_skip rfl rfl ?_
    refine wq_skip rfl rfl ?_
    simp only [Option.some.injEq, Prod.mk.injEq] at h
    obtain rfl := h
    have h := hg14; clear hg14
    refine wq_pure (v := .bool true) tt_ok rfl rfl ?_
    refine wq_pure tt_ok rfl rfl ?_
    replace h := bsome h; obtain ⟨v27, h, hg27⟩ := h
    replace h := ct rfl h
    refine wq_skip rfl rfl ?_
    refine wq_skip rfl rfl ?_
    refine wq_skip rfl rfl ?_
    refine wq_skip rfl rfl ?_
    refine wq_skip rfl rfl ?_
    refine wq_skip rfl rfl ?_
    refine wq_skip rfl rfl ?_
    refine wq_skip rfl rfl ?_
    refine wq_skip rfl rfl ?_
    refine wq_skip rfl rfl ?_
    refine wq_skip rfl rfl ?_
    simp only [Option.some.injEq, Prod.mk.injEq] at h
    obtain rfl := h
    have h := hg27; clear hg27
    refine wq_pure (v := .bool true) tt_ok rfl rfl ?_
    refine wq_nil ?_
    refine wx_then ?_
    replace h := ct rfl h
    refine wc_cond_true rfl ?_
    refine wc_seq (wc_region ?_)
    refine wl_pure (v := .agg #[.int .u8 (0 : Int), .int .u8 (0 : Int)]) tt_ok rfl rfl ?_
    apply wl_store tt_ok; rfl; exact Upd.here; rfl; rfl; rfl; rfl; rfl; rfl
    refine wl_pure tt_ok rfl rfl ?_
    refine wl_nil (wx_then (wc_ret (wx_then_ret ?_)))
    simp only [Option.some.injEq, Prod.mk.injEq] at h
    obtain ⟨rfl, rfl⟩ := h
    exact wx_rd tt_ok (.inl rfl) Tryd.results20 (Res.cell rfl (List.Mem.head _) rfl (Res.tmp rfl Res.nil)) (pSub (pCons (Sel.sc Sel.hc) (pApp (Sel.sc Sel.ha) (pApp (Sel.sc Sel.ha) pNil)))) rfl
  replace h := cf hc h
  refine wq_run rfl ?_
  refine wq_pure tt_ok rfl rfl ?_
  refine wq_run rfl ?_
  refine wq_pure tt_ok rfl rfl ?_
  refine wq_run rfl ?_
  refine wq_pure (v := .pointer (some ⟨p0b, 21, none⟩)) tt_ok rfl rfl ?_
  refine wq_run rfl ?_
  refine wq_val (v := .slice p0a1 p0n1 p0c1) (val_load tt_ok rfl (List.Mem.tail _ (List.Mem.head _)) rfl) rfl ?_
  refine wq_run rfl ?_
  refine wq_val (v := .int .i64 (p0.own.length : Int)) (val_len tt_ok rfl rfl p0N1) rfl ?_
  refine wq_run rfl ?_
  refine wq_pure (v := .bool ((p0.own.length : Int) == (0 : Int))) tt_ok rfl rfl ?_
  simp only [Option.some.injEq, Prod.mk.injEq] at h
  obtain rfl := h
  have h := hg14; clear hg14
  refine wq_pure (v := .bool ((p0.own.length : Int) == (0 : Int))) tt_ok rfl rfl ?_
  refine wq_pure tt_ok rfl rfl ?_
  replace h := bsome h; obtain ⟨v27, h, hg27⟩ := h
  refine wq_split (t := 15) rfl (fun hc => ?_) (fun hc => ?_)
  · replace h := ct hc h
    refine wq_skip rfl rfl ?_
    refine wq_skip rfl rfl ?_
    refine wq_skip rfl rfl ?_
    refine wq_skip rfl rfl ?_
    refine wq_skip rfl rfl ?_
    refine wq_skip rfl rfl ?_
    refine wq_skip rfl rfl ?_
    refine wq_skip rfl rfl ?_
    refine wq_skip rfl rfl ?_
    refine wq_skip rfl rfl ?_
    refine wq_skip rfl rfl ?_
    simp only [Option.some.injEq, Prod.mk.injEq] at h
    obtain rfl := h
    have h := hg27; clear hg27
    refine wq_pure (v := .bool true) tt_ok rfl rfl ?_
    refine wq_nil ?_
    refine wx_then ?_
    replace h := ct rfl h
    refine wc_cond_true rfl ?_
    refine wc_seq (wc_region ?_)
    refine wl_pure (v := .agg #[.int .u8 (0 : Int), .int .u8 (0 : Int)]) tt_ok rfl rfl ?_
    apply wl_store tt_ok; rfl; exact Upd.here; rfl; rfl; rfl; rfl; rfl; rfl
    refine wl_pure tt_ok rfl rfl ?_
    refine wl_nil (wx_then (wc_ret (wx_then_ret ?_)))
    simp only [Option.some.injEq, Prod.mk.injEq] at h
    obtain ⟨rfl, rfl⟩ := h
    exact wx_rd tt_ok (.inl rfl) Tryd.results20 (Res.cell rfl (List.Mem.head _) rfl (Res.tmp rfl Res.nil)) (pSub (pCons (Sel.sc Sel.hc) (pApp (Sel.sc Sel.ha) (pApp (Sel.sc Sel.ha) pNil)))) rfl
  replace h := cf hc h
  refine wq_run rfl ?_
  refine wq_pure tt_ok rfl rfl ?_
  refine wq_run rfl ?_
  refine wq_pure tt_ok rfl rfl ?_
  refine wq_run rfl ?_
  refine wq_pure (v := .pointer (some ⟨p0b, 22, none⟩)) tt_ok rfl rfl ?_
  refine wq_run rfl ?_
  refine wq_val (v := .pointer none) (val_load tt_ok rfl (List.Mem.tail _ (List.Mem.head _)) rfl) rfl ?_
  replace h := bsome h; obtain ⟨v20, x20, h⟩ := h
  refine wq_run rfl ?_
  refine wq_cq Tryd.call34 rfl rfl rfl (q_pf (k_queue_Queue_Known_nil0 x20) (fun _ _ => trivial)) rfl ?_
  refine wq_run rfl ?_
  refine wq_pure tt_ok rfl rfl ?_
  refine wq_run rfl ?_
  refine wq_pure tt_ok rfl rfl ?_
  refine wq_run rfl ?_
  refine wq_pure (v := .pointer (some ⟨p0b, 2, none⟩)) tt_ok rfl rfl ?_
  refine wq_run rfl ?_
  refine wq_pure (v := .pointer (some ⟨p0b, 2, none⟩)) tt_ok rfl rfl ?_
  refine wq_run rfl ?_
  refine wq_val (v := .int .u64 p0.sure.Frame) (val_load tt_ok rfl (List.Mem.tail _ (List.Mem.head _)) rfl) rfl ?_
  refine wq_run rfl ?_
  refine wq_pure (v := .bool (decide (v20 ≤ p0.sure.Frame))) tt_ok rfl rfl ?_
  simp only [Option.some.injEq, Prod.mk.injEq] at h
  obtain rfl := h
  have h := hg27; clear hg27
  refine wq_pure (v := .bool (decide (v20 ≤ p0.sure.Frame))) tt_ok rfl rfl ?_
  refine wq_nil ?_
  refine wx_then ?_
  refine wc_cond rfl (fun hc => ?_) (fun hc => ?_)
  · replace h := ct hc h
    refine wc_seq (wc_region ?_)
    refine wl_pure (v := .agg #[.int .u8 (0 : Int), .int .u8 (0 : Int)]) tt_ok rfl rfl ?_
    apply wl_store tt_ok; rfl; exact Upd.here; rfl; rfl; rfl; rfl; rfl; rfl
    refine wl_pure tt_ok rfl rfl ?_
    refine wl_nil (wx_then (wc_ret (wx_then_ret ?_)))
    simp only [Option.some.injEq, Prod.mk.injEq] at h
    obtain ⟨rfl, rfl⟩ := h
    exact wx_rd tt_ok (.inl rfl) Tryd.results20 (Res.cell rfl (List.Mem.head _) rfl (Res.tmp rfl Res.nil)) (pSub (pCons (Sel.sc Sel.hc) (pApp (Sel.sc Sel.ha) (pApp (Sel.sc Sel.ha) pNil)))) rfl
  replace h := cf hc h
  refine wc_skip (wx_then (wc_seq (wc_region ?_)))
  iterate 3 refine wl_pure tt_ok rfl rfl ?_
  refine wl_pure (v := .pointer (some ⟨p0b, 2, none⟩)) tt_ok rfl rfl ?_
  refine wl_pure (v := .pointer (some ⟨p0b, 2, none⟩)) tt_ok rfl rfl ?_
  refine wl_val (v := .int .u64 p0.sure.Frame) (val_load tt_ok rfl (List.Mem.tail _ (List.Mem.head _)) rfl) rfl ?_
  replace h := bsome h; obtain ⟨v35, x35, h⟩ := h
  refine wl_cq Tryd.call42 rfl rfl rfl (q_rd (k_rollback_Engine_pair_z0 (p0 := p0) p0N0 p0V0 p0N1 p0V1 x35) (pCons (Sel.sc Sel.hc) (pApp (Sel.sc Sel.ha) (pApp (Sel.sc Sel.ha) pNil))) (fun _ _ => trivial)) rfl ?_
  apply wl_store tt_ok; rfl; exact Upd.here; rfl; rfl; rfl; rfl; rfl; rfl
  refine wl_pure tt_ok rfl rfl ?_
  refine wl_nil (wx_then (wc_ret ?_))
  simp only [Option.some.injEq, Prod.mk.injEq] at h
  obtain ⟨rfl, rfl⟩ := h
  exact wx_rd tt_ok (.inl rfl) Tryd.results20 (Res.cell rfl (List.Mem.head _) rfl (Res.tmp rfl Res.nil)) (pSub (pCons (Sel.sc Sel.hc) (pApp (Sel.sc Sel.ha) (pApp (Sel.sc Sel.ha) pNil)))) rfl

theorem k_queue_Queue_Add_nil0 {F : Nat} {p1 : Int} {p2 : Int} {r0 : Int} (h : m_queue_Queue_Add_nil0 F p1 p2 = some r0) :
    Pf Tryd.prog 36 [.pointer none, .int .u64 p1, .int .u8 p2] (fun w => True) (.int .i64 r0) := by
  unfold m_queue_Queue_Add_nil0 at h
  refine pf_of_wc Tryd.func36 rfl Tryd.ntmps36 rfl rfl (fun w0 hR => ?_)
  refine wc_seq (wc_region ?_)
  refine wl_pure tt_ok rfl rfl ?_
  refine wl_nil (wx_then (wc_seq (wc_block (wc_seq (wc_region ?_)))))
  refine wl_pure tt_ok rfl rfl ?_
  refine wl_pure (v := .bool true) tt_ok rfl rfl ?_
  refine wl_pure tt_ok rfl rfl ?_
  refine wl_nil (wx_then ?_)
  refine wc_cond_true rfl ?_
  refine wc_seq (wc_region ?_)
  refine wl_pure tt_ok rfl rfl ?_
  refine wl_nil (wx_then (wc_ret (wx_block_ret (wx_then_ret ?_))))
  simp only [Option.some.injEq] at h
  obtain rfl := h
  exact wx_pf tt_ok (.inl rfl) Tryd.results36 (Res.tmp rfl Res.nil) rfl

theorem k_ring_Ring_Cut_nil0 {F : Nat} {p1 : Int} {r0 : Int} (h : m_ring_Ring_Cut_nil0 F p1 = some r0) :
    Pf Tryd.prog 37 [.pointer none, .int .u64 p1] (fun w => True) (.int .i64 r0) := by
  unfold m_ring_Ring_Cut_nil0 at h
  refine pf_of_wc Tryd.func37 rfl Tryd.ntmps37 rfl rfl (fun w0 hR => ?_)
  refine wc_seq (wc_region ?_)
  refine wl_pure tt_ok rfl rfl ?_
  refine wl_nil (wx_then (wc_seq (wc_seq (wc_region ?_))))
  refine wl_pure tt_ok rfl rfl ?_
  replace h := bsome h; obtain ⟨v9, x9, h⟩ := h
  refine wl_cq Tryd.call49 rfl rfl rfl (q_pf (k_ring_Ring_is_nil0 x9) (fun _ _ => trivial)) rfl ?_
  refine wl_pure (v := .bool (!v9)) tt_ok rfl rfl ?_
  refine wl_nil (wx_then ?_)
  refine wc_cond rfl (fun hc => ?_) (fun hc => ?_)
  · replace h := ct hc h
    refine wc_seq (wc_region ?_)
    refine wl_pure tt_ok rfl rfl ?_
    refine wl_nil (wx_then (wc_ret (wx_then_ret ?_)))
    simp only [Option.some.injEq] at h
    obtain rfl := h
    exact wx_pf tt_ok (.inl rfl) Tryd.results37 (Res.tmp rfl Res.nil) rfl
  replace h := cf hc h
  refine wc_skip (wx_then (wc_seq (wc_region ?_)))
  refine wl_pure tt_ok rfl rfl ?_
  refine wl_nil (wx_then (wc_seq (wc_seq (wc_region ?_))))
  refine wl_pure tt_ok rfl rfl ?_
  cases h

theorem k_rollback_Engine_Remote_z0 {F : Nat} {p0 : T_rollback_Engine} {p0b p0t : Nat} {p0a0 : Option Addr} {p0n0 : Nat} {p0c0 : Nat} {p0B0 : List Blk} {p0a1 : Option Addr} {p0n1 : Nat} {p0c1 : Nat} {p0B1 : List Blk} {p1 : Int} {p2 : Int} {r0 : Int} (p0N0 : p0n0 = p0.sure.Shots.length) (p0V0 : Own 80 6 p0a0 p0n0 p0c0 (flat c_T_api_Shot p0.sure.Shots) p0B0) (p0N1 : p0n1 = p0.own.length) (p0V1 : Own 40 1 p0a1 p0n1 p0c1 (flat (e1 .u8) p0.own) p0B1) (h : m_rollback_Engine_Remote_z0 F p0 p1 p2 = some r0) :
    Rd2 Tryd.prog 12 [.pointer (some ⟨p0b, 0, none⟩), .int .u64 p1, .int .u8 p2] (⟨p0b, [.int .u8 p0.player, .int .i64 p0.window, .int .u64 p0.sure.Frame, .int .u64 p0.sure.Seed, .int .i32 p0.sure.Players.1.X, .int .i32 p0.sure.Players.1.Y, .int .i32 p0.sure.Players.1.VX, .int .i32 p0.sure.Players.1.VY, .int .u8 p0.sure.Players.1.Health, .int .u8 p0.sure.Players.1.Cool, .int .u8 p0.sure.Players.1.Face, .int .i32 p0.sure.Players.2.X, .int .i32 p0.sure.Players.2.Y, .int .i32 p0.sure.Players.2.VX, .int .i32 p0.sure.Players.2.VY, .int .u8 p0.sure.Players.2.Health, .int .u8 p0.sure.Players.2.Cool, .int .u8 p0.sure.Players.2.Face, .slice p0a0 p0n0 p0c0, .int .u16 p0.sure.Score.1, .int .u16 p0.sure.Score.2, .slice p0a1 p0n1 p0c1, .pointer none, .pointer none], p0t, (0, 0)⟩ :: (p0B0 ++ (p0B1 ++ []))) (fun w => True) (.int .i64 r0) := by
  unfold m_rollback_Engine_Remote_z0 at h
  refine sp_of_wc Tryd.func12 rfl Tryd.ntmps12 rfl rfl (fun w0 hR => ?_)
  refine wc_seq (wc_region ?_)
  refine wl_pure tt_ok rfl rfl ?_
  refine wl_nil (wx_then (wc_seq (wc_seq (wc_region ?_))))
  refine wl_pure tt_ok rfl rfl ?_
  replace h := bsome h; obtain ⟨v11, x11, h⟩ := h
  refine wl_cq Tryd.call30 rfl rfl rfl (q_rd (k_rollback_Engine_is_z0 (p0 := p0) p0N0 p0V0 p0N1 p0V1 x11) (pCons Sel.hc (pApp Sel.ha (pApp Sel.ha pNil))) (fun _ _ => trivial)) rfl ?_
  refine wl_pure (v := .bool (!v11)) tt_ok rfl rfl ?_
  refine wl_nil (wx_then ?_)
  refine wc_cond rfl (fun hc => ?_) (fun hc => ?_)
  · replace h := ct hc h
    refine wc_seq (wc_region ?_)
    refine wl_pure tt_ok rfl rfl ?_
    refine wl_nil (wx_then (wc_ret (wx_then_ret ?_)))
    simp only [Option.some.injEq] at h
    obtain rfl := h
    exact wx_rd tt_ok (.inl rfl) Tryd.results12 (Res.tmp rfl Res.nil) (pSub (pCons Sel.hc (pApp Sel.ha (pApp Sel.ha pNil)))) rfl
  replace h := cf hc h
  refine wc_skip (wx_then (wc_seq ?_))
  refine wc_quiet (by kernel_rfl) (by kernel_rfl) ?_
  refine wq_pure tt_ok rfl rfl ?_
  refine wq_pure tt_ok rfl rfl ?_
  refine wq_pure (v := .pointer (some ⟨p0b, 22, none⟩)) tt_ok rfl rfl ?_
  refine wq_val (v := .pointer none) (val_load tt_ok rfl (List.Mem.head _) rfl) rfl ?_
  replace h := bsome h; obtain ⟨v17, x17, h⟩ := h
  refine wq_cq Tryd.call34 rfl rfl rfl (q_pf (k_queue_Queue_Known_nil0 x17) (fun _ _ => trivial)) rfl ?_
  refine wq_pure tt_ok rfl rfl ?_
  refine wq_pure tt_ok rfl rfl ?_
  refine wq_pure (v := .pointer (some ⟨p0b, 22, none⟩)) tt_ok rfl rfl ?_
  refine wq_val (v := .pointer none) (val_load tt_ok rfl (List.Mem.head _) rfl) rfl ?_
  refine wq_pure tt_ok rfl rfl ?_
  replace h := bsome h; obtain ⟨v23, x23, h⟩ := h
  refine wq_cq Tryd.call35 rfl rfl rfl (q_pf (k_queue_Queue_Guess_nil0 x23) (fun _ _ => trivial)) rfl ?_
  refine wq_pure tt_ok rfl rfl ?_
  refine wq_pure tt_ok rfl rfl ?_
  refine wq_nil ?_
  refine wx_then (wc_seq (wc_region ?_))
  iterate 2 refine wl_pure tt_ok rfl rfl ?_
  refine wl_pure (v := .pointer (some ⟨p0b, 22, none⟩)) tt_ok rfl rfl ?_
  refine wl_val (v := .pointer none) (val_load tt_ok rfl (List.Mem.head _) rfl) rfl ?_
  iterate 2 refine wl_pure tt_ok rfl rfl ?_
  replace h := bsome h; obtain ⟨v30, x30, h⟩ := h
  refine wl_cq Tryd.call36 rfl rfl rfl (q_pf (k_queue_Queue_Add_nil0 x30) (fun _ _ => trivial)) rfl ?_
  refine wl_pure tt_ok rfl rfl ?_
  refine wl_nil (wx_then (wc_seq (wc_seq (wc_region ?_))))
  iterate 2 refine wl_pure tt_ok rfl rfl ?_
  refine wl_pure (v := .pointer (some ⟨p0b, 22, none⟩)) tt_ok rfl rfl ?_
  refine wl_val (v := .pointer none) (val_load tt_ok rfl (List.Mem.head _) rfl) rfl ?_
  replace h := bsome h; obtain ⟨v35, x35, h⟩ := h
  refine wl_cq Tryd.call34 rfl rfl rfl (q_pf (k_queue_Queue_Known_nil0 x35) (fun _ _ => trivial)) rfl ?_
  refine wl_pure tt_ok rfl rfl ?_
  refine wl_pure (v := .bool (decide (v17 < v35))) tt_ok rfl rfl ?_
  refine wl_pure tt_ok rfl rfl ?_
  replace h := bsome h; obtain ⟨v42, h, hg42⟩ := h
  refine wl_split (t := 38) rfl (fun hc => ?_) (fun hc => ?_)
  · replace h := ct hc h
    refine wl_run rfl ?_
    refine wl_pure tt_ok rfl rfl ?_
    refine wl_run rfl ?_
    refine wl_pure tt_ok rfl rfl ?_
    refine wl_run rfl ?_
    refine wl_pure (v := .bool (v23 != p2)) tt_ok rfl rfl ?_
    simp only [Option.some.injEq, Prod.mk.injEq] at h
    obtain rfl := h
    have h := hg42; clear hg42
    refine wl_pure (v := .bool (v23 != p2)) tt_ok rfl rfl ?_
    refine wl_nil (wx_then ?_)
    replace h := bsome h; obtain ⟨_, h, hj18⟩ := h
    refine wc_join2 (fun E L => E = [(6, .int .i64 (0 : Int)), (9, .int .i64 v30)] ∧ L = (⟨p0b, [.int .u8 p0.player, .int .i64 p0.window, .int .u64 p0.sure.Frame, .int .u64 p0.sure.Seed, .int .i32 p0.sure.Players.1.X, .int .i32 p0.sure.Players.1.Y, .int .i32 p0.sure.Players.1.VX, .int .i32 p0.sure.Players.1.VY, .int .u8 p0.sure.Players.1.Health, .int .u8 p0.sure.Players.1.Cool, .int .u8 p0.sure.Players.1.Face, .int .i32 p0.sure.Players.2.X, .int .i32 p0.sure.Players.2.Y, .int .i32 p0.sure.Players.2.VX, .int .i32 p0.sure.Players.2.VY, .int .u8 p0.sure.Players.2.Health, .int .u8 p0.sure.Players.2.Cool, .int .u8 p0.sure.Players.2.Face, .slice p0a0 p0n0 p0c0, .int .u16 p0.sure.Score.1, .int .u16 p0.sure.Score.2, .slice p0a1 p0n1 p0c1, .pointer none, .pointer none], p0t, (0, 0)⟩ :: (p0B0 ++ (p0B1 ++ [])))) ?_ ?_
    · refine wc_cond rfl (fun hc => ?_) (fun hc => ?_)
      · replace h := ct hc h
        refine wc_region ?_
        iterate 2 refine wl_pure tt_ok rfl rfl ?_
        refine wl_pure (v := .pointer (some ⟨p0b, 23, none⟩)) tt_ok rfl rfl ?_
        refine wl_val (v := .pointer none) (val_load tt_ok rfl (List.Mem.head _) rfl) rfl ?_
        refine wl_pure tt_ok rfl rfl ?_
        replace h := bsome h; obtain ⟨v48, x48, h⟩ := h
        refine wl_cq Tryd.call37 rfl rfl rfl (q_pf (k_ring_Ring_Cut_nil0 x48) (fun _ _ => trivial)) rfl ?_
        refine wl_nil ?_
        exact wx_join ⟨rfl, rfl⟩ (agree_cons rfl (agree_cons rfl agree_nil)) (pSub (pCons Sel.hc (pApp Sel.ha (pApp Sel.ha pNil))))
      replace h := cf hc h
      refine wc_skip ?_
      exact wx_join ⟨rfl, rfl⟩ (agree_cons rfl (agree_cons rfl agree_nil)) (pSub (pCons Sel.hc (pApp Sel.ha (pApp Sel.ha pNil))))
    rintro _ _ ⟨rfl, rfl⟩
    have h := hj18; clear hj18
    refine wc_seq (wc_region ?_)
    iterate 2 refine wl_pure tt_ok rfl rfl ?_
    refine wl_nil (wx_then (wc_ret ?_))
    simp only [Option.some.injEq] at h
    obtain rfl := h
    exact wx_rd tt_ok (.inl rfl) Tryd.results12 (Res.tmp rfl Res.nil) (pSub (pCons Sel.hc (pApp Sel.ha (pApp Sel.ha pNil)))) rfl
  replace h := cf hc h
  refine wl_skip rfl rfl ?_
  refine wl_skip rfl rfl ?_
  refine wl_skip rfl rfl ?_
  simp only [Option.some.injEq, Prod.mk.injEq] at h
  obtain rfl := h
  have h := hg42; clear hg42
  refine wl_pure (v := .bool false) tt_ok rfl rfl ?_
  refine wl_nil (wx_then ?_)
  replace h := bsome h; obtain ⟨_, h, hj18⟩ := h
  refine wc_join2 (fun E L => E = [(6, .int .i64 (0 : Int)), (9, .int .i64 v30)] ∧ L = (⟨p0b, [.int .u8 p0.player, .int .i64 p0.window, .int .u64 p0.sure.Frame, .int .u64 p0.sure.Seed, .int .i32 p0.sure.Players.1.X, .int .i32 p0.sure.Players.1.Y, .int .i32 p0.sure.Players.1.VX, .int .i32 p0.sure.Players.1.VY, .int .u8 p0.sure.Players.1.Health, .int .u8 p0.sure.Players.1.Cool, .int .u8 p0.sure.Players.1.Face, .int .i32 p0.sure.Players.2.X, .int .i32 p0.sure.Players.2.Y, .int .i32 p0.sure.Players.2.VX, .int .i32 p0.sure.Players.2.VY, .int .u8 p0.sure.Players.2.Health, .int .u8 p0.sure.Players.2.Cool, .int .u8 p0.sure.Players.2.Face, .slice p0a0 p0n0 p0c0, .int .u16 p0.sure.Score.1, .int .u16 p0.sure.Score.2, .slice p0a1 p0n1 p0c1, .pointer none, .pointer none], p0t, (0, 0)⟩ :: (p0B0 ++ (p0B1 ++ [])))) ?_ ?_
  · replace h := cf rfl h
    refine wc_cond_false rfl ?_
    refine wc_skip ?_
    exact wx_join ⟨rfl, rfl⟩ (agree_cons rfl (agree_cons rfl agree_nil)) (pSub (pCons Sel.hc (pApp Sel.ha (pApp Sel.ha pNil))))
  rintro _ _ ⟨rfl, rfl⟩
  have h := hj18; clear hj18
  refine wc_seq (wc_region ?_)
  iterate 2 refine wl_pure tt_ok rfl rfl ?_
  refine wl_nil (wx_then (wc_ret ?_))
  simp only [Option.some.injEq] at h
  obtain rfl := h
  exact wx_rd tt_ok (.inl rfl) Tryd.results12 (Res.tmp rfl Res.nil) (pSub (pCons Sel.hc (pApp Sel.ha (pApp Sel.ha pNil)))) rfl

theorem k_rollback_Engine_C_z0 {F : Nat} {p0 : T_rollback_Engine} {p0b p0t : Nat} {p0a0 : Option Addr} {p0n0 : Nat} {p0c0 : Nat} {p0B0 : List Blk} {p0a1 : Option Addr} {p0n1 : Nat} {p0c1 : Nat} {p0B1 : List Blk} {r0 : Int} (p0N0 : p0n0 = p0.sure.Shots.length) (p0V0 : Own 80 6 p0a0 p0n0 p0c0 (flat c_T_api_Shot p0.sure.Shots) p0B0) (p0N1 : p0n1 = p0.own.length) (p0V1 : Own 40 1 p0a1 p0n1 p0c1 (flat (e1 .u8) p0.own) p0B1) (h : m_rollback_Engine_C_z0 F p0 = some r0) :
    Rd2 Tryd.prog 16 [.pointer (some ⟨p0b, 0, none⟩)] (⟨p0b, [.int .u8 p0.player, .int .i64 p0.window, .int .u64 p0.sure.Frame, .int .u64 p0.sure.Seed, .int .i32 p0.sure.Players.1.X, .int .i32 p0.sure.Players.1.Y, .int .i32 p0.sure.Players.1.VX, .int .i32 p0.sure.Players.1.VY, .int .u8 p0.sure.Players.1.Health, .int .u8 p0.sure.Players.1.Cool, .int .u8 p0.sure.Players.1.Face, .int .i32 p0.sure.Players.2.X, .int .i32 p0.sure.Players.2.Y, .int .i32 p0.sure.Players.2.VX, .int .i32 p0.sure.Players.2.VY, .int .u8 p0.sure.Players.2.Health, .int .u8 p0.sure.Players.2.Cool, .int .u8 p0.sure.Players.2.Face, .slice p0a0 p0n0 p0c0, .int .u16 p0.sure.Score.1, .int .u16 p0.sure.Score.2, .slice p0a1 p0n1 p0c1, .pointer none, .pointer none], p0t, (0, 0)⟩ :: (p0B0 ++ (p0B1 ++ []))) (fun w => True) (.int .u64 r0) := by
  unfold m_rollback_Engine_C_z0 at h
  refine sp_of_wc Tryd.func16 rfl Tryd.ntmps16 rfl rfl (fun w0 hR => ?_)
  refine wc_seq (wc_region ?_)
  refine wl_pure tt_ok rfl rfl ?_
  refine wl_nil (wx_then (wc_seq (wc_seq (wc_region ?_))))
  refine wl_pure tt_ok rfl rfl ?_
  replace h := bsome h; obtain ⟨v4, x4, h⟩ := h
  refine wl_cq Tryd.call30 rfl rfl rfl (q_rd (k_rollback_Engine_is_z0 (p0 := p0) p0N0 p0V0 p0N1 p0V1 x4) (pCons Sel.hc (pApp Sel.ha (pApp Sel.ha pNil))) (fun _ _ => trivial)) rfl ?_
  refine wl_pure (v := .bool (!v4)) tt_ok rfl rfl ?_
  refine wl_nil (wx_then ?_)
  refine wc_cond rfl (fun hc => ?_) (fun hc => ?_)
  · replace h := ct hc h
    refine wc_seq (wc_region ?_)
    refine wl_pure tt_ok rfl rfl ?_
    refine wl_nil (wx_then (wc_ret (wx_then_ret ?_)))
    simp only [Option.some.injEq] at h
    obtain rfl := h
    exact wx_rd tt_ok (.inl rfl) Tryd.results16 (Res.tmp rfl Res.nil) (pSub (pCons Sel.hc (pApp Sel.ha (pApp Sel.ha pNil)))) rfl
  replace h := cf hc h
  refine wc_skip (wx_then (wc_seq (wc_region ?_)))
  iterate 2 refine wl_pure tt_ok rfl rfl ?_
  refine wl_pure (v := .pointer (some ⟨p0b, 2, none⟩)) tt_ok rfl rfl ?_
  refine wl_pure (v := .pointer (some ⟨p0b, 2, none⟩)) tt_ok rfl rfl ?_
  refine wl_val (v := .int .u64 p0.sure.Frame) (val_load tt_ok rfl (List.Mem.head _) rfl) rfl ?_
  refine wl_pure tt_ok rfl rfl ?_
  refine wl_nil (wx_then (wc_ret ?_))
  simp only [Option.some.injEq] at h
  obtain rfl := h
  exact wx_rd tt_ok (.inl rfl) Tryd.results16 (Res.tmp rfl Res.nil) (pSub (pCons Sel.hc (pApp Sel.ha (pApp Sel.ha pNil)))) rfl

theorem k_rollback_Engine_Own_z0 {F : Nat} {p0 : T_rollback_Engine} {p0b p0t : Nat} {p0a0 : Option Addr} {p0n0 : Nat} {p0c0 : Nat} {p0B0 : List Blk} {p0a1 : Option Addr} {p0n1 : Nat} {p0c1 : Nat} {p0B1 : List Blk} {r0 : (List Int)} (p0N0 : p0n0 = p0.sure.Shots.length) (p0V0 : Own 80 6 p0a0 p0n0 p0c0 (flat c_T_api_Shot p0.sure.Shots) p0B0) (p0N1 : p0n1 = p0.own.length) (p0V1 : Own 40 1 p0a1 p0n1 p0c1 (flat (e1 .u8) p0.own) p0B1) (h : m_rollback_Engine_Own_z0 F p0 = some r0) :
    SpD Tryd.prog 18 [.pointer (some ⟨p0b, 0, none⟩)] (⟨p0b, [.int .u8 p0.player, .int .i64 p0.window, .int .u64 p0.sure.Frame, .int .u64 p0.sure.Seed, .int .i32 p0.sure.Players.1.X, .int .i32 p0.sure.Players.1.Y, .int .i32 p0.sure.Players.1.VX, .int .i32 p0.sure.Players.1.VY, .int .u8 p0.sure.Players.1.Health, .int .u8 p0.sure.Players.1.Cool, .int .u8 p0.sure.Players.1.Face, .int .i32 p0.sure.Players.2.X, .int .i32 p0.sure.Players.2.Y, .int .i32 p0.sure.Players.2.VX, .int .i32 p0.sure.Players.2.VY, .int .u8 p0.sure.Players.2.Health, .int .u8 p0.sure.Players.2.Cool, .int .u8 p0.sure.Players.2.Face, .slice p0a0 p0n0 p0c0, .int .u16 p0.sure.Score.1, .int .u16 p0.sure.Score.2, .slice p0a1 p0n1 p0c1, .pointer none, .pointer none], p0t, (0, 0)⟩ :: (p0B0 ++ (p0B1 ++ []))) (fun w => True) (fun v D => ∃ (r0a0 : Option Addr) (r0n0 : Nat) (r0c0 : Nat) (r0B0 : List Blk), r0n0 = r0.length ∧ Own 40 1 r0a0 r0n0 r0c0 (flat (e1 .u8) r0) r0B0 ∧ v = .slice r0a0 r0n0 r0c0 ∧ D = fun F => (⟨p0b, [.int .u8 p0.player, .int .i64 p0.window, .int .u64 p0.sure.Frame, .int .u64 p0.sure.Seed, .int .i32 p0.sure.Players.1.X, .int .i32 p0.sure.Players.1.Y, .int .i32 p0.sure.Players.1.VX, .int .i32 p0.sure.Players.1.VY, .int .u8 p0.sure.Players.1.Health, .int .u8 p0.sure.Players.1.Cool, .int .u8 p0.sure.Players.1.Face, .int .i32 p0.sure.Players.2.X, .int .i32 p0.sure.Players.2.Y, .int .i32 p0.sure.Players.2.VX, .int .i32 p0.sure.Players.2.VY, .int .u8 p0.sure.Players.2.Health, .int .u8 p0.sure.Players.2.Cool, .int .u8 p0.sure.Players.2.Face, .slice p0a0 p0n0 p0c0, .int .u16 p0.sure.Score.1, .int .u16 p0.sure.Score.2, .slice p0a1 p0n1 p0c1, .pointer none, .pointer none], p0t, (0, 0)⟩ :: (p0B0 ++ (p0B1 ++ (r0B0 ++ F))))) := by
  unfold m_rollback_Engine_Own_z0 at h
  refine sp_of_wc Tryd.func18 rfl Tryd.ntmps18 rfl rfl (fun w0 hR => ?_)
  refine wc_seq (wc_region ?_)
  refine wl_pure tt_ok rfl rfl ?_
  refine wl_nil (wx_then (wc_seq (wc_seq (wc_region ?_))))
  refine wl_pure tt_ok rfl rfl ?_
  replace h := bsome h; obtain ⟨v4, x4, h⟩ := h
  refine wl_cq Tryd.call30 rfl rfl rfl (q_rd (k_rollback_Engine_is_z0 (p0 := p0) p0N0 p0V0 p0N1 p0V1 x4) (pCons Sel.hc (pApp Sel.ha (pApp Sel.ha pNil))) (fun _ _ => trivial)) rfl ?_
  refine wl_pure (v := .bool (!v4)) tt_ok rfl rfl ?_
  refine wl_nil (wx_then ?_)
  refine wc_cond rfl (fun hc => ?_) (fun hc => ?_)
  · replace h := ct hc h
    refine wc_seq (wc_region ?_)
    refine wl_pure tt_ok rfl rfl ?_
    refine wl_nil (wx_then (wc_ret (wx_then_ret ?_)))
    simp only [Option.some.injEq] at h
    obtain rfl := h
    exact wx_spD tt_ok (.inl rfl) Tryd.results18 (Res.tmp rfl Res.nil) ⟨none, 0, 0, [], rfl, Own.zero, rfl, rfl⟩ (fun F => by simp) (pSub (pCons Sel.hc (pApp Sel.ha (pApp Sel.ha (pNo pNil)))))
  replace h := cf hc h
  refine wc_skip (wx_then (wc_seq (wc_region ?_)))
  iterate 2 refine wl_pure tt_ok rfl rfl ?_
  refine wl_pure (v := .pointer (some ⟨p0b, 21, none⟩)) tt_ok rfl rfl ?_
  refine wl_val (v := .slice p0a1 p0n1 p0c1) (val_load tt_ok rfl (List.Mem.head _) rfl) rfl ?_
  replace h := bsome h; obtain ⟨v10, x10, h⟩ := h
  refine wl_cs Tryd.call39 rfl rfl rfl (s_sp (k_slices_Clone___api_Input_api_Input (p0 := p0.own) p0N1 (vec_cap p0V1) x10) pNil (Rds.call (Rds.of_vec p0V1) pNil ⟨_, (Sel.sc (Sel.sa Sel.ha))⟩)) rfl ?_
  rintro _ _ ⟨_, ⟨v10a0, v10n0, v10c0, v10B0, v10N0, v10V0, rfl, rfl⟩, rfl⟩
  refine wl_pure tt_ok rfl rfl ?_
  refine wl_nil (wx_then (wc_ret ?_))
  simp only [Option.some.injEq] at h
  obtain rfl := h
  exact wx_spD tt_ok (.inl rfl) Tryd.results18 (Res.tmp rfl Res.nil) ⟨v10a0, v10n0, v10c0, v10B0, v10N0, v10V0, rfl, rfl⟩ (fun F => by simp) (pSub (pCons (Sel.sa Sel.hc) (pApp (Sel.sa Sel.ha) (pApp (Sel.sa Sel.ha) (pApp Sel.ha pNil)))))

theorem k_rollback_Engine_T_z0 {F : Nat} {p0 : T_rollback_Engine} {p0b p0t : Nat} {p0a0 : Option Addr} {p0n0 : Nat} {p0c0 : Nat} {p0B0 : List Blk} {p0a1 : Option Addr} {p0n1 : Nat} {p0c1 : Nat} {p0B1 : List Blk} {r0 : Int} (p0N0 : p0n0 = p0.sure.Shots.length) (p0V0 : Own 80 6 p0a0 p0n0 p0c0 (flat c_T_api_Shot p0.sure.Shots) p0B0) (p0N1 : p0n1 = p0.own.length) (p0V1 : Own 40 1 p0a1 p0n1 p0c1 (flat (e1 .u8) p0.own) p0B1) (h : m_rollback_Engine_T_z0 F p0 = some r0) :
    Rd2 Tryd.prog 17 [.pointer (some ⟨p0b, 0, none⟩)] (⟨p0b, [.int .u8 p0.player, .int .i64 p0.window, .int .u64 p0.sure.Frame, .int .u64 p0.sure.Seed, .int .i32 p0.sure.Players.1.X, .int .i32 p0.sure.Players.1.Y, .int .i32 p0.sure.Players.1.VX, .int .i32 p0.sure.Players.1.VY, .int .u8 p0.sure.Players.1.Health, .int .u8 p0.sure.Players.1.Cool, .int .u8 p0.sure.Players.1.Face, .int .i32 p0.sure.Players.2.X, .int .i32 p0.sure.Players.2.Y, .int .i32 p0.sure.Players.2.VX, .int .i32 p0.sure.Players.2.VY, .int .u8 p0.sure.Players.2.Health, .int .u8 p0.sure.Players.2.Cool, .int .u8 p0.sure.Players.2.Face, .slice p0a0 p0n0 p0c0, .int .u16 p0.sure.Score.1, .int .u16 p0.sure.Score.2, .slice p0a1 p0n1 p0c1, .pointer none, .pointer none], p0t, (0, 0)⟩ :: (p0B0 ++ (p0B1 ++ []))) (fun w => True) (.int .u64 r0) := by
  unfold m_rollback_Engine_T_z0 at h
  refine sp_of_wc Tryd.func17 rfl Tryd.ntmps17 rfl rfl (fun w0 hR => ?_)
  refine wc_seq (wc_region ?_)
  refine wl_pure tt_ok rfl rfl ?_
  refine wl_nil (wx_then (wc_seq (wc_region ?_)))
  refine wl_pure tt_ok rfl rfl ?_
  replace h := bsome h; obtain ⟨v4, x4, h⟩ := h
  refine wl_cq Tryd.call16 rfl rfl rfl (q_rd (k_rollback_Engine_C_z0 (p0 := p0) p0N0 p0V0 p0N1 p0V1 x4) (pCons Sel.hc (pApp Sel.ha (pApp Sel.ha pNil))) (fun _ _ => trivial)) rfl ?_
  refine wl_pure tt_ok rfl rfl ?_
  replace h := bsome h; obtain ⟨v6, x6, h⟩ := h
  refine wl_cs Tryd.call18 rfl rfl rfl (s_sp (k_rollback_Engine_Own_z0 (p0 := p0) p0N0 p0V0 p0N1 p0V1 x6) (pCons Sel.hc (pApp Sel.ha (pApp Sel.ha pNil))) (fun _ _ => trivial)) rfl ?_
  rintro _ _ ⟨_, ⟨v6a0, v6n0, v6c0, v6B0, v6N0, v6V0, rfl, rfl⟩, rfl⟩
  refine wl_val (v := .int .i64 (v6.length : Int)) (val_len tt_ok rfl rfl v6N0) rfl ?_
  refine wl_pure (v := .int .u64 (IntKind.wrap .u64 (v6.length : Int))) tt_ok rfl rfl ?_
  refine wl_pure (v := .int .u64 (IntKind.wrap .u64 (v4 + (IntKind.wrap .u64 (v6.length : Int))))) tt_ok rfl rfl ?_
  refine wl_pure tt_ok rfl rfl ?_
  refine wl_nil (wx_then (wc_ret ?_))
  simp only [Option.some.injEq] at h
  obtain rfl := h
  exact wx_rd tt_ok (.inl rfl) Tryd.results17 (Res.tmp rfl Res.nil) (pSub (pCons Sel.hc (pApp Sel.ha (pApp Sel.ha pNil)))) rfl

theorem k_rollback_Engine_Known_z0 {F : Nat} {p0 : T_rollback_Engine} {p0b p0t : Nat} {p0a0 : Option Addr} {p0n0 : Nat} {p0c0 : Nat} {p0B0 : List Blk} {p0a1 : Option Addr} {p0n1 : Nat} {p0c1 : Nat} {p0B1 : List Blk} {r0 : Int} (p0N0 : p0n0 = p0.sure.Shots.length) (p0V0 : Own 80 6 p0a0 p0n0 p0c0 (flat c_T_api_Shot p0.sure.Shots) p0B0) (p0N1 : p0n1 = p0.own.length) (p0V1 : Own 40 1 p0a1 p0n1 p0c1 (flat (e1 .u8) p0.own) p0B1) (h : m_rollback_Engine_Known_z0 F p0 = some r0) :
    Rd2 Tryd.prog 19 [.pointer (some ⟨p0b, 0, none⟩)] (⟨p0b, [.int .u8 p0.player, .int .i64 p0.window, .int .u64 p0.sure.Frame, .int .u64 p0.sure.Seed, .int .i32 p0.sure.Players.1.X, .int .i32 p0.sure.Players.1.Y, .int .i32 p0.sure.Players.1.VX, .int .i32 p0.sure.Players.1.VY, .int .u8 p0.sure.Players.1.Health, .int .u8 p0.sure.Players.1.Cool, .int .u8 p0.sure.Players.1.Face, .int .i32 p0.sure.Players.2.X, .int .i32 p0.sure.Players.2.Y, .int .i32 p0.sure.Players.2.VX, .int .i32 p0.sure.Players.2.VY, .int .u8 p0.sure.Players.2.Health, .int .u8 p0.sure.Players.2.Cool, .int .u8 p0.sure.Players.2.Face, .slice p0a0 p0n0 p0c0, .int .u16 p0.sure.Score.1, .int .u16 p0.sure.Score.2, .slice p0a1 p0n1 p0c1, .pointer none, .pointer none], p0t, (0, 0)⟩ :: (p0B0 ++ (p0B1 ++ []))) (fun w => True) (.int .u64 r0) := by
  unfold m_rollback_Engine_Known_z0 at h
  refine sp_of_wc Tryd.func19 rfl Tryd.ntmps19 rfl rfl (fun w0 hR => ?_)
  refine wc_seq (wc_region ?_)
  refine wl_pure tt_ok rfl rfl ?_
  refine wl_nil (wx_then (wc_seq (wc_seq (wc_region ?_))))
  refine wl_pure tt_ok rfl rfl ?_
  replace h := bsome h; obtain ⟨v4, x4, h⟩ := h
  refine wl_cq Tryd.call30 rfl rfl rfl (q_rd (k_rollback_Engine_is_z0 (p0 := p0) p0N0 p0V0 p0N1 p0V1 x4) (pCons Sel.hc (pApp Sel.ha (pApp Sel.ha pNil))) (fun _ _ => trivial)) rfl ?_
  refine wl_pure (v := .bool (!v4)) tt_ok rfl rfl ?_
  refine wl_nil (wx_then ?_)
  refine wc_cond rfl (fun hc => ?_) (fun hc => ?_)
  · replace h := ct hc h
    refine wc_seq (wc_region ?_)
    refine wl_pure tt_ok rfl rfl ?_
    refine wl_nil (wx_then (wc_ret (wx_then_ret ?_)))
    simp only [Option.some.injEq] at h
    obtain rfl := h
    exact wx_rd tt_ok (.inl rfl) Tryd.results19 (Res.tmp rfl Res.nil) (pSub (pCons Sel.hc (pApp Sel.ha (pApp Sel.ha pNil)))) rfl
  replace h := cf hc h
  refine wc_skip (wx_then (wc_seq (wc_region ?_)))
  iterate 2 refine wl_pure tt_ok rfl rfl ?_
  refine wl_pure (v := .pointer (some ⟨p0b, 22, none⟩)) tt_ok rfl rfl ?_
  refine wl_val (v := .pointer none) (val_load tt_ok rfl (List.Mem.head _) rfl) rfl ?_
  replace h := bsome h; obtain ⟨v10, x10, h⟩ := h
  refine wl_cq Tryd.call34 rfl rfl rfl (q_pf (k_queue_Queue_Known_nil0 x10) (fun _ _ => trivial)) rfl ?_
  refine wl_pure tt_ok rfl rfl ?_
  refine wl_nil (wx_then (wc_ret ?_))
  simp only [Option.some.injEq] at h
  obtain rfl := h
  exact wx_rd tt_ok (.inl rfl) Tryd.results19 (Res.tmp rfl Res.nil) (pSub (pCons Sel.hc (pApp Sel.ha (pApp Sel.ha pNil)))) rfl

theorem k_slices_Equal___api_Shot_api_Shot {F : Nat} {p0 : (List T_api_Shot)} {p0a0 : Option Addr} {p0n0 p0c0 : Nat} {p1 : (List T_api_Shot)} {p1a0 : Option Addr} {p1n0 p1c0 : Nat} {r0 : Bool} (p0N0 : p0n0 = p0.length) (p0H0 : p0n0 ≤ p0c0) (p1N0 : p1n0 = p1.length) (p1H0 : p1n0 ≤ p1c0) (h : m_slices_Equal___api_Shot_api_Shot F p0 p1 = some r0) :
    Pf Tryd.prog 41 [.slice p0a0 p0n0 p0c0, .slice p1a0 p1n0 p1c0] (fun w => Rds w [] [] p0a0 (flat c_T_api_Shot p0) ∧ Rds w [] [] p1a0 (flat c_T_api_Shot p1)) (.bool r0) := by
  unfold m_slices_Equal___api_Shot_api_Shot at h
  refine pf_of_wc Tryd.func41 rfl Tryd.ntmps41 rfl rfl (fun w0 hR => ?_)
  obtain ⟨p0S0, p1S0⟩ := hR
  refine wc_seq (wc_region ?_)
  refine wl_pure tt_ok rfl rfl ?_
  refine wl_nil (wx_then (wc_seq (wc_seq (wc_region ?_))))
  refine wl_pure tt_ok rfl rfl ?_
  refine wl_val (v := .int .i64 (p0.length : Int)) (val_len tt_ok rfl rfl p0N0) rfl ?_
  refine wl_pure tt_ok rfl rfl ?_
  refine wl_val (v := .int .i64 (p1.length : Int)) (val_len tt_ok rfl rfl p1N0) rfl ?_
  refine wl_pure (v := .bool ((p0.length : Int) != (p1.length : Int))) tt_ok rfl rfl ?_
  refine wl_nil (wx_then ?_)
  refine wc_cond rfl (fun hc => ?_) (fun hc => ?_)
  · replace h := ct hc h
    refine wc_seq (wc_region ?_)
    refine wl_pure tt_ok rfl rfl ?_
    refine wl_nil (wx_then (wc_ret (wx_then_ret ?_)))
    simp only [Option.some.injEq] at h
    obtain rfl := h
    exact wx_pf tt_ok (.inl rfl) Tryd.results41 (Res.tmp rfl Res.nil) rfl
  replace h := cf hc h
  refine wc_skip (wx_then (wc_seq (wc_seq (wc_region ?_))))
  refine wl_pure tt_ok rfl rfl ?_
  refine wl_val (v := .int .i64 (p0.length : Int)) (val_len tt_ok rfl rfl p0N0) rfl ?_
  refine wl_pure tt_ok rfl rfl ?_
  refine wl_nil (wx_then (wc_block ?_))
  replace h := bsome h; obtain ⟨o15, h, hl15⟩ := h
  refine wc_loop (fun m E L => ∃ (j15_13 : Int), m_slices_Equal___api_Shot_api_Shot_L14 F p0 p1 m j15_13 = some o15 ∧ E = [(0, .slice p0a0 p0n0 p0c0), (1, .slice p1a0 p1n0 p1c0), (4, .bool false), (12, .int .i64 (p0.length : Int)), (13, .int .i64 j15_13)] ∧ L = []) F ⟨(0 : Int), h, rfl, rfl⟩ (agree_cons rfl (agree_cons rfl (agree_cons rfl (agree_cons rfl (agree_cons rfl agree_nil))))) (pSub pNil) ?_
  clear h
  rintro m15 _ _ ⟨j15_13, h, rfl, rfl⟩
  rcases m15 with _ | m15
  · rw [m_slices_Equal___api_Shot_api_Shot_L14.eq_1] at h; cases h
  rw [m_slices_Equal___api_Shot_api_Shot_L14.eq_2] at h
  refine wc_seq (wc_region ?_)
  refine wl_pure (v := .bool (decide (j15_13 < (p0.length : Int)))) tt_ok rfl rfl ?_
  refine wl_nil (wx_then (wc_seq ?_))
  refine wc_cond rfl (fun hc => ?_) (fun hc => ?_)
  · replace h := ct hc h
    refine wc_skip (wx_then (wc_seq (wc_block (wc_seq (wc_region ?_)))))
    iterate 2 refine wl_pure tt_ok rfl rfl ?_
    refine wl_nil (wx_then (wc_seq ?_))
    refine wc_quiet (by kernel_rfl) (by kernel_rfl) ?_
    refine wq_pure tt_ok rfl rfl ?_
    refine wq_pure tt_ok rfl rfl ?_
    replace h := bsome h; obtain ⟨v18, x18, h⟩ := h
    refine wq_val (v := .pointer (some ((adOf p0a0).add (j15_13.toNat * 6 + 0)))) (val_ix (enc := c_T_api_Shot) tt_ok rfl rfl rfl rfl p0N0 p0S0 c_T_api_Shot_len rfl x18) rfl ?_
    refine wq_val (v := .agg #[.int .i32 v18.X, .int .i32 v18.Y, .int .i32 v18.VX, .int .i32 v18.VY, .int .u8 v18.Owner, .int .u8 v18.Life]) (val_le (enc := c_T_api_Shot) (xs := p0) tt_ok rfl p0S0 rsub_nil c_T_api_Shot_len x18 rfl) rfl ?_
    refine wq_pure tt_ok rfl rfl ?_
    refine wq_pure tt_ok rfl rfl ?_
    replace h := bsome h; obtain ⟨v22, x22, h⟩ := h
    refine wq_val (v := .pointer (some ((adOf p1a0).add (j15_13.toNat * 6 + 0)))) (val_ix (enc := c_T_api_Shot) tt_ok rfl rfl rfl rfl p1N0 p1S0 c_T_api_Shot_len rfl x22) rfl ?_
    refine wq_val (v := .agg #[.int .i32 v22.X, .int .i32 v22.Y, .int .i32 v22.VX, .int .i32 v22.VY, .int .u8 v22.Owner, .int .u8 v22.Life]) (val_le (enc := c_T_api_Shot) (xs := p1) tt_ok rfl p1S0 rsub_nil c_T_api_Shot_len x22 rfl) rfl ?_
    refine wq_val (v := .bool (!((v18.X == v22.X) && ((v18.Y == v22.Y) && ((v18.VX == v22.VX) && ((v18.VY == v22.VY) && ((v18.Owner == v22.Owner) && (v18.Life == v22.Life)))))))) (val_nes tt_ok tt_eq tt_one Tryd.eqGuardType80 rfl rfl rfl rfl rfl) rfl ?_
    refine wq_nil ?_
    refine wx_then ?_
    refine wc_cond rfl (fun hc => ?_) (fun hc => ?_)
    · replace h := ct hc h
      refine wc_seq (wc_region ?_)
      refine wl_pure tt_ok rfl rfl ?_
      refine wl_nil (wx_then (wc_ret (wx_block_ret (wx_then_ret ?_))))
      obtain rfl := Option.some.inj h
      have h := hl15; clear hl15; try dsimp only [orE_l, orE_r] at h
      refine wx_then_ret (wx_block_ret (wx_then_ret ?_))
      simp only [Option.some.injEq] at h
      obtain rfl := h
      exact wx_pf tt_ok (.inl rfl) Tryd.results41 (Res.tmp rfl Res.nil) rfl
    replace h := cf hc h
    refine wc_skip (wx_block (wx_then (wc_region ?_)))
    refine wl_pure (v := .int .i64 (IntKind.wrap .i64 (j15_13 + (1 : Int)))) tt_ok rfl rfl ?_
    refine wl_pure tt_ok rfl rfl ?_
    refine wl_nil ?_
    exact wx_round m15 (Nat.lt_succ_self m15) ⟨(IntKind.wrap .i64 (j15_13 + (1 : Int))), h, rfl, rfl⟩ (agree_cons rfl (agree_cons rfl (agree_cons rfl (agree_cons rfl (agree_cons rfl agree_nil))))) (pSub pNil)
  replace h := cf hc h
  refine wc_exit (wx_then_exit ?_)
  obtain rfl := Option.some.inj h
  have h := hl15; clear hl15; try dsimp only [orE_l, orE_r] at h
  refine wx_then_exit (wx_block_exit (wx_then (wc_seq (wc_region ?_))))
  refine wl_pure tt_ok rfl rfl ?_
  refine wl_nil (wx_then (wc_ret ?_))
  simp only [Option.some.injEq] at h
  obtain rfl := h
  exact wx_pf tt_ok (.inl rfl) Tryd.results41 (Res.tmp rfl Res.nil) rfl

theorem k_state_Same {F : Nat} {p0 : T_api_State} {p0a0 : Option Addr} {p0n0 p0c0 : Nat} {p1 : T_api_State} {p1a0 : Option Addr} {p1n0 p1c0 : Nat} {r0 : Bool} (p0N0 : p0n0 = p0.Shots.length) (p0H0 : p0n0 ≤ p0c0) (p1N0 : p1n0 = p1.Shots.length) (p1H0 : p1n0 ≤ p1c0) (h : m_state_Same F p0 p1 = some r0) :
    Pf Tryd.prog 14 [.agg #[.int .u64 p0.Frame, .int .u64 p0.Seed, .int .i32 p0.Players.1.X, .int .i32 p0.Players.1.Y, .int .i32 p0.Players.1.VX, .int .i32 p0.Players.1.VY, .int .u8 p0.Players.1.Health, .int .u8 p0.Players.1.Cool, .int .u8 p0.Players.1.Face, .int .i32 p0.Players.2.X, .int .i32 p0.Players.2.Y, .int .i32 p0.Players.2.VX, .int .i32 p0.Players.2.VY, .int .u8 p0.Players.2.Health, .int .u8 p0.Players.2.Cool, .int .u8 p0.Players.2.Face, .slice p0a0 p0n0 p0c0, .int .u16 p0.Score.1, .int .u16 p0.Score.2], .agg #[.int .u64 p1.Frame, .int .u64 p1.Seed, .int .i32 p1.Players.1.X, .int .i32 p1.Players.1.Y, .int .i32 p1.Players.1.VX, .int .i32 p1.Players.1.VY, .int .u8 p1.Players.1.Health, .int .u8 p1.Players.1.Cool, .int .u8 p1.Players.1.Face, .int .i32 p1.Players.2.X, .int .i32 p1.Players.2.Y, .int .i32 p1.Players.2.VX, .int .i32 p1.Players.2.VY, .int .u8 p1.Players.2.Health, .int .u8 p1.Players.2.Cool, .int .u8 p1.Players.2.Face, .slice p1a0 p1n0 p1c0, .int .u16 p1.Score.1, .int .u16 p1.Score.2]] (fun w => Rds w [] [] p0a0 (flat c_T_api_Shot p0.Shots) ∧ Rds w [] [] p1a0 (flat c_T_api_Shot p1.Shots)) (.bool r0) := by
  unfold m_state_Same at h
  refine pf_of_wc Tryd.func14 rfl Tryd.ntmps14 rfl rfl (fun w0 hR => ?_)
  obtain ⟨p0S0, p1S0⟩ := hR
  refine wc_seq (wc_region ?_)
  refine wl_box rfl rfl rfl (fun b2 => ?_)
  refine wl_box rfl rfl rfl (fun b3 => ?_)
  refine wl_pure tt_ok rfl rfl ?_
  refine wl_nil (wx_then (wc_seq (wc_region ?_)))
  refine wl_pure (v := .pointer (some ⟨b2, 0, none⟩)) tt_ok rfl rfl ?_
  refine wl_val (v := .int .u64 p0.Frame) (val_load tt_ok rfl (List.Mem.tail _ (List.Mem.head _)) rfl) rfl ?_
  refine wl_pure (v := .pointer (some ⟨b3, 0, none⟩)) tt_ok rfl rfl ?_
  refine wl_val (v := .int .u64 p1.Frame) (val_load tt_ok rfl (List.Mem.head _) rfl) rfl ?_
  refine wl_pure (v := .bool (p0.Frame == p1.Frame)) tt_ok rfl rfl ?_
  refine wl_pure tt_ok rfl rfl ?_
  replace h := bsome h; obtain ⟨v16, h, hg16⟩ := h
  refine wl_split (t := 10) rfl (fun hc => ?_) (fun hc => ?_)
  · replace h := ct hc h
    refine wl_run rfl ?_
    refine wl_pure (v := .pointer (some ⟨b2, 1, none⟩)) tt_ok rfl rfl ?_
    refine wl_run rfl ?_
    refine wl_val (v := .int .u64 p0.Seed) (val_load tt_ok rfl (List.Mem.tail _ (List.Mem.head _)) rfl) rfl ?_
    refine wl_run rfl ?_
    refine wl_pure (v := .pointer (some ⟨b3, 1, none⟩)) tt_ok rfl rfl ?_
    refine wl_run rfl ?_
    refine wl_val (v := .int .u64 p1.Seed) (val_load tt_ok rfl (List.Mem.head _) rfl) rfl ?_
    refine wl_run rfl ?_
    refine wl_pure (v := .bool (p0.Seed == p1.Seed)) tt_ok rfl rfl ?_
    simp only [Option.some.injEq, Prod.mk.injEq] at h
    obtain rfl := h
    have h := hg16; clear hg16
    refine wl_pure (v := .bool (p0.Seed == p1.Seed)) tt_ok rfl rfl ?_
    refine wl_pure tt_ok rfl rfl ?_
    replace h := bsome h; obtain ⟨v23, h, hg23⟩ := h
    refine wl_split (t := 17) rfl (fun hc => ?_) (fun hc => ?_)
    · replace h := ct hc h
      refine wl_run rfl ?_
      refine wl_pure (v := .pointer (some ⟨b2, 2, none⟩)) tt_ok rfl rfl ?_
      refine wl_run rfl ?_
      refine wl_val (v := .agg #[.int .i32 p0.Players.1.X, .int .i32 p0.Players.1.Y, .int .i32 p0.Players.1.VX, .int .i32 p0.Players.1.VY, .int .u8 p0.Players.1.Health, .int .u8 p0.Players.1.Cool, .int .u8 p0.Players.1.Face, .int .i32 p0.Players.2.X, .int .i32 p0.Players.2.Y, .int .i32 p0.Players.2.VX, .int .i32 p0.Players.2.VY, .int .u8 p0.Players.2.Health, .int .u8 p0.Players.2.Cool, .int .u8 p0.Players.2.Face]) (val_load tt_ok rfl (List.Mem.tail _ (List.Mem.head _)) rfl) rfl ?_
      refine wl_run rfl ?_
      refine wl_pure (v := .pointer (some ⟨b3, 2, none⟩)) tt_ok rfl rfl ?_
      refine wl_run rfl ?_
      refine wl_val (v := .agg #[.int .i32 p1.Players.1.X, .int .i32 p1.Players.1.Y, .int .i32 p1.Players.1.VX, .int .i32 p1.Players.1.VY, .int .u8 p1.Players.1.Health, .int .u8 p1.Players.1.Cool, .int .u8 p1.Players.1.Face, .int .i32 p1.Players.2.X, .int .i32 p1.Players.2.Y, .int .i32 p1.Players.2.VX, .int .i32 p1.Players.2.VY, .int .u8 p1.Players.2.Health, .int .u8 p1.Players.2.Cool, .int .u8 p1.Players.2.Face]) (val_load tt_ok rfl (List.Mem.head _) rfl) rfl ?_
      refine wl_run rfl ?_
      refine wl_val (v := .bool (((p0.Players.1.X == p1.Players.1.X) && ((p0.Players.1.Y == p1.Players.1.Y) && ((p0.Players.1.VX == p1.Players.1.VX) && ((p0.Players.1.VY == p1.Players.1.VY) && ((p0.Players.1.Health == p1.Players.1.Health) && ((p0.Players.1.Cool == p1.Players.1.Cool) && (p0.Players.1.Face == p1.Players.1.Face))))))) && ((p0.Players.2.X == p1.Players.2.X) && ((p0.Players.2.Y == p1.Players.2.Y) && ((p0.Players.2.VX == p1.Players.2.VX) && ((p0.Players.2.VY == p1.Players.2.VY) && ((p0.Players.2.Health == p1.Players.2.Health) && ((p0.Players.2.Cool == p1.Players.2.Cool) && (p0.Players.2.Face == p1.Players.2.Face))))))))) (val_eqs tt_ok tt_eq tt_one Tryd.eqGuardType31 rfl rfl rfl rfl rfl) rfl ?_
      simp only [Option.some.injEq, Prod.mk.injEq] at h
      obtain rfl := h
      have h := hg23; clear hg23
      refine wl_pure (v := .bool (((p0.Players.1.X == p1.Players.1.X) && ((p0.Players.1.Y == p1.Players.1.Y) && ((p0.Players.1.VX == p1.Players.1.VX) && ((p0.Players.1.VY == p1.Players.1.VY) && ((p0.Players.1.Health == p1.Players.1.Health) && ((p0.Players.1.Cool == p1.Players.1.Cool) && (p0.Players.1.Face == p1.Players.1.Face))))))) && ((p0.Players.2.X == p1.Players.2.X) && ((p0.Players.2.Y == p1.Players.2.Y) && ((p0.Players.2.VX == p1.Players.2.VX) && ((p0.Players.2.VY == p1.Players.2.VY) && ((p0.Players.2.Health == p1.Players.2.Health) && ((p0.Players.2.Cool == p1.Players.2.Cool) && (p0.Players.2.Face == p1.Players.2.Face))))))))) tt_ok rfl rfl ?_
      refine wl_pure tt_ok rfl rfl ?_
      replace h := bsome h; obtain ⟨v30, h, hg30⟩ := h
      refine wl_split (t := 24) rfl (fun hc => ?_) (fun hc => ?_)
      · replace h := ct hc h
        refine wl_run rfl ?_
        refine wl_pure (v := .pointer (some ⟨b2, 17, none⟩)) tt_ok rfl rfl ?_
        refine wl_run rfl ?_
        refine wl_val (v := .agg #[.int .u16 p0.Score.1, .int .u16 p0.Score.2]) (val_load tt_ok rfl (List.Mem.tail _ (List.Mem.head _)) rfl) rfl ?_
        refine wl_run rfl ?_
        refine wl_pure (v := .pointer (some ⟨b3, 17, none⟩)) tt_ok rfl rfl ?_
        refine wl_run rfl ?_
        refine wl_val (v := .agg #[.int .u16 p1.Score.1, .int .u16 p1.Score.2]) (val_load tt_ok rfl (List.Mem.head _) rfl) rfl ?_
        refine wl_run rfl ?_
        refine wl_val (v := .bool ((p0.Score.1 == p1.Score.1) && (p0.Score.2 == p1.Score.2))) (val_eqs tt_ok tt_eq tt_one Tryd.eqGuardType34 rfl rfl rfl rfl rfl) rfl ?_
        simp only [Option.some.injEq, Prod.mk.injEq] at h
        obtain rfl := h
        have h := hg30; clear hg30
        refine wl_pure (v := .bool ((p0.Score.1 == p1.Score.1) && (p0.Score.2 == p1.Score.2))) tt_ok rfl rfl ?_
        refine wl_pure tt_ok rfl rfl ?_
        replace h := bsome h; obtain ⟨v37, h, hg37⟩ := h
        refine wl_split (t := 31) rfl (fun hc => ?_) (fun hc => ?_)
        · replace h := ct hc h
          refine wl_run rfl ?_
          refine wl_pure (v := .pointer (some ⟨b2, 16, none⟩)) tt_ok rfl rfl ?_
          refine wl_run rfl ?_
          refine wl_val (v := .slice p0a0 p0n0 p0c0) (val_load tt_ok rfl (List.Mem.tail _ (List.Mem.head _)) rfl) rfl ?_
          refine wl_run rfl ?_
          refine wl_pure (v := .pointer (some ⟨b3, 16, none⟩)) tt_ok rfl rfl ?_
          refine wl_run rfl ?_
          refine wl_val (v := .slice p1a0 p1n0 p1c0) (val_load tt_ok rfl (List.Mem.head _) rfl) rfl ?_
          replace h := bsome h; obtain ⟨v36, x36, h⟩ := h
          refine wl_run rfl ?_
          refine wl_cq Tryd.call41 rfl rfl rfl (q_pf (k_slices_Equal___api_Shot_api_Shot (p0 := p0.Shots) (p1 := p1.Shots) p0N0 p0H0 p1N0 p1H0 x36) (fun w hI => ⟨(Rds.call p0S0 pNil rsub_nil) w hI, (Rds.call p1S0 pNil rsub_nil) w hI⟩)) rfl ?_
          simp only [Option.some.injEq, Prod.mk.injEq] at h
          obtain rfl := h
          have h := hg37; clear hg37
          refine wl_pure (v := .bool v36) tt_ok rfl rfl ?_
          refine wl_pure tt_ok rfl rfl ?_
          refine wl_nil (wx_then (wc_ret ?_))
          simp only [Option.some.injEq] at h
          obtain rfl := h
          exact wx_pf tt_ok (.inl rfl) Tryd.results14 (Res.tmp rfl Res.nil) rfl
        replace h := cf hc h
        refine wl_skip rfl rfl ?_
        refine wl_skip rfl rfl ?_
        refine wl_skip rfl rfl ?_
        refine wl_skip rfl rfl ?_
        refine wl_skip rfl rfl ?_
        simp only [Option.some.injEq, Prod.mk.injEq] at h
        obtain rfl := h
        have h := hg37; clear hg37
        refine wl_pure (v := .bool false) tt_ok rfl rfl ?_
        refine wl_pure tt_ok rfl rfl ?_
        refine wl_nil (wx_then (wc_ret ?_))
        simp only [Option.some.injEq] at h
        obtain rfl := h
        exact wx_pf tt_ok (.inl rfl) Tryd.results14 (Res.tmp rfl Res.nil) rfl
      replace h := cf hc h
      refine wl_skip rfl rfl ?_
      refine wl_skip rfl rfl ?_
      refine wl_skip rfl rfl ?_
      refine wl_skip rfl rfl ?_
      refine wl_skip rfl rfl ?_
      simp only [Option.some.injEq, Prod.mk.injEq] at h
      obtain rfl := h
      have h := hg30; clear hg30
      refine wl_pure (v := .bool false) tt_ok rfl rfl ?_
      refine wl_pure tt_ok rfl rfl ?_
      replace h := bsome h; obtain ⟨v37, h, hg37⟩ := h
      replace h := cf rfl h
      refine wl_skip rfl rfl ?_
      refine wl_skip rfl rfl ?_
      refine wl_skip rfl rfl ?_
      refine wl_skip rfl rfl ?_
      refine wl_skip rfl rfl ?_
      simp only [Option.some.injEq, Prod.mk.injEq] at h
      obtain rfl := h
      have h := hg37; clear hg37
      refine wl_pure (v := .bool false) tt_ok rfl rfl ?_
      refine wl_pure tt_ok rfl rfl ?_
      refine wl_nil (wx_then (wc_ret ?_))
      simp only [Option.some.injEq] at h
      obtain rfl := h
      exact wx_pf tt_ok (.inl rfl) Tryd.results14 (Res.tmp rfl Res.nil) rfl
    replace h := cf hc h
    refine wl_skip rfl rfl ?_
    refine wl_skip rfl rfl ?_
    refine wl_skip rfl rfl ?_
    refine wl_skip rfl rfl ?_
    refine wl_skip rfl rfl ?_
    simp only [Option.some.injEq, Prod.mk.injEq] at h
    obtain rfl := h
    have h := hg23; clear hg23
    refine wl_pure (v := .bool false) tt_ok rfl rfl ?_
    refine wl_pure tt_ok rfl rfl ?_
    replace h := bsome h; obtain ⟨v30, h, hg30⟩ := h
    replace h := cf rfl h
    refine wl_skip rfl rfl ?_
    refine wl_skip rfl rfl ?_
    refine wl_skip rfl rfl ?_
    refine wl_skip rfl rfl ?_
    refine wl_skip rfl rfl ?_
    simp only [Option.some.injEq, Prod.mk.injEq] at h
    obtain rfl := h
    have h := hg30; clear hg30
    refine wl_pure (v := .bool false) tt_ok rfl rfl ?_
    refine wl_pure tt_ok rfl rfl ?_
    replace h := bsome h; obtain ⟨v37, h, hg37⟩ := h
    replace h := cf rfl h
    refine wl_skip rfl rfl ?_
    refine wl_skip rfl rfl ?_
    refine wl_skip rfl rfl ?_
    refine wl_skip rfl rfl ?_
    refine wl_skip rfl rfl ?_
    simp only [Option.some.injEq, Prod.mk.injEq] at h
    obtain rfl := h
    have h := hg37; clear hg37
    refine wl_pure (v := .bool false) tt_ok rfl rfl ?_
    refine wl_pure tt_ok rfl rfl ?_
    refine wl_nil (wx_then (wc_ret ?_))
    simp only [Option.some.injEq] at h
    obtain rfl := h
    exact wx_pf tt_ok (.inl rfl) Tryd.results14 (Res.tmp rfl Res.nil) rfl
  replace h := cf hc h
  refine wl_skip rfl rfl ?_
  refine wl_skip rfl rfl ?_
  refine wl_skip rfl rfl ?_
  refine wl_skip rfl rfl ?_
  refine wl_skip rfl rfl ?_
  simp only [Option.some.injEq, Prod.mk.injEq] at h
  obtain rfl := h
  have h := hg16; clear hg16
  refine wl_pure (v := .bool false) tt_ok rfl rfl ?_
  refine wl_pure tt_ok rfl rfl ?_
  replace h := bsome h; obtain ⟨v23, h, hg23⟩ := h
  replace h := cf rfl h
  refine wl_skip rfl rfl ?_
  refine wl_skip rfl rfl ?_
  refine wl_skip rfl rfl ?_
  refine wl_skip rfl rfl ?_
  refine wl_skip rfl rfl ?_
  simp only [Option.some.injEq, Prod.mk.injEq] at h
  obtain rfl := h
  have h := hg23; clear hg23
  refine wl_pure (v := .bool false) tt_ok rfl rfl ?_
  refine wl_pure tt_ok rfl rfl ?_
  replace h := bsome h; obtain ⟨v30, h, hg30⟩ := h
  replace h := cf rfl h
  refine wl_skip rfl rfl ?_
  refine wl_skip rfl rfl ?_
  refine wl_skip rfl rfl ?_
  refine wl_skip rfl rfl ?_
  refine wl_skip rfl rfl ?_
  simp only [Option.some.injEq, Prod.mk.injEq] at h
  obtain rfl := h
  have h := hg30; clear hg30
  refine wl_pure (v := .bool false) tt_ok rfl rfl ?_
  refine wl_pure tt_ok rfl rfl ?_
  replace h := bsome h; obtain ⟨v37, h, hg37⟩ := h
  replace h := cf rfl h
  refine wl_skip rfl rfl ?_
  refine wl_skip rfl rfl ?_
  refine wl_skip rfl rfl ?_
  refine wl_skip rfl rfl ?_
  refine wl_skip rfl rfl ?_
  simp only [Option.some.injEq, Prod.mk.injEq] at h
  obtain rfl := h
  have h := hg37; clear hg37
  refine wl_pure (v := .bool false) tt_ok rfl rfl ?_
  refine wl_pure tt_ok rfl rfl ?_
  refine wl_nil (wx_then (wc_ret ?_))
  simp only [Option.some.injEq] at h
  obtain rfl := h
  exact wx_pf tt_ok (.inl rfl) Tryd.results14 (Res.tmp rfl Res.nil) rfl

theorem k_rollback_Engine_State_z0 {F : Nat} {p0 : T_rollback_Engine} {p0b p0t : Nat} {p0a0 : Option Addr} {p0n0 : Nat} {p0c0 : Nat} {p0B0 : List Blk} {p0a1 : Option Addr} {p0n1 : Nat} {p0c1 : Nat} {p0B1 : List Blk} {r0 : T_api_State} (p0N0 : p0n0 = p0.sure.Shots.length) (p0V0 : Own 80 6 p0a0 p0n0 p0c0 (flat c_T_api_Shot p0.sure.Shots) p0B0) (p0N1 : p0n1 = p0.own.length) (p0V1 : Own 40 1 p0a1 p0n1 p0c1 (flat (e1 .u8) p0.own) p0B1) (h : m_rollback_Engine_State_z0 F p0 = some r0) :
    SpD Tryd.prog 15 [.pointer (some ⟨p0b, 0, none⟩)] (⟨p0b, [.int .u8 p0.player, .int .i64 p0.window, .int .u64 p0.sure.Frame, .int .u64 p0.sure.Seed, .int .i32 p0.sure.Players.1.X, .int .i32 p0.sure.Players.1.Y, .int .i32 p0.sure.Players.1.VX, .int .i32 p0.sure.Players.1.VY, .int .u8 p0.sure.Players.1.Health, .int .u8 p0.sure.Players.1.Cool, .int .u8 p0.sure.Players.1.Face, .int .i32 p0.sure.Players.2.X, .int .i32 p0.sure.Players.2.Y, .int .i32 p0.sure.Players.2.VX, .int .i32 p0.sure.Players.2.VY, .int .u8 p0.sure.Players.2.Health, .int .u8 p0.sure.Players.2.Cool, .int .u8 p0.sure.Players.2.Face, .slice p0a0 p0n0 p0c0, .int .u16 p0.sure.Score.1, .int .u16 p0.sure.Score.2, .slice p0a1 p0n1 p0c1, .pointer none, .pointer none], p0t, (0, 0)⟩ :: (p0B0 ++ (p0B1 ++ []))) (fun w => True) (fun v D => ∃ (r0a0 : Option Addr) (r0n0 : Nat) (r0c0 : Nat) (r0B0 : List Blk), r0n0 = r0.Shots.length ∧ Own 80 6 r0a0 r0n0 r0c0 (flat c_T_api_Shot r0.Shots) r0B0 ∧ v = .agg #[.int .u64 r0.Frame, .int .u64 r0.Seed, .int .i32 r0.Players.1.X, .int .i32 r0.Players.1.Y, .int .i32 r0.Players.1.VX, .int .i32 r0.Players.1.VY, .int .u8 r0.Players.1.Health, .int .u8 r0.Players.1.Cool, .int .u8 r0.Players.1.Face, .int .i32 r0.Players.2.X, .int .i32 r0.Players.2.Y, .int .i32 r0.Players.2.VX, .int .i32 r0.Players.2.VY, .int .u8 r0.Players.2.Health, .int .u8 r0.Players.2.Cool, .int .u8 r0.Players.2.Face, .slice r0a0 r0n0 r0c0, .int .u16 r0.Score.1, .int .u16 r0.Score.2] ∧ D = fun F => (⟨p0b, [.int .u8 p0.player, .int .i64 p0.window, .int .u64 p0.sure.Frame, .int .u64 p0.sure.Seed, .int .i32 p0.sure.Players.1.X, .int .i32 p0.sure.Players.1.Y, .int .i32 p0.sure.Players.1.VX, .int .i32 p0.sure.Players.1.VY, .int .u8 p0.sure.Players.1.Health, .int .u8 p0.sure.Players.1.Cool, .int .u8 p0.sure.Players.1.Face, .int .i32 p0.sure.Players.2.X, .int .i32 p0.sure.Players.2.Y, .int .i32 p0.sure.Players.2.VX, .int .i32 p0.sure.Players.2.VY, .int .u8 p0.sure.Players.2.Health, .int .u8 p0.sure.Players.2.Cool, .int .u8 p0.sure.Players.2.Face, .slice p0a0 p0n0 p0c0, .int .u16 p0.sure.Score.1, .int .u16 p0.sure.Score.2, .slice p0a1 p0n1 p0c1, .pointer none, .pointer none], p0t, (0, 0)⟩ :: (p0B0 ++ (p0B1 ++ (r0B0 ++ F))))) := by
  unfold m_rollback_Engine_State_z0 at h
  refine sp_of_wc Tryd.func15 rfl Tryd.ntmps15 rfl rfl (fun w0 hR => ?_)
  refine wc_seq (wc_region ?_)
  refine wl_alloc tt_ok rfl rfl (fun b2 => ?_)
  refine wl_nil (wx_then (wc_seq (wc_seq (wc_region ?_))))
  refine wl_pure tt_ok rfl rfl ?_
  replace h := bsome h; obtain ⟨v4, x4, h⟩ := h
  refine wl_cq Tryd.call30 rfl rfl rfl (q_rd (k_rollback_Engine_is_z0 (p0 := p0) p0N0 p0V0 p0N1 p0V1 x4) (pCons (Sel.sc Sel.hc) (pApp (Sel.sc Sel.ha) (pApp (Sel.sc Sel.ha) pNil))) (fun _ _ => trivial)) rfl ?_
  refine wl_pure (v := .bool (!v4)) tt_ok rfl rfl ?_
  refine wl_nil (wx_then ?_)
  refine wc_cond rfl (fun hc => ?_) (fun hc => ?_)
  · replace h := ct hc h
    refine wc_seq (wc_region ?_)
    refine wl_pure (v := .agg #[.int .u64 (0 : Int), .int .u64 (0 : Int), .int .i32 (0 : Int), .int .i32 (0 : Int), .int .i32 (0 : Int), .int .i32 (0 : Int), .int .u8 (0 : Int), .int .u8 (0 : Int), .int .u8 (0 : Int), .int .i32 (0 : Int), .int .i32 (0 : Int), .int .i32 (0 : Int), .int .i32 (0 : Int), .int .u8 (0 : Int), .int .u8 (0 : Int), .int .u8 (0 : Int), .slice none 0 0, .int .u16 (0 : Int), .int .u16 (0 : Int)]) tt_ok rfl rfl ?_
    apply wl_store tt_ok; rfl; exact Upd.here; rfl; rfl; rfl; rfl; rfl; rfl
    refine wl_nil (wx_then (wc_ret (wx_then_ret ?_)))
    simp only [Option.some.injEq] at h
    obtain rfl := h
    exact wx_spD tt_ok (.inl rfl) Tryd.results15 (Res.cell rfl (List.Mem.head _) rfl Res.nil) ⟨none, 0, 0, [], rfl, Own.zero, rfl, rfl⟩ (fun F => by simp) (pSub (pCons (Sel.sc Sel.hc) (pApp (Sel.sc Sel.ha) (pApp (Sel.sc Sel.ha) (pNo pNil)))))
  replace h := cf hc h
  refine wc_skip (wx_then (wc_seq (wc_region ?_)))
  iterate 2 refine wl_pure tt_ok rfl rfl ?_
  refine wl_pure (v := .pointer (some ⟨p0b, 2, none⟩)) tt_ok rfl rfl ?_
  refine wl_val (v := .agg #[.int .u64 p0.sure.Frame, .int .u64 p0.sure.Seed, .int .i32 p0.sure.Players.1.X, .int .i32 p0.sure.Players.1.Y, .int .i32 p0.sure.Players.1.VX, .int .i32 p0.sure.Players.1.VY, .int .u8 p0.sure.Players.1.Health, .int .u8 p0.sure.Players.1.Cool, .int .u8 p0.sure.Players.1.Face, .int .i32 p0.sure.Players.2.X, .int .i32 p0.sure.Players.2.Y, .int .i32 p0.sure.Players.2.VX, .int .i32 p0.sure.Players.2.VY, .int .u8 p0.sure.Players.2.Health, .int .u8 p0.sure.Players.2.Cool, .int .u8 p0.sure.Players.2.Face, .slice p0a0 p0n0 p0c0, .int .u16 p0.sure.Score.1, .int .u16 p0.sure.Score.2]) (val_load tt_ok rfl (List.Mem.tail _ (List.Mem.head _)) rfl) rfl ?_
  replace h := bsome h; obtain ⟨v11, x11, h⟩ := h
  refine wl_cs Tryd.call26 rfl rfl rfl (s_sp (k_state_Copy (p0 := p0.sure) p0N0 (vec_cap p0V0) x11) pNil (Rds.call (Rds.of_vec p0V0) pNil ⟨_, (Sel.sc (Sel.sc Sel.ha))⟩)) rfl ?_
  rintro _ _ ⟨_, ⟨v11a0, v11n0, v11c0, v11B0, v11N0, v11V0, rfl, rfl⟩, rfl⟩
  apply wl_store tt_ok; rfl; exact (Upd.right Upd.here); rfl; rfl; rfl; rfl; rfl; rfl
  refine wl_nil (wx_then (wc_ret ?_))
  simp only [Option.some.injEq] at h
  obtain rfl := h
  exact wx_spD tt_ok (.inl rfl) Tryd.results15 (Res.cell rfl (mR (List.Mem.head _)) rfl Res.nil) ⟨v11a0, v11n0, v11c0, v11B0, v11N0, v11V0, rfl, rfl⟩ (fun F => by simp) (pSub (pCons (Sel.sa (Sel.sc Sel.hc)) (pApp (Sel.sa (Sel.sc Sel.ha)) (pApp (Sel.sa (Sel.sc Sel.ha)) (pApp Sel.ha pNil)))))

end Go.Proofs.YtkekgagekgadmaaDoor
