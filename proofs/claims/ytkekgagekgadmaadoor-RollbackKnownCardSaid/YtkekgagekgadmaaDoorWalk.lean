/-
  Each function computes what its model says. Printed by a program of this claim's own.
-/
import Derived.Test.YtkekgagekgadmaaDoorTab
import Derived.Test.YtkekgagekgadmaaDoorMod
import Derived.Test.YtkekgagekgadmaaDoorWalk4
namespace Go.Proofs.YtkekgagekgadmaaDoor
open Go.Proofs.YtkekgagekgadmaaDoor.Eng
set_option linter.unusedVariables false
set_option linter.unusedSimpArgs false
set_option maxHeartbeats 4000000
set_option maxRecDepth 20000

theorem k_hindcastlaw26_RollbackKnown {F : Nat} {r0 : Bool} (h : m_hindcastlaw26_RollbackKnown F = some r0) :
    Pf Tryd.prog 4 [] (fun w => Rds w [] [] (some ⟨0, 0, none⟩) (flat (fun _ : Unit => gl_state_playerBounds) [()]) ∧ Rds w [] [] (some ⟨1, 0, none⟩) (flat (fun _ : Unit => gl_state_shotBounds) [()])) (.bool r0) := by
  unfold m_hindcastlaw26_RollbackKnown at h
  refine pf_of_wc Tryd.func4 rfl Tryd.ntmps4 rfl rfl (fun w0 hR => ?_)
  obtain ⟨G0S, G1S⟩ := hR
  refine wc_seq (wc_region ?_)
  refine wl_pure tt_ok rfl rfl ?_
  refine wl_nil (wx_then (wc_seq (wc_region ?_)))
  replace h := bsome h; obtain ⟨v17, x17, h⟩ := h
  refine wl_cs Tryd.call8 rfl rfl rfl (s_sp (k_state_Start x17) pNil (fun _ _ => trivial)) rfl ?_
  rintro _ _ ⟨_, ⟨v17a0, v17n0, v17c0, v17B0, v17N0, v17V0, rfl, rfl⟩, rfl⟩
  replace h := bsome h; obtain ⟨v18, x18, h⟩ := h
  rcases v18 with _ | v18s
  · replace h := poN h
    refine wl_cs Tryd.call7 rfl rfl rfl (s_sp (k_rollback_New_none (p0 := v17) v17N0 (vec_cap v17V0) (own_Z v17V0) x18) pNil (fun w hI => ⟨(Rds.call (Rds.of_vec v17V0) pNil ⟨_, Sel.ha⟩) w hI, (Rds.call G0S pNil rsub_nil) w hI, (Rds.call G1S pNil rsub_nil) w hI⟩)) rfl ?_
    rintro _ _ ⟨_, ⟨rfl, rfl⟩, rfl⟩
    refine wl_pure tt_ok rfl rfl ?_
    refine wl_nil (wx_then (wc_seq (wc_seq (wc_region ?_))))
    refine wl_pure tt_ok rfl rfl ?_
    refine wl_pure (v := .bool true) tt_ok rfl rfl ?_
    refine wl_pure tt_ok rfl rfl ?_
    refine wl_skip rfl rfl ?_
    refine wl_skip rfl rfl ?_
    refine wl_pure (v := .bool true) tt_ok rfl rfl ?_
    refine wl_pure tt_ok rfl rfl ?_
    refine wl_skip rfl rfl ?_
    refine wl_skip rfl rfl ?_
    refine wl_skip rfl rfl ?_
    refine wl_pure (v := .bool true) tt_ok rfl rfl ?_
    refine wl_pure tt_ok rfl rfl ?_
    refine wl_skip rfl rfl ?_
    refine wl_skip rfl rfl ?_
    refine wl_skip rfl rfl ?_
    refine wl_pure (v := .bool true) tt_ok rfl rfl ?_
    refine wl_pure tt_ok rfl rfl ?_
    refine wl_skip rfl rfl ?_
    refine wl_skip rfl rfl ?_
    refine wl_skip rfl rfl ?_
    refine wl_pure (v := .bool true) tt_ok rfl rfl ?_
    refine wl_pure tt_ok rfl rfl ?_
    refine wl_skip rfl rfl ?_
    refine wl_skip rfl rfl ?_
    refine wl_skip rfl rfl ?_
    refine wl_pure (v := .bool true) tt_ok rfl rfl ?_
    refine wl_pure tt_ok rfl rfl ?_
    refine wl_skip rfl rfl ?_
    refine wl_skip rfl rfl ?_
    refine wl_skip rfl rfl ?_
    refine wl_pure (v := .bool true) tt_ok rfl rfl ?_
    refine wl_pure tt_ok rfl rfl ?_
    refine wl_skip rfl rfl ?_
    refine wl_skip rfl rfl ?_
    refine wl_skip rfl rfl ?_
    refine wl_pure (v := .bool true) tt_ok rfl rfl ?_
    refine wl_nil (wx_then ?_)
    refine wc_cond_true rfl ?_
    refine wc_seq (wc_region ?_)
    refine wl_pure tt_ok rfl rfl ?_
    refine wl_nil (wx_then (wc_ret (wx_then_ret ?_)))
    simp only [Option.some.injEq] at h
    obtain rfl := h
    exact wx_pf tt_ok (.inl rfl) Tryd.results4 (Res.tmp rfl Res.nil) rfl
  replace h := poS h
  refine wl_cs Tryd.call7 rfl rfl rfl (s_sp (k_rollback_New (p0 := v17) v17N0 (vec_cap v17V0) (own_Z v17V0) x18) pNil (fun w hI => ⟨(Rds.call (Rds.of_vec v17V0) pNil ⟨_, Sel.ha⟩) w hI, (Rds.call G0S pNil rsub_nil) w hI, (Rds.call G1S pNil rsub_nil) w hI⟩)) rfl ?_
  rintro _ _ ⟨_, ⟨b18_0, b18_0_4, b18_0_5, v18sa0, v18sn0, v18sc0, v18sB0, v18sa1, v18sn1, v18sc1, v18sB1, v18s_4a0, v18s_4n0, v18s_4c0, v18s_4B0, v18s_5g0, v18s_5P0, v18sN0, v18sV0, v18sN1, v18sV1, v18s_4N0, v18s_4V0, v18s_5G0, v18s_5A0, rfl, rfl⟩, rfl⟩
  refine wl_pure tt_ok rfl rfl ?_
  refine wl_nil (wx_then (wc_seq (wc_seq (wc_region ?_))))
  refine wl_pure tt_ok rfl rfl ?_
  refine wl_pure (v := .bool false) tt_ok rfl rfl ?_
  refine wl_pure tt_ok rfl rfl ?_
  replace h := bsome h; obtain ⟨v22, x22, h⟩ := h
  refine wl_run rfl ?_
  refine wl_cq Tryd.call6 rfl rfl rfl (q_pf (k_hindcastlaw26_works x22) (fun w hI => ⟨(Rds.call G0S pNil rsub_nil) w hI, (Rds.call G1S pNil rsub_nil) w hI⟩)) rfl ?_
  refine wl_run rfl ?_
  refine wl_pure (v := .bool (!v22)) tt_ok rfl rfl ?_
  refine wl_pure (v := .bool (!v22)) tt_ok rfl rfl ?_
  refine wl_pure tt_ok rfl rfl ?_
  replace h := bsome h; obtain ⟨⟨v29, g29_n18_0_f0, g29_n18_0_f1, g29_n18_0_f2_0, g29_n18_0_f2_1, g29_n18_0_f2_2, g29_n18_0_f2_3, g29_n18_0_f2_4, g29_n18_0_f3⟩, h, hg29⟩ := h
  refine wl_split (t := 25) rfl (fun hc => ?_) (fun hc => ?_)
  · replace h := ct hc h
    refine wl_skip rfl rfl ?_
    refine wl_skip rfl rfl ?_
    refine wl_skip rfl rfl ?_
    simp only [Option.some.injEq, Prod.mk.injEq] at h
    obtain ⟨rfl, rfl, rfl, rfl, rfl, rfl, rfl, rfl, rfl⟩ := h
    have h := hg29; clear hg29; try dsimp only at h
    refine wl_pure (v := .bool true) tt_ok rfl rfl ?_
    refine wl_pure tt_ok rfl rfl ?_
    replace h := bsome h; obtain ⟨⟨v34, g34_n18_0_f0, g34_n18_0_f1, g34_n18_0_f2_0, g34_n18_0_f2_1, g34_n18_0_f2_2, g34_n18_0_f2_3, g34_n18_0_f2_4, g34_n18_0_f3⟩, h, hg34⟩ := h
    replace h := ct rfl h
    refine wl_skip rfl rfl ?_
    refine wl_skip rfl rfl ?_
    refine wl_skip rfl rfl ?_
    simp only [Option.some.injEq, Prod.mk.injEq] at h
    obtain ⟨rfl, rfl, rfl, rfl, rfl, rfl, rfl, rfl, rfl⟩ := h
    have h := hg34; clear hg34; try dsimp only at h
    refine wl_pure (v := .bool true) tt_ok rfl rfl ?_
    refine wl_pure tt_ok rfl rfl ?_
    replace h := bsome h; obtain ⟨v39, h, hg39⟩ := h
    replace h := ct rfl h
    refine wl_skip rfl rfl ?_
    refine wl_skip rfl rfl ?_
    refine wl_skip rfl rfl ?_
    simp only [Option.some.injEq, Prod.mk.injEq] at h
    obtain rfl := h
    have h := hg39; clear hg39
    refine wl_pure (v := .bool true) tt_ok rfl rfl ?_
    refine wl_pure tt_ok rfl rfl ?_
    replace h := bsome h; obtain ⟨v44, h, hg44⟩ := h
    replace h := ct rfl h
    refine wl_skip rfl rfl ?_
    refine wl_skip rfl rfl ?_
    refine wl_skip rfl rfl ?_
    simp only [Option.some.injEq, Prod.mk.injEq] at h
    obtain rfl := h
    have h := hg44; clear hg44
    refine wl_pure (v := .bool true) tt_ok rfl rfl ?_
    refine wl_pure tt_ok rfl rfl ?_
    replace h := bsome h; obtain ⟨⟨v49, g49_n18_0_f0, g49_n18_0_f1, g49_n18_0_f2_0, g49_n18_0_f2_1, g49_n18_0_f2_2, g49_n18_0_f2_3, g49_n18_0_f2_4, g49_n18_0_f3⟩, h, hg49⟩ := h
    replace h := ct rfl h
    refine wl_skip rfl rfl ?_
    refine wl_skip rfl rfl ?_
    refine wl_skip rfl rfl ?_
    simp only [Option.some.injEq, Prod.mk.injEq] at h
    obtain ⟨rfl, rfl, rfl, rfl, rfl, rfl, rfl, rfl, rfl⟩ := h
    have h := hg49; clear hg49; try dsimp only at h
    refine wl_pure (v := .bool true) tt_ok rfl rfl ?_
    refine wl_pure tt_ok rfl rfl ?_
    replace h := bsome h; obtain ⟨⟨v54, g54_n18_0_4_f0, g54_n18_0_4_f1, g54_n18_0_4_f2, g54_n18_0_5_f0, g54_n18_0_5_f1⟩, h, hg54⟩ := h
    replace h := ct rfl h
    refine wl_skip rfl rfl ?_
    refine wl_skip rfl rfl ?_
    refine wl_skip rfl rfl ?_
    simp only [Option.some.injEq, Prod.mk.injEq] at h
    obtain ⟨rfl, rfl, rfl, rfl, rfl, rfl⟩ := h
    have h := hg54; clear hg54; try dsimp only at h
    refine wl_pure (v := .bool true) tt_ok rfl rfl ?_
    refine wl_nil (wx_then ?_)
    replace h := ct rfl h
    refine wc_cond_true rfl ?_
    refine wc_seq (wc_region ?_)
    refine wl_pure tt_ok rfl rfl ?_
    refine wl_nil (wx_then (wc_ret (wx_then_ret ?_)))
    simp only [Option.some.injEq] at h
    obtain rfl := h
    exact wx_pf tt_ok (.inl rfl) Tryd.results4 (Res.tmp rfl Res.nil) rfl
  replace h := cf hc h
  refine wl_run rfl ?_
  refine wl_pure tt_ok rfl rfl ?_
  replace h := bsome h; obtain ⟨⟨o27_0, v27⟩, x27, h⟩ := h; try dsimp only at h
  refine wl_run rfl ?_
  refine wl_cs Tryd.call9 rfl rfl rfl (s_sp (k_rollback_Engine_Local (p0 := v18s.1) (p0_4 := v18s.2.1) (p0_5 := v18s.2.2) v18sN0 v18sV0 v18sN1 v18sV1 v18s_4N0 v18s_4V0 v18s_5G0 v18s_5A0 x27) (pCons Sel.hc (pApp Sel.ha (pApp Sel.ha (pCons Sel.hc (pApp Sel.ha (pCons Sel.hc (pApp Sel.ha pNil))))))) (fun _ _ => trivial)) rfl ?_
  rintro _ _ ⟨_, ⟨o27_0a0, o27_0n0, o27_0c0, o27_0B0, o27_0a1, o27_0n1, o27_0c1, o27_0B1, o27_0N0, o27_0V0, o27_0N1, o27_0V1, rfl, rfl⟩, rfl⟩
  refine wl_run rfl ?_
  refine wl_pure (v := .bool (v27 != (0 : Int))) tt_ok rfl rfl ?_
  simp only [Option.some.injEq, Prod.mk.injEq] at h
  obtain ⟨rfl, rfl, rfl, rfl, rfl, rfl, rfl, rfl, rfl⟩ := h
  have h := hg29; clear hg29; try dsimp only at h
  refine wl_pure (v := .bool (v27 != (0 : Int))) tt_ok rfl rfl ?_
  refine wl_pure tt_ok rfl rfl ?_
  replace h := bsome h; obtain ⟨⟨v34, g34_n18_0_f0, g34_n18_0_f1, g34_n18_0_f2_0, g34_n18_0_f2_1, g34_n18_0_f2_2, g34_n18_0_f2_3, g34_n18_0_f2_4, g34_n18_0_f3⟩, h, hg34⟩ := h
  refine wl_split (t := 30) rfl (fun hc => ?_) (fun hc => ?_)
  · replace h := ct hc h
    refine wl_skip rfl rfl ?_
    refine wl_skip rfl rfl ?_
    refine wl_skip rfl rfl ?_
    simp only [Option.some.injEq, Prod.mk.injEq] at h
    obtain ⟨rfl, rfl, rfl, rfl, rfl, rfl, rfl, rfl, rfl⟩ := h
    have h := hg34; clear hg34; try dsimp only at h
    refine wl_pure (v := .bool true) tt_ok rfl rfl ?_
    refine wl_pure tt_ok rfl rfl ?_
    replace h := bsome h; obtain ⟨v39, h, hg39⟩ := h
    replace h := ct rfl h
    refine wl_skip rfl rfl ?_
    refine wl_skip rfl rfl ?_
    refine wl_skip rfl rfl ?_
    simp only [Option.some.injEq, Prod.mk.injEq] at h
    obtain rfl := h
    have h := hg39; clear hg39
    refine wl_pure (v := .bool true) tt_ok rfl rfl ?_
    refine wl_pure tt_ok rfl rfl ?_
    replace h := bsome h; obtain ⟨v44, h, hg44⟩ := h
    replace h := ct rfl h
    refine wl_skip rfl rfl ?_
    refine wl_skip rfl rfl ?_
    refine wl_skip rfl rfl ?_
    simp only [Option.some.injEq, Prod.mk.injEq] at h
    obtain rfl := h
    have h := hg44; clear hg44
    refine wl_pure (v := .bool true) tt_ok rfl rfl ?_
    refine wl_pure tt_ok rfl rfl ?_
    replace h := bsome h; obtain ⟨⟨v49, g49_n18_0_f0, g49_n18_0_f1, g49_n18_0_f2_0, g49_n18_0_f2_1, g49_n18_0_f2_2, g49_n18_0_f2_3, g49_n18_0_f2_4, g49_n18_0_f3⟩, h, hg49⟩ := h
    replace h := ct rfl h
    refine wl_skip rfl rfl ?_
    refine wl_skip rfl rfl ?_
    refine wl_skip rfl rfl ?_
    simp only [Option.some.injEq, Prod.mk.injEq] at h
    obtain ⟨rfl, rfl, rfl, rfl, rfl, rfl, rfl, rfl, rfl⟩ := h
    have h := hg49; clear hg49; try dsimp only at h
    refine wl_pure (v := .bool true) tt_ok rfl rfl ?_
    refine wl_pure tt_ok rfl rfl ?_
    replace h := bsome h; obtain ⟨⟨v54, g54_n18_0_4_f0, g54_n18_0_4_f1, g54_n18_0_4_f2, g54_n18_0_5_f0, g54_n18_0_5_f1⟩, h, hg54⟩ := h
    replace h := ct rfl h
    refine wl_skip rfl rfl ?_
    refine wl_skip rfl rfl ?_
    refine wl_skip rfl rfl ?_
    simp only [Option.some.injEq, Prod.mk.injEq] at h
    obtain ⟨rfl, rfl, rfl, rfl, rfl, rfl⟩ := h
    have h := hg54; clear hg54; try dsimp only at h
    refine wl_pure (v := .bool true) tt_ok rfl rfl ?_
    refine wl_nil (wx_then ?_)
    replace h := ct rfl h
    refine wc_cond_true rfl ?_
    refine wc_seq (wc_region ?_)
    refine wl_pure tt_ok rfl rfl ?_
    refine wl_nil (wx_then (wc_ret (wx_then_ret ?_)))
    simp only [Option.some.injEq] at h
    obtain rfl := h
    exact wx_pf tt_ok (.inl rfl) Tryd.results4 (Res.tmp rfl Res.nil) rfl
  replace h := cf hc h
  refine wl_run rfl ?_
  refine wl_pure tt_ok rfl rfl ?_
  replace h := bsome h; obtain ⟨⟨o32_0, v32⟩, x32, h⟩ := h; try dsimp only at h
  refine wl_run rfl ?_
  refine wl_cs Tryd.call9 rfl rfl rfl (s_sp (k_rollback_Engine_Local (p0 := o27_0) (p0_4 := v18s.2.1) (p0_5 := v18s.2.2) o27_0N0 o27_0V0 o27_0N1 o27_0V1 v18s_4N0 v18s_4V0 v18s_5G0 v18s_5A0 x32) (pCons Sel.hc (pApp Sel.ha (pApp Sel.ha (pCons Sel.hc (pApp Sel.ha (pCons Sel.hc (pApp Sel.ha pNil))))))) (fun _ _ => trivial)) rfl ?_
  rintro _ _ ⟨_, ⟨o32_0a0, o32_0n0, o32_0c0, o32_0B0, o32_0a1, o32_0n1, o32_0c1, o32_0B1, o32_0N0, o32_0V0, o32_0N1, o32_0V1, rfl, rfl⟩, rfl⟩
  refine wl_run rfl ?_
  refine wl_pure (v := .bool (v32 != (0 : Int))) tt_ok rfl rfl ?_
  simp only [Option.some.injEq, Prod.mk.injEq] at h
  obtain ⟨rfl, rfl, rfl, rfl, rfl, rfl, rfl, rfl, rfl⟩ := h
  have h := hg34; clear hg34; try dsimp only at h
  refine wl_pure (v := .bool (v32 != (0 : Int))) tt_ok rfl rfl ?_
  refine wl_pure tt_ok rfl rfl ?_
  replace h := bsome h; obtain ⟨v39, h, hg39⟩ := h
  refine wl_split (t := 35) rfl (fun hc => ?_) (fun hc => ?_)
  · replace h := ct hc h
    refine wl_skip rfl rfl ?_
    refine wl_skip rfl rfl ?_
    refine wl_skip rfl rfl ?_
    simp only [Option.some.injEq, Prod.mk.injEq] at h
    obtain rfl := h
    have h := hg39; clear hg39
    refine wl_pure (v := .bool true) tt_ok rfl rfl ?_
    refine wl_pure tt_ok rfl rfl ?_
    replace h := bsome h; obtain ⟨v44, h, hg44⟩ := h
    replace h := ct rfl h
    refine wl_skip rfl rfl ?_
    refine wl_skip rfl rfl ?_
    refine wl_skip rfl rfl ?_
    simp only [Option.some.injEq, Prod.mk.injEq] at h
    obtain rfl := h
    have h := hg44; clear hg44
    refine wl_pure (v := .bool true) tt_ok rfl rfl ?_
    refine wl_pure tt_ok rfl rfl ?_
    replace h := bsome h; obtain ⟨⟨v49, g49_n18_0_f0, g49_n18_0_f1, g49_n18_0_f2_0, g49_n18_0_f2_1, g49_n18_0_f2_2, g49_n18_0_f2_3, g49_n18_0_f2_4, g49_n18_0_f3⟩, h, hg49⟩ := h
    replace h := ct rfl h
    refine wl_skip rfl rfl ?_
    refine wl_skip rfl rfl ?_
    refine wl_skip rfl rfl ?_
    simp only [Option.some.injEq, Prod.mk.injEq] at h
    obtain ⟨rfl, rfl, rfl, rfl, rfl, rfl, rfl, rfl, rfl⟩ := h
    have h := hg49; clear hg49; try dsimp only at h
    refine wl_pure (v := .bool true) tt_ok rfl rfl ?_
    refine wl_pure tt_ok rfl rfl ?_
    replace h := bsome h; obtain ⟨⟨v54, g54_n18_0_4_f0, g54_n18_0_4_f1, g54_n18_0_4_f2, g54_n18_0_5_f0, g54_n18_0_5_f1⟩, h, hg54⟩ := h
    replace h := ct rfl h
    refine wl_skip rfl rfl ?_
    refine wl_skip rfl rfl ?_
    refine wl_skip rfl rfl ?_
    simp only [Option.some.injEq, Prod.mk.injEq] at h
    obtain ⟨rfl, rfl, rfl, rfl, rfl, rfl⟩ := h
    have h := hg54; clear hg54; try dsimp only at h
    refine wl_pure (v := .bool true) tt_ok rfl rfl ?_
    refine wl_nil (wx_then ?_)
    replace h := ct rfl h
    refine wc_cond_true rfl ?_
    refine wc_seq (wc_region ?_)
    refine wl_pure tt_ok rfl rfl ?_
    refine wl_nil (wx_then (wc_ret (wx_then_ret ?_)))
    simp only [Option.some.injEq] at h
    obtain rfl := h
    exact wx_pf tt_ok (.inl rfl) Tryd.results4 (Res.tmp rfl Res.nil) rfl
  replace h := cf hc h
  refine wl_run rfl ?_
  refine wl_pure tt_ok rfl rfl ?_
  replace h := bsome h; obtain ⟨v37, x37, h⟩ := h
  refine wl_run rfl ?_
  refine wl_cq Tryd.call17 rfl rfl rfl (q_rd (k_rollback_Engine_T (p0 := o32_0) (p0_4 := v18s.2.1) (p0_5 := v18s.2.2) o32_0N0 o32_0V0 o32_0N1 o32_0V1 v18s_4N0 v18s_4V0 v18s_5G0 v18s_5A0 x37) (pCons Sel.hc (pApp Sel.ha (pApp Sel.ha (pCons Sel.hc (pApp Sel.ha (pCons Sel.hc (pApp Sel.ha pNil))))))) (fun _ _ => trivial)) rfl ?_
  refine wl_run rfl ?_
  refine wl_pure (v := .bool (v37 != (2 : Int))) tt_ok rfl rfl ?_
  simp only [Option.some.injEq, Prod.mk.injEq] at h
  obtain rfl := h
  have h := hg39; clear hg39
  refine wl_pure (v := .bool (v37 != (2 : Int))) tt_ok rfl rfl ?_
  refine wl_pure tt_ok rfl rfl ?_
  replace h := bsome h; obtain ⟨v44, h, hg44⟩ := h
  refine wl_split (t := 40) rfl (fun hc => ?_) (fun hc => ?_)
  · replace h := ct hc h
    refine wl_skip rfl rfl ?_
    refine wl_skip rfl rfl ?_
    refine wl_skip rfl rfl ?_
    simp only [Option.some.injEq, Prod.mk.injEq] at h
    obtain rfl := h
    have h := hg44; clear hg44
    refine wl_pure (v := .bool true) tt_ok rfl rfl ?_
    refine wl_pure tt_ok rfl rfl ?_
    replace h := bsome h; obtain ⟨⟨v49, g49_n18_0_f0, g49_n18_0_f1, g49_n18_0_f2_0, g49_n18_0_f2_1, g49_n18_0_f2_2, g49_n18_0_f2_3, g49_n18_0_f2_4, g49_n18_0_f3⟩, h, hg49⟩ := h
    replace h := ct rfl h
    refine wl_skip rfl rfl ?_
    refine wl_skip rfl rfl ?_
    refine wl_skip rfl rfl ?_
    simp only [Option.some.injEq, Prod.mk.injEq] at h
    obtain ⟨rfl, rfl, rfl, rfl, rfl, rfl, rfl, rfl, rfl⟩ := h
    have h := hg49; clear hg49; try dsimp only at h
    refine wl_pure (v := .bool true) tt_ok rfl rfl ?_
    refine wl_pure tt_ok rfl rfl ?_
    replace h := bsome h; obtain ⟨⟨v54, g54_n18_0_4_f0, g54_n18_0_4_f1, g54_n18_0_4_f2, g54_n18_0_5_f0, g54_n18_0_5_f1⟩, h, hg54⟩ := h
    replace h := ct rfl h
    refine wl_skip rfl rfl ?_
    refine wl_skip rfl rfl ?_
    refine wl_skip rfl rfl ?_
    simp only [Option.some.injEq, Prod.mk.injEq] at h
    obtain ⟨rfl, rfl, rfl, rfl, rfl, rfl⟩ := h
    have h := hg54; clear hg54; try dsimp only at h
    refine wl_pure (v := .bool true) tt_ok rfl rfl ?_
    refine wl_nil (wx_then ?_)
    replace h := ct rfl h
    refine wc_cond_true rfl ?_
    refine wc_seq (wc_region ?_)
    refine wl_pure tt_ok rfl rfl ?_
    refine wl_nil (wx_then (wc_ret (wx_then_ret ?_)))
    simp only [Option.some.injEq] at h
    obtain rfl := h
    exact wx_pf tt_ok (.inl rfl) Tryd.results4 (Res.tmp rfl Res.nil) rfl
  replace h := cf hc h
  refine wl_run rfl ?_
  refine wl_pure tt_ok rfl rfl ?_
  replace h := bsome h; obtain ⟨v42, x42, h⟩ := h
  refine wl_run rfl ?_
  refine wl_cq Tryd.call16 rfl rfl rfl (q_rd (k_rollback_Engine_C (p0 := o32_0) (p0_4 := v18s.2.1) (p0_5 := v18s.2.2) o32_0N0 o32_0V0 o32_0N1 o32_0V1 v18s_4N0 v18s_4V0 v18s_5G0 v18s_5A0 x42) (pCons Sel.hc (pApp Sel.ha (pApp Sel.ha (pCons Sel.hc (pApp Sel.ha (pCons Sel.hc (pApp Sel.ha pNil))))))) (fun _ _ => trivial)) rfl ?_
  refine wl_run rfl ?_
  refine wl_pure (v := .bool (v42 != (0 : Int))) tt_ok rfl rfl ?_
  simp only [Option.some.injEq, Prod.mk.injEq] at h
  obtain rfl := h
  have h := hg44; clear hg44
  refine wl_pure (v := .bool (v42 != (0 : Int))) tt_ok rfl rfl ?_
  refine wl_pure tt_ok rfl rfl ?_
  replace h := bsome h; obtain ⟨⟨v49, g49_n18_0_f0, g49_n18_0_f1, g49_n18_0_f2_0, g49_n18_0_f2_1, g49_n18_0_f2_2, g49_n18_0_f2_3, g49_n18_0_f2_4, g49_n18_0_f3⟩, h, hg49⟩ := h
  refine wl_split (t := 45) rfl (fun hc => ?_) (fun hc => ?_)
  · replace h := ct hc h
    refine wl_skip rfl rfl ?_
    refine wl_skip rfl rfl ?_
    refine wl_skip rfl rfl ?_
    simp only [Option.some.injEq, Prod.mk.injEq] at h
    obtain ⟨rfl, rfl, rfl, rfl, rfl, rfl, rfl, rfl, rfl⟩ := h
    have h := hg49; clear hg49; try dsimp only at h
    refine wl_pure (v := .bool true) tt_ok rfl rfl ?_
    refine wl_pure tt_ok rfl rfl ?_
    replace h := bsome h; obtain ⟨⟨v54, g54_n18_0_4_f0, g54_n18_0_4_f1, g54_n18_0_4_f2, g54_n18_0_5_f0, g54_n18_0_5_f1⟩, h, hg54⟩ := h
    replace h := ct rfl h
    refine wl_skip rfl rfl ?_
    refine wl_skip rfl rfl ?_
    refine wl_skip rfl rfl ?_
    simp only [Option.some.injEq, Prod.mk.injEq] at h
    obtain ⟨rfl, rfl, rfl, rfl, rfl, rfl⟩ := h
    have h := hg54; clear hg54; try dsimp only at h
    refine wl_pure (v := .bool true) tt_ok rfl rfl ?_
    refine wl_nil (wx_then ?_)
    replace h := ct rfl h
    refine wc_cond_true rfl ?_
    refine wc_seq (wc_region ?_)
    refine wl_pure tt_ok rfl rfl ?_
    refine wl_nil (wx_then (wc_ret (wx_then_ret ?_)))
    simp only [Option.some.injEq] at h
    obtain rfl := h
    exact wx_pf tt_ok (.inl rfl) Tryd.results4 (Res.tmp rfl Res.nil) rfl
  replace h := cf hc h
  refine wl_run rfl ?_
  refine wl_pure tt_ok rfl rfl ?_
  replace h := bsome h; obtain ⟨⟨o47_0, v47⟩, x47, h⟩ := h; try dsimp only at h
  refine wl_run rfl ?_
  refine wl_cs Tryd.call9 rfl rfl rfl (s_sp (k_rollback_Engine_Local (p0 := o32_0) (p0_4 := v18s.2.1) (p0_5 := v18s.2.2) o32_0N0 o32_0V0 o32_0N1 o32_0V1 v18s_4N0 v18s_4V0 v18s_5G0 v18s_5A0 x47) (pCons Sel.hc (pApp Sel.ha (pApp Sel.ha (pCons Sel.hc (pApp Sel.ha (pCons Sel.hc (pApp Sel.ha pNil))))))) (fun _ _ => trivial)) rfl ?_
  rintro _ _ ⟨_, ⟨o47_0a0, o47_0n0, o47_0c0, o47_0B0, o47_0a1, o47_0n1, o47_0c1, o47_0B1, o47_0N0, o47_0V0, o47_0N1, o47_0V1, rfl, rfl⟩, rfl⟩
  refine wl_run rfl ?_
  refine wl_pure (v := .bool (v47 != (2 : Int))) tt_ok rfl rfl ?_
  simp only [Option.some.injEq, Prod.mk.injEq] at h
  obtain ⟨rfl, rfl, rfl, rfl, rfl, rfl, rfl, rfl, rfl⟩ := h
  have h := hg49; clear hg49; try dsimp only at h
  refine wl_pure (v := .bool (v47 != (2 : Int))) tt_ok rfl rfl ?_
  refine wl_pure tt_ok rfl rfl ?_
  replace h := bsome h; obtain ⟨⟨v54, g54_n18_0_4_f0, g54_n18_0_4_f1, g54_n18_0_4_f2, g54_n18_0_5_f0, g54_n18_0_5_f1⟩, h, hg54⟩ := h
  refine wl_split (t := 50) rfl (fun hc => ?_) (fun hc => ?_)
  · replace h := ct hc h
    refine wl_skip rfl rfl ?_
    refine wl_skip rfl rfl ?_
    refine wl_skip rfl rfl ?_
    simp only [Option.some.injEq, Prod.mk.injEq] at h
    obtain ⟨rfl, rfl, rfl, rfl, rfl, rfl⟩ := h
    have h := hg54; clear hg54; try dsimp only at h
    refine wl_pure (v := .bool true) tt_ok rfl rfl ?_
    refine wl_nil (wx_then ?_)
    replace h := ct rfl h
    refine wc_cond_true rfl ?_
    refine wc_seq (wc_region ?_)
    refine wl_pure tt_ok rfl rfl ?_
    refine wl_nil (wx_then (wc_ret (wx_then_ret ?_)))
    simp only [Option.some.injEq] at h
    obtain rfl := h
    exact wx_pf tt_ok (.inl rfl) Tryd.results4 (Res.tmp rfl Res.nil) rfl
  replace h := cf hc h
  refine wl_run rfl ?_
  refine wl_pure tt_ok rfl rfl ?_
  replace h := bsome h; obtain ⟨⟨o52_1, o52_2, v52⟩, x52, h⟩ := h; try dsimp only at h
  refine wl_run rfl ?_
  refine wl_cs Tryd.call12 rfl rfl rfl (s_sp (k_rollback_Engine_Remote (p0 := o47_0) (p0_4 := v18s.2.1) (p0_5 := v18s.2.2) o47_0N0 o47_0V0 o47_0N1 o47_0V1 v18s_4N0 v18s_4V0 v18s_5G0 v18s_5A0 x52) (pCons Sel.hc (pApp Sel.ha (pApp Sel.ha (pCons Sel.hc (pApp Sel.ha (pCons Sel.hc (pApp Sel.ha pNil))))))) (fun _ _ => trivial)) rfl ?_
  rintro _ _ ⟨_, ⟨o52_1a0, o52_1n0, o52_1c0, o52_1B0, o52_2g0, o52_2P0, o52_1N0, o52_1V0, o52_2G0, o52_2A0, rfl, rfl⟩, rfl⟩
  refine wl_run rfl ?_
  refine wl_pure (v := .bool (v52 != (0 : Int))) tt_ok rfl rfl ?_
  simp only [Option.some.injEq, Prod.mk.injEq] at h
  obtain ⟨rfl, rfl, rfl, rfl, rfl, rfl⟩ := h
  have h := hg54; clear hg54; try dsimp only at h
  refine wl_pure (v := .bool (v52 != (0 : Int))) tt_ok rfl rfl ?_
  refine wl_nil (wx_then ?_)
  refine wc_cond rfl (fun hc => ?_) (fun hc => ?_)
  · replace h := ct hc h
    refine wc_seq (wc_region ?_)
    refine wl_pure tt_ok rfl rfl ?_
    refine wl_nil (wx_then (wc_ret (wx_then_ret ?_)))
    simp only [Option.some.injEq] at h
    obtain rfl := h
    exact wx_pf tt_ok (.inl rfl) Tryd.results4 (Res.tmp rfl Res.nil) rfl
  replace h := cf hc h
  refine wc_skip (wx_then (wc_seq (wc_region ?_)))
  refine wl_pure tt_ok rfl rfl ?_
  replace h := bsome h; obtain ⟨⟨o57_0, o57_1, o57_2, v57_0, v57_1⟩, x57, h⟩ := h; try dsimp only at h
  refine wl_cs Tryd.call13 rfl rfl rfl (s_sp (k_rollback_Engine_Confirm (p0 := o47_0) (p0_4 := o52_1) (p0_5 := o52_2) o47_0N0 o47_0V0 o47_0N1 o47_0V1 o52_1N0 o52_1V0 o52_2G0 o52_2A0 x57) (pCons Sel.hc (pApp Sel.ha (pApp Sel.ha (pCons Sel.hc (pApp Sel.ha (pCons Sel.hc (pApp Sel.ha pNil))))))) (fun w hI => ⟨(Rds.call G0S (pCons Sel.hc (pApp Sel.ha (pApp Sel.ha (pCons Sel.hc (pApp Sel.ha (pCons Sel.hc (pApp Sel.ha pNil))))))) rsub_nil) w hI, (Rds.call G1S (pCons Sel.hc (pApp Sel.ha (pApp Sel.ha (pCons Sel.hc (pApp Sel.ha (pCons Sel.hc (pApp Sel.ha pNil))))))) rsub_nil) w hI⟩)) rfl ?_
  rintro _ _ ⟨_, ⟨o57_0a0, o57_0n0, o57_0c0, o57_0B0, o57_0a1, o57_0n1, o57_0c1, o57_0B1, o57_1a0, o57_1n0, o57_1c0, o57_1B0, o57_2g0, o57_2P0, o57_0N0, o57_0V0, o57_0N1, o57_0V1, o57_1N0, o57_1V0, o57_2G0, o57_2A0, rfl, rfl⟩, rfl⟩
  iterate 3 refine wl_pure tt_ok rfl rfl ?_
  refine wl_alloc tt_ok rfl rfl (fun b2 => ?_)
  apply wl_store tt_ok; rfl; exact Upd.here; rfl; rfl; rfl; rfl; rfl; rfl
  refine wl_pure tt_ok rfl rfl ?_
  refine wl_nil (wx_then (wc_seq (wc_region ?_)))
  refine wl_pure tt_ok rfl rfl ?_
  replace h := bsome h; obtain ⟨⟨o62_0, o62_1, o62_2, v62_0, v62_1⟩, x62, h⟩ := h; try dsimp only at h
  refine wl_cs Tryd.call13 rfl rfl rfl (s_sp (k_rollback_Engine_Confirm (p0 := o57_0) (p0_4 := o57_1) (p0_5 := o57_2) o57_0N0 o57_0V0 o57_0N1 o57_0V1 o57_1N0 o57_1V0 o57_2G0 o57_2A0 x62) (pCons (Sel.sc Sel.hc) (pApp (Sel.sc Sel.ha) (pApp (Sel.sc Sel.ha) (pCons (Sel.sc Sel.hc) (pApp (Sel.sc Sel.ha) (pCons (Sel.sc Sel.hc) (pApp (Sel.sc Sel.ha) pNil))))))) (fun w hI => ⟨(Rds.call G0S (pCons (Sel.sc Sel.hc) (pApp (Sel.sc Sel.ha) (pApp (Sel.sc Sel.ha) (pCons (Sel.sc Sel.hc) (pApp (Sel.sc Sel.ha) (pCons (Sel.sc Sel.hc) (pApp (Sel.sc Sel.ha) pNil))))))) rsub_nil) w hI, (Rds.call G1S (pCons (Sel.sc Sel.hc) (pApp (Sel.sc Sel.ha) (pApp (Sel.sc Sel.ha) (pCons (Sel.sc Sel.hc) (pApp (Sel.sc Sel.ha) (pCons (Sel.sc Sel.hc) (pApp (Sel.sc Sel.ha) pNil))))))) rsub_nil) w hI⟩)) rfl ?_
  rintro _ _ ⟨_, ⟨o62_0a0, o62_0n0, o62_0c0, o62_0B0, o62_0a1, o62_0n1, o62_0c1, o62_0B1, o62_1a0, o62_1n0, o62_1c0, o62_1B0, o62_2g0, o62_2P0, o62_0N0, o62_0V0, o62_0N1, o62_0V1, o62_1N0, o62_1V0, o62_2G0, o62_2A0, rfl, rfl⟩, rfl⟩
  iterate 3 refine wl_pure tt_ok rfl rfl ?_
  refine wl_alloc tt_ok rfl rfl (fun b4 => ?_)
  apply wl_store tt_ok; rfl; exact Upd.here; rfl; rfl; rfl; rfl; rfl; rfl
  refine wl_pure tt_ok rfl rfl ?_
  refine wl_nil (wx_then (wc_seq (wc_region ?_)))
  refine wl_pure tt_ok rfl rfl ?_
  replace h := bsome h; obtain ⟨⟨o67_0, o67_1, o67_2, v67_0, v67_1⟩, x67, h⟩ := h; try dsimp only at h
  refine wl_cs Tryd.call13 rfl rfl rfl (s_sp (k_rollback_Engine_Confirm (p0 := o62_0) (p0_4 := o62_1) (p0_5 := o62_2) o62_0N0 o62_0V0 o62_0N1 o62_0V1 o62_1N0 o62_1V0 o62_2G0 o62_2A0 x67) (pCons (Sel.sc Sel.hc) (pApp (Sel.sc Sel.ha) (pApp (Sel.sc Sel.ha) (pCons (Sel.sc Sel.hc) (pApp (Sel.sc Sel.ha) (pCons (Sel.sc Sel.hc) (pApp (Sel.sc Sel.ha) pNil))))))) (fun w hI => ⟨(Rds.call G0S (pCons (Sel.sc Sel.hc) (pApp (Sel.sc Sel.ha) (pApp (Sel.sc Sel.ha) (pCons (Sel.sc Sel.hc) (pApp (Sel.sc Sel.ha) (pCons (Sel.sc Sel.hc) (pApp (Sel.sc Sel.ha) pNil))))))) rsub_nil) w hI, (Rds.call G1S (pCons (Sel.sc Sel.hc) (pApp (Sel.sc Sel.ha) (pApp (Sel.sc Sel.ha) (pCons (Sel.sc Sel.hc) (pApp (Sel.sc Sel.ha) (pCons (Sel.sc Sel.hc) (pApp (Sel.sc Sel.ha) pNil))))))) rsub_nil) w hI⟩)) rfl ?_
  rintro _ _ ⟨_, ⟨o67_0a0, o67_0n0, o67_0c0, o67_0B0, o67_0a1, o67_0n1, o67_0c1, o67_0B1, o67_1a0, o67_1n0, o67_1c0, o67_1B0, o67_2g0, o67_2P0, o67_0N0, o67_0V0, o67_0N1, o67_0V1, o67_1N0, o67_1V0, o67_2G0, o67_2A0, rfl, rfl⟩, rfl⟩
  iterate 3 refine wl_pure tt_ok rfl rfl ?_
  refine wl_alloc tt_ok rfl rfl (fun b6 => ?_)
  apply wl_store tt_ok; rfl; exact Upd.here; rfl; rfl; rfl; rfl; rfl; rfl
  refine wl_pure tt_ok rfl rfl ?_
  refine wl_nil (wx_then (wc_seq (wc_region ?_)))
  refine wl_pure tt_ok rfl rfl ?_
  replace h := bsome h; obtain ⟨v71, x71, h⟩ := h
  refine wl_cs Tryd.call18 rfl rfl rfl (s_sp (k_rollback_Engine_Own (p0 := o67_0) (p0_4 := o67_1) (p0_5 := o67_2) o67_0N0 o67_0V0 o67_0N1 o67_0V1 o67_1N0 o67_1V0 o67_2G0 o67_2A0 x71) (pCons (Sel.sc Sel.hc) (pApp (Sel.sc Sel.ha) (pApp (Sel.sc Sel.ha) (pCons (Sel.sc Sel.hc) (pApp (Sel.sc Sel.ha) (pCons (Sel.sc Sel.hc) (pApp (Sel.sc Sel.ha) pNil))))))) (fun _ _ => trivial)) rfl ?_
  rintro _ _ ⟨_, ⟨v71a0, v71n0, v71c0, v71B0, v71N0, v71V0, rfl, rfl⟩, rfl⟩
  refine wl_pure tt_ok rfl rfl ?_
  refine wl_nil (wx_then (wc_seq (wc_seq (wc_region ?_))))
  iterate 2 refine wl_pure tt_ok rfl rfl ?_
  replace h := bsome h; obtain ⟨v76, h, hg76⟩ := h
  refine wl_split (t := 73) rfl (fun hc => ?_) (fun hc => ?_)
  · replace h := ct hc h
    refine wl_skip rfl rfl ?_
    refine wl_skip rfl rfl ?_
    simp only [Option.some.injEq, Prod.mk.injEq] at h
    obtain rfl := h
    have h := hg76; clear hg76
    refine wl_pure (v := .bool true) tt_ok rfl rfl ?_
    refine wl_pure tt_ok rfl rfl ?_
    replace h := bsome h; obtain ⟨v79, h, hg79⟩ := h
    replace h := ct rfl h
    refine wl_skip rfl rfl ?_
    simp only [Option.some.injEq, Prod.mk.injEq] at h
    obtain rfl := h
    have h := hg79; clear hg79
    refine wl_pure (v := .bool true) tt_ok rfl rfl ?_
    refine wl_pure tt_ok rfl rfl ?_
    replace h := bsome h; obtain ⟨v84, h, hg84⟩ := h
    replace h := ct rfl h
    refine wl_skip rfl rfl ?_
    refine wl_skip rfl rfl ?_
    refine wl_skip rfl rfl ?_
    simp only [Option.some.injEq, Prod.mk.injEq] at h
    obtain rfl := h
    have h := hg84; clear hg84
    refine wl_pure (v := .bool true) tt_ok rfl rfl ?_
    refine wl_pure tt_ok rfl rfl ?_
    replace h := bsome h; obtain ⟨v89, h, hg89⟩ := h
    replace h := ct rfl h
    refine wl_skip rfl rfl ?_
    refine wl_skip rfl rfl ?_
    refine wl_skip rfl rfl ?_
    simp only [Option.some.injEq, Prod.mk.injEq] at h
    obtain rfl := h
    have h := hg89; clear hg89
    refine wl_pure (v := .bool true) tt_ok rfl rfl ?_
    refine wl_pure tt_ok rfl rfl ?_
    replace h := bsome h; obtain ⟨v95, h, hg95⟩ := h
    replace h := ct rfl h
    refine wl_skip rfl rfl ?_
    refine wl_skip rfl rfl ?_
    refine wl_skip rfl rfl ?_
    refine wl_skip rfl rfl ?_
    simp only [Option.some.injEq, Prod.mk.injEq] at h
    obtain rfl := h
    have h := hg95; clear hg95
    refine wl_pure (v := .bool true) tt_ok rfl rfl ?_
    refine wl_pure tt_ok rfl rfl ?_
    replace h := bsome h; obtain ⟨v100, h, hg100⟩ := h
    replace h := ct rfl h
    refine wl_skip rfl rfl ?_
    refine wl_skip rfl rfl ?_
    refine wl_skip rfl rfl ?_
    simp only [Option.some.injEq, Prod.mk.injEq] at h
    obtain rfl := h
    have h := hg100; clear hg100
    refine wl_pure (v := .bool true) tt_ok rfl rfl ?_
    refine wl_pure tt_ok rfl rfl ?_
    replace h := bsome h; obtain ⟨v106, h, hg106⟩ := h
    replace h := ct rfl h
    refine wl_skip rfl rfl ?_
    refine wl_skip rfl rfl ?_
    refine wl_skip rfl rfl ?_
    refine wl_skip rfl rfl ?_
    simp only [Option.some.injEq, Prod.mk.injEq] at h
    obtain rfl := h
    have h := hg106; clear hg106
    refine wl_pure (v := .bool true) tt_ok rfl rfl ?_
    refine wl_pure tt_ok rfl rfl ?_
    replace h := bsome h; obtain ⟨⟨v111, g111_n18_0_f0, g111_n18_0_f1, g111_n18_0_f2_0, g111_n18_0_f2_1, g111_n18_0_f2_2, g111_n18_0_f2_3, g111_n18_0_f2_4, g111_n18_0_f3⟩, h, hg111⟩ := h
    replace h := ct rfl h
    refine wl_skip rfl rfl ?_
    refine wl_skip rfl rfl ?_
    refine wl_skip rfl rfl ?_
    simp only [Option.some.injEq, Prod.mk.injEq] at h
    obtain ⟨rfl, rfl, rfl, rfl, rfl, rfl, rfl, rfl, rfl⟩ := h
    have h := hg111; clear hg111; try dsimp only at h
    refine wl_pure (v := .bool true) tt_ok rfl rfl ?_
    refine wl_pure tt_ok rfl rfl ?_
    replace h := bsome h; obtain ⟨⟨v116, g116_n18_0_4_f0, g116_n18_0_4_f1, g116_n18_0_4_f2, g116_n18_0_5_f0, g116_n18_0_5_f1⟩, h, hg116⟩ := h
    replace h := ct rfl h
    refine wl_skip rfl rfl ?_
    refine wl_skip rfl rfl ?_
    refine wl_skip rfl rfl ?_
    simp only [Option.some.injEq, Prod.mk.injEq] at h
    obtain ⟨rfl, rfl, rfl, rfl, rfl, rfl⟩ := h
    have h := hg116; clear hg116; try dsimp only at h
    refine wl_pure (v := .bool true) tt_ok rfl rfl ?_
    refine wl_pure tt_ok rfl rfl ?_
    replace h := bsome h; obtain ⟨⟨v121, g121_n18_0_4_f0, g121_n18_0_4_f1, g121_n18_0_4_f2, g121_n18_0_5_f0, g121_n18_0_5_f1⟩, h, hg121⟩ := h
    replace h := ct rfl h
    refine wl_skip rfl rfl ?_
    refine wl_skip rfl rfl ?_
    refine wl_skip rfl rfl ?_
    simp only [Option.some.injEq, Prod.mk.injEq] at h
    obtain ⟨rfl, rfl, rfl, rfl, rfl, rfl⟩ := h
    have h := hg121; clear hg121; try dsimp only at h
    refine wl_pure (v := .bool true) tt_ok rfl rfl ?_
    refine wl_pure tt_ok rfl rfl ?_
    replace h := bsome h; obtain ⟨⟨v126, g126_n18_0_4_f0, g126_n18_0_4_f1, g126_n18_0_4_f2, g126_n18_0_5_f0, g126_n18_0_5_f1⟩, h, hg126⟩ := h
    replace h := ct rfl h
    refine wl_skip rfl rfl ?_
    refine wl_skip rfl rfl ?_
    refine wl_skip rfl rfl ?_
    simp only [Option.some.injEq, Prod.mk.injEq] at h
    obtain ⟨rfl, rfl, rfl, rfl, rfl, rfl⟩ := h
    have h := hg126; clear hg126; try dsimp only at h
    refine wl_pure (v := .bool true) tt_ok rfl rfl ?_
    refine wl_pure tt_ok rfl rfl ?_
    replace h := bsome h; obtain ⟨⟨v131, g131_n18_0_4_f0, g131_n18_0_4_f1, g131_n18_0_4_f2, g131_n18_0_5_f0, g131_n18_0_5_f1⟩, h, hg131⟩ := h
    replace h := ct rfl h
    refine wl_skip rfl rfl ?_
    refine wl_skip rfl rfl ?_
    refine wl_skip rfl rfl ?_
    simp only [Option.some.injEq, Prod.mk.injEq] at h
    obtain ⟨rfl, rfl, rfl, rfl, rfl, rfl⟩ := h
    have h := hg131; clear hg131; try dsimp only at h
    refine wl_pure (v := .bool true) tt_ok rfl rfl ?_
    refine wl_pure tt_ok rfl rfl ?_
    replace h := bsome h; obtain ⟨⟨v136, g136_n18_0_4_f0, g136_n18_0_4_f1, g136_n18_0_4_f2, g136_n18_0_5_f0, g136_n18_0_5_f1⟩, h, hg136⟩ := h
    replace h := ct rfl h
    refine wl_skip rfl rfl ?_
    refine wl_skip rfl rfl ?_
    refine wl_skip rfl rfl ?_
    simp only [Option.some.injEq, Prod.mk.injEq] at h
    obtain ⟨rfl, rfl, rfl, rfl, rfl, rfl⟩ := h
    have h := hg136; clear hg136; try dsimp only at h
    refine wl_pure (v := .bool true) tt_ok rfl rfl ?_
    refine wl_nil (wx_then ?_)
    replace h := ct rfl h
    refine wc_cond_true rfl ?_
    refine wc_seq (wc_region ?_)
    refine wl_pure tt_ok rfl rfl ?_
    refine wl_nil (wx_then (wc_ret (wx_then_ret ?_)))
    simp only [Option.some.injEq] at h
    obtain rfl := h
    exact wx_pf tt_ok (.inl rfl) Tryd.results4 (Res.tmp rfl Res.nil) rfl
  replace h := cf hc h
  refine wl_run rfl ?_
  refine wl_pure tt_ok rfl rfl ?_
  refine wl_run rfl ?_
  refine wl_pure (v := .bool (!v62_1)) tt_ok rfl rfl ?_
  simp only [Option.some.injEq, Prod.mk.injEq] at h
  obtain rfl := h
  have h := hg76; clear hg76
  refine wl_pure (v := .bool (!v62_1)) tt_ok rfl rfl ?_
  refine wl_pure tt_ok rfl rfl ?_
  replace h := bsome h; obtain ⟨v79, h, hg79⟩ := h
  refine wl_split (t := 77) rfl (fun hc => ?_) (fun hc => ?_)
  · replace h := ct hc h
    refine wl_skip rfl rfl ?_
    simp only [Option.some.injEq, Prod.mk.injEq] at h
    obtain rfl := h
    have h := hg79; clear hg79
    refine wl_pure (v := .bool true) tt_ok rfl rfl ?_
    refine wl_pure tt_ok rfl rfl ?_
    replace h := bsome h; obtain ⟨v84, h, hg84⟩ := h
    replace h := ct rfl h
    refine wl_skip rfl rfl ?_
    refine wl_skip rfl rfl ?_
    refine wl_skip rfl rfl ?_
    simp only [Option.some.injEq, Prod.mk.injEq] at h
    obtain rfl := h
    have h := hg84; clear hg84
    refine wl_pure (v := .bool true) tt_ok rfl rfl ?_
    refine wl_pure tt_ok rfl rfl ?_
    replace h := bsome h; obtain ⟨v89, h, hg89⟩ := h
    replace h := ct rfl h
    refine wl_skip rfl rfl ?_
    refine wl_skip rfl rfl ?_
    refine wl_skip rfl rfl ?_
    simp only [Option.some.injEq, Prod.mk.injEq] at h
    obtain rfl := h
    have h := hg89; clear hg89
    refine wl_pure (v := .bool true) tt_ok rfl rfl ?_
    refine wl_pure tt_ok rfl rfl ?_
    replace h := bsome h; obtain ⟨v95, h, hg95⟩ := h
    replace h := ct rfl h
    refine wl_skip rfl rfl ?_
    refine wl_skip rfl rfl ?_
    refine wl_skip rfl rfl ?_
    refine wl_skip rfl rfl ?_
    simp only [Option.some.injEq, Prod.mk.injEq] at h
    obtain rfl := h
    have h := hg95; clear hg95
    refine wl_pure (v := .bool true) tt_ok rfl rfl ?_
    refine wl_pure tt_ok rfl rfl ?_
    replace h := bsome h; obtain ⟨v100, h, hg100⟩ := h
    replace h := ct rfl h
    refine wl_skip rfl rfl ?_
    refine wl_skip rfl rfl ?_
    refine wl_skip rfl rfl ?_
    simp only [Option.some.injEq, Prod.mk.injEq] at h
    obtain rfl := h
    have h := hg100; clear hg100
    refine wl_pure (v := .bool true) tt_ok rfl rfl ?_
    refine wl_pure tt_ok rfl rfl ?_
    replace h := bsome h; obtain ⟨v106, h, hg106⟩ := h
    replace h := ct rfl h
    refine wl_skip rfl rfl ?_
    refine wl_skip rfl rfl ?_
    refine wl_skip rfl rfl ?_
    refine wl_skip rfl rfl ?_
    simp only [Option.some.injEq, Prod.mk.injEq] at h
    obtain rfl := h
    have h := hg106; clear hg106
    refine wl_pure (v := .bool true) tt_ok rfl rfl ?_
    refine wl_pure tt_ok rfl rfl ?_
    replace h := bsome h; obtain ⟨⟨v111, g111_n18_0_f0, g111_n18_0_f1, g111_n18_0_f2_0, g111_n18_0_f2_1, g111_n18_0_f2_2, g111_n18_0_f2_3, g111_n18_0_f2_4, g111_n18_0_f3⟩, h, hg111⟩ := h
    replace h := ct rfl h
    refine wl_skip rfl rfl ?_
    refine wl_skip rfl rfl ?_
    refine wl_skip rfl rfl ?_
    simp only [Option.some.injEq, Prod.mk.injEq] at h
    obtain ⟨rfl, rfl, rfl, rfl, rfl, rfl, rfl, rfl, rfl⟩ := h
    have h := hg111; clear hg111; try dsimp only at h
    refine wl_pure (v := .bool true) tt_ok rfl rfl ?_
    refine wl_pure tt_ok rfl rfl ?_
    replace h := bsome h; obtain ⟨⟨v116, g116_n18_0_4_f0, g116_n18_0_4_f1, g116_n18_0_4_f2, g116_n18_0_5_f0, g116_n18_0_5_f1⟩, h, hg116⟩ := h
    replace h := ct rfl h
    refine wl_skip rfl rfl ?_
    refine wl_skip rfl rfl ?_
    refine wl_skip rfl rfl ?_
    simp only [Option.some.injEq, Prod.mk.injEq] at h
    obtain ⟨rfl, rfl, rfl, rfl, rfl, rfl⟩ := h
    have h := hg116; clear hg116; try dsimp only at h
    refine wl_pure (v := .bool true) tt_ok rfl rfl ?_
    refine wl_pure tt_ok rfl rfl ?_
    replace h := bsome h; obtain ⟨⟨v121, g121_n18_0_4_f0, g121_n18_0_4_f1, g121_n18_0_4_f2, g121_n18_0_5_f0, g121_n18_0_5_f1⟩, h, hg121⟩ := h
    replace h := ct rfl h
    refine wl_skip rfl rfl ?_
    refine wl_skip rfl rfl ?_
    refine wl_skip rfl rfl ?_
    simp only [Option.some.injEq, Prod.mk.injEq] at h
    obtain ⟨rfl, rfl, rfl, rfl, rfl, rfl⟩ := h
    have h := hg121; clear hg121; try dsimp only at h
    refine wl_pure (v := .bool true) tt_ok rfl rfl ?_
    refine wl_pure tt_ok rfl rfl ?_
    replace h := bsome h; obtain ⟨⟨v126, g126_n18_0_4_f0, g126_n18_0_4_f1, g126_n18_0_4_f2, g126_n18_0_5_f0, g126_n18_0_5_f1⟩, h, hg126⟩ := h
    replace h := ct rfl h
    refine wl_skip rfl rfl ?_
    refine wl_skip rfl rfl ?_
    refine wl_skip rfl rfl ?_
    simp only [Option.some.injEq, Prod.mk.injEq] at h
    obtain ⟨rfl, rfl, rfl, rfl, rfl, rfl⟩ := h
    have h := hg126; clear hg126; try dsimp only at h
    refine wl_pure (v := .bool true) tt_ok rfl rfl ?_
    refine wl_pure tt_ok rfl rfl ?_
    replace h := bsome h; obtain ⟨⟨v131, g131_n18_0_4_f0, g131_n18_0_4_f1, g131_n18_0_4_f2, g131_n18_0_5_f0, g131_n18_0_5_f1⟩, h, hg131⟩ := h
    replace h := ct rfl h
    refine wl_skip rfl rfl ?_
    refine wl_skip rfl rfl ?_
    refine wl_skip rfl rfl ?_
    simp only [Option.some.injEq, Prod.mk.injEq] at h
    obtain ⟨rfl, rfl, rfl, rfl, rfl, rfl⟩ := h
    have h := hg131; clear hg131; try dsimp only at h
    refine wl_pure (v := .bool true) tt_ok rfl rfl ?_
    refine wl_pure tt_ok rfl rfl ?_
    replace h := bsome h; obtain ⟨⟨v136, g136_n18_0_4_f0, g136_n18_0_4_f1, g136_n18_0_4_f2, g136_n18_0_5_f0, g136_n18_0_5_f1⟩, h, hg136⟩ := h
    replace h := ct rfl h
    refine wl_skip rfl rfl ?_
    refine wl_skip rfl rfl ?_
    refine wl_skip rfl rfl ?_
    simp only [Option.some.injEq, Prod.mk.injEq] at h
    obtain ⟨rfl, rfl, rfl, rfl, rfl, rfl⟩ := h
    have h := hg136; clear hg136; try dsimp only at h
    refine wl_pure (v := .bool true) tt_ok rfl rfl ?_
    refine wl_nil (wx_then ?_)
    replace h := ct rfl h
    refine wc_cond_true rfl ?_
    refine wc_seq (wc_region ?_)
    refine wl_pure tt_ok rfl rfl ?_
    refine wl_nil (wx_then (wc_ret (wx_then_ret ?_)))
    simp only [Option.some.injEq] at h
    obtain rfl := h
    exact wx_pf tt_ok (.inl rfl) Tryd.results4 (Res.tmp rfl Res.nil) rfl
  replace h := cf hc h
  refine wl_run rfl ?_
  refine wl_pure tt_ok rfl rfl ?_
  simp only [Option.some.injEq, Prod.mk.injEq] at h
  obtain rfl := h
  have h := hg79; clear hg79
  refine wl_pure (v := .bool v67_1) tt_ok rfl rfl ?_
  refine wl_pure tt_ok rfl rfl ?_
  replace h := bsome h; obtain ⟨v84, h, hg84⟩ := h
  refine wl_split (t := 80) rfl (fun hc => ?_) (fun hc => ?_)
  · replace h := ct hc h
    refine wl_skip rfl rfl ?_
    refine wl_skip rfl rfl ?_
    refine wl_skip rfl rfl ?_
    simp only [Option.some.injEq, Prod.mk.injEq] at h
    obtain rfl := h
    have h := hg84; clear hg84
    refine wl_pure (v := .bool true) tt_ok rfl rfl ?_
    refine wl_pure tt_ok rfl rfl ?_
    replace h := bsome h; obtain ⟨v89, h, hg89⟩ := h
    replace h := ct rfl h
    refine wl_skip rfl rfl ?_
    refine wl_skip rfl rfl ?_
    refine wl_skip rfl rfl ?_
    simp only [Option.some.injEq, Prod.mk.injEq] at h
    obtain rfl := h
    have h := hg89; clear hg89
    refine wl_pure (v := .bool true) tt_ok rfl rfl ?_
    refine wl_pure tt_ok rfl rfl ?_
    replace h := bsome h; obtain ⟨v95, h, hg95⟩ := h
    replace h := ct rfl h
    refine wl_skip rfl rfl ?_
    refine wl_skip rfl rfl ?_
    refine wl_skip rfl rfl ?_
    refine wl_skip rfl rfl ?_
    simp only [Option.some.injEq, Prod.mk.injEq] at h
    obtain rfl := h
    have h := hg95; clear hg95
    refine wl_pure (v := .bool true) tt_ok rfl rfl ?_
    refine wl_pure tt_ok rfl rfl ?_
    replace h := bsome h; obtain ⟨v100, h, hg100⟩ := h
    replace h := ct rfl h
    refine wl_skip rfl rfl ?_
    refine wl_skip rfl rfl ?_
    refine wl_skip rfl rfl ?_
    simp only [Option.some.injEq, Prod.mk.injEq] at h
    obtain rfl := h
    have h := hg100; clear hg100
    refine wl_pure (v := .bool true) tt_ok rfl rfl ?_
    refine wl_pure tt_ok rfl rfl ?_
    replace h := bsome h; obtain ⟨v106, h, hg106⟩ := h
    replace h := ct rfl h
    refine wl_skip rfl rfl ?_
    refine wl_skip rfl rfl ?_
    refine wl_skip rfl rfl ?_
    refine wl_skip rfl rfl ?_
    simp only [Option.some.injEq, Prod.mk.injEq] at h
    obtain rfl := h
    have h := hg106; clear hg106
    refine wl_pure (v := .bool true) tt_ok rfl rfl ?_
    refine wl_pure tt_ok rfl rfl ?_
    replace h := bsome h; obtain ⟨⟨v111, g111_n18_0_f0, g111_n18_0_f1, g111_n18_0_f2_0, g111_n18_0_f2_1, g111_n18_0_f2_2, g111_n18_0_f2_3, g111_n18_0_f2_4, g111_n18_0_f3⟩, h, hg111⟩ := h
    replace h := ct rfl h
    refine wl_skip rfl rfl ?_
    refine wl_skip rfl rfl ?_
    refine wl_skip rfl rfl ?_
    simp only [Option.some.injEq, Prod.mk.injEq] at h
    obtain ⟨rfl, rfl, rfl, rfl, rfl, rfl, rfl, rfl, rfl⟩ := h
    have h := hg111; clear hg111; try dsimp only at h
    refine wl_pure (v := .bool true) tt_ok rfl rfl ?_
    refine wl_pure tt_ok rfl rfl ?_
    replace h := bsome h; obtain ⟨⟨v116, g116_n18_0_4_f0, g116_n18_0_4_f1, g116_n18_0_4_f2, g116_n18_0_5_f0, g116_n18_0_5_f1⟩, h, hg116⟩ := h
    replace h := ct rfl h
    refine wl_skip rfl rfl ?_
    refine wl_skip rfl rfl ?_
    refine wl_skip rfl rfl ?_
    simp only [Option.some.injEq, Prod.mk.injEq] at h
    obtain ⟨rfl, rfl, rfl, rfl, rfl, rfl⟩ := h
    have h := hg116; clear hg116; try dsimp only at h
    refine wl_pure (v := .bool true) tt_ok rfl rfl ?_
    refine wl_pure tt_ok rfl rfl ?_
    replace h := bsome h; obtain ⟨⟨v121, g121_n18_0_4_f0, g121_n18_0_4_f1, g121_n18_0_4_f2, g121_n18_0_5_f0, g121_n18_0_5_f1⟩, h, hg121⟩ := h
    replace h := ct rfl h
    refine wl_skip rfl rfl ?_
    refine wl_skip rfl rfl ?_
    refine wl_skip rfl rfl ?_
    simp only [Option.some.injEq, Prod.mk.injEq] at h
    obtain ⟨rfl, rfl, rfl, rfl, rfl, rfl⟩ := h
    have h := hg121; clear hg121; try dsimp only at h
    refine wl_pure (v := .bool true) tt_ok rfl rfl ?_
    refine wl_pure tt_ok rfl rfl ?_
    replace h := bsome h; obtain ⟨⟨v126, g126_n18_0_4_f0, g126_n18_0_4_f1, g126_n18_0_4_f2, g126_n18_0_5_f0, g126_n18_0_5_f1⟩, h, hg126⟩ := h
    replace h := ct rfl h
    refine wl_skip rfl rfl ?_
    refine wl_skip rfl rfl ?_
    refine wl_skip rfl rfl ?_
    simp only [Option.some.injEq, Prod.mk.injEq] at h
    obtain ⟨rfl, rfl, rfl, rfl, rfl, rfl⟩ := h
    have h := hg126; clear hg126; try dsimp only at h
    refine wl_pure (v := .bool true) tt_ok rfl rfl ?_
    refine wl_pure tt_ok rfl rfl ?_
    replace h := bsome h; obtain ⟨⟨v131, g131_n18_0_4_f0, g131_n18_0_4_f1, g131_n18_0_4_f2, g131_n18_0_5_f0, g131_n18_0_5_f1⟩, h, hg131⟩ := h
    replace h := ct rfl h
    refine wl_skip rfl rfl ?_
    refine wl_skip rfl rfl ?_
    refine wl_skip rfl rfl ?_
    simp only [Option.some.injEq, Prod.mk.injEq] at h
    obtain ⟨rfl, rfl, rfl, rfl, rfl, rfl⟩ := h
    have h := hg131; clear hg131; try dsimp only at h
    refine wl_pure (v := .bool true) tt_ok rfl rfl ?_
    refine wl_pure tt_ok rfl rfl ?_
    replace h := bsome h; obtain ⟨⟨v136, g136_n18_0_4_f0, g136_n18_0_4_f1, g136_n18_0_4_f2, g136_n18_0_5_f0, g136_n18_0_5_f1⟩, h, hg136⟩ := h
    replace h := ct rfl h
    refine wl_skip rfl rfl ?_
    refine wl_skip rfl rfl ?_
    refine wl_skip rfl rfl ?_
    simp only [Option.some.injEq, Prod.mk.injEq] at h
    obtain ⟨rfl, rfl, rfl, rfl, rfl, rfl⟩ := h
    have h := hg136; clear hg136; try dsimp only at h
    refine wl_pure (v := .bool true) tt_ok rfl rfl ?_
    refine wl_nil (wx_then ?_)
    replace h := ct rfl h
    refine wc_cond_true rfl ?_
    refine wc_seq (wc_region ?_)
    refine wl_pure tt_ok rfl rfl ?_
    refine wl_nil (wx_then (wc_ret (wx_then_ret ?_)))
    simp only [Option.some.injEq] at h
    obtain rfl := h
    exact wx_pf tt_ok (.inl rfl) Tryd.results4 (Res.tmp rfl Res.nil) rfl
  replace h := cf hc h
  refine wl_run rfl ?_
  refine wl_val (v := .agg #[.int .u8 v62_0.1, .int .u8 v62_0.2]) (val_load tt_ok rfl (List.Mem.tail _ (mR (mR (List.Mem.tail _ (mR (List.Mem.tail _ (mR (mR (List.Mem.tail _ (List.Mem.head _)))))))))) rfl) rfl ?_
  refine wl_run rfl ?_
  refine wl_pure (v := .agg #[.int .u8 (2 : Int), .int .u8 (1 : Int)]) tt_ok rfl rfl ?_
  refine wl_run rfl ?_
  refine wl_val (v := .bool (!((v62_0.1 == (2 : Int)) && (v62_0.2 == (1 : Int))))) (val_nes tt_ok tt_eq tt_one Tryd.eqGuardType45 rfl rfl rfl rfl rfl) rfl ?_
  simp only [Option.some.injEq, Prod.mk.injEq] at h
  obtain rfl := h
  have h := hg84; clear hg84
  refine wl_pure (v := .bool (!((v62_0.1 == (2 : Int)) && (v62_0.2 == (1 : Int))))) tt_ok rfl rfl ?_
  refine wl_pure tt_ok rfl rfl ?_
  replace h := bsome h; obtain ⟨v89, h, hg89⟩ := h
  refine wl_split (t := 85) rfl (fun hc => ?_) (fun hc => ?_)
  · replace h := ct hc h
    refine wl_skip rfl rfl ?_
    refine wl_skip rfl rfl ?_
    refine wl_skip rfl rfl ?_
    simp only [Option.some.injEq, Prod.mk.injEq] at h
    obtain rfl := h
    have h := hg89; clear hg89
    refine wl_pure (v := .bool true) tt_ok rfl rfl ?_
    refine wl_pure tt_ok rfl rfl ?_
    replace h := bsome h; obtain ⟨v95, h, hg95⟩ := h
    replace h := ct rfl h
    refine wl_skip rfl rfl ?_
    refine wl_skip rfl rfl ?_
    refine wl_skip rfl rfl ?_
    refine wl_skip rfl rfl ?_
    simp only [Option.some.injEq, Prod.mk.injEq] at h
    obtain rfl := h
    have h := hg95; clear hg95
    refine wl_pure (v := .bool true) tt_ok rfl rfl ?_
    refine wl_pure tt_ok rfl rfl ?_
    replace h := bsome h; obtain ⟨v100, h, hg100⟩ := h
    replace h := ct rfl h
    refine wl_skip rfl rfl ?_
    refine wl_skip rfl rfl ?_
    refine wl_skip rfl rfl ?_
    simp only [Option.some.injEq, Prod.mk.injEq] at h
    obtain rfl := h
    have h := hg100; clear hg100
    refine wl_pure (v := .bool true) tt_ok rfl rfl ?_
    refine wl_pure tt_ok rfl rfl ?_
    replace h := bsome h; obtain ⟨v106, h, hg106⟩ := h
    replace h := ct rfl h
    refine wl_skip rfl rfl ?_
    refine wl_skip rfl rfl ?_
    refine wl_skip rfl rfl ?_
    refine wl_skip rfl rfl ?_
    simp only [Option.some.injEq, Prod.mk.injEq] at h
    obtain rfl := h
    have h := hg106; clear hg106
    refine wl_pure (v := .bool true) tt_ok rfl rfl ?_
    refine wl_pure tt_ok rfl rfl ?_
    replace h := bsome h; obtain ⟨⟨v111, g111_n18_0_f0, g111_n18_0_f1, g111_n18_0_f2_0, g111_n18_0_f2_1, g111_n18_0_f2_2, g111_n18_0_f2_3, g111_n18_0_f2_4, g111_n18_0_f3⟩, h, hg111⟩ := h
    replace h := ct rfl h
    refine wl_skip rfl rfl ?_
    refine wl_skip rfl rfl ?_
    refine wl_skip rfl rfl ?_
    simp only [Option.some.injEq, Prod.mk.injEq] at h
    obtain ⟨rfl, rfl, rfl, rfl, rfl, rfl, rfl, rfl, rfl⟩ := h
    have h := hg111; clear hg111; try dsimp only at h
    refine wl_pure (v := .bool true) tt_ok rfl rfl ?_
    refine wl_pure tt_ok rfl rfl ?_
    replace h := bsome h; obtain ⟨⟨v116, g116_n18_0_4_f0, g116_n18_0_4_f1, g116_n18_0_4_f2, g116_n18_0_5_f0, g116_n18_0_5_f1⟩, h, hg116⟩ := h
    replace h := ct rfl h
    refine wl_skip rfl rfl ?_
    refine wl_skip rfl rfl ?_
    refine wl_skip rfl rfl ?_
    simp only [Option.some.injEq, Prod.mk.injEq] at h
    obtain ⟨rfl, rfl, rfl, rfl, rfl, rfl⟩ := h
    have h := hg116; clear hg116; try dsimp only at h
    refine wl_pure (v := .bool true) tt_ok rfl rfl ?_
    refine wl_pure tt_ok rfl rfl ?_
    replace h := bsome h; obtain ⟨⟨v121, g121_n18_0_4_f0, g121_n18_0_4_f1, g121_n18_0_4_f2, g121_n18_0_5_f0, g121_n18_0_5_f1⟩, h, hg121⟩ := h
    replace h := ct rfl h
    refine wl_skip rfl rfl ?_
    refine wl_skip rfl rfl ?_
    refine wl_skip rfl rfl ?_
    simp only [Option.some.injEq, Prod.mk.injEq] at h
    obtain ⟨rfl, rfl, rfl, rfl, rfl, rfl⟩ := h
    have h := hg121; clear hg121; try dsimp only at h
    refine wl_pure (v := .bool true) tt_ok rfl rfl ?_
    refine wl_pure tt_ok rfl rfl ?_
    replace h := bsome h; obtain ⟨⟨v126, g126_n18_0_4_f0, g126_n18_0_4_f1, g126_n18_0_4_f2, g126_n18_0_5_f0, g126_n18_0_5_f1⟩, h, hg126⟩ := h
    replace h := ct rfl h
    refine wl_skip rfl rfl ?_
    refine wl_skip rfl rfl ?_
    refine wl_skip rfl rfl ?_
    simp only [Option.some.injEq, Prod.mk.injEq] at h
    obtain ⟨rfl, rfl, rfl, rfl, rfl, rfl⟩ := h
    have h := hg126; clear hg126; try dsimp only at h
    refine wl_pure (v := .bool true) tt_ok rfl rfl ?_
    refine wl_pure tt_ok rfl rfl ?_
    replace h := bsome h; obtain ⟨⟨v131, g131_n18_0_4_f0, g131_n18_0_4_f1, g131_n18_0_4_f2, g131_n18_0_5_f0, g131_n18_0_5_f1⟩, h, hg131⟩ := h
    replace h := ct rfl h
    refine wl_skip rfl rfl ?_
    refine wl_skip rfl rfl ?_
    refine wl_skip rfl rfl ?_
    simp only [Option.some.injEq, Prod.mk.injEq] at h
    obtain ⟨rfl, rfl, rfl, rfl, rfl, rfl⟩ := h
    have h := hg131; clear hg131; try dsimp only at h
    refine wl_pure (v := .bool true) tt_ok rfl rfl ?_
    refine wl_pure tt_ok rfl rfl ?_
    replace h := bsome h; obtain ⟨⟨v136, g136_n18_0_4_f0, g136_n18_0_4_f1, g136_n18_0_4_f2, g136_n18_0_5_f0, g136_n18_0_5_f1⟩, h, hg136⟩ := h
    replace h := ct rfl h
    refine wl_skip rfl rfl ?_
    refine wl_skip rfl rfl ?_
    refine wl_skip rfl rfl ?_
    simp only [Option.some.injEq, Prod.mk.injEq] at h
    obtain ⟨rfl, rfl, rfl, rfl, rfl, rfl⟩ := h
    have h := hg136; clear hg136; try dsimp only at h
    refine wl_pure (v := .bool true) tt_ok rfl rfl ?_
    refine wl_nil (wx_then ?_)
    replace h := ct rfl h
    refine wc_cond_true rfl ?_
    refine wc_seq (wc_region ?_)
    refine wl_pure tt_ok rfl rfl ?_
    refine wl_nil (wx_then (wc_ret (wx_then_ret ?_)))
    simp only [Option.some.injEq] at h
    obtain rfl := h
    exact wx_pf tt_ok (.inl rfl) Tryd.results4 (Res.tmp rfl Res.nil) rfl
  replace h := cf hc h
  refine wl_run rfl ?_
  refine wl_pure tt_ok rfl rfl ?_
  refine wl_run rfl ?_
  refine wl_val (v := .int .i64 (v71.length : Int)) (val_len tt_ok rfl rfl v71N0) rfl ?_
  refine wl_run rfl ?_
  refine wl_pure (v := .bool ((v71.length : Int) != (1 : Int))) tt_ok rfl rfl ?_
  simp only [Option.some.injEq, Prod.mk.injEq] at h
  obtain rfl := h
  have h := hg89; clear hg89
  refine wl_pure (v := .bool ((v71.length : Int) != (1 : Int))) tt_ok rfl rfl ?_
  refine wl_pure tt_ok rfl rfl ?_
  replace h := bsome h; obtain ⟨v95, h, hg95⟩ := h
  refine wl_split (t := 90) rfl (fun hc => ?_) (fun hc => ?_)
  · replace h := ct hc h
    refine wl_skip rfl rfl ?_
    refine wl_skip rfl rfl ?_
    refine wl_skip rfl rfl ?_
    refine wl_skip rfl rfl ?_
    simp only [Option.some.injEq, Prod.mk.injEq] at h
    obtain rfl := h
    have h := hg95; clear hg95
    refine wl_pure (v := .bool true) tt_ok rfl rfl ?_
    refine wl_pure tt_ok rfl rfl ?_
    replace h := bsome h; obtain ⟨v100, h, hg100⟩ := h
    replace h := ct rfl h
    refine wl_skip rfl rfl ?_
    refine wl_skip rfl rfl ?_
    refine wl_skip rfl rfl ?_
    simp only [Option.some.injEq, Prod.mk.injEq] at h
    obtain rfl := h
    have h := hg100; clear hg100
    refine wl_pure (v := .bool true) tt_ok rfl rfl ?_
    refine wl_pure tt_ok rfl rfl ?_
    replace h := bsome h; obtain ⟨v106, h, hg106⟩ := h
    replace h := ct rfl h
    refine wl_skip rfl rfl ?_
    refine wl_skip rfl rfl ?_
    refine wl_skip rfl rfl ?_
    refine wl_skip rfl rfl ?_
    simp only [Option.some.injEq, Prod.mk.injEq] at h
    obtain rfl := h
    have h := hg106; clear hg106
    refine wl_pure (v := .bool true) tt_ok rfl rfl ?_
    refine wl_pure tt_ok rfl rfl ?_
    replace h := bsome h; obtain ⟨⟨v111, g111_n18_0_f0, g111_n18_0_f1, g111_n18_0_f2_0, g111_n18_0_f2_1, g111_n18_0_f2_2, g111_n18_0_f2_3, g111_n18_0_f2_4, g111_n18_0_f3⟩, h, hg111⟩ := h
    replace h := ct rfl h
    refine wl_skip rfl rfl ?_
    refine wl_skip rfl rfl ?_
    refine wl_skip rfl rfl ?_
    simp only [Option.some.injEq, Prod.mk.injEq] at h
    obtain ⟨rfl, rfl, rfl, rfl, rfl, rfl, rfl, rfl, rfl⟩ := h
    have h := hg111; clear hg111; try dsimp only at h
    refine wl_pure (v := .bool true) tt_ok rfl rfl ?_
    refine wl_pure tt_ok rfl rfl ?_
    replace h := bsome h; obtain ⟨⟨v116, g116_n18_0_4_f0, g116_n18_0_4_f1, g116_n18_0_4_f2, g116_n18_0_5_f0, g116_n18_0_5_f1⟩, h, hg116⟩ := h
    replace h := ct rfl h
    refine wl_skip rfl rfl ?_
    refine wl_skip rfl rfl ?_
    refine wl_skip rfl rfl ?_
    simp only [Option.some.injEq, Prod.mk.injEq] at h
    obtain ⟨rfl, rfl, rfl, rfl, rfl, rfl⟩ := h
    have h := hg116; clear hg116; try dsimp only at h
    refine wl_pure (v := .bool true) tt_ok rfl rfl ?_
    refine wl_pure tt_ok rfl rfl ?_
    replace h := bsome h; obtain ⟨⟨v121, g121_n18_0_4_f0, g121_n18_0_4_f1, g121_n18_0_4_f2, g121_n18_0_5_f0, g121_n18_0_5_f1⟩, h, hg121⟩ := h
    replace h := ct rfl h
    refine wl_skip rfl rfl ?_
    refine wl_skip rfl rfl ?_
    refine wl_skip rfl rfl ?_
    simp only [Option.some.injEq, Prod.mk.injEq] at h
    obtain ⟨rfl, rfl, rfl, rfl, rfl, rfl⟩ := h
    have h := hg121; clear hg121; try dsimp only at h
    refine wl_pure (v := .bool true) tt_ok rfl rfl ?_
    refine wl_pure tt_ok rfl rfl ?_
    replace h := bsome h; obtain ⟨⟨v126, g126_n18_0_4_f0, g126_n18_0_4_f1, g126_n18_0_4_f2, g126_n18_0_5_f0, g126_n18_0_5_f1⟩, h, hg126⟩ := h
    replace h := ct rfl h
    refine wl_skip rfl rfl ?_
    refine wl_skip rfl rfl ?_
    refine wl_skip rfl rfl ?_
    simp only [Option.some.injEq, Prod.mk.injEq] at h
    obtain ⟨rfl, rfl, rfl, rfl, rfl, rfl⟩ := h
    have h := hg126; clear hg126; try dsimp only at h
    refine wl_pure (v := .bool true) tt_ok rfl rfl ?_
    refine wl_pure tt_ok rfl rfl ?_
    replace h := bsome h; obtain ⟨⟨v131, g131_n18_0_4_f0, g131_n18_0_4_f1, g131_n18_0_4_f2, g131_n18_0_5_f0, g131_n18_0_5_f1⟩, h, hg131⟩ := h
    replace h := ct rfl h
    refine wl_skip rfl rfl ?_
    refine wl_skip rfl rfl ?_
    refine wl_skip rfl rfl ?_
    simp only [Option.some.injEq, Prod.mk.injEq] at h
    obtain ⟨rfl, rfl, rfl, rfl, rfl, rfl⟩ := h
    have h := hg131; clear hg131; try dsimp only at h
    refine wl_pure (v := .bool true) tt_ok rfl rfl ?_
    refine wl_pure tt_ok rfl rfl ?_
    replace h := bsome h; obtain ⟨⟨v136, g136_n18_0_4_f0, g136_n18_0_4_f1, g136_n18_0_4_f2, g136_n18_0_5_f0, g136_n18_0_5_f1⟩, h, hg136⟩ := h
    replace h := ct rfl h
    refine wl_skip rfl rfl ?_
    refine wl_skip rfl rfl ?_
    refine wl_skip rfl rfl ?_
    simp only [Option.some.injEq, Prod.mk.injEq] at h
    obtain ⟨rfl, rfl, rfl, rfl, rfl, rfl⟩ := h
    have h := hg136; clear hg136; try dsimp only at h
    refine wl_pure (v := .bool true) tt_ok rfl rfl ?_
    refine wl_nil (wx_then ?_)
    replace h := ct rfl h
    refine wc_cond_true rfl ?_
    refine wc_seq (wc_region ?_)
    refine wl_pure tt_ok rfl rfl ?_
    refine wl_nil (wx_then (wc_ret (wx_then_ret ?_)))
    simp only [Option.some.injEq] at h
    obtain rfl := h
    exact wx_pf tt_ok (.inl rfl) Tryd.results4 (Res.tmp rfl Res.nil) rfl
  replace h := cf hc h
  refine wl_run rfl ?_
  refine wl_pure tt_ok rfl rfl ?_
  replace h := bsome h; obtain ⟨v92, x92, h⟩ := h
  refine wl_run rfl ?_
  refine wl_val (v := .pointer (some ((adOf v71a0).add ((0 : Int).toNat * 1 + 0)))) (val_ix (enc := (e1 .u8)) tt_ok rfl rfl rfl rfl v71N0 (Rds.of_vec v71V0) (e1_len _) rfl x92) rfl ?_
  refine wl_run rfl ?_
  refine wl_val (v := .int .u8 v92) (val_le (enc := (e1 .u8)) (xs := v71) tt_ok rfl (Rds.of_vec v71V0) ⟨_, (Sel.sc (Sel.sa (Sel.sa (Sel.sc (Sel.sa (Sel.sc (Sel.sa Sel.ha)))))))⟩ (e1_len _) x92 rfl) rfl ?_
  refine wl_run rfl ?_
  refine wl_pure (v := .bool (v92 != (2 : Int))) tt_ok rfl rfl ?_
  simp only [Option.some.injEq, Prod.mk.injEq] at h
  obtain rfl := h
  have h := hg95; clear hg95
  refine wl_pure (v := .bool (v92 != (2 : Int))) tt_ok rfl rfl ?_
  refine wl_pure tt_ok rfl rfl ?_
  replace h := bsome h; obtain ⟨v100, h, hg100⟩ := h
  refine wl_split (t := 96) rfl (fun hc => ?_) (fun hc => ?_)
  · replace h := ct hc h
    refine wl_skip rfl rfl ?_
    refine wl_skip rfl rfl ?_
    refine wl_skip rfl rfl ?_
    simp only [Option.some.injEq, Prod.mk.injEq] at h
    obtain rfl := h
    have h := hg100; clear hg100
    refine wl_pure (v := .bool true) tt_ok rfl rfl ?_
    refine wl_pure tt_ok rfl rfl ?_
    replace h := bsome h; obtain ⟨v106, h, hg106⟩ := h
    replace h := ct rfl h
    refine wl_skip rfl rfl ?_
    refine wl_skip rfl rfl ?_
    refine wl_skip rfl rfl ?_
    refine wl_skip rfl rfl ?_
    simp only [Option.some.injEq, Prod.mk.injEq] at h
    obtain rfl := h
    have h := hg106; clear hg106
    refine wl_pure (v := .bool true) tt_ok rfl rfl ?_
    refine wl_pure tt_ok rfl rfl ?_
    replace h := bsome h; obtain ⟨⟨v111, g111_n18_0_f0, g111_n18_0_f1, g111_n18_0_f2_0, g111_n18_0_f2_1, g111_n18_0_f2_2, g111_n18_0_f2_3, g111_n18_0_f2_4, g111_n18_0_f3⟩, h, hg111⟩ := h
    replace h := ct rfl h
    refine wl_skip rfl rfl ?_
    refine wl_skip rfl rfl ?_
    refine wl_skip rfl rfl ?_
    simp only [Option.some.injEq, Prod.mk.injEq] at h
    obtain ⟨rfl, rfl, rfl, rfl, rfl, rfl, rfl, rfl, rfl⟩ := h
    have h := hg111; clear hg111; try dsimp only at h
    refine wl_pure (v := .bool true) tt_ok rfl rfl ?_
    refine wl_pure tt_ok rfl rfl ?_
    replace h := bsome h; obtain ⟨⟨v116, g116_n18_0_4_f0, g116_n18_0_4_f1, g116_n18_0_4_f2, g116_n18_0_5_f0, g116_n18_0_5_f1⟩, h, hg116⟩ := h
    replace h := ct rfl h
    refine wl_skip rfl rfl ?_
    refine wl_skip rfl rfl ?_
    refine wl_skip rfl rfl ?_
    simp only [Option.some.injEq, Prod.mk.injEq] at h
    obtain ⟨rfl, rfl, rfl, rfl, rfl, rfl⟩ := h
    have h := hg116; clear hg116; try dsimp only at h
    refine wl_pure (v := .bool true) tt_ok rfl rfl ?_
    refine wl_pure tt_ok rfl rfl ?_
    replace h := bsome h; obtain ⟨⟨v121, g121_n18_0_4_f0, g121_n18_0_4_f1, g121_n18_0_4_f2, g121_n18_0_5_f0, g121_n18_0_5_f1⟩, h, hg121⟩ := h
    replace h := ct rfl h
    refine wl_skip rfl rfl ?_
    refine wl_skip rfl rfl ?_
    refine wl_skip rfl rfl ?_
    simp only [Option.some.injEq, Prod.mk.injEq] at h
    obtain ⟨rfl, rfl, rfl, rfl, rfl, rfl⟩ := h
    have h := hg121; clear hg121; try dsimp only at h
    refine wl_pure (v := .bool true) tt_ok rfl rfl ?_
    refine wl_pure tt_ok rfl rfl ?_
    replace h := bsome h; obtain ⟨⟨v126, g126_n18_0_4_f0, g126_n18_0_4_f1, g126_n18_0_4_f2, g126_n18_0_5_f0, g126_n18_0_5_f1⟩, h, hg126⟩ := h
    replace h := ct rfl h
    refine wl_skip rfl rfl ?_
    refine wl_skip rfl rfl ?_
    refine wl_skip rfl rfl ?_
    simp only [Option.some.injEq, Prod.mk.injEq] at h
    obtain ⟨rfl, rfl, rfl, rfl, rfl, rfl⟩ := h
    have h := hg126; clear hg126; try dsimp only at h
    refine wl_pure (v := .bool true) tt_ok rfl rfl ?_
    refine wl_pure tt_ok rfl rfl ?_
    replace h := bsome h; obtain ⟨⟨v131, g131_n18_0_4_f0, g131_n18_0_4_f1, g131_n18_0_4_f2, g131_n18_0_5_f0, g131_n18_0_5_f1⟩, h, hg131⟩ := h
    replace h := ct rfl h
    refine wl_skip rfl rfl ?_
    refine wl_skip rfl rfl ?_
    refine wl_skip rfl rfl ?_
    simp only [Option.some.injEq, Prod.mk.injEq] at h
    obtain ⟨rfl, rfl, rfl, rfl, rfl, rfl⟩ := h
    have h := hg131; clear hg131; try dsimp only at h
    refine wl_pure (v := .bool true) tt_ok rfl rfl ?_
    refine wl_pure tt_ok rfl rfl ?_
    replace h := bsome h; obtain ⟨⟨v136, g136_n18_0_4_f0, g136_n18_0_4_f1, g136_n18_0_4_f2, g136_n18_0_5_f0, g136_n18_0_5_f1⟩, h, hg136⟩ := h
    replace h := ct rfl h
    refine wl_skip rfl rfl ?_
    refine wl_skip rfl rfl ?_
    refine wl_skip rfl rfl ?_
    simp only [Option.some.injEq, Prod.mk.injEq] at h
    obtain ⟨rfl, rfl, rfl, rfl, rfl, rfl⟩ := h
    have h := hg136; clear hg136; try dsimp only at h
    refine wl_pure (v := .bool true) tt_ok rfl rfl ?_
    refine wl_nil (wx_then ?_)
    replace h := ct rfl h
    refine wc_cond_true rfl ?_
    refine wc_seq (wc_region ?_)
    refine wl_pure tt_ok rfl rfl ?_
    refine wl_nil (wx_then (wc_ret (wx_then_ret ?_)))
    simp only [Option.some.injEq] at h
    obtain rfl := h
    exact wx_pf tt_ok (.inl rfl) Tryd.results4 (Res.tmp rfl Res.nil) rfl
  replace h := cf hc h
  refine wl_run rfl ?_
  refine wl_pure tt_ok rfl rfl ?_
  replace h := bsome h; obtain ⟨v98, x98, h⟩ := h
  refine wl_run rfl ?_
  refine wl_cq Tryd.call19 rfl rfl rfl (q_rd (k_rollback_Engine_Known (p0 := o67_0) (p0_4 := o67_1) (p0_5 := o67_2) o67_0N0 o67_0V0 o67_0N1 o67_0V1 o67_1N0 o67_1V0 o67_2G0 o67_2A0 x98) (pCons Sel.hc (pApp Sel.ha (pApp Sel.ha (pCons Sel.hc (pApp Sel.ha (pCons Sel.hc (pApp Sel.ha pNil))))))) (fun _ _ => trivial)) rfl ?_
  refine wl_run rfl ?_
  refine wl_pure (v := .bool (v98 != (1 : Int))) tt_ok rfl rfl ?_
  simp only [Option.some.injEq, Prod.mk.injEq] at h
  obtain rfl := h
  have h := hg100; clear hg100
  refine wl_pure (v := .bool (v98 != (1 : Int))) tt_ok rfl rfl ?_
  refine wl_pure tt_ok rfl rfl ?_
  replace h := bsome h; obtain ⟨v106, h, hg106⟩ := h
  refine wl_split (t := 101) rfl (fun hc => ?_) (fun hc => ?_)
  · replace h := ct hc h
    refine wl_skip rfl rfl ?_
    refine wl_skip rfl rfl ?_
    refine wl_skip rfl rfl ?_
    refine wl_skip rfl rfl ?_
    simp only [Option.some.injEq, Prod.mk.injEq] at h
    obtain rfl := h
    have h := hg106; clear hg106
    refine wl_pure (v := .bool true) tt_ok rfl rfl ?_
    refine wl_pure tt_ok rfl rfl ?_
    replace h := bsome h; obtain ⟨⟨v111, g111_n18_0_f0, g111_n18_0_f1, g111_n18_0_f2_0, g111_n18_0_f2_1, g111_n18_0_f2_2, g111_n18_0_f2_3, g111_n18_0_f2_4, g111_n18_0_f3⟩, h, hg111⟩ := h
    replace h := ct rfl h
    refine wl_skip rfl rfl ?_
    refine wl_skip rfl rfl ?_
    refine wl_skip rfl rfl ?_
    simp only [Option.some.injEq, Prod.mk.injEq] at h
    obtain ⟨rfl, rfl, rfl, rfl, rfl, rfl, rfl, rfl, rfl⟩ := h
    have h := hg111; clear hg111; try dsimp only at h
    refine wl_pure (v := .bool true) tt_ok rfl rfl ?_
    refine wl_pure tt_ok rfl rfl ?_
    replace h := bsome h; obtain ⟨⟨v116, g116_n18_0_4_f0, g116_n18_0_4_f1, g116_n18_0_4_f2, g116_n18_0_5_f0, g116_n18_0_5_f1⟩, h, hg116⟩ := h
    replace h := ct rfl h
    refine wl_skip rfl rfl ?_
    refine wl_skip rfl rfl ?_
    refine wl_skip rfl rfl ?_
    simp only [Option.some.injEq, Prod.mk.injEq] at h
    obtain ⟨rfl, rfl, rfl, rfl, rfl, rfl⟩ := h
    have h := hg116; clear hg116; try dsimp only at h
    refine wl_pure (v := .bool true) tt_ok rfl rfl ?_
    refine wl_pure tt_ok rfl rfl ?_
    replace h := bsome h; obtain ⟨⟨v121, g121_n18_0_4_f0, g121_n18_0_4_f1, g121_n18_0_4_f2, g121_n18_0_5_f0, g121_n18_0_5_f1⟩, h, hg121⟩ := h
    replace h := ct rfl h
    refine wl_skip rfl rfl ?_
    refine wl_skip rfl rfl ?_
    refine wl_skip rfl rfl ?_
    simp only [Option.some.injEq, Prod.mk.injEq] at h
    obtain ⟨rfl, rfl, rfl, rfl, rfl, rfl⟩ := h
    have h := hg121; clear hg121; try dsimp only at h
    refine wl_pure (v := .bool true) tt_ok rfl rfl ?_
    refine wl_pure tt_ok rfl rfl ?_
    replace h := bsome h; obtain ⟨⟨v126, g126_n18_0_4_f0, g126_n18_0_4_f1, g126_n18_0_4_f2, g126_n18_0_5_f0, g126_n18_0_5_f1⟩, h, hg126⟩ := h
    replace h := ct rfl h
    refine wl_skip rfl rfl ?_
    refine wl_skip rfl rfl ?_
    refine wl_skip rfl rfl ?_
    simp only [Option.some.injEq, Prod.mk.injEq] at h
    obtain ⟨rfl, rfl, rfl, rfl, rfl, rfl⟩ := h
    have h := hg126; clear hg126; try dsimp only at h
    refine wl_pure (v := .bool true) tt_ok rfl rfl ?_
    refine wl_pure tt_ok rfl rfl ?_
    replace h := bsome h; obtain ⟨⟨v131, g131_n18_0_4_f0, g131_n18_0_4_f1, g131_n18_0_4_f2, g131_n18_0_5_f0, g131_n18_0_5_f1⟩, h, hg131⟩ := h
    replace h := ct rfl h
    refine wl_skip rfl rfl ?_
    refine wl_skip rfl rfl ?_
    refine wl_skip rfl rfl ?_
    simp only [Option.some.injEq, Prod.mk.injEq] at h
    obtain ⟨rfl, rfl, rfl, rfl, rfl, rfl⟩ := h
    have h := hg131; clear hg131; try dsimp only at h
    refine wl_pure (v := .bool true) tt_ok rfl rfl ?_
    refine wl_pure tt_ok rfl rfl ?_
    replace h := bsome h; obtain ⟨⟨v136, g136_n18_0_4_f0, g136_n18_0_4_f1, g136_n18_0_4_f2, g136_n18_0_5_f0, g136_n18_0_5_f1⟩, h, hg136⟩ := h
    replace h := ct rfl h
    refine wl_skip rfl rfl ?_
    refine wl_skip rfl rfl ?_
    refine wl_skip rfl rfl ?_
    simp only [Option.some.injEq, Prod.mk.injEq] at h
    obtain ⟨rfl, rfl, rfl, rfl, rfl, rfl⟩ := h
    have h := hg136; clear hg136; try dsimp only at h
    refine wl_pure (v := .bool true) tt_ok rfl rfl ?_
    refine wl_nil (wx_then ?_)
    replace h := ct rfl h
    refine wc_cond_true rfl ?_
    refine wc_seq (wc_region ?_)
    refine wl_pure tt_ok rfl rfl ?_
    refine wl_nil (wx_then (wc_ret (wx_then_ret ?_)))
    simp only [Option.some.injEq] at h
    obtain rfl := h
    exact wx_pf tt_ok (.inl rfl) Tryd.results4 (Res.tmp rfl Res.nil) rfl
  replace h := cf hc h
  refine wl_run rfl ?_
  refine wl_pure tt_ok rfl rfl ?_
  replace h := bsome h; obtain ⟨v103, x103, h⟩ := h
  refine wl_run rfl ?_
  refine wl_cs Tryd.call15 rfl rfl rfl (s_sp (k_rollback_Engine_State (p0 := o67_0) (p0_4 := o67_1) (p0_5 := o67_2) o67_0N0 o67_0V0 o67_0N1 o67_0V1 o67_1N0 o67_1V0 o67_2G0 o67_2A0 x103) (pCons Sel.hc (pApp Sel.ha (pApp Sel.ha (pCons Sel.hc (pApp Sel.ha (pCons Sel.hc (pApp Sel.ha pNil))))))) (fun _ _ => trivial)) rfl ?_
  rintro _ _ ⟨_, ⟨v103a0, v103n0, v103c0, v103B0, v103N0, v103V0, rfl, rfl⟩, rfl⟩
  refine wl_run rfl ?_
  refine wl_pure (v := .int .u64 v103.Frame) tt_ok rfl rfl ?_
  refine wl_run rfl ?_
  refine wl_pure (v := .bool (v103.Frame != (1 : Int))) tt_ok rfl rfl ?_
  simp only [Option.some.injEq, Prod.mk.injEq] at h
  obtain rfl := h
  have h := hg106; clear hg106
  refine wl_pure (v := .bool (v103.Frame != (1 : Int))) tt_ok rfl rfl ?_
  refine wl_pure tt_ok rfl rfl ?_
  replace h := bsome h; obtain ⟨⟨v111, g111_n18_0_f0, g111_n18_0_f1, g111_n18_0_f2_0, g111_n18_0_f2_1, g111_n18_0_f2_2, g111_n18_0_f2_3, g111_n18_0_f2_4, g111_n18_0_f3⟩, h, hg111⟩ := h
  refine wl_split (t := 107) rfl (fun hc => ?_) (fun hc => ?_)
  · replace h := ct hc h
    refine wl_skip rfl rfl ?_
    refine wl_skip rfl rfl ?_
    refine wl_skip rfl rfl ?_
    simp only [Option.some.injEq, Prod.mk.injEq] at h
    obtain ⟨rfl, rfl, rfl, rfl, rfl, rfl, rfl, rfl, rfl⟩ := h
    have h := hg111; clear hg111; try dsimp only at h
    refine wl_pure (v := .bool true) tt_ok rfl rfl ?_
    refine wl_pure tt_ok rfl rfl ?_
    replace h := bsome h; obtain ⟨⟨v116, g116_n18_0_4_f0, g116_n18_0_4_f1, g116_n18_0_4_f2, g116_n18_0_5_f0, g116_n18_0_5_f1⟩, h, hg116⟩ := h
    replace h := ct rfl h
    refine wl_skip rfl rfl ?_
    refine wl_skip rfl rfl ?_
    refine wl_skip rfl rfl ?_
    simp only [Option.some.injEq, Prod.mk.injEq] at h
    obtain ⟨rfl, rfl, rfl, rfl, rfl, rfl⟩ := h
    have h := hg116; clear hg116; try dsimp only at h
    refine wl_pure (v := .bool true) tt_ok rfl rfl ?_
    refine wl_pure tt_ok rfl rfl ?_
    replace h := bsome h; obtain ⟨⟨v121, g121_n18_0_4_f0, g121_n18_0_4_f1, g121_n18_0_4_f2, g121_n18_0_5_f0, g121_n18_0_5_f1⟩, h, hg121⟩ := h
    replace h := ct rfl h
    refine wl_skip rfl rfl ?_
    refine wl_skip rfl rfl ?_
    refine wl_skip rfl rfl ?_
    simp only [Option.some.injEq, Prod.mk.injEq] at h
    obtain ⟨rfl, rfl, rfl, rfl, rfl, rfl⟩ := h
    have h := hg121; clear hg121; try dsimp only at h
    refine wl_pure (v := .bool true) tt_ok rfl rfl ?_
    refine wl_pure tt_ok rfl rfl ?_
    replace h := bsome h; obtain ⟨⟨v126, g126_n18_0_4_f0, g126_n18_0_4_f1, g126_n18_0_4_f2, g126_n18_0_5_f0, g126_n18_0_5_f1⟩, h, hg126⟩ := h
    replace h := ct rfl h
    refine wl_skip rfl rfl ?_
    refine wl_skip rfl rfl ?_
    refine wl_skip rfl rfl ?_
    simp only [Option.some.injEq, Prod.mk.injEq] at h
    obtain ⟨rfl, rfl, rfl, rfl, rfl, rfl⟩ := h
    have h := hg126; clear hg126; try dsimp only at h
    refine wl_pure (v := .bool true) tt_ok rfl rfl ?_
    refine wl_pure tt_ok rfl rfl ?_
    replace h := bsome h; obtain ⟨⟨v131, g131_n18_0_4_f0, g131_n18_0_4_f1, g131_n18_0_4_f2, g131_n18_0_5_f0, g131_n18_0_5_f1⟩, h, hg131⟩ := h
    replace h := ct rfl h
    refine wl_skip rfl rfl ?_
    refine wl_skip rfl rfl ?_
    refine wl_skip rfl rfl ?_
    simp only [Option.some.injEq, Prod.mk.injEq] at h
    obtain ⟨rfl, rfl, rfl, rfl, rfl, rfl⟩ := h
    have h := hg131; clear hg131; try dsimp only at h
    refine wl_pure (v := .bool true) tt_ok rfl rfl ?_
    refine wl_pure tt_ok rfl rfl ?_
    replace h := bsome h; obtain ⟨⟨v136, g136_n18_0_4_f0, g136_n18_0_4_f1, g136_n18_0_4_f2, g136_n18_0_5_f0, g136_n18_0_5_f1⟩, h, hg136⟩ := h
    replace h := ct rfl h
    refine wl_skip rfl rfl ?_
    refine wl_skip rfl rfl ?_
    refine wl_skip rfl rfl ?_
    simp only [Option.some.injEq, Prod.mk.injEq] at h
    obtain ⟨rfl, rfl, rfl, rfl, rfl, rfl⟩ := h
    have h := hg136; clear hg136; try dsimp only at h
    refine wl_pure (v := .bool true) tt_ok rfl rfl ?_
    refine wl_nil (wx_then ?_)
    replace h := ct rfl h
    refine wc_cond_true rfl ?_
    refine wc_seq (wc_region ?_)
    refine wl_pure tt_ok rfl rfl ?_
    refine wl_nil (wx_then (wc_ret (wx_then_ret ?_)))
    simp only [Option.some.injEq] at h
    obtain rfl := h
    exact wx_pf tt_ok (.inl rfl) Tryd.results4 (Res.tmp rfl Res.nil) rfl
  replace h := cf hc h
  refine wl_run rfl ?_
  refine wl_pure tt_ok rfl rfl ?_
  replace h := bsome h; obtain ⟨⟨o109_0, v109⟩, x109, h⟩ := h; try dsimp only at h
  refine wl_run rfl ?_
  refine wl_cs Tryd.call9 rfl rfl rfl (s_sp (k_rollback_Engine_Local (p0 := o67_0) (p0_4 := o67_1) (p0_5 := o67_2) o67_0N0 o67_0V0 o67_0N1 o67_0V1 o67_1N0 o67_1V0 o67_2G0 o67_2A0 x109) (pCons Sel.hc (pApp Sel.ha (pApp Sel.ha (pCons Sel.hc (pApp Sel.ha (pCons Sel.hc (pApp Sel.ha pNil))))))) (fun _ _ => trivial)) rfl ?_
  rintro _ _ ⟨_, ⟨o109_0a0, o109_0n0, o109_0c0, o109_0B0, o109_0a1, o109_0n1, o109_0c1, o109_0B1, o109_0N0, o109_0V0, o109_0N1, o109_0V1, rfl, rfl⟩, rfl⟩
  refine wl_run rfl ?_
  refine wl_pure (v := .bool (v109 != (0 : Int))) tt_ok rfl rfl ?_
  simp only [Option.some.injEq, Prod.mk.injEq] at h
  obtain ⟨rfl, rfl, rfl, rfl, rfl, rfl, rfl, rfl, rfl⟩ := h
  have h := hg111; clear hg111; try dsimp only at h
  refine wl_pure (v := .bool (v109 != (0 : Int))) tt_ok rfl rfl ?_
  refine wl_pure tt_ok rfl rfl ?_
  replace h := bsome h; obtain ⟨⟨v116, g116_n18_0_4_f0, g116_n18_0_4_f1, g116_n18_0_4_f2, g116_n18_0_5_f0, g116_n18_0_5_f1⟩, h, hg116⟩ := h
  refine wl_split (t := 112) rfl (fun hc => ?_) (fun hc => ?_)
  · replace h := ct hc h
    refine wl_skip rfl rfl ?_
    refine wl_skip rfl rfl ?_
    refine wl_skip rfl rfl ?_
    simp only [Option.some.injEq, Prod.mk.injEq] at h
    obtain ⟨rfl, rfl, rfl, rfl, rfl, rfl⟩ := h
    have h := hg116; clear hg116; try dsimp only at h
    refine wl_pure (v := .bool true) tt_ok rfl rfl ?_
    refine wl_pure tt_ok rfl rfl ?_
    replace h := bsome h; obtain ⟨⟨v121, g121_n18_0_4_f0, g121_n18_0_4_f1, g121_n18_0_4_f2, g121_n18_0_5_f0, g121_n18_0_5_f1⟩, h, hg121⟩ := h
    replace h := ct rfl h
    refine wl_skip rfl rfl ?_
    refine wl_skip rfl rfl ?_
    refine wl_skip rfl rfl ?_
    simp only [Option.some.injEq, Prod.mk.injEq] at h
    obtain ⟨rfl, rfl, rfl, rfl, rfl, rfl⟩ := h
    have h := hg121; clear hg121; try dsimp only at h
    refine wl_pure (v := .bool true) tt_ok rfl rfl ?_
    refine wl_pure tt_ok rfl rfl ?_
    replace h := bsome h; obtain ⟨⟨v126, g126_n18_0_4_f0, g126_n18_0_4_f1, g126_n18_0_4_f2, g126_n18_0_5_f0, g126_n18_0_5_f1⟩, h, hg126⟩ := h
    replace h := ct rfl h
    refine wl_skip rfl rfl ?_
    refine wl_skip rfl rfl ?_
    refine wl_skip rfl rfl ?_
    simp only [Option.some.injEq, Prod.mk.injEq] at h
    obtain ⟨rfl, rfl, rfl, rfl, rfl, rfl⟩ := h
    have h := hg126; clear hg126; try dsimp only at h
    refine wl_pure (v := .bool true) tt_ok rfl rfl ?_
    refine wl_pure tt_ok rfl rfl ?_
    replace h := bsome h; obtain ⟨⟨v131, g131_n18_0_4_f0, g131_n18_0_4_f1, g131_n18_0_4_f2, g131_n18_0_5_f0, g131_n18_0_5_f1⟩, h, hg131⟩ := h
    replace h := ct rfl h
    refine wl_skip rfl rfl ?_
    refine wl_skip rfl rfl ?_
    refine wl_skip rfl rfl ?_
    simp only [Option.some.injEq, Prod.mk.injEq] at h
    obtain ⟨rfl, rfl, rfl, rfl, rfl, rfl⟩ := h
    have h := hg131; clear hg131; try dsimp only at h
    refine wl_pure (v := .bool true) tt_ok rfl rfl ?_
    refine wl_pure tt_ok rfl rfl ?_
    replace h := bsome h; obtain ⟨⟨v136, g136_n18_0_4_f0, g136_n18_0_4_f1, g136_n18_0_4_f2, g136_n18_0_5_f0, g136_n18_0_5_f1⟩, h, hg136⟩ := h
    replace h := ct rfl h
    refine wl_skip rfl rfl ?_
    refine wl_skip rfl rfl ?_
    refine wl_skip rfl rfl ?_
    simp only [Option.some.injEq, Prod.mk.injEq] at h
    obtain ⟨rfl, rfl, rfl, rfl, rfl, rfl⟩ := h
    have h := hg136; clear hg136; try dsimp only at h
    refine wl_pure (v := .bool true) tt_ok rfl rfl ?_
    refine wl_nil (wx_then ?_)
    replace h := ct rfl h
    refine wc_cond_true rfl ?_
    refine wc_seq (wc_region ?_)
    refine wl_pure tt_ok rfl rfl ?_
    refine wl_nil (wx_then (wc_ret (wx_then_ret ?_)))
    simp only [Option.some.injEq] at h
    obtain rfl := h
    exact wx_pf tt_ok (.inl rfl) Tryd.results4 (Res.tmp rfl Res.nil) rfl
  replace h := cf hc h
  refine wl_run rfl ?_
  refine wl_pure tt_ok rfl rfl ?_
  replace h := bsome h; obtain ⟨⟨o114_1, o114_2, v114⟩, x114, h⟩ := h; try dsimp only at h
  refine wl_run rfl ?_
  refine wl_cs Tryd.call12 rfl rfl rfl (s_sp (k_rollback_Engine_Remote (p0 := o109_0) (p0_4 := o67_1) (p0_5 := o67_2) o109_0N0 o109_0V0 o109_0N1 o109_0V1 o67_1N0 o67_1V0 o67_2G0 o67_2A0 x114) (pCons Sel.hc (pApp Sel.ha (pApp Sel.ha (pCons Sel.hc (pApp Sel.ha (pCons Sel.hc (pApp Sel.ha pNil))))))) (fun _ _ => trivial)) rfl ?_
  rintro _ _ ⟨_, ⟨o114_1a0, o114_1n0, o114_1c0, o114_1B0, o114_2g0, o114_2P0, o114_1N0, o114_1V0, o114_2G0, o114_2A0, rfl, rfl⟩, rfl⟩
  refine wl_run rfl ?_
  refine wl_pure (v := .bool (v114 != (0 : Int))) tt_ok rfl rfl ?_
  simp only [Option.some.injEq, Prod.mk.injEq] at h
  obtain ⟨rfl, rfl, rfl, rfl, rfl, rfl⟩ := h
  have h := hg116; clear hg116; try dsimp only at h
  refine wl_pure (v := .bool (v114 != (0 : Int))) tt_ok rfl rfl ?_
  refine wl_pure tt_ok rfl rfl ?_
  replace h := bsome h; obtain ⟨⟨v121, g121_n18_0_4_f0, g121_n18_0_4_f1, g121_n18_0_4_f2, g121_n18_0_5_f0, g121_n18_0_5_f1⟩, h, hg121⟩ := h
  refine wl_split (t := 117) rfl (fun hc => ?_) (fun hc => ?_)
  · replace h := ct hc h
    refine wl_skip rfl rfl ?_
    refine wl_skip rfl rfl ?_
    refine wl_skip rfl rfl ?_
    simp only [Option.some.injEq, Prod.mk.injEq] at h
    obtain ⟨rfl, rfl, rfl, rfl, rfl, rfl⟩ := h
    have h := hg121; clear hg121; try dsimp only at h
    refine wl_pure (v := .bool true) tt_ok rfl rfl ?_
    refine wl_pure tt_ok rfl rfl ?_
    replace h := bsome h; obtain ⟨⟨v126, g126_n18_0_4_f0, g126_n18_0_4_f1, g126_n18_0_4_f2, g126_n18_0_5_f0, g126_n18_0_5_f1⟩, h, hg126⟩ := h
    replace h := ct rfl h
    refine wl_skip rfl rfl ?_
    refine wl_skip rfl rfl ?_
    refine wl_skip rfl rfl ?_
    simp only [Option.some.injEq, Prod.mk.injEq] at h
    obtain ⟨rfl, rfl, rfl, rfl, rfl, rfl⟩ := h
    have h := hg126; clear hg126; try dsimp only at h
    refine wl_pure (v := .bool true) tt_ok rfl rfl ?_
    refine wl_pure tt_ok rfl rfl ?_
    replace h := bsome h; obtain ⟨⟨v131, g131_n18_0_4_f0, g131_n18_0_4_f1, g131_n18_0_4_f2, g131_n18_0_5_f0, g131_n18_0_5_f1⟩, h, hg131⟩ := h
    replace h := ct rfl h
    refine wl_skip rfl rfl ?_
    refine wl_skip rfl rfl ?_
    refine wl_skip rfl rfl ?_
    simp only [Option.some.injEq, Prod.mk.injEq] at h
    obtain ⟨rfl, rfl, rfl, rfl, rfl, rfl⟩ := h
    have h := hg131; clear hg131; try dsimp only at h
    refine wl_pure (v := .bool true) tt_ok rfl rfl ?_
    refine wl_pure tt_ok rfl rfl ?_
    replace h := bsome h; obtain ⟨⟨v136, g136_n18_0_4_f0, g136_n18_0_4_f1, g136_n18_0_4_f2, g136_n18_0_5_f0, g136_n18_0_5_f1⟩, h, hg136⟩ := h
    replace h := ct rfl h
    refine wl_skip rfl rfl ?_
    refine wl_skip rfl rfl ?_
    refine wl_skip rfl rfl ?_
    simp only [Option.some.injEq, Prod.mk.injEq] at h
    obtain ⟨rfl, rfl, rfl, rfl, rfl, rfl⟩ := h
    have h := hg136; clear hg136; try dsimp only at h
    refine wl_pure (v := .bool true) tt_ok rfl rfl ?_
    refine wl_nil (wx_then ?_)
    replace h := ct rfl h
    refine wc_cond_true rfl ?_
    refine wc_seq (wc_region ?_)
    refine wl_pure tt_ok rfl rfl ?_
    refine wl_nil (wx_then (wc_ret (wx_then_ret ?_)))
    simp only [Option.some.injEq] at h
    obtain rfl := h
    exact wx_pf tt_ok (.inl rfl) Tryd.results4 (Res.tmp rfl Res.nil) rfl
  replace h := cf hc h
  refine wl_run rfl ?_
  refine wl_pure tt_ok rfl rfl ?_
  replace h := bsome h; obtain ⟨⟨o119_1, o119_2, v119⟩, x119, h⟩ := h; try dsimp only at h
  refine wl_run rfl ?_
  refine wl_cs Tryd.call12 rfl rfl rfl (s_sp (k_rollback_Engine_Remote (p0 := o109_0) (p0_4 := o114_1) (p0_5 := o114_2) o109_0N0 o109_0V0 o109_0N1 o109_0V1 o114_1N0 o114_1V0 o114_2G0 o114_2A0 x119) (pCons Sel.hc (pApp Sel.ha (pApp Sel.ha (pCons Sel.hc (pApp Sel.ha (pCons Sel.hc (pApp Sel.ha pNil))))))) (fun _ _ => trivial)) rfl ?_
  rintro _ _ ⟨_, ⟨o119_1a0, o119_1n0, o119_1c0, o119_1B0, o119_2g0, o119_2P0, o119_1N0, o119_1V0, o119_2G0, o119_2A0, rfl, rfl⟩, rfl⟩
  refine wl_run rfl ?_
  refine wl_pure (v := .bool (v119 != (2 : Int))) tt_ok rfl rfl ?_
  simp only [Option.some.injEq, Prod.mk.injEq] at h
  obtain ⟨rfl, rfl, rfl, rfl, rfl, rfl⟩ := h
  have h := hg121; clear hg121; try dsimp only at h
  refine wl_pure (v := .bool (v119 != (2 : Int))) tt_ok rfl rfl ?_
  refine wl_pure tt_ok rfl rfl ?_
  replace h := bsome h; obtain ⟨⟨v126, g126_n18_0_4_f0, g126_n18_0_4_f1, g126_n18_0_4_f2, g126_n18_0_5_f0, g126_n18_0_5_f1⟩, h, hg126⟩ := h
  refine wl_split (t := 122) rfl (fun hc => ?_) (fun hc => ?_)
  · replace h := ct hc h
    refine wl_skip rfl rfl ?_
    refine wl_skip rfl rfl ?_
    refine wl_skip rfl rfl ?_
    simp only [Option.some.injEq, Prod.mk.injEq] at h
    obtain ⟨rfl, rfl, rfl, rfl, rfl, rfl⟩ := h
    have h := hg126; clear hg126; try dsimp only at h
    refine wl_pure (v := .bool true) tt_ok rfl rfl ?_
    refine wl_pure tt_ok rfl rfl ?_
    replace h := bsome h; obtain ⟨⟨v131, g131_n18_0_4_f0, g131_n18_0_4_f1, g131_n18_0_4_f2, g131_n18_0_5_f0, g131_n18_0_5_f1⟩, h, hg131⟩ := h
    replace h := ct rfl h
    refine wl_skip rfl rfl ?_
    refine wl_skip rfl rfl ?_
    refine wl_skip rfl rfl ?_
    simp only [Option.some.injEq, Prod.mk.injEq] at h
    obtain ⟨rfl, rfl, rfl, rfl, rfl, rfl⟩ := h
    have h := hg131; clear hg131; try dsimp only at h
    refine wl_pure (v := .bool true) tt_ok rfl rfl ?_
    refine wl_pure tt_ok rfl rfl ?_
    replace h := bsome h; obtain ⟨⟨v136, g136_n18_0_4_f0, g136_n18_0_4_f1, g136_n18_0_4_f2, g136_n18_0_5_f0, g136_n18_0_5_f1⟩, h, hg136⟩ := h
    replace h := ct rfl h
    refine wl_skip rfl rfl ?_
    refine wl_skip rfl rfl ?_
    refine wl_skip rfl rfl ?_
    simp only [Option.some.injEq, Prod.mk.injEq] at h
    obtain ⟨rfl, rfl, rfl, rfl, rfl, rfl⟩ := h
    have h := hg136; clear hg136; try dsimp only at h
    refine wl_pure (v := .bool true) tt_ok rfl rfl ?_
    refine wl_nil (wx_then ?_)
    replace h := ct rfl h
    refine wc_cond_true rfl ?_
    refine wc_seq (wc_region ?_)
    refine wl_pure tt_ok rfl rfl ?_
    refine wl_nil (wx_then (wc_ret (wx_then_ret ?_)))
    simp only [Option.some.injEq] at h
    obtain rfl := h
    exact wx_pf tt_ok (.inl rfl) Tryd.results4 (Res.tmp rfl Res.nil) rfl
  replace h := cf hc h
  refine wl_run rfl ?_
  refine wl_pure tt_ok rfl rfl ?_
  replace h := bsome h; obtain ⟨⟨o124_1, o124_2, v124⟩, x124, h⟩ := h; try dsimp only at h
  refine wl_run rfl ?_
  refine wl_cs Tryd.call12 rfl rfl rfl (s_sp (k_rollback_Engine_Remote (p0 := o109_0) (p0_4 := o119_1) (p0_5 := o119_2) o109_0N0 o109_0V0 o109_0N1 o109_0V1 o119_1N0 o119_1V0 o119_2G0 o119_2A0 x124) (pCons Sel.hc (pApp Sel.ha (pApp Sel.ha (pCons Sel.hc (pApp Sel.ha (pCons Sel.hc (pApp Sel.ha pNil))))))) (fun _ _ => trivial)) rfl ?_
  rintro _ _ ⟨_, ⟨o124_1a0, o124_1n0, o124_1c0, o124_1B0, o124_2g0, o124_2P0, o124_1N0, o124_1V0, o124_2G0, o124_2A0, rfl, rfl⟩, rfl⟩
  refine wl_run rfl ?_
  refine wl_pure (v := .bool (v124 != (11 : Int))) tt_ok rfl rfl ?_
  simp only [Option.some.injEq, Prod.mk.injEq] at h
  obtain ⟨rfl, rfl, rfl, rfl, rfl, rfl⟩ := h
  have h := hg126; clear hg126; try dsimp only at h
  refine wl_pure (v := .bool (v124 != (11 : Int))) tt_ok rfl rfl ?_
  refine wl_pure tt_ok rfl rfl ?_
  replace h := bsome h; obtain ⟨⟨v131, g131_n18_0_4_f0, g131_n18_0_4_f1, g131_n18_0_4_f2, g131_n18_0_5_f0, g131_n18_0_5_f1⟩, h, hg131⟩ := h
  refine wl_split (t := 127) rfl (fun hc => ?_) (fun hc => ?_)
  · replace h := ct hc h
    refine wl_skip rfl rfl ?_
    refine wl_skip rfl rfl ?_
    refine wl_skip rfl rfl ?_
    simp only [Option.some.injEq, Prod.mk.injEq] at h
    obtain ⟨rfl, rfl, rfl, rfl, rfl, rfl⟩ := h
    have h := hg131; clear hg131; try dsimp only at h
    refine wl_pure (v := .bool true) tt_ok rfl rfl ?_
    refine wl_pure tt_ok rfl rfl ?_
    replace h := bsome h; obtain ⟨⟨v136, g136_n18_0_4_f0, g136_n18_0_4_f1, g136_n18_0_4_f2, g136_n18_0_5_f0, g136_n18_0_5_f1⟩, h, hg136⟩ := h
    replace h := ct rfl h
    refine wl_skip rfl rfl ?_
    refine wl_skip rfl rfl ?_
    refine wl_skip rfl rfl ?_
    simp only [Option.some.injEq, Prod.mk.injEq] at h
    obtain ⟨rfl, rfl, rfl, rfl, rfl, rfl⟩ := h
    have h := hg136; clear hg136; try dsimp only at h
    refine wl_pure (v := .bool true) tt_ok rfl rfl ?_
    refine wl_nil (wx_then ?_)
    replace h := ct rfl h
    refine wc_cond_true rfl ?_
    refine wc_seq (wc_region ?_)
    refine wl_pure tt_ok rfl rfl ?_
    refine wl_nil (wx_then (wc_ret (wx_then_ret ?_)))
    simp only [Option.some.injEq] at h
    obtain rfl := h
    exact wx_pf tt_ok (.inl rfl) Tryd.results4 (Res.tmp rfl Res.nil) rfl
  replace h := cf hc h
  refine wl_run rfl ?_
  refine wl_pure tt_ok rfl rfl ?_
  replace h := bsome h; obtain ⟨⟨o129_1, o129_2, v129⟩, x129, h⟩ := h; try dsimp only at h
  refine wl_run rfl ?_
  refine wl_cs Tryd.call12 rfl rfl rfl (s_sp (k_rollback_Engine_Remote (p0 := o109_0) (p0_4 := o124_1) (p0_5 := o124_2) o109_0N0 o109_0V0 o109_0N1 o109_0V1 o124_1N0 o124_1V0 o124_2G0 o124_2A0 x129) (pCons Sel.hc (pApp Sel.ha (pApp Sel.ha (pCons Sel.hc (pApp Sel.ha (pCons Sel.hc (pApp Sel.ha pNil))))))) (fun _ _ => trivial)) rfl ?_
  rintro _ _ ⟨_, ⟨o129_1a0, o129_1n0, o129_1c0, o129_1B0, o129_2g0, o129_2P0, o129_1N0, o129_1V0, o129_2G0, o129_2A0, rfl, rfl⟩, rfl⟩
  refine wl_run rfl ?_
  refine wl_pure (v := .bool (v129 != (0 : Int))) tt_ok rfl rfl ?_
  simp only [Option.some.injEq, Prod.mk.injEq] at h
  obtain ⟨rfl, rfl, rfl, rfl, rfl, rfl⟩ := h
  have h := hg131; clear hg131; try dsimp only at h
  refine wl_pure (v := .bool (v129 != (0 : Int))) tt_ok rfl rfl ?_
  refine wl_pure tt_ok rfl rfl ?_
  replace h := bsome h; obtain ⟨⟨v136, g136_n18_0_4_f0, g136_n18_0_4_f1, g136_n18_0_4_f2, g136_n18_0_5_f0, g136_n18_0_5_f1⟩, h, hg136⟩ := h
  refine wl_split (t := 132) rfl (fun hc => ?_) (fun hc => ?_)
  · replace h := ct hc h
    refine wl_skip rfl rfl ?_
    refine wl_skip rfl rfl ?_
    refine wl_skip rfl rfl ?_
    simp only [Option.some.injEq, Prod.mk.injEq] at h
    obtain ⟨rfl, rfl, rfl, rfl, rfl, rfl⟩ := h
    have h := hg136; clear hg136; try dsimp only at h
    refine wl_pure (v := .bool true) tt_ok rfl rfl ?_
    refine wl_nil (wx_then ?_)
    replace h := ct rfl h
    refine wc_cond_true rfl ?_
    refine wc_seq (wc_region ?_)
    refine wl_pure tt_ok rfl rfl ?_
    refine wl_nil (wx_then (wc_ret (wx_then_ret ?_)))
    simp only [Option.some.injEq] at h
    obtain rfl := h
    exact wx_pf tt_ok (.inl rfl) Tryd.results4 (Res.tmp rfl Res.nil) rfl
  replace h := cf hc h
  refine wl_run rfl ?_
  refine wl_pure tt_ok rfl rfl ?_
  replace h := bsome h; obtain ⟨⟨o134_1, o134_2, v134⟩, x134, h⟩ := h; try dsimp only at h
  refine wl_run rfl ?_
  refine wl_cs Tryd.call12 rfl rfl rfl (s_sp (k_rollback_Engine_Remote (p0 := o109_0) (p0_4 := o129_1) (p0_5 := o129_2) o109_0N0 o109_0V0 o109_0N1 o109_0V1 o129_1N0 o129_1V0 o129_2G0 o129_2A0 x134) (pCons Sel.hc (pApp Sel.ha (pApp Sel.ha (pCons Sel.hc (pApp Sel.ha (pCons Sel.hc (pApp Sel.ha pNil))))))) (fun _ _ => trivial)) rfl ?_
  rintro _ _ ⟨_, ⟨o134_1a0, o134_1n0, o134_1c0, o134_1B0, o134_2g0, o134_2P0, o134_1N0, o134_1V0, o134_2G0, o134_2A0, rfl, rfl⟩, rfl⟩
  refine wl_run rfl ?_
  refine wl_pure (v := .bool (v134 != (14 : Int))) tt_ok rfl rfl ?_
  simp only [Option.some.injEq, Prod.mk.injEq] at h
  obtain ⟨rfl, rfl, rfl, rfl, rfl, rfl⟩ := h
  have h := hg136; clear hg136; try dsimp only at h
  refine wl_pure (v := .bool (v134 != (14 : Int))) tt_ok rfl rfl ?_
  refine wl_nil (wx_then ?_)
  refine wc_cond rfl (fun hc => ?_) (fun hc => ?_)
  · replace h := ct hc h
    refine wc_seq (wc_region ?_)
    refine wl_pure tt_ok rfl rfl ?_
    refine wl_nil (wx_then (wc_ret (wx_then_ret ?_)))
    simp only [Option.some.injEq] at h
    obtain rfl := h
    exact wx_pf tt_ok (.inl rfl) Tryd.results4 (Res.tmp rfl Res.nil) rfl
  replace h := cf hc h
  refine wc_skip (wx_then (wc_seq (wc_region ?_)))
  replace h := bsome h; obtain ⟨v137, x137, h⟩ := h
  refine wl_cs Tryd.call8 rfl rfl rfl (s_sp (k_state_Start x137) pNil (fun _ _ => trivial)) rfl ?_
  rintro _ _ ⟨_, ⟨v137a0, v137n0, v137c0, v137B0, v137N0, v137V0, rfl, rfl⟩, rfl⟩
  refine wl_alloc tt_ok rfl rfl (fun b9 => ?_)
  apply wl_store tt_ok; rfl; exact Upd.here; rfl; rfl; rfl; rfl; rfl; rfl
  refine wl_nil (wx_then (wc_seq (wc_region ?_)))
  refine wl_pure (v := .pointer (some ⟨b9, 2, none⟩)) tt_ok rfl rfl ?_
  refine wl_val (v := .pointer (some ⟨b9, 2, none⟩)) (val_ia (j := 0) tt_ok rfl rfl rfl rfl rfl rfl rfl) rfl ?_
  refine wl_pure (v := .pointer (some ⟨b9, 6, none⟩)) tt_ok rfl rfl ?_
  apply wl_store tt_ok; rfl; exact Upd.here; rfl; rfl; rfl; rfl; rfl; rfl
  refine wl_nil (wx_then (wc_seq (wc_region ?_)))
  replace h := bsome h; obtain ⟨v141, x141, h⟩ := h
  refine wl_cs Tryd.call8 rfl rfl rfl (s_sp (k_state_Start x141) pNil (fun _ _ => trivial)) rfl ?_
  rintro _ _ ⟨_, ⟨v141a0, v141n0, v141c0, v141B0, v141N0, v141V0, rfl, rfl⟩, rfl⟩
  refine wl_alloc tt_ok rfl rfl (fun b10 => ?_)
  apply wl_store tt_ok; rfl; exact Upd.here; rfl; rfl; rfl; rfl; rfl; rfl
  refine wl_nil (wx_then (wc_seq (wc_region ?_)))
  refine wl_pure (v := .pointer (some ⟨b10, 0, none⟩)) tt_ok rfl rfl ?_
  apply wl_store tt_ok; rfl; exact Upd.here; rfl; rfl; rfl; rfl; rfl; rfl
  refine wl_nil (wx_then (wc_seq (wc_seq (wc_region ?_))))
  refine wl_val (v := .agg #[.int .u64 v137.Frame, .int .u64 v137.Seed, .int .i32 v137.Players.1.X, .int .i32 v137.Players.1.Y, .int .i32 v137.Players.1.VX, .int .i32 v137.Players.1.VY, .int .u8 (0 : Int), .int .u8 v137.Players.1.Cool, .int .u8 v137.Players.1.Face, .int .i32 v137.Players.2.X, .int .i32 v137.Players.2.Y, .int .i32 v137.Players.2.VX, .int .i32 v137.Players.2.VY, .int .u8 v137.Players.2.Health, .int .u8 v137.Players.2.Cool, .int .u8 v137.Players.2.Face, .slice v137a0 v137n0 v137c0, .int .u16 v137.Score.1, .int .u16 v137.Score.2]) (val_load tt_ok rfl (List.Mem.tail _ (mR (List.Mem.head _))) rfl) rfl ?_
  replace h := bsome h; obtain ⟨v144, x144, h⟩ := h
  rcases v144 with _ | v144s
  · replace h := poN h
    refine wl_cs Tryd.call7 rfl rfl rfl (s_sp (k_rollback_New_none (p0 := (T_api_State.mk v137.Frame v137.Seed ((T_api_Player.mk v137.Players.1.X v137.Players.1.Y v137.Players.1.VX v137.Players.1.VY (0 : Int) v137.Players.1.Cool v137.Players.1.Face), v137.Players.2) v137.Shots v137.Score)) v137N0 (vec_cap v137V0) (own_Z v137V0) x144) pNil (fun w hI => ⟨(Rds.call (Rds.of_vec v137V0) pNil ⟨_, (Sel.sc (Sel.sa (Sel.sc Sel.ha)))⟩) w hI, (Rds.call G0S pNil rsub_nil) w hI, (Rds.call G1S pNil rsub_nil) w hI⟩)) rfl ?_
    rintro _ _ ⟨_, ⟨rfl, rfl⟩, rfl⟩
    refine wl_pure (v := .bool false) tt_ok rfl rfl ?_
    refine wl_pure tt_ok rfl rfl ?_
    refine wl_run rfl ?_
    refine wl_val (v := .agg #[.int .u64 (9223372036854775809 : Int), .int .u64 v141.Seed, .int .i32 v141.Players.1.X, .int .i32 v141.Players.1.Y, .int .i32 v141.Players.1.VX, .int .i32 v141.Players.1.VY, .int .u8 v141.Players.1.Health, .int .u8 v141.Players.1.Cool, .int .u8 v141.Players.1.Face, .int .i32 v141.Players.2.X, .int .i32 v141.Players.2.Y, .int .i32 v141.Players.2.VX, .int .i32 v141.Players.2.VY, .int .u8 v141.Players.2.Health, .int .u8 v141.Players.2.Cool, .int .u8 v141.Players.2.Face, .slice v141a0 v141n0 v141c0, .int .u16 v141.Score.1, .int .u16 v141.Score.2]) (val_load tt_ok rfl (List.Mem.head _) rfl) rfl ?_
    replace h := bsome h; obtain ⟨v148, x148, h⟩ := h
    rcases v148 with _ | v148s
    · replace h := poN h
      refine wl_run rfl ?_
      refine wl_cs Tryd.call7 rfl rfl rfl (s_sp (k_rollback_New_none (p0 := (T_api_State.mk (9223372036854775809 : Int) v141.Seed v141.Players v141.Shots v141.Score)) v141N0 (vec_cap v141V0) (own_Z v141V0) x148) pNil (fun w hI => ⟨(Rds.call (Rds.of_vec v141V0) pNil ⟨_, (Sel.sc Sel.ha)⟩) w hI, (Rds.call G0S pNil rsub_nil) w hI, (Rds.call G1S pNil rsub_nil) w hI⟩)) rfl ?_
      rintro _ _ ⟨_, ⟨rfl, rfl⟩, rfl⟩
      refine wl_run rfl ?_
      refine wl_pure (v := .bool false) tt_ok rfl rfl ?_
      refine wl_pure (v := .bool false) tt_ok rfl rfl ?_
      refine wl_pure tt_ok rfl rfl ?_
      replace h := bsome h; obtain ⟨v152, x152, h⟩ := h
      refine wl_run rfl ?_
      refine wl_cs Tryd.call8 rfl rfl rfl (s_sp (k_state_Start x152) pNil (fun _ _ => trivial)) rfl ?_
      rintro _ _ ⟨_, ⟨v152a0, v152n0, v152c0, v152B0, v152N0, v152V0, rfl, rfl⟩, rfl⟩
      replace h := bsome h; obtain ⟨v153, x153, h⟩ := h
      rcases v153 with _ | v153s
      · replace h := poN h
        refine wl_run rfl ?_
        refine wl_cs Tryd.call7 rfl rfl rfl (s_sp (k_rollback_New_none (p0 := v152) v152N0 (vec_cap v152V0) (own_Z v152V0) x153) pNil (fun w hI => ⟨(Rds.call (Rds.of_vec v152V0) pNil ⟨_, Sel.ha⟩) w hI, (Rds.call G0S pNil rsub_nil) w hI, (Rds.call G1S pNil rsub_nil) w hI⟩)) rfl ?_
        rintro _ _ ⟨_, ⟨rfl, rfl⟩, rfl⟩
        refine wl_run rfl ?_
        refine wl_pure (v := .bool false) tt_ok rfl rfl ?_
        refine wl_pure (v := .bool false) tt_ok rfl rfl ?_
        refine wl_pure tt_ok rfl rfl ?_
        replace h := bsome h; obtain ⟨v157, x157, h⟩ := h
        refine wl_run rfl ?_
        refine wl_cs Tryd.call8 rfl rfl rfl (s_sp (k_state_Start x157) pNil (fun _ _ => trivial)) rfl ?_
        rintro _ _ ⟨_, ⟨v157a0, v157n0, v157c0, v157B0, v157N0, v157V0, rfl, rfl⟩, rfl⟩
        replace h := bsome h; obtain ⟨v158, x158, h⟩ := h
        rcases v158 with _ | v158s
        · replace h := poN h
          refine wl_run rfl ?_
          refine wl_cs Tryd.call7 rfl rfl rfl (s_sp (k_rollback_New_none (p0 := v157) v157N0 (vec_cap v157V0) (own_Z v157V0) x158) pNil (fun w hI => ⟨(Rds.call (Rds.of_vec v157V0) pNil ⟨_, Sel.ha⟩) w hI, (Rds.call G0S pNil rsub_nil) w hI, (Rds.call G1S pNil rsub_nil) w hI⟩)) rfl ?_
          rintro _ _ ⟨_, ⟨rfl, rfl⟩, rfl⟩
          refine wl_run rfl ?_
          refine wl_pure (v := .bool false) tt_ok rfl rfl ?_
          refine wl_pure (v := .bool false) tt_ok rfl rfl ?_
          refine wl_pure tt_ok rfl rfl ?_
          replace h := bsome h; obtain ⟨v162, x162, h⟩ := h
          refine wl_run rfl ?_
          refine wl_cs Tryd.call8 rfl rfl rfl (s_sp (k_state_Start x162) pNil (fun _ _ => trivial)) rfl ?_
          rintro _ _ ⟨_, ⟨v162a0, v162n0, v162c0, v162B0, v162N0, v162V0, rfl, rfl⟩, rfl⟩
          replace h := bsome h; obtain ⟨v163, x163, h⟩ := h
          rcases v163 with _ | v163s
          · replace h := poN h
            refine wl_run rfl ?_
            refine wl_cs Tryd.call7 rfl rfl rfl (s_sp (k_rollback_New_none (p0 := v162) v162N0 (vec_cap v162V0) (own_Z v162V0) x163) pNil (fun w hI => ⟨(Rds.call (Rds.of_vec v162V0) pNil ⟨_, Sel.ha⟩) w hI, (Rds.call G0S pNil rsub_nil) w hI, (Rds.call G1S pNil rsub_nil) w hI⟩)) rfl ?_
            rintro _ _ ⟨_, ⟨rfl, rfl⟩, rfl⟩
            refine wl_run rfl ?_
            refine wl_pure (v := .bool false) tt_ok rfl rfl ?_
            refine wl_pure (v := .bool false) tt_ok rfl rfl ?_
            refine wl_pure tt_ok rfl rfl ?_
            replace h := bsome h; obtain ⟨v167, x167, h⟩ := h
            refine wl_run rfl ?_
            refine wl_cs Tryd.call8 rfl rfl rfl (s_sp (k_state_Start x167) pNil (fun _ _ => trivial)) rfl ?_
            rintro _ _ ⟨_, ⟨v167a0, v167n0, v167c0, v167B0, v167N0, v167V0, rfl, rfl⟩, rfl⟩
            replace h := bsome h; obtain ⟨v168, x168, h⟩ := h
            rcases v168 with _ | v168s
            · replace h := poN h
              refine wl_run rfl ?_
              refine wl_cs Tryd.call7 rfl rfl rfl (s_sp (k_rollback_New_none (p0 := v167) v167N0 (vec_cap v167V0) (own_Z v167V0) x168) pNil (fun w hI => ⟨(Rds.call (Rds.of_vec v167V0) pNil ⟨_, Sel.ha⟩) w hI, (Rds.call G0S pNil rsub_nil) w hI, (Rds.call G1S pNil rsub_nil) w hI⟩)) rfl ?_
              rintro _ _ ⟨_, ⟨rfl, rfl⟩, rfl⟩
              refine wl_run rfl ?_
              refine wl_pure (v := .bool true) tt_ok rfl rfl ?_
              refine wl_pure (v := .bool true) tt_ok rfl rfl ?_
              refine wl_nil (wx_then ?_)
              refine wc_cond_true rfl ?_
              refine wc_seq (wc_region ?_)
              refine wl_pure tt_ok rfl rfl ?_
              refine wl_nil (wx_then (wc_ret (wx_then_ret ?_)))
              simp only [Option.some.injEq] at h
              obtain rfl := h
              exact wx_pf tt_ok (.inl rfl) Tryd.results4 (Res.tmp rfl Res.nil) rfl
            replace h := poS h
            refine wl_run rfl ?_
            refine wl_cs Tryd.call7 rfl rfl rfl (s_sp (k_rollback_New (p0 := v167) v167N0 (vec_cap v167V0) (own_Z v167V0) x168) pNil (fun w hI => ⟨(Rds.call (Rds.of_vec v167V0) pNil ⟨_, Sel.ha⟩) w hI, (Rds.call G0S pNil rsub_nil) w hI, (Rds.call G1S pNil rsub_nil) w hI⟩)) rfl ?_
            rintro _ _ ⟨_, ⟨b168_0, b168_0_4, b168_0_5, v168sa0, v168sn0, v168sc0, v168sB0, v168sa1, v168sn1, v168sc1, v168sB1, v168s_4a0, v168s_4n0, v168s_4c0, v168s_4B0, v168s_5g0, v168s_5P0, v168sN0, v168sV0, v168sN1, v168sV1, v168s_4N0, v168s_4V0, v168s_5G0, v168s_5A0, rfl, rfl⟩, rfl⟩
            refine wl_run rfl ?_
            refine wl_pure (v := .bool false) tt_ok rfl rfl ?_
            refine wl_pure (v := .bool false) tt_ok rfl rfl ?_
            refine wl_nil (wx_then ?_)
            refine wc_cond_false rfl ?_
            refine wc_skip (wx_then (wc_seq (wc_region ?_)))
            refine wl_pure tt_ok rfl rfl ?_
            refine wl_nil (wx_then (wc_seq (wc_region ?_)))
            refine wl_pure (v := .agg #[.int .u8 (0 : Int), .int .i64 (0 : Int), .int .u64 (0 : Int), .int .u64 (0 : Int), .int .i32 (0 : Int), .int .i32 (0 : Int), .int .i32 (0 : Int), .int .i32 (0 : Int), .int .u8 (0 : Int), .int .u8 (0 : Int), .int .u8 (0 : Int), .int .i32 (0 : Int), .int .i32 (0 : Int), .int .i32 (0 : Int), .int .i32 (0 : Int), .int .u8 (0 : Int), .int .u8 (0 : Int), .int .u8 (0 : Int), .slice none 0 0, .int .u16 (0 : Int), .int .u16 (0 : Int), .slice none 0 0, .pointer none, .pointer none]) tt_ok rfl rfl ?_
            refine wl_box rfl rfl rfl (fun b172 => ?_)
            refine wl_pure tt_ok rfl rfl ?_
            refine wl_nil (wx_then (wc_seq (wc_region ?_)))
            refine wl_pure tt_ok rfl rfl ?_
            replace h := bsome h; obtain ⟨⟨v175_0, v175_1⟩, x175, h⟩ := h; try dsimp only at h
            refine wl_cq Tryd.call13 rfl rfl rfl (q_pf (k_rollback_Engine_Confirm_nil0 x175) (fun _ _ => trivial)) rfl ?_
            iterate 3 refine wl_pure tt_ok rfl rfl ?_
            refine wl_alloc tt_ok rfl rfl (fun b13 => ?_)
            apply wl_store tt_ok; rfl; exact Upd.here; rfl; rfl; rfl; rfl; rfl; rfl
            refine wl_pure tt_ok rfl rfl ?_
            refine wl_nil (wx_then (wc_seq (wc_region ?_)))
            refine wl_pure tt_ok rfl rfl ?_
            replace h := bsome h; obtain ⟨⟨v180_0, v180_1⟩, x180, h⟩ := h; try dsimp only at h
            refine wl_cq Tryd.call20 rfl rfl rfl (q_rd (k_rollback_Engine_Next_z0 (p0 := (T_rollback_Engine.mk (0 : Int) (0 : Int) (T_api_State.mk (0 : Int) (0 : Int) ((T_api_Player.mk (0 : Int) (0 : Int) (0 : Int) (0 : Int) (0 : Int) (0 : Int) (0 : Int)), (T_api_Player.mk (0 : Int) (0 : Int) (0 : Int) (0 : Int) (0 : Int) (0 : Int) (0 : Int))) ([] : List T_api_Shot) ((0 : Int), (0 : Int))) ([] : List Int))) rfl Own.zero rfl Own.zero x180) (pCons (Sel.sc Sel.hc) (pNo (pNo pNil))) (fun _ _ => trivial)) rfl ?_
            iterate 3 refine wl_pure tt_ok rfl rfl ?_
            refine wl_alloc tt_ok rfl rfl (fun b15 => ?_)
            apply wl_store tt_ok; rfl; exact Upd.here; rfl; rfl; rfl; rfl; rfl; rfl
            refine wl_pure tt_ok rfl rfl ?_
            refine wl_nil (wx_then (wc_seq (wc_region ?_)))
            refine wl_pure tt_ok rfl rfl ?_
            refine wl_pure (v := .bool (!v175_1)) tt_ok rfl rfl ?_
            refine wl_pure tt_ok rfl rfl ?_
            replace h := bsome h; obtain ⟨v188, h, hg188⟩ := h
            refine wl_split (t := 185) rfl (fun hc => ?_) (fun hc => ?_)
            · replace h := ct hc h
              refine wl_run rfl ?_
              refine wl_pure tt_ok rfl rfl ?_
              refine wl_run rfl ?_
              refine wl_pure (v := .bool (!v180_1)) tt_ok rfl rfl ?_
              simp only [Option.some.injEq, Prod.mk.injEq] at h
              obtain rfl := h
              have h := hg188; clear hg188
              refine wl_pure (v := .bool (!v180_1)) tt_ok rfl rfl ?_
              refine wl_pure tt_ok rfl rfl ?_
              replace h := bsome h; obtain ⟨v193, h, hg193⟩ := h
              refine wl_split (t := 189) rfl (fun hc => ?_) (fun hc => ?_)
              · replace h := ct hc h
                refine wl_run rfl ?_
                refine wl_pure tt_ok rfl rfl ?_
                replace h := bsome h; obtain ⟨v191, x191, h⟩ := h
                refine wl_run rfl ?_
                refine wl_cq Tryd.call9 rfl rfl rfl (q_pf (k_rollback_Engine_Local_nil0 x191) (fun _ _ => trivial)) rfl ?_
                refine wl_run rfl ?_
                refine wl_pure (v := .bool (v191 == (1 : Int))) tt_ok rfl rfl ?_
                simp only [Option.some.injEq, Prod.mk.injEq] at h
                obtain rfl := h
                have h := hg193; clear hg193
                refine wl_pure (v := .bool (v191 == (1 : Int))) tt_ok rfl rfl ?_
                refine wl_pure tt_ok rfl rfl ?_
                replace h := bsome h; obtain ⟨v198, h, hg198⟩ := h
                refine wl_split (t := 194) rfl (fun hc => ?_) (fun hc => ?_)
                · replace h := ct hc h
                  refine wl_run rfl ?_
                  refine wl_pure tt_ok rfl rfl ?_
                  replace h := bsome h; obtain ⟨v196, x196, h⟩ := h
                  refine wl_run rfl ?_
                  refine wl_cq Tryd.call12 rfl rfl rfl (q_rd (k_rollback_Engine_Remote_z0 (p0 := (T_rollback_Engine.mk (0 : Int) (0 : Int) (T_api_State.mk (0 : Int) (0 : Int) ((T_api_Player.mk (0 : Int) (0 : Int) (0 : Int) (0 : Int) (0 : Int) (0 : Int) (0 : Int)), (T_api_Player.mk (0 : Int) (0 : Int) (0 : Int) (0 : Int) (0 : Int) (0 : Int) (0 : Int))) ([] : List T_api_Shot) ((0 : Int), (0 : Int))) ([] : List Int))) rfl Own.zero rfl Own.zero x196) (pCons (Sel.sc (Sel.sc Sel.hc)) (pNo (pNo pNil))) (fun _ _ => trivial)) rfl ?_
                  refine wl_run rfl ?_
                  refine wl_pure (v := .bool (v196 == (1 : Int))) tt_ok rfl rfl ?_
                  simp only [Option.some.injEq, Prod.mk.injEq] at h
                  obtain rfl := h
                  have h := hg198; clear hg198
                  refine wl_pure (v := .bool (v196 == (1 : Int))) tt_ok rfl rfl ?_
                  refine wl_pure tt_ok rfl rfl ?_
                  replace h := bsome h; obtain ⟨v203, h, hg203⟩ := h
                  refine wl_split (t := 199) rfl (fun hc => ?_) (fun hc => ?_)
                  · replace h := ct hc h
                    refine wl_run rfl ?_
                    refine wl_pure tt_ok rfl rfl ?_
                    replace h := bsome h; obtain ⟨v201, x201, h⟩ := h
                    refine wl_run rfl ?_
                    refine wl_cq Tryd.call16 rfl rfl rfl (q_pf (k_rollback_Engine_C_nil0 x201) (fun _ _ => trivial)) rfl ?_
                    refine wl_run rfl ?_
                    refine wl_pure (v := .bool (v201 == (0 : Int))) tt_ok rfl rfl ?_
                    simp only [Option.some.injEq, Prod.mk.injEq] at h
                    obtain rfl := h
                    have h := hg203; clear hg203
                    refine wl_pure (v := .bool (v201 == (0 : Int))) tt_ok rfl rfl ?_
                    refine wl_pure tt_ok rfl rfl ?_
                    replace h := bsome h; obtain ⟨v208, h, hg208⟩ := h
                    refine wl_split (t := 204) rfl (fun hc => ?_) (fun hc => ?_)
                    · replace h := ct hc h
                      refine wl_run rfl ?_
                      refine wl_pure tt_ok rfl rfl ?_
                      replace h := bsome h; obtain ⟨v206, x206, h⟩ := h
                      refine wl_run rfl ?_
                      refine wl_cq Tryd.call17 rfl rfl rfl (q_rd (k_rollback_Engine_T_z0 (p0 := (T_rollback_Engine.mk (0 : Int) (0 : Int) (T_api_State.mk (0 : Int) (0 : Int) ((T_api_Player.mk (0 : Int) (0 : Int) (0 : Int) (0 : Int) (0 : Int) (0 : Int) (0 : Int)), (T_api_Player.mk (0 : Int) (0 : Int) (0 : Int) (0 : Int) (0 : Int) (0 : Int) (0 : Int))) ([] : List T_api_Shot) ((0 : Int), (0 : Int))) ([] : List Int))) rfl Own.zero rfl Own.zero x206) (pCons (Sel.sc (Sel.sc Sel.hc)) (pNo (pNo pNil))) (fun _ _ => trivial)) rfl ?_
                      refine wl_run rfl ?_
                      refine wl_pure (v := .bool (v206 == (0 : Int))) tt_ok rfl rfl ?_
                      simp only [Option.some.injEq, Prod.mk.injEq] at h
                      obtain rfl := h
                      have h := hg208; clear hg208
                      refine wl_pure (v := .bool (v206 == (0 : Int))) tt_ok rfl rfl ?_
                      refine wl_pure tt_ok rfl rfl ?_
                      replace h := bsome h; obtain ⟨v214, h, hg214⟩ := h
                      refine wl_split (t := 209) rfl (fun hc => ?_) (fun hc => ?_)
                      · replace h := ct hc h
                        refine wl_run rfl ?_
                        refine wl_pure tt_ok rfl rfl ?_
                        replace h := bsome h; obtain ⟨v211, x211, h⟩ := h
                        refine wl_run rfl ?_
                        refine wl_cs Tryd.call18 rfl rfl rfl (s_sp (k_rollback_Engine_Own_nil0 x211) pNil (fun _ _ => trivial)) rfl ?_
                        rintro _ _ ⟨_, ⟨v211a0, v211n0, v211c0, v211B0, v211N0, v211V0, rfl, rfl⟩, rfl⟩
                        refine wl_run rfl ?_
                        refine wl_val (v := .int .i64 (v211.length : Int)) (val_len tt_ok rfl rfl v211N0) rfl ?_
                        refine wl_run rfl ?_
                        refine wl_pure (v := .bool ((v211.length : Int) == (0 : Int))) tt_ok rfl rfl ?_
                        simp only [Option.some.injEq, Prod.mk.injEq] at h
                        obtain rfl := h
                        have h := hg214; clear hg214
                        refine wl_pure (v := .bool ((v211.length : Int) == (0 : Int))) tt_ok rfl rfl ?_
                        refine wl_pure tt_ok rfl rfl ?_
                        replace h := bsome h; obtain ⟨v219, h, hg219⟩ := h
                        refine wl_split (t := 215) rfl (fun hc => ?_) (fun hc => ?_)
                        · replace h := ct hc h
                          refine wl_run rfl ?_
                          refine wl_pure tt_ok rfl rfl ?_
                          replace h := bsome h; obtain ⟨v217, x217, h⟩ := h
                          refine wl_run rfl ?_
                          refine wl_cq Tryd.call19 rfl rfl rfl (q_rd (k_rollback_Engine_Known_z0 (p0 := (T_rollback_Engine.mk (0 : Int) (0 : Int) (T_api_State.mk (0 : Int) (0 : Int) ((T_api_Player.mk (0 : Int) (0 : Int) (0 : Int) (0 : Int) (0 : Int) (0 : Int) (0 : Int)), (T_api_Player.mk (0 : Int) (0 : Int) (0 : Int) (0 : Int) (0 : Int) (0 : Int) (0 : Int))) ([] : List T_api_Shot) ((0 : Int), (0 : Int))) ([] : List Int))) rfl Own.zero rfl Own.zero x217) (pCons (Sel.sa (Sel.sc (Sel.sc Sel.hc))) (pNo (pNo pNil))) (fun _ _ => trivial)) rfl ?_
                          refine wl_run rfl ?_
                          refine wl_pure (v := .bool (v217 == (0 : Int))) tt_ok rfl rfl ?_
                          simp only [Option.some.injEq, Prod.mk.injEq] at h
                          obtain rfl := h
                          have h := hg219; clear hg219
                          refine wl_pure (v := .bool (v217 == (0 : Int))) tt_ok rfl rfl ?_
                          refine wl_pure tt_ok rfl rfl ?_
                          replace h := bsome h; obtain ⟨v225, h, hg225⟩ := h
                          refine wl_split (t := 220) rfl (fun hc => ?_) (fun hc => ?_)
                          · replace h := ct hc h
                            refine wl_run rfl ?_
                            refine wl_pure tt_ok rfl rfl ?_
                            replace h := bsome h; obtain ⟨v222, x222, h⟩ := h
                            refine wl_run rfl ?_
                            refine wl_cs Tryd.call11 rfl rfl rfl (s_sp (k_rollback_Engine_Shown_nil0 x222) pNil (fun _ _ => trivial)) rfl ?_
                            rintro _ _ ⟨_, ⟨v222a0, v222n0, v222c0, v222B0, v222N0, v222V0, rfl, rfl⟩, rfl⟩
                            refine wl_run rfl ?_
                            refine wl_pure (v := .agg #[.int .u64 (0 : Int), .int .u64 (0 : Int), .int .i32 (0 : Int), .int .i32 (0 : Int), .int .i32 (0 : Int), .int .i32 (0 : Int), .int .u8 (0 : Int), .int .u8 (0 : Int), .int .u8 (0 : Int), .int .i32 (0 : Int), .int .i32 (0 : Int), .int .i32 (0 : Int), .int .i32 (0 : Int), .int .u8 (0 : Int), .int .u8 (0 : Int), .int .u8 (0 : Int), .slice none 0 0, .int .u16 (0 : Int), .int .u16 (0 : Int)]) tt_ok rfl rfl ?_
                            replace h := bsome h; obtain ⟨v224, x224, h⟩ := h
                            refine wl_run rfl ?_
                            refine wl_cq Tryd.call14 rfl rfl rfl (q_pf (k_state_Same (p0 := v222) (p1 := (T_api_State.mk (0 : Int) (0 : Int) ((T_api_Player.mk (0 : Int) (0 : Int) (0 : Int) (0 : Int) (0 : Int) (0 : Int) (0 : Int)), (T_api_Player.mk (0 : Int) (0 : Int) (0 : Int) (0 : Int) (0 : Int) (0 : Int) (0 : Int))) ([] : List T_api_Shot) ((0 : Int), (0 : Int)))) v222N0 (vec_cap v222V0) rfl (Nat.le_refl _) x224) (fun w hI => ⟨(Rds.call (Rds.of_vec v222V0) pNil ⟨_, Sel.ha⟩) w hI, (fun _ _ => Rds.nil) w hI⟩)) rfl ?_
                            simp only [Option.some.injEq, Prod.mk.injEq] at h
                            obtain rfl := h
                            have h := hg225; clear hg225
                            refine wl_pure (v := .bool v224) tt_ok rfl rfl ?_
                            refine wl_pure tt_ok rfl rfl ?_
                            replace h := bsome h; obtain ⟨v231, h, hg231⟩ := h
                            refine wl_split (t := 226) rfl (fun hc => ?_) (fun hc => ?_)
                            · replace h := ct hc h
                              refine wl_run rfl ?_
                              refine wl_pure tt_ok rfl rfl ?_
                              replace h := bsome h; obtain ⟨v228, x228, h⟩ := h
                              refine wl_run rfl ?_
                              refine wl_cs Tryd.call15 rfl rfl rfl (s_sp (k_rollback_Engine_State_z0 (p0 := (T_rollback_Engine.mk (0 : Int) (0 : Int) (T_api_State.mk (0 : Int) (0 : Int) ((T_api_Player.mk (0 : Int) (0 : Int) (0 : Int) (0 : Int) (0 : Int) (0 : Int) (0 : Int)), (T_api_Player.mk (0 : Int) (0 : Int) (0 : Int) (0 : Int) (0 : Int) (0 : Int) (0 : Int))) ([] : List T_api_Shot) ((0 : Int), (0 : Int))) ([] : List Int))) rfl Own.zero rfl Own.zero x228) (pCons (Sel.sa (Sel.sa (Sel.sc (Sel.sc Sel.hc)))) (pNo (pNo pNil))) (fun _ _ => trivial)) rfl ?_
                              rintro _ _ ⟨_, ⟨v228a0, v228n0, v228c0, v228B0, v228N0, v228V0, rfl, rfl⟩, rfl⟩
                              refine wl_run rfl ?_
                              refine wl_pure (v := .agg #[.int .u64 (0 : Int), .int .u64 (0 : Int), .int .i32 (0 : Int), .int .i32 (0 : Int), .int .i32 (0 : Int), .int .i32 (0 : Int), .int .u8 (0 : Int), .int .u8 (0 : Int), .int .u8 (0 : Int), .int .i32 (0 : Int), .int .i32 (0 : Int), .int .i32 (0 : Int), .int .i32 (0 : Int), .int .u8 (0 : Int), .int .u8 (0 : Int), .int .u8 (0 : Int), .slice none 0 0, .int .u16 (0 : Int), .int .u16 (0 : Int)]) tt_ok rfl rfl ?_
                              replace h := bsome h; obtain ⟨v230, x230, h⟩ := h
                              refine wl_run rfl ?_
                              refine wl_cq Tryd.call14 rfl rfl rfl (q_pf (k_state_Same (p0 := v228) (p1 := (T_api_State.mk (0 : Int) (0 : Int) ((T_api_Player.mk (0 : Int) (0 : Int) (0 : Int) (0 : Int) (0 : Int) (0 : Int) (0 : Int)), (T_api_Player.mk (0 : Int) (0 : Int) (0 : Int) (0 : Int) (0 : Int) (0 : Int) (0 : Int))) ([] : List T_api_Shot) ((0 : Int), (0 : Int)))) v228N0 (vec_cap v228V0) rfl (Nat.le_refl _) x230) (fun w hI => ⟨(Rds.call (Rds.of_vec v228V0) pNil ⟨_, (Sel.sc Sel.ha)⟩) w hI, (fun _ _ => Rds.nil) w hI⟩)) rfl ?_
                              simp only [Option.some.injEq, Prod.mk.injEq] at h
                              obtain rfl := h
                              have h := hg231; clear hg231
                              refine wl_pure (v := .bool v230) tt_ok rfl rfl ?_
                              refine wl_pure tt_ok rfl rfl ?_
                              replace h := bsome h; obtain ⟨v234, h, hg234⟩ := h
                              refine wl_split (t := 232) rfl (fun hc => ?_) (fun hc => ?_)
                              · replace h := ct hc h
                                replace h := bsome h; obtain ⟨v233, x233, h⟩ := h
                                refine wl_run rfl ?_
                                refine wl_cq Tryd.call6 rfl rfl rfl (q_pf (k_hindcastlaw26_works x233) (fun w hI => ⟨(Rds.call G0S pNil rsub_nil) w hI, (Rds.call G1S pNil rsub_nil) w hI⟩)) rfl ?_
                                simp only [Option.some.injEq, Prod.mk.injEq] at h
                                obtain rfl := h
                                have h := hg234; clear hg234
                                refine wl_pure (v := .bool v233) tt_ok rfl rfl ?_
                                refine wl_pure tt_ok rfl rfl ?_
                                refine wl_nil (wx_then (wc_ret ?_))
                                simp only [Option.some.injEq] at h
                                obtain rfl := h
                                exact wx_pf tt_ok (.inl rfl) Tryd.results4 (Res.tmp rfl Res.nil) rfl
                              replace h := cf hc h
                              refine wl_skip rfl rfl ?_
                              simp only [Option.some.injEq, Prod.mk.injEq] at h
                              obtain rfl := h
                              have h := hg234; clear hg234
                              refine wl_pure (v := .bool false) tt_ok rfl rfl ?_
                              refine wl_pure tt_ok rfl rfl ?_
                              refine wl_nil (wx_then (wc_ret ?_))
                              simp only [Option.some.injEq] at h
                              obtain rfl := h
                              exact wx_pf tt_ok (.inl rfl) Tryd.results4 (Res.tmp rfl Res.nil) rfl
                            replace h := cf hc h
                            refine wl_skip rfl rfl ?_
                            refine wl_skip rfl rfl ?_
                            refine wl_skip rfl rfl ?_
                            refine wl_skip rfl rfl ?_
                            simp only [Option.some.injEq, Prod.mk.injEq] at h
                            obtain rfl := h
                            have h := hg231; clear hg231
                            refine wl_pure (v := .bool false) tt_ok rfl rfl ?_
                            refine wl_pure tt_ok rfl rfl ?_
                            replace h := bsome h; obtain ⟨v234, h, hg234⟩ := h
                            replace h := cf rfl h
                            refine wl_skip rfl rfl ?_
                            simp only [Option.some.injEq, Prod.mk.injEq] at h
                            obtain rfl := h
                            have h := hg234; clear hg234
                            refine wl_pure (v := .bool false) tt_ok rfl rfl ?_
                            refine wl_pure tt_ok rfl rfl ?_
                            refine wl_nil (wx_then (wc_ret ?_))
                            simp only [Option.some.injEq] at h
                            obtain rfl := h
                            exact wx_pf tt_ok (.inl rfl) Tryd.results4 (Res.tmp rfl Res.nil) rfl
                          replace h := cf hc h
                          refine wl_skip rfl rfl ?_
                          refine wl_skip rfl rfl ?_
                          refine wl_skip rfl rfl ?_
                          refine wl_skip rfl rfl ?_
                          simp only [Option.some.injEq, Prod.mk.injEq] at h
                          obtain rfl := h
                          have h := hg225; clear hg225
                          refine wl_pure (v := .bool false) tt_ok rfl rfl ?_
                          refine wl_pure tt_ok rfl rfl ?_
                          replace h := bsome h; obtain ⟨v231, h, hg231⟩ := h
                          replace h := cf rfl h
                          refine wl_skip rfl rfl ?_
                          refine wl_skip rfl rfl ?_
                          refine wl_skip rfl rfl ?_
                          refine wl_skip rfl rfl ?_
                          simp only [Option.some.injEq, Prod.mk.injEq] at h
                          obtain rfl := h
                          have h := hg231; clear hg231
                          refine wl_pure (v := .bool false) tt_ok rfl rfl ?_
                          refine wl_pure tt_ok rfl rfl ?_
                          replace h := bsome h; obtain ⟨v234, h, hg234⟩ := h
                          replace h := cf rfl h
                          refine wl_skip rfl rfl ?_
                          simp only [Option.some.injEq, Prod.mk.injEq] at h
                          obtain rfl := h
                          have h := hg234; clear hg234
                          refine wl_pure (v := .bool false) tt_ok rfl rfl ?_
                          refine wl_pure tt_ok rfl rfl ?_
                          refine wl_nil (wx_then (wc_ret ?_))
                          simp only [Option.some.injEq] at h
                          obtain rfl := h
                          exact wx_pf tt_ok (.inl rfl) Tryd.results4 (Res.tmp rfl Res.nil) rfl
                        replace h := cf hc h
                        refine wl_skip rfl rfl ?_
                        refine wl_skip rfl rfl ?_
                        refine wl_skip rfl rfl ?_
                        simp only [Option.some.injEq, Prod.mk.injEq] at h
                        obtain rfl := h
                        have h := hg219; clear hg219
                        refine wl_pure (v := .bool false) tt_ok rfl rfl ?_
                        refine wl_pure tt_ok rfl rfl ?_
                        replace h := bsome h; obtain ⟨v225, h, hg225⟩ := h
                        replace h := cf rfl h
                        refine wl_skip rfl rfl ?_
                        refine wl_skip rfl rfl ?_
                        refine wl_skip rfl rfl ?_
                        refine wl_skip rfl rfl ?_
                        simp only [Option.some.injEq, Prod.mk.injEq] at h
                        obtain rfl := h
                        have h := hg225; clear hg225
                        refine wl_pure (v := .bool false) tt_ok rfl rfl ?_
                        refine wl_pure tt_ok rfl rfl ?_
                        replace h := bsome h; obtain ⟨v231, h, hg231⟩ := h
                        replace h := cf rfl h
                        refine wl_skip rfl rfl ?_
                        refine wl_skip rfl rfl ?_
                        refine wl_skip rfl rfl ?_
                        refine wl_skip rfl rfl ?_
                        simp only [Option.some.injEq, Prod.mk.injEq] at h
                        obtain rfl := h
                        have h := hg231; clear hg231
                        refine wl_pure (v := .bool false) tt_ok rfl rfl ?_
                        refine wl_pure tt_ok rfl rfl ?_
                        replace h := bsome h; obtain ⟨v234, h, hg234⟩ := h
                        replace h := cf rfl h
                        refine wl_skip rfl rfl ?_
                        simp only [Option.some.injEq, Prod.mk.injEq] at h
                        obtain rfl := h
                        have h := hg234; clear hg234
                        refine wl_pure (v := .bool false) tt_ok rfl rfl ?_
                        refine wl_pure tt_ok rfl rfl ?_
                        refine wl_nil (wx_then (wc_ret ?_))
                        simp only [Option.some.injEq] at h
                        obtain rfl := h
                        exact wx_pf tt_ok (.inl rfl) Tryd.results4 (Res.tmp rfl Res.nil) rfl
                      replace h := cf hc h
                      refine wl_skip rfl rfl ?_
                      refine wl_skip rfl rfl ?_
                      refine wl_skip rfl rfl ?_
                      refine wl_skip rfl rfl ?_
                      simp only [Option.some.injEq, Prod.mk.injEq] at h
                      obtain rfl := h
                      have h := hg214; clear hg214
                      refine wl_pure (v := .bool false) tt_ok rfl rfl ?_
                      refine wl_pure tt_ok rfl rfl ?_
                      replace h := bsome h; obtain ⟨v219, h, hg219⟩ := h
                      replace h := cf rfl h
                      refine wl_skip rfl rfl ?_
                      refine wl_skip rfl rfl ?_
                      refine wl_skip rfl rfl ?_
                      simp only [Option.some.injEq, Prod.mk.injEq] at h
                      obtain rfl := h
                      have h := hg219; clear hg219
                      refine wl_pure (v := .bool false) tt_ok rfl rfl ?_
                      refine wl_pure tt_ok rfl rfl ?_
                      replace h := bsome h; obtain ⟨v225, h, hg225⟩ := h
                      replace h := cf rfl h
                      refine wl_skip rfl rfl ?_
                      refine wl_skip rfl rfl ?_
                      refine wl_skip rfl rfl ?_
                      refine wl_skip rfl rfl ?_
                      simp only [Option.some.injEq, Prod.mk.injEq] at h
                      obtain rfl := h
                      have h := hg225; clear hg225
                      refine wl_pure (v := .bool false) tt_ok rfl rfl ?_
                      refine wl_pure tt_ok rfl rfl ?_
                      replace h := bsome h; obtain ⟨v231, h, hg231⟩ := h
                      replace h := cf rfl h
                      refine wl_skip rfl rfl ?_
                      refine wl_skip rfl rfl ?_
                      refine wl_skip rfl rfl ?_
                      refine wl_skip rfl rfl ?_
                      simp only [Option.some.injEq, Prod.mk.injEq] at h
                      obtain rfl := h
                      have h := hg231; clear hg231
                      refine wl_pure (v := .bool false) tt_ok rfl rfl ?_
                      refine wl_pure tt_ok rfl rfl ?_
                      replace h := bsome h; obtain ⟨v234, h, hg234⟩ := h
                      replace h := cf rfl h
                      refine wl_skip rfl rfl ?_
                      simp only [Option.some.injEq, Prod.mk.injEq] at h
                      obtain rfl := h
                      have h := hg234; clear hg234
                      refine wl_pure (v := .bool false) tt_ok rfl rfl ?_
                      refine wl_pure tt_ok rfl rfl ?_
                      refine wl_nil (wx_then (wc_ret ?_))
                      simp only [Option.some.injEq] at h
                      obtain rfl := h
                      exact wx_pf tt_ok (.inl rfl) Tryd.results4 (Res.tmp rfl Res.nil) rfl
                    replace h := cf hc h
                    refine wl_skip rfl rfl ?_
                    refine wl_skip rfl rfl ?_
                    refine wl_skip rfl rfl ?_
                    simp only [Option.some.injEq, Prod.mk.injEq] at h
                    obtain rfl := h
                    have h := hg208; clear hg208
                    refine wl_pure (v := .bool false) tt_ok rfl rfl ?_
                    refine wl_pure tt_ok rfl rfl ?_
                    replace h := bsome h; obtain ⟨v214, h, hg214⟩ := h
                    replace h := cf rfl h
                    refine wl_skip rfl rfl ?_
                    refine wl_skip rfl rfl ?_
                    refine wl_skip rfl rfl ?_
                    refine wl_skip rfl rfl ?_
                    simp only [Option.some.injEq, Prod.mk.injEq] at h
                    obtain rfl := h
                    have h := hg214; clear hg214
                    refine wl_pure (v := .bool false) tt_ok rfl rfl ?_
                    refine wl_pure tt_ok rfl rfl ?_
                    replace h := bsome h; obtain ⟨v219, h, hg219⟩ := h
                    replace h := cf rfl h
                    refine wl_skip rfl rfl ?_
                    refine wl_skip rfl rfl ?_
                    refine wl_skip rfl rfl ?_
                    simp only [Option.some.injEq, Prod.mk.injEq] at h
                    obtain rfl := h
                    have h := hg219; clear hg219
                    refine wl_pure (v := .bool false) tt_ok rfl rfl ?_
                    refine wl_pure tt_ok rfl rfl ?_
                    replace h := bsome h; obtain ⟨v225, h, hg225⟩ := h
                    replace h := cf rfl h
                    refine wl_skip rfl rfl ?_
                    refine wl_skip rfl rfl ?_
                    refine wl_skip rfl rfl ?_
                    refine wl_skip rfl rfl ?_
                    simp only [Option.some.injEq, Prod.mk.injEq] at h
                    obtain rfl := h
                    have h := hg225; clear hg225
                    refine wl_pure (v := .bool false) tt_ok rfl rfl ?_
                    refine wl_pure tt_ok rfl rfl ?_
                    replace h := bsome h; obtain ⟨v231, h, hg231⟩ := h
                    replace h := cf rfl h
                    refine wl_skip rfl rfl ?_
                    refine wl_skip rfl rfl ?_
                    refine wl_skip rfl rfl ?_
                    refine wl_skip rfl rfl ?_
                    simp only [Option.some.injEq, Prod.mk.injEq] at h
                    obtain rfl := h
                    have h := hg231; clear hg231
                    refine wl_pure (v := .bool false) tt_ok rfl rfl ?_
                    refine wl_pure tt_ok rfl rfl ?_
                    replace h := bsome h; obtain ⟨v234, h, hg234⟩ := h
                    replace h := cf rfl h
                    refine wl_skip rfl rfl ?_
                    simp only [Option.some.injEq, Prod.mk.injEq] at h
                    obtain rfl := h
                    have h := hg234; clear hg234
                    refine wl_pure (v := .bool false) tt_ok rfl rfl ?_
                    refine wl_pure tt_ok rfl rfl ?_
                    refine wl_nil (wx_then (wc_ret ?_))
                    simp only [Option.some.injEq] at h
                    obtain rfl := h
                    exact wx_pf tt_ok (.inl rfl) Tryd.results4 (Res.tmp rfl Res.nil) rfl
                  replace h := cf hc h
                  refine wl_skip rfl rfl ?_
                  refine wl_skip rfl rfl ?_
                  refine wl_skip rfl rfl ?_
                  simp only [Option.some.injEq, Prod.mk.injEq] at h
                  obtain rfl := h
                  have h := hg203; clear hg203
                  refine wl_pure (v := .bool false) tt_ok rfl rfl ?_
                  refine wl_pure tt_ok rfl rfl ?_
                  replace h := bsome h; obtain ⟨v208, h, hg208⟩ := h
                  replace h := cf rfl h
                  refine wl_skip rfl rfl ?_
                  refine wl_skip rfl rfl ?_
                  refine wl_skip rfl rfl ?_
                  simp only [Option.some.injEq, Prod.mk.injEq] at h
                  obtain rfl := h
                  have h := hg208; clear hg208
                  refine wl_pure (v := .bool false) tt_ok rfl rfl ?_
                  refine wl_pure tt_ok rfl rfl ?_
                  replace h := bsome h; obtain ⟨v214, h, hg214⟩ := h
                  replace h := cf rfl h
                  refine wl_skip rfl rfl ?_
                  refine wl_skip rfl rfl ?_
                  refine wl_skip rfl rfl ?_
                  refine wl_skip rfl rfl ?_
                  simp only [Option.some.injEq, Prod.mk.injEq] at h
                  obtain rfl := h
                  have h := hg214; clear hg214
                  refine wl_pure (v := .bool false) tt_ok rfl rfl ?_
                  refine wl_pure tt_ok rfl rfl ?_
                  replace h := bsome h; obtain ⟨v219, h, hg219⟩ := h
                  replace h := cf rfl h
                  refine wl_skip rfl rfl ?_
                  refine wl_skip rfl rfl ?_
                  refine wl_skip rfl rfl ?_
                  simp only [Option.some.injEq, Prod.mk.injEq] at h
                  obtain rfl := h
                  have h := hg219; clear hg219
                  refine wl_pure (v := .bool false) tt_ok rfl rfl ?_
                  refine wl_pure tt_ok rfl rfl ?_
                  replace h := bsome h; obtain ⟨v225, h, hg225⟩ := h
                  replace h := cf rfl h
                  refine wl_skip rfl rfl ?_
                  refine wl_skip rfl rfl ?_
                  refine wl_skip rfl rfl ?_
                  refine wl_skip rfl rfl ?_
                  simp only [Option.some.injEq, Prod.mk.injEq] at h
                  obtain rfl := h
                  have h := hg225; clear hg225
                  refine wl_pure (v := .bool false) tt_ok rfl rfl ?_
                  refine wl_pure tt_ok rfl rfl ?_
                  replace h := bsome h; obtain ⟨v231, h, hg231⟩ := h
                  replace h := cf rfl h
                  refine wl_skip rfl rfl ?_
                  refine wl_skip rfl rfl ?_
                  refine wl_skip rfl rfl ?_
                  refine wl_skip rfl rfl ?_
                  simp only [Option.some.injEq, Prod.mk.injEq] at h
                  obtain rfl := h
                  have h := hg231; clear hg231
                  refine wl_pure (v := .bool false) tt_ok rfl rfl ?_
                  refine wl_pure tt_ok rfl rfl ?_
                  replace h := bsome h; obtain ⟨v234, h, hg234⟩ := h
                  replace h := cf rfl h
                  refine wl_skip rfl rfl ?_
                  simp only [Option.some.injEq, Prod.mk.injEq] at h
                  obtain rfl := h
                  have h := hg234; clear hg234
                  refine wl_pure (v := .bool false) tt_ok rfl rfl ?_
                  refine wl_pure tt_ok rfl rfl ?_
                  refine wl_nil (wx_then (wc_ret ?_))
                  simp only [Option.some.injEq] at h
                  obtain rfl := h
                  exact wx_pf tt_ok (.inl rfl) Tryd.results4 (Res.tmp rfl Res.nil) rfl
                replace h := cf hc h
                refine wl_skip rfl rfl ?_
                refine wl_skip rfl rfl ?_
                refine wl_skip rfl rfl ?_
                simp only [Option.some.injEq, Prod.mk.injEq] at h
                obtain rfl := h
                have h := hg198; clear hg198
                refine wl_pure (v := .bool false) tt_ok rfl rfl ?_
                refine wl_pure tt_ok rfl rfl ?_
                replace h := bsome h; obtain ⟨v203, h, hg203⟩ := h
                replace h := cf rfl h
                refine wl_skip rfl rfl ?_
                refine wl_skip rfl rfl ?_
                refine wl_skip rfl rfl ?_
                simp only [Option.some.injEq, Prod.mk.injEq] at h
                obtain rfl := h
                have h := hg203; clear hg203
                refine wl_pure (v := .bool false) tt_ok rfl rfl ?_
                refine wl_pure tt_ok rfl rfl ?_
                replace h := bsome h; obtain ⟨v208, h, hg208⟩ := h
                replace h := cf rfl h
                refine wl_skip rfl rfl ?_
                refine wl_skip rfl rfl ?_
                refine wl_skip rfl rfl ?_
                simp only [Option.some.injEq, Prod.mk.injEq] at h
                obtain rfl := h
                have h := hg208; clear hg208
                refine wl_pure (v := .bool false) tt_ok rfl rfl ?_
                refine wl_pure tt_ok rfl rfl ?_
                replace h := bsome h; obtain ⟨v214, h, hg214⟩ := h
                replace h := cf rfl h
                refine wl_skip rfl rfl ?_
                refine wl_skip rfl rfl ?_
                refine wl_skip rfl rfl ?_
                refine wl_skip rfl rfl ?_
                simp only [Option.some.injEq, Prod.mk.injEq] at h
                obtain rfl := h
                have h := hg214; clear hg214
                refine wl_pure (v := .bool false) tt_ok rfl rfl ?_
                refine wl_pure tt_ok rfl rfl ?_
                replace h := bsome h; obtain ⟨v219, h, hg219⟩ := h
                replace h := cf rfl h
                refine wl_skip rfl rfl ?_
                refine wl_skip rfl rfl ?_
                refine wl_skip rfl rfl ?_
                simp only [Option.some.injEq, Prod.mk.injEq] at h
                obtain rfl := h
                have h := hg219; clear hg219
                refine wl_pure (v := .bool false) tt_ok rfl rfl ?_
                refine wl_pure tt_ok rfl rfl ?_
                replace h := bsome h; obtain ⟨v225, h, hg225⟩ := h
                replace h := cf rfl h
                refine wl_skip rfl rfl ?_
                refine wl_skip rfl rfl ?_
                refine wl_skip rfl rfl ?_
                refine wl_skip rfl rfl ?_
                simp only [Option.some.injEq, Prod.mk.injEq] at h
                obtain rfl := h
                have h := hg225; clear hg225
                refine wl_pure (v := .bool false) tt_ok rfl rfl ?_
                refine wl_pure tt_ok rfl rfl ?_
                replace h := bsome h; obtain ⟨v231, h, hg231⟩ := h
                replace h := cf rfl h
                refine wl_skip rfl rfl ?_
                refine wl_skip rfl rfl ?_
                refine wl_skip rfl rfl ?_
                refine wl_skip rfl rfl ?_
                simp only [Option.some.injEq, Prod.mk.injEq] at h
                obtain rfl := h
                have h := hg231; clear hg231
                refine wl_pure (v := .bool false) tt_ok rfl rfl ?_
                refine wl_pure tt_ok rfl rfl ?_
                replace h := bsome h; obtain ⟨v234, h, hg234⟩ := h
                replace h := cf rfl h
                refine wl_skip rfl rfl ?_
                simp only [Option.some.injEq, Prod.mk.injEq] at h
                obtain rfl := h
                have h := hg234; clear hg234
                refine wl_pure (v := .bool false) tt_ok rfl rfl ?_
                refine wl_pure tt_ok rfl rfl ?_
                refine wl_nil (wx_then (wc_ret ?_))
                simp only [Option.some.injEq] at h
                obtain rfl := h
                exact wx_pf tt_ok (.inl rfl) Tryd.results4 (Res.tmp rfl Res.nil) rfl
              replace h := cf hc h
              refine wl_skip rfl rfl ?_
              refine wl_skip rfl rfl ?_
              refine wl_skip rfl rfl ?_
              simp only [Option.some.injEq, Prod.mk.injEq] at h
              obtain rfl := h
              have h := hg193; clear hg193
              refine wl_pure (v := .bool false) tt_ok rfl rfl ?_
              refine wl_pure tt_ok rfl rfl ?_
              replace h := bsome h; obtain ⟨v198, h, hg198⟩ := h
              replace h := cf rfl h
              refine wl_skip rfl rfl ?_
              refine wl_skip rfl rfl ?_
              refine wl_skip rfl rfl ?_
              simp only [Option.some.injEq, Prod.mk.injEq] at h
              obtain rfl := h
              have h := hg198; clear hg198
              refine wl_pure (v := .bool false) tt_ok rfl rfl ?_
              refine wl_pure tt_ok rfl rfl ?_
              replace h := bsome h; obtain ⟨v203, h, hg203⟩ := h
              replace h := cf rfl h
              refine wl_skip rfl rfl ?_
              refine wl_skip rfl rfl ?_
              refine wl_skip rfl rfl ?_
              simp only [Option.some.injEq, Prod.mk.injEq] at h
              obtain rfl := h
              have h := hg203; clear hg203
              refine wl_pure (v := .bool false) tt_ok rfl rfl ?_
              refine wl_pure tt_ok rfl rfl ?_
              replace h := bsome h; obtain ⟨v208, h, hg208⟩ := h
              replace h := cf rfl h
              refine wl_skip rfl rfl ?_
              refine wl_skip rfl rfl ?_
              refine wl_skip rfl rfl ?_
              simp only [Option.some.injEq, Prod.mk.injEq] at h
              obtain rfl := h
              have h := hg208; clear hg208
              refine wl_pure (v := .bool false) tt_ok rfl rfl ?_
              refine wl_pure tt_ok rfl rfl ?_
              replace h := bsome h; obtain ⟨v214, h, hg214⟩ := h
              replace h := cf rfl h
              refine wl_skip rfl rfl ?_
              refine wl_skip rfl rfl ?_
              refine wl_skip rfl rfl ?_
              refine wl_skip rfl rfl ?_
              simp only [Option.some.injEq, Prod.mk.injEq] at h
              obtain rfl := h
              have h := hg214; clear hg214
              refine wl_pure (v := .bool false) tt_ok rfl rfl ?_
              refine wl_pure tt_ok rfl rfl ?_
              replace h := bsome h; obtain ⟨v219, h, hg219⟩ := h
              replace h := cf rfl h
              refine wl_skip rfl rfl ?_
              refine wl_skip rfl rfl ?_
              refine wl_skip rfl rfl ?_
              simp only [Option.some.injEq, Prod.mk.injEq] at h
              obtain rfl := h
              have h := hg219; clear hg219
              refine wl_pure (v := .bool false) tt_ok rfl rfl ?_
              refine wl_pure tt_ok rfl rfl ?_
              replace h := bsome h; obtain ⟨v225, h, hg225⟩ := h
              replace h := cf rfl h
              refine wl_skip rfl rfl ?_
              refine wl_skip rfl rfl ?_
              refine wl_skip rfl rfl ?_
              refine wl_skip rfl rfl ?_
              simp only [Option.some.injEq, Prod.mk.injEq] at h
              obtain rfl := h
              have h := hg225; clear hg225
              refine wl_pure (v := .bool false) tt_ok rfl rfl ?_
              refine wl_pure tt_ok rfl rfl ?_
              replace h := bsome h; obtain ⟨v231, h, hg231⟩ := h
              replace h := cf rfl h
              refine wl_skip rfl rfl ?_
              refine wl_skip rfl rfl ?_
              refine wl_skip rfl rfl ?_
              refine wl_skip rfl rfl ?_
              simp only [Option.some.injEq, Prod.mk.injEq] at h
              obtain rfl := h
              have h := hg231; clear hg231
              refine wl_pure (v := .bool false) tt_ok rfl rfl ?_
              refine wl_pure tt_ok rfl rfl ?_
              replace h := bsome h; obtain ⟨v234, h, hg234⟩ := h
              replace h := cf rfl h
              refine wl_skip rfl rfl ?_
              simp only [Option.some.injEq, Prod.mk.injEq] at h
              obtain rfl := h
              have h := hg234; clear hg234
              refine wl_pure (v := .bool false) tt_ok rfl rfl ?_
              refine wl_pure tt_ok rfl rfl ?_
              refine wl_nil (wx_then (wc_ret ?_))
              simp only [Option.some.injEq] at h
              obtain rfl := h
              exact wx_pf tt_ok (.inl rfl) Tryd.results4 (Res.tmp rfl Res.nil) rfl
            replace h := cf hc h
            refine wl_skip rfl rfl ?_
            refine wl_skip rfl rfl ?_
            simp only [Option.some.injEq, Prod.mk.injEq] at h
            obtain rfl := h
            have h := hg188; clear hg188
            refine wl_pure (v := .bool false) tt_ok rfl rfl ?_
            refine wl_pure tt_ok rfl rfl ?_
            replace h := bsome h; obtain ⟨v193, h, hg193⟩ := h
            replace h := cf rfl h
            refine wl_skip rfl rfl ?_
            refine wl_skip rfl rfl ?_
            refine wl_skip rfl rfl ?_
            simp only [Option.some.injEq, Prod.mk.injEq] at h
            obtain rfl := h
            have h := hg193; clear hg193
            refine wl_pure (v := .bool false) tt_ok rfl rfl ?_
            refine wl_pure tt_ok rfl rfl ?_
            replace h := bsome h; obtain ⟨v198, h, hg198⟩ := h
            replace h := cf rfl h
            refine wl_skip rfl rfl ?_
            refine wl_skip rfl rfl ?_
            refine wl_skip rfl rfl ?_
            simp only [Option.some.injEq, Prod.mk.injEq] at h
            obtain rfl := h
            have h := hg198; clear hg198
            refine wl_pure (v := .bool false) tt_ok rfl rfl ?_
            refine wl_pure tt_ok rfl rfl ?_
            replace h := bsome h; obtain ⟨v203, h, hg203⟩ := h
            replace h := cf rfl h
            refine wl_skip rfl rfl ?_
            refine wl_skip rfl rfl ?_
            refine wl_skip rfl rfl ?_
            simp only [Option.some.injEq, Prod.mk.injEq] at h
            obtain rfl := h
            have h := hg203; clear hg203
            refine wl_pure (v := .bool false) tt_ok rfl rfl ?_
            refine wl_pure tt_ok rfl rfl ?_
            replace h := bsome h; obtain ⟨v208, h, hg208⟩ := h
            replace h := cf rfl h
            refine wl_skip rfl rfl ?_
            refine wl_skip rfl rfl ?_
            refine wl_skip rfl rfl ?_
            simp only [Option.some.injEq, Prod.mk.injEq] at h
            obtain rfl := h
            have h := hg208; clear hg208
            refine wl_pure (v := .bool false) tt_ok rfl rfl ?_
            refine wl_pure tt_ok rfl rfl ?_
            replace h := bsome h; obtain ⟨v214, h, hg214⟩ := h
            replace h := cf rfl h
            refine wl_skip rfl rfl ?_
            refine wl_skip rfl rfl ?_
            refine wl_skip rfl rfl ?_
            refine wl_skip rfl rfl ?_
            simp only [Option.some.injEq, Prod.mk.injEq] at h
            obtain rfl := h
            have h := hg214; clear hg214
            refine wl_pure (v := .bool false) tt_ok rfl rfl ?_
            refine wl_pure tt_ok rfl rfl ?_
            replace h := bsome h; obtain ⟨v219, h, hg219⟩ := h
            replace h := cf rfl h
            refine wl_skip rfl rfl ?_
            refine wl_skip rfl rfl ?_
            refine wl_skip rfl rfl ?_
            simp only [Option.some.injEq, Prod.mk.injEq] at h
            obtain rfl := h
            have h := hg219; clear hg219
            refine wl_pure (v := .bool false) tt_ok rfl rfl ?_
            refine wl_pure tt_ok rfl rfl ?_
            replace h := bsome h; obtain ⟨v225, h, hg225⟩ := h
            replace h := cf rfl h
            refine wl_skip rfl rfl ?_
            refine wl_skip rfl rfl ?_
            refine wl_skip rfl rfl ?_
            refine wl_skip rfl rfl ?_
            simp only [Option.some.injEq, Prod.mk.injEq] at h
            obtain rfl := h
            have h := hg225; clear hg225
            refine wl_pure (v := .bool false) tt_ok rfl rfl ?_
            refine wl_pure tt_ok rfl rfl ?_
            replace h := bsome h; obtain ⟨v231, h, hg231⟩ := h
            replace h := cf rfl h
            refine wl_skip rfl rfl ?_
            refine wl_skip rfl rfl ?_
            refine wl_skip rfl rfl ?_
            refine wl_skip rfl rfl ?_
            simp only [Option.some.injEq, Prod.mk.injEq] at h
            obtain rfl := h
            have h := hg231; clear hg231
            refine wl_pure (v := .bool false) tt_ok rfl rfl ?_
            refine wl_pure tt_ok rfl rfl ?_
            replace h := bsome h; obtain ⟨v234, h, hg234⟩ := h
            replace h := cf rfl h
            refine wl_skip rfl rfl ?_
            simp only [Option.some.injEq, Prod.mk.injEq] at h
            obtain rfl := h
            have h := hg234; clear hg234
            refine wl_pure (v := .bool false) tt_ok rfl rfl ?_
            refine wl_pure tt_ok rfl rfl ?_
            refine wl_nil (wx_then (wc_ret ?_))
            simp only [Option.some.injEq] at h
            obtain rfl := h
            exact wx_pf tt_ok (.inl rfl) Tryd.results4 (Res.tmp rfl Res.nil) rfl
          replace h := poS h
          refine wl_run rfl ?_
          refine wl_cs Tryd.call7 rfl rfl rfl (s_sp (k_rollback_New (p0 := v162) v162N0 (vec_cap v162V0) (own_Z v162V0) x163) pNil (fun w hI => ⟨(Rds.call (Rds.of_vec v162V0) pNil ⟨_, Sel.ha⟩) w hI, (Rds.call G0S pNil rsub_nil) w hI, (Rds.call G1S pNil rsub_nil) w hI⟩)) rfl ?_
          rintro _ _ ⟨_, ⟨b163_0, b163_0_4, b163_0_5, v163sa0, v163sn0, v163sc0, v163sB0, v163sa1, v163sn1, v163sc1, v163sB1, v163s_4a0, v163s_4n0, v163s_4c0, v163s_4B0, v163s_5g0, v163s_5P0, v163sN0, v163sV0, v163sN1, v163sV1, v163s_4N0, v163s_4V0, v163s_5G0, v163s_5A0, rfl, rfl⟩, rfl⟩
          refine wl_run rfl ?_
          refine wl_pure (v := .bool true) tt_ok rfl rfl ?_
          refine wl_pure (v := .bool true) tt_ok rfl rfl ?_
          refine wl_pure tt_ok rfl rfl ?_
          refine wl_skip rfl rfl ?_
          refine wl_skip rfl rfl ?_
          refine wl_skip rfl rfl ?_
          refine wl_pure (v := .bool true) tt_ok rfl rfl ?_
          refine wl_nil (wx_then ?_)
          refine wc_cond_true rfl ?_
          refine wc_seq (wc_region ?_)
          refine wl_pure tt_ok rfl rfl ?_
          refine wl_nil (wx_then (wc_ret (wx_then_ret ?_)))
          simp only [Option.some.injEq] at h
          obtain rfl := h
          exact wx_pf tt_ok (.inl rfl) Tryd.results4 (Res.tmp rfl Res.nil) rfl
        replace h := poS h
        refine wl_run rfl ?_
        refine wl_cs Tryd.call7 rfl rfl rfl (s_sp (k_rollback_New (p0 := v157) v157N0 (vec_cap v157V0) (own_Z v157V0) x158) pNil (fun w hI => ⟨(Rds.call (Rds.of_vec v157V0) pNil ⟨_, Sel.ha⟩) w hI, (Rds.call G0S pNil rsub_nil) w hI, (Rds.call G1S pNil rsub_nil) w hI⟩)) rfl ?_
        rintro _ _ ⟨_, ⟨b158_0, b158_0_4, b158_0_5, v158sa0, v158sn0, v158sc0, v158sB0, v158sa1, v158sn1, v158sc1, v158sB1, v158s_4a0, v158s_4n0, v158s_4c0, v158s_4B0, v158s_5g0, v158s_5P0, v158sN0, v158sV0, v158sN1, v158sV1, v158s_4N0, v158s_4V0, v158s_5G0, v158s_5A0, rfl, rfl⟩, rfl⟩
        refine wl_run rfl ?_
        refine wl_pure (v := .bool true) tt_ok rfl rfl ?_
        refine wl_pure (v := .bool true) tt_ok rfl rfl ?_
        refine wl_pure tt_ok rfl rfl ?_
        refine wl_skip rfl rfl ?_
        refine wl_skip rfl rfl ?_
        refine wl_skip rfl rfl ?_
        refine wl_pure (v := .bool true) tt_ok rfl rfl ?_
        refine wl_pure tt_ok rfl rfl ?_
        refine wl_skip rfl rfl ?_
        refine wl_skip rfl rfl ?_
        refine wl_skip rfl rfl ?_
        refine wl_pure (v := .bool true) tt_ok rfl rfl ?_
        refine wl_nil (wx_then ?_)
        refine wc_cond_true rfl ?_
        refine wc_seq (wc_region ?_)
        refine wl_pure tt_ok rfl rfl ?_
        refine wl_nil (wx_then (wc_ret (wx_then_ret ?_)))
        simp only [Option.some.injEq] at h
        obtain rfl := h
        exact wx_pf tt_ok (.inl rfl) Tryd.results4 (Res.tmp rfl Res.nil) rfl
      replace h := poS h
      refine wl_run rfl ?_
      refine wl_cs Tryd.call7 rfl rfl rfl (s_sp (k_rollback_New (p0 := v152) v152N0 (vec_cap v152V0) (own_Z v152V0) x153) pNil (fun w hI => ⟨(Rds.call (Rds.of_vec v152V0) pNil ⟨_, Sel.ha⟩) w hI, (Rds.call G0S pNil rsub_nil) w hI, (Rds.call G1S pNil rsub_nil) w hI⟩)) rfl ?_
      rintro _ _ ⟨_, ⟨b153_0, b153_0_4, b153_0_5, v153sa0, v153sn0, v153sc0, v153sB0, v153sa1, v153sn1, v153sc1, v153sB1, v153s_4a0, v153s_4n0, v153s_4c0, v153s_4B0, v153s_5g0, v153s_5P0, v153sN0, v153sV0, v153sN1, v153sV1, v153s_4N0, v153s_4V0, v153s_5G0, v153s_5A0, rfl, rfl⟩, rfl⟩
      refine wl_run rfl ?_
      refine wl_pure (v := .bool true) tt_ok rfl rfl ?_
      refine wl_pure (v := .bool true) tt_ok rfl rfl ?_
      refine wl_pure tt_ok rfl rfl ?_
      refine wl_skip rfl rfl ?_
      refine wl_skip rfl rfl ?_
      refine wl_skip rfl rfl ?_
      refine wl_pure (v := .bool true) tt_ok rfl rfl ?_
      refine wl_pure tt_ok rfl rfl ?_
      refine wl_skip rfl rfl ?_
      refine wl_skip rfl rfl ?_
      refine wl_skip rfl rfl ?_
      refine wl_pure (v := .bool true) tt_ok rfl rfl ?_
      refine wl_pure tt_ok rfl rfl ?_
      refine wl_skip rfl rfl ?_
      refine wl_skip rfl rfl ?_
      refine wl_skip rfl rfl ?_
      refine wl_pure (v := .bool true) tt_ok rfl rfl ?_
      refine wl_nil (wx_then ?_)
      refine wc_cond_true rfl ?_
      refine wc_seq (wc_region ?_)
      refine wl_pure tt_ok rfl rfl ?_
      refine wl_nil (wx_then (wc_ret (wx_then_ret ?_)))
      simp only [Option.some.injEq] at h
      obtain rfl := h
      exact wx_pf tt_ok (.inl rfl) Tryd.results4 (Res.tmp rfl Res.nil) rfl
    replace h := poS h
    refine wl_run rfl ?_
    refine wl_cs Tryd.call7 rfl rfl rfl (s_sp (k_rollback_New (p0 := (T_api_State.mk (9223372036854775809 : Int) v141.Seed v141.Players v141.Shots v141.Score)) v141N0 (vec_cap v141V0) (own_Z v141V0) x148) pNil (fun w hI => ⟨(Rds.call (Rds.of_vec v141V0) pNil ⟨_, (Sel.sc Sel.ha)⟩) w hI, (Rds.call G0S pNil rsub_nil) w hI, (Rds.call G1S pNil rsub_nil) w hI⟩)) rfl ?_
    rintro _ _ ⟨_, ⟨b148_0, b148_0_4, b148_0_5, v148sa0, v148sn0, v148sc0, v148sB0, v148sa1, v148sn1, v148sc1, v148sB1, v148s_4a0, v148s_4n0, v148s_4c0, v148s_4B0, v148s_5g0, v148s_5P0, v148sN0, v148sV0, v148sN1, v148sV1, v148s_4N0, v148s_4V0, v148s_5G0, v148s_5A0, rfl, rfl⟩, rfl⟩
    refine wl_run rfl ?_
    refine wl_pure (v := .bool true) tt_ok rfl rfl ?_
    refine wl_pure (v := .bool true) tt_ok rfl rfl ?_
    refine wl_pure tt_ok rfl rfl ?_
    refine wl_skip rfl rfl ?_
    refine wl_skip rfl rfl ?_
    refine wl_skip rfl rfl ?_
    refine wl_pure (v := .bool true) tt_ok rfl rfl ?_
    refine wl_pure tt_ok rfl rfl ?_
    refine wl_skip rfl rfl ?_
    refine wl_skip rfl rfl ?_
    refine wl_skip rfl rfl ?_
    refine wl_pure (v := .bool true) tt_ok rfl rfl ?_
    refine wl_pure tt_ok rfl rfl ?_
    refine wl_skip rfl rfl ?_
    refine wl_skip rfl rfl ?_
    refine wl_skip rfl rfl ?_
    refine wl_pure (v := .bool true) tt_ok rfl rfl ?_
    refine wl_pure tt_ok rfl rfl ?_
    refine wl_skip rfl rfl ?_
    refine wl_skip rfl rfl ?_
    refine wl_skip rfl rfl ?_
    refine wl_pure (v := .bool true) tt_ok rfl rfl ?_
    refine wl_nil (wx_then ?_)
    refine wc_cond_true rfl ?_
    refine wc_seq (wc_region ?_)
    refine wl_pure tt_ok rfl rfl ?_
    refine wl_nil (wx_then (wc_ret (wx_then_ret ?_)))
    simp only [Option.some.injEq] at h
    obtain rfl := h
    exact wx_pf tt_ok (.inl rfl) Tryd.results4 (Res.tmp rfl Res.nil) rfl
  replace h := poS h
  refine wl_cs Tryd.call7 rfl rfl rfl (s_sp (k_rollback_New (p0 := (T_api_State.mk v137.Frame v137.Seed ((T_api_Player.mk v137.Players.1.X v137.Players.1.Y v137.Players.1.VX v137.Players.1.VY (0 : Int) v137.Players.1.Cool v137.Players.1.Face), v137.Players.2) v137.Shots v137.Score)) v137N0 (vec_cap v137V0) (own_Z v137V0) x144) pNil (fun w hI => ⟨(Rds.call (Rds.of_vec v137V0) pNil ⟨_, (Sel.sc (Sel.sa (Sel.sc Sel.ha)))⟩) w hI, (Rds.call G0S pNil rsub_nil) w hI, (Rds.call G1S pNil rsub_nil) w hI⟩)) rfl ?_
  rintro _ _ ⟨_, ⟨b144_0, b144_0_4, b144_0_5, v144sa0, v144sn0, v144sc0, v144sB0, v144sa1, v144sn1, v144sc1, v144sB1, v144s_4a0, v144s_4n0, v144s_4c0, v144s_4B0, v144s_5g0, v144s_5P0, v144sN0, v144sV0, v144sN1, v144sV1, v144s_4N0, v144s_4V0, v144s_5G0, v144s_5A0, rfl, rfl⟩, rfl⟩
  refine wl_pure (v := .bool true) tt_ok rfl rfl ?_
  refine wl_pure tt_ok rfl rfl ?_
  refine wl_skip rfl rfl ?_
  refine wl_skip rfl rfl ?_
  refine wl_skip rfl rfl ?_
  refine wl_pure (v := .bool true) tt_ok rfl rfl ?_
  refine wl_pure tt_ok rfl rfl ?_
  refine wl_skip rfl rfl ?_
  refine wl_skip rfl rfl ?_
  refine wl_skip rfl rfl ?_
  refine wl_pure (v := .bool true) tt_ok rfl rfl ?_
  refine wl_pure tt_ok rfl rfl ?_
  refine wl_skip rfl rfl ?_
  refine wl_skip rfl rfl ?_
  refine wl_skip rfl rfl ?_
  refine wl_pure (v := .bool true) tt_ok rfl rfl ?_
  refine wl_pure tt_ok rfl rfl ?_
  refine wl_skip rfl rfl ?_
  refine wl_skip rfl rfl ?_
  refine wl_skip rfl rfl ?_
  refine wl_pure (v := .bool true) tt_ok rfl rfl ?_
  refine wl_pure tt_ok rfl rfl ?_
  refine wl_skip rfl rfl ?_
  refine wl_skip rfl rfl ?_
  refine wl_skip rfl rfl ?_
  refine wl_pure (v := .bool true) tt_ok rfl rfl ?_
  refine wl_nil (wx_then ?_)
  refine wc_cond_true rfl ?_
  refine wc_seq (wc_region ?_)
  refine wl_pure tt_ok rfl rfl ?_
  refine wl_nil (wx_then (wc_ret (wx_then_ret ?_)))
  simp only [Option.some.injEq] at h
  obtain rfl := h
  exact wx_pf tt_ok (.inl rfl) Tryd.results4 (Res.tmp rfl Res.nil) rfl

end Go.Proofs.YtkekgagekgadmaaDoor
