/-
  Each function computes what its model says. Printed by a program of this claim's own.
-/
import Derived.Test.YthlnellnlhkphaaDoorTab
import Derived.Test.YthlnellnlhkphaaDoorMod
import Derived.Test.YthlnellnlhkphaaDoorWalk1
import Derived.Test.YthlnellnlhkphaaDoorIns
namespace Go.Proofs.YthlnellnlhkphaaDoor
open Go.Proofs.YthlnellnlhkphaaDoor.Eng
set_option linter.unusedVariables false
set_option linter.unusedSimpArgs false
set_option maxHeartbeats 4000000
set_option maxRecDepth 20000

theorem k_hindcastlaw29_awake {F : Nat} {r0 : Bool} (h : m_hindcastlaw29_awake F = some r0) :
    Pf Tryd.prog 8 [] (fun w => True) (.bool r0) := by
  unfold m_hindcastlaw29_awake at h
  refine pf_of_wc Tryd.func8 rfl Tryd.ntmps8 rfl rfl (fun w0 hR => ?_)
  refine wc_seq (wc_region ?_)
  refine wl_pure tt_ok rfl rfl ?_
  refine wl_nil (wx_then (wc_seq (wc_region ?_)))
  replace h := bsome h; obtain ⟨v4, x4, h⟩ := h
  rcases v4 with _ | v4s
  · replace h := poN h
    refine wl_cs Tryd.call6 rfl rfl rfl (s_sp (k_watch_New_none x4) pNil (fun _ _ => trivial)) rfl ?_
    rintro _ _ ⟨_, ⟨rfl, rfl⟩, rfl⟩
    refine wl_pure tt_ok rfl rfl ?_
    refine wl_nil (wx_then (wc_seq (wc_seq (wc_region ?_))))
    refine wl_pure tt_ok rfl rfl ?_
    refine wl_pure (v := .bool true) tt_ok rfl rfl ?_
    refine wl_pure tt_ok rfl rfl ?_
    refine wl_skip rfl rfl ?_
    refine wl_skip rfl rfl ?_
    refine wl_skip rfl rfl ?_
    refine wl_pure (v := .bool true) tt_ok rfl rfl ?_
    refine wl_pure tt_ok rfl rfl ?_
    refine wl_skip rfl rfl ?_
    refine wl_skip rfl rfl ?_
    refine wl_skip rfl rfl ?_
    refine wl_pure (v := .bool true) tt_ok rfl rfl ?_
    refine wl_pure tt_ok rfl rfl ?_
    refine wl_skip rfl rfl ?_
    refine wl_skip rfl rfl ?_
    refine wl_skip rfl rfl ?_
    refine wl_pure (v := .bool true) tt_ok rfl rfl ?_
    refine wl_nil (wx_then ?_)
    refine wc_cond_true rfl ?_
    refine wc_seq (wc_region ?_)
    refine wl_pure tt_ok rfl rfl ?_
    refine wl_nil (wx_then (wc_ret (wx_then_ret ?_)))
    simp only [Option.some.injEq] at h
    obtain rfl := h
    exact wx_pf tt_ok (.inl rfl) Tryd.results8 (Res.tmp rfl Res.nil) rfl
  replace h := poS h
  refine wl_cs Tryd.call6 rfl rfl rfl (s_sp (k_watch_New x4) pNil (fun _ _ => trivial)) rfl ?_
  rintro _ _ ⟨_, ⟨b4_0, v4sa0, v4sn0, v4sc0, v4sB0, v4sN0, v4sV0, rfl, rfl⟩, rfl⟩
  refine wl_pure tt_ok rfl rfl ?_
  refine wl_nil (wx_then (wc_seq (wc_seq (wc_region ?_))))
  refine wl_pure tt_ok rfl rfl ?_
  refine wl_pure (v := .bool false) tt_ok rfl rfl ?_
  refine wl_pure tt_ok rfl rfl ?_
  refine wl_run rfl ?_
  refine wl_pure tt_ok rfl rfl ?_
  replace h := bsome h; obtain ⟨⟨o9_0, v9⟩, x9, h⟩ := h; try dsimp only at h
  refine wl_run rfl ?_
  refine wl_cs Tryd.call16 rfl rfl rfl (s_sp (k_watch_Watch_Own (p0 := v4s) v4sN0 v4sV0 x9) (pCons Sel.hc (pApp Sel.ha pNil)) (fun _ _ => trivial)) rfl ?_
  rintro _ _ ⟨_, ⟨o9_0a0, o9_0n0, o9_0c0, o9_0B0, o9_0N0, o9_0V0, rfl, rfl⟩, rfl⟩
  refine wl_run rfl ?_
  refine wl_pure (v := .bool (v9 != (0 : Int))) tt_ok rfl rfl ?_
  refine wl_pure (v := .bool (v9 != (0 : Int))) tt_ok rfl rfl ?_
  refine wl_pure tt_ok rfl rfl ?_
  replace h := bsome h; obtain ⟨⟨v16, g16_n4_0_f0, g16_n4_0_f1, g16_n4_0_f2⟩, h, hg16⟩ := h
  refine wl_split (t := 12) rfl (fun hc => ?_) (fun hc => ?_)
  · replace h := ct hc h
    refine wl_skip rfl rfl ?_
    refine wl_skip rfl rfl ?_
    refine wl_skip rfl rfl ?_
    simp only [Option.some.injEq, Prod.mk.injEq] at h
    obtain ⟨rfl, rfl, rfl, rfl⟩ := h
    have h := hg16; clear hg16; try dsimp only at h
    refine wl_pure (v := .bool true) tt_ok rfl rfl ?_
    refine wl_pure tt_ok rfl rfl ?_
    replace h := bsome h; obtain ⟨⟨v21, g21_n4_0_f0, g21_n4_0_f1, g21_n4_0_f2⟩, h, hg21⟩ := h
    replace h := ct rfl h
    refine wl_skip rfl rfl ?_
    refine wl_skip rfl rfl ?_
    refine wl_skip rfl rfl ?_
    simp only [Option.some.injEq, Prod.mk.injEq] at h
    obtain ⟨rfl, rfl, rfl, rfl⟩ := h
    have h := hg21; clear hg21; try dsimp only at h
    refine wl_pure (v := .bool true) tt_ok rfl rfl ?_
    refine wl_nil (wx_then ?_)
    replace h := ct rfl h
    refine wc_cond_true rfl ?_
    refine wc_seq (wc_region ?_)
    refine wl_pure tt_ok rfl rfl ?_
    refine wl_nil (wx_then (wc_ret (wx_then_ret ?_)))
    simp only [Option.some.injEq] at h
    obtain rfl := h
    exact wx_pf tt_ok (.inl rfl) Tryd.results8 (Res.tmp rfl Res.nil) rfl
  replace h := cf hc h
  refine wl_run rfl ?_
  refine wl_pure tt_ok rfl rfl ?_
  replace h := bsome h; obtain ⟨⟨o14_0, v14⟩, x14, h⟩ := h; try dsimp only at h
  refine wl_run rfl ?_
  refine wl_cs Tryd.call17 rfl rfl rfl (s_sp (k_watch_Watch_Other (p0 := o9_0) o9_0N0 o9_0V0 x14) (pCons Sel.hc (pApp Sel.ha pNil)) (fun _ _ => trivial)) rfl ?_
  rintro _ _ ⟨_, ⟨o14_0a0, o14_0n0, o14_0c0, o14_0B0, o14_0N0, o14_0V0, rfl, rfl⟩, rfl⟩
  refine wl_run rfl ?_
  refine wl_pure (v := .bool (v14 != (0 : Int))) tt_ok rfl rfl ?_
  simp only [Option.some.injEq, Prod.mk.injEq] at h
  obtain ⟨rfl, rfl, rfl, rfl⟩ := h
  have h := hg16; clear hg16; try dsimp only at h
  refine wl_pure (v := .bool (v14 != (0 : Int))) tt_ok rfl rfl ?_
  refine wl_pure tt_ok rfl rfl ?_
  replace h := bsome h; obtain ⟨⟨v21, g21_n4_0_f0, g21_n4_0_f1, g21_n4_0_f2⟩, h, hg21⟩ := h
  refine wl_split (t := 17) rfl (fun hc => ?_) (fun hc => ?_)
  · replace h := ct hc h
    refine wl_skip rfl rfl ?_
    refine wl_skip rfl rfl ?_
    refine wl_skip rfl rfl ?_
    simp only [Option.some.injEq, Prod.mk.injEq] at h
    obtain ⟨rfl, rfl, rfl, rfl⟩ := h
    have h := hg21; clear hg21; try dsimp only at h
    refine wl_pure (v := .bool true) tt_ok rfl rfl ?_
    refine wl_nil (wx_then ?_)
    replace h := ct rfl h
    refine wc_cond_true rfl ?_
    refine wc_seq (wc_region ?_)
    refine wl_pure tt_ok rfl rfl ?_
    refine wl_nil (wx_then (wc_ret (wx_then_ret ?_)))
    simp only [Option.some.injEq] at h
    obtain rfl := h
    exact wx_pf tt_ok (.inl rfl) Tryd.results8 (Res.tmp rfl Res.nil) rfl
  replace h := cf hc h
  refine wl_run rfl ?_
  refine wl_pure tt_ok rfl rfl ?_
  replace h := bsome h; obtain ⟨⟨o19_0, v19⟩, x19, h⟩ := h; try dsimp only at h
  refine wl_run rfl ?_
  refine wl_cs Tryd.call17 rfl rfl rfl (s_sp (k_watch_Watch_Other (p0 := o14_0) o14_0N0 o14_0V0 x19) (pCons Sel.hc (pApp Sel.ha pNil)) (fun _ _ => trivial)) rfl ?_
  rintro _ _ ⟨_, ⟨o19_0a0, o19_0n0, o19_0c0, o19_0B0, o19_0N0, o19_0V0, rfl, rfl⟩, rfl⟩
  refine wl_run rfl ?_
  refine wl_pure (v := .bool (v19 != (2 : Int))) tt_ok rfl rfl ?_
  simp only [Option.some.injEq, Prod.mk.injEq] at h
  obtain ⟨rfl, rfl, rfl, rfl⟩ := h
  have h := hg21; clear hg21; try dsimp only at h
  refine wl_pure (v := .bool (v19 != (2 : Int))) tt_ok rfl rfl ?_
  refine wl_nil (wx_then ?_)
  refine wc_cond rfl (fun hc => ?_) (fun hc => ?_)
  · replace h := ct hc h
    refine wc_seq (wc_region ?_)
    refine wl_pure tt_ok rfl rfl ?_
    refine wl_nil (wx_then (wc_ret (wx_then_ret ?_)))
    simp only [Option.some.injEq] at h
    obtain rfl := h
    exact wx_pf tt_ok (.inl rfl) Tryd.results8 (Res.tmp rfl Res.nil) rfl
  replace h := cf hc h
  refine wc_skip (wx_then (wc_seq (wc_region ?_)))
  refine wl_pure tt_ok rfl rfl ?_
  replace h := bsome h; obtain ⟨⟨v24_0, v24_1⟩, x24, h⟩ := h; try dsimp only at h
  refine wl_cq Tryd.call14 rfl rfl rfl (q_rd (k_watch_Watch_Agreed (p0 := o19_0) o19_0N0 o19_0V0 x24) (pCons Sel.hc (pApp Sel.ha pNil)) (fun _ _ => trivial)) rfl ?_
  iterate 5 refine wl_pure tt_ok rfl rfl ?_
  refine wl_nil (wx_then (wc_seq (wc_region ?_)))
  refine wl_pure tt_ok rfl rfl ?_
  refine wl_pure (v := .bool (v24_0 == (4 : Int))) tt_ok rfl rfl ?_
  refine wl_pure tt_ok rfl rfl ?_
  replace h := bsome h; obtain ⟨v31, h, hg31⟩ := h
  refine wl_split (t := 29) rfl (fun hc => ?_) (fun hc => ?_)
  · replace h := ct hc h
    refine wl_run rfl ?_
    refine wl_pure tt_ok rfl rfl ?_
    simp only [Option.some.injEq, Prod.mk.injEq] at h
    obtain rfl := h
    have h := hg31; clear hg31
    refine wl_pure (v := .bool v24_1) tt_ok rfl rfl ?_
    refine wl_pure tt_ok rfl rfl ?_
    replace h := bsome h; obtain ⟨⟨v36, g36_n4_0_f0, g36_n4_0_f1, g36_n4_0_f2⟩, h, hg36⟩ := h
    refine wl_split (t := 32) rfl (fun hc => ?_) (fun hc => ?_)
    · replace h := ct hc h
      refine wl_run rfl ?_
      refine wl_pure tt_ok rfl rfl ?_
      replace h := bsome h; obtain ⟨⟨o34_0, v34⟩, x34, h⟩ := h; try dsimp only at h
      refine wl_run rfl ?_
      refine wl_cs Tryd.call17 rfl rfl rfl (s_sp (k_watch_Watch_Other (p0 := o19_0) o19_0N0 o19_0V0 x34) (pCons Sel.hc (pApp Sel.ha pNil)) (fun _ _ => trivial)) rfl ?_
      rintro _ _ ⟨_, ⟨o34_0a0, o34_0n0, o34_0c0, o34_0B0, o34_0N0, o34_0V0, rfl, rfl⟩, rfl⟩
      refine wl_run rfl ?_
      refine wl_pure (v := .bool (v34 == (0 : Int))) tt_ok rfl rfl ?_
      simp only [Option.some.injEq, Prod.mk.injEq] at h
      obtain ⟨rfl, rfl, rfl, rfl⟩ := h
      have h := hg36; clear hg36; try dsimp only at h
      refine wl_pure (v := .bool (v34 == (0 : Int))) tt_ok rfl rfl ?_
      refine wl_pure tt_ok rfl rfl ?_
      replace h := bsome h; obtain ⟨⟨v41, g41_n4_0_f0, g41_n4_0_f1, g41_n4_0_f2⟩, h, hg41⟩ := h
      refine wl_split (t := 37) rfl (fun hc => ?_) (fun hc => ?_)
      · replace h := ct hc h
        refine wl_run rfl ?_
        refine wl_pure tt_ok rfl rfl ?_
        replace h := bsome h; obtain ⟨⟨o39_0, v39⟩, x39, h⟩ := h; try dsimp only at h
        refine wl_run rfl ?_
        refine wl_cs Tryd.call16 rfl rfl rfl (s_sp (k_watch_Watch_Own (p0 := o34_0) o34_0N0 o34_0V0 x39) (pCons Sel.hc (pApp Sel.ha pNil)) (fun _ _ => trivial)) rfl ?_
        rintro _ _ ⟨_, ⟨o39_0a0, o39_0n0, o39_0c0, o39_0B0, o39_0N0, o39_0V0, rfl, rfl⟩, rfl⟩
        refine wl_run rfl ?_
        refine wl_pure (v := .bool (v39 == (14 : Int))) tt_ok rfl rfl ?_
        simp only [Option.some.injEq, Prod.mk.injEq] at h
        obtain ⟨rfl, rfl, rfl, rfl⟩ := h
        have h := hg41; clear hg41; try dsimp only at h
        refine wl_pure (v := .bool (v39 == (14 : Int))) tt_ok rfl rfl ?_
        refine wl_pure tt_ok rfl rfl ?_
        replace h := bsome h; obtain ⟨v45, h, hg45⟩ := h
        refine wl_split (t := 42) rfl (fun hc => ?_) (fun hc => ?_)
        · replace h := ct hc h
          refine wl_run rfl ?_
          refine wl_pure tt_ok rfl rfl ?_
          replace h := bsome h; obtain ⟨v44, x44, h⟩ := h
          refine wl_run rfl ?_
          refine wl_cq Tryd.call11 rfl rfl rfl (q_rd (k_watch_Watch_Clashed (p0 := o39_0) o39_0N0 o39_0V0 x44) (pCons Sel.hc (pApp Sel.ha pNil)) (fun _ _ => trivial)) rfl ?_
          simp only [Option.some.injEq, Prod.mk.injEq] at h
          obtain rfl := h
          have h := hg45; clear hg45
          refine wl_pure (v := .bool v44) tt_ok rfl rfl ?_
          refine wl_pure tt_ok rfl rfl ?_
          refine wl_nil (wx_then (wc_ret ?_))
          simp only [Option.some.injEq] at h
          obtain rfl := h
          exact wx_pf tt_ok (.inl rfl) Tryd.results8 (Res.tmp rfl Res.nil) rfl
        replace h := cf hc h
        refine wl_skip rfl rfl ?_
        refine wl_skip rfl rfl ?_
        simp only [Option.some.injEq, Prod.mk.injEq] at h
        obtain rfl := h
        have h := hg45; clear hg45
        refine wl_pure (v := .bool false) tt_ok rfl rfl ?_
        refine wl_pure tt_ok rfl rfl ?_
        refine wl_nil (wx_then (wc_ret ?_))
        simp only [Option.some.injEq] at h
        obtain rfl := h
        exact wx_pf tt_ok (.inl rfl) Tryd.results8 (Res.tmp rfl Res.nil) rfl
      replace h := cf hc h
      refine wl_skip rfl rfl ?_
      refine wl_skip rfl rfl ?_
      refine wl_skip rfl rfl ?_
      simp only [Option.some.injEq, Prod.mk.injEq] at h
      obtain ⟨rfl, rfl, rfl, rfl⟩ := h
      have h := hg41; clear hg41; try dsimp only at h
      refine wl_pure (v := .bool false) tt_ok rfl rfl ?_
      refine wl_pure tt_ok rfl rfl ?_
      replace h := bsome h; obtain ⟨v45, h, hg45⟩ := h
      replace h := cf rfl h
      refine wl_skip rfl rfl ?_
      refine wl_skip rfl rfl ?_
      simp only [Option.some.injEq, Prod.mk.injEq] at h
      obtain rfl := h
      have h := hg45; clear hg45
      refine wl_pure (v := .bool false) tt_ok rfl rfl ?_
      refine wl_pure tt_ok rfl rfl ?_
      refine wl_nil (wx_then (wc_ret ?_))
      simp only [Option.some.injEq] at h
      obtain rfl := h
      exact wx_pf tt_ok (.inl rfl) Tryd.results8 (Res.tmp rfl Res.nil) rfl
    replace h := cf hc h
    refine wl_skip rfl rfl ?_
    refine wl_skip rfl rfl ?_
    refine wl_skip rfl rfl ?_
    simp only [Option.some.injEq, Prod.mk.injEq] at h
    obtain ⟨rfl, rfl, rfl, rfl⟩ := h
    have h := hg36; clear hg36; try dsimp only at h
    refine wl_pure (v := .bool false) tt_ok rfl rfl ?_
    refine wl_pure tt_ok rfl rfl ?_
    replace h := bsome h; obtain ⟨⟨v41, g41_n4_0_f0, g41_n4_0_f1, g41_n4_0_f2⟩, h, hg41⟩ := h
    replace h := cf rfl h
    refine wl_skip rfl rfl ?_
    refine wl_skip rfl rfl ?_
    refine wl_skip rfl rfl ?_
    simp only [Option.some.injEq, Prod.mk.injEq] at h
    obtain ⟨rfl, rfl, rfl, rfl⟩ := h
    have h := hg41; clear hg41; try dsimp only at h
    refine wl_pure (v := .bool false) tt_ok rfl rfl ?_
    refine wl_pure tt_ok rfl rfl ?_
    replace h := bsome h; obtain ⟨v45, h, hg45⟩ := h
    replace h := cf rfl h
    refine wl_skip rfl rfl ?_
    refine wl_skip rfl rfl ?_
    simp only [Option.some.injEq, Prod.mk.injEq] at h
    obtain rfl := h
    have h := hg45; clear hg45
    refine wl_pure (v := .bool false) tt_ok rfl rfl ?_
    refine wl_pure tt_ok rfl rfl ?_
    refine wl_nil (wx_then (wc_ret ?_))
    simp only [Option.some.injEq] at h
    obtain rfl := h
    exact wx_pf tt_ok (.inl rfl) Tryd.results8 (Res.tmp rfl Res.nil) rfl
  replace h := cf hc h
  refine wl_skip rfl rfl ?_
  simp only [Option.some.injEq, Prod.mk.injEq] at h
  obtain rfl := h
  have h := hg31; clear hg31
  refine wl_pure (v := .bool false) tt_ok rfl rfl ?_
  refine wl_pure tt_ok rfl rfl ?_
  replace h := bsome h; obtain ⟨⟨v36, g36_n4_0_f0, g36_n4_0_f1, g36_n4_0_f2⟩, h, hg36⟩ := h
  replace h := cf rfl h
  refine wl_skip rfl rfl ?_
  refine wl_skip rfl rfl ?_
  refine wl_skip rfl rfl ?_
  simp only [Option.some.injEq, Prod.mk.injEq] at h
  obtain ⟨rfl, rfl, rfl, rfl⟩ := h
  have h := hg36; clear hg36; try dsimp only at h
  refine wl_pure (v := .bool false) tt_ok rfl rfl ?_
  refine wl_pure tt_ok rfl rfl ?_
  replace h := bsome h; obtain ⟨⟨v41, g41_n4_0_f0, g41_n4_0_f1, g41_n4_0_f2⟩, h, hg41⟩ := h
  replace h := cf rfl h
  refine wl_skip rfl rfl ?_
  refine wl_skip rfl rfl ?_
  refine wl_skip rfl rfl ?_
  simp only [Option.some.injEq, Prod.mk.injEq] at h
  obtain ⟨rfl, rfl, rfl, rfl⟩ := h
  have h := hg41; clear hg41; try dsimp only at h
  refine wl_pure (v := .bool false) tt_ok rfl rfl ?_
  refine wl_pure tt_ok rfl rfl ?_
  replace h := bsome h; obtain ⟨v45, h, hg45⟩ := h
  replace h := cf rfl h
  refine wl_skip rfl rfl ?_
  refine wl_skip rfl rfl ?_
  simp only [Option.some.injEq, Prod.mk.injEq] at h
  obtain rfl := h
  have h := hg45; clear hg45
  refine wl_pure (v := .bool false) tt_ok rfl rfl ?_
  refine wl_pure tt_ok rfl rfl ?_
  refine wl_nil (wx_then (wc_ret ?_))
  simp only [Option.some.injEq] at h
  obtain rfl := h
  exact wx_pf tt_ok (.inl rfl) Tryd.results8 (Res.tmp rfl Res.nil) rfl

theorem k_hindcastlaw29_few {F : Nat} {p0 : (List T_hindcastlaw29_Act)} {p0a0 : Option Addr} {p0n0 p0c0 : Nat} {p0g0 : List (T_hindcastlaw29_Act × G)} {r0 : Bool} (p0N0 : p0n0 = p0.length) (p0H0 : p0n0 ≤ p0c0) (p0G0 : p0 = unG p0g0) (h : m_hindcastlaw29_few F p0 = some r0) :
    Pf Tryd.prog 9 [.slice p0a0 p0n0 p0c0] (fun w => Rds w [] [] p0a0 (flat cg_T_hindcastlaw29_Act p0g0) ∧ AllRd sh_T_hindcastlaw29_Act c_T_api_Shot w [] [] p0g0) (.bool r0) := by
  unfold m_hindcastlaw29_few at h
  refine pf_of_wc Tryd.func9 rfl Tryd.ntmps9 rfl rfl (fun w0 hR => ?_)
  obtain ⟨p0S0, p0A0⟩ := hR
  refine wc_seq (wc_region ?_)
  refine wl_pure tt_ok rfl rfl ?_
  refine wl_nil (wx_then (wc_seq (wc_seq (wc_region ?_))))
  refine wl_pure tt_ok rfl rfl ?_
  refine wl_nil (wx_then (wc_block ?_))
  replace h := bsome h; obtain ⟨o7, h, hl7⟩ := h
  refine wc_loop (fun m E L => ∃ (j7_3 : Int), m_hindcastlaw29_few_L6 F p0 m j7_3 = some o7 ∧ E = [(0, .slice p0a0 p0n0 p0c0), (2, .bool false), (3, .int .i64 j7_3)] ∧ L = []) F ⟨(0 : Int), h, rfl, rfl⟩ (agree_cons rfl (agree_cons rfl (agree_cons rfl agree_nil))) (pSub pNil) ?_
  clear h
  rintro m7 _ _ ⟨j7_3, h, rfl, rfl⟩
  rcases m7 with _ | m7
  · rw [m_hindcastlaw29_few_L6.eq_1] at h; cases h
  rw [m_hindcastlaw29_few_L6.eq_2] at h
  refine wc_seq (wc_seq (wc_region ?_))
  iterate 2 refine wl_pure tt_ok rfl rfl ?_
  refine wl_val (v := .int .i64 (p0.length : Int)) (val_len tt_ok rfl rfl p0N0) rfl ?_
  refine wl_pure (v := .bool (decide (j7_3 < (p0.length : Int)))) tt_ok rfl rfl ?_
  refine wl_pure tt_ok rfl rfl ?_
  replace h := bsome h; obtain ⟨v11, h, hg11⟩ := h
  refine wl_split (t := 8) rfl (fun hc => ?_) (fun hc => ?_)
  · replace h := ct hc h
    refine wl_run rfl ?_
    refine wl_pure tt_ok rfl rfl ?_
    refine wl_run rfl ?_
    refine wl_pure (v := .bool (decide (j7_3 < (130 : Int)))) tt_ok rfl rfl ?_
    simp only [Option.some.injEq, Prod.mk.injEq] at h
    obtain rfl := h
    have h := hg11; clear hg11
    refine wl_pure (v := .bool (decide (j7_3 < (130 : Int)))) tt_ok rfl rfl ?_
    refine wl_nil (wx_then ?_)
    refine wc_cond rfl (fun hc => ?_) (fun hc => ?_)
    · replace h := ct hc h
      refine wc_skip (wx_then (wc_seq (wc_block (wc_seq (wc_region ?_)))))
      iterate 2 refine wl_pure tt_ok rfl rfl ?_
      replace h := bsome h; obtain ⟨v16, x16, h⟩ := h
      obtain ⟨G16, y16⟩ := getI_g p0G0 x16
      refine wl_val (v := .pointer (some ((adOf p0a0).add (j7_3.toNat * 22 + 0)))) (val_ix (enc := cg_T_hindcastlaw29_Act) tt_ok rfl rfl rfl rfl (len_g p0N0 p0G0) p0S0 cg_T_hindcastlaw29_Act_len rfl y16) rfl ?_
      refine wl_val (v := .pointer (some ((adOf p0a0).add (j7_3.toNat * 22 + 3)))) (val_fa (k := j7_3.toNat * 22 + 0) (off := 3) tt_ok rfl rfl rfl rfl rfl) rfl ?_
      refine wl_val (v := .pointer (some ((adOf p0a0).add (j7_3.toNat * 22 + 19)))) (val_fa (k := j7_3.toNat * 22 + 3) (off := 16) tt_ok rfl rfl rfl rfl rfl) rfl ?_
      refine wl_val (v := .slice G16.1 G16.2.1 G16.2.2) (val_le (enc := cg_T_hindcastlaw29_Act) (xs := p0g0) tt_ok rfl p0S0 rsub_nil cg_T_hindcastlaw29_Act_len y16 rfl) rfl ?_
      refine wl_val (v := .int .i64 (v16.S.Shots.length : Int)) (val_len tt_ok rfl rfl (allrd_get p0A0 y16).1) rfl ?_
      refine wl_pure (v := .bool (decide ((100 : Int) < (v16.S.Shots.length : Int)))) tt_ok rfl rfl ?_
      refine wl_nil (wx_then ?_)
      refine wc_cond rfl (fun hc => ?_) (fun hc => ?_)
      · replace h := ct hc h
        refine wc_seq (wc_region ?_)
        refine wl_pure tt_ok rfl rfl ?_
        refine wl_nil (wx_then (wc_ret (wx_block_ret (wx_then_ret ?_))))
        obtain rfl := Option.some.inj h
        have h := hl7; clear hl7; try dsimp only [orE_l, orE_r] at h
        refine wx_then_ret (wx_block_ret (wx_then_ret ?_))
        simp only [Option.some.injEq] at h
        obtain rfl := h
        exact wx_pf tt_ok (.inl rfl) Tryd.results9 (Res.tmp rfl Res.nil) rfl
      replace h := cf hc h
      refine wc_skip (wx_block (wx_then (wc_region ?_)))
      refine wl_pure tt_ok rfl rfl ?_
      refine wl_pure (v := .int .i64 (IntKind.wrap .i64 (j7_3 + (1 : Int)))) tt_ok rfl rfl ?_
      refine wl_pure tt_ok rfl rfl ?_
      refine wl_nil ?_
      exact wx_round m7 (Nat.lt_succ_self m7) ⟨(IntKind.wrap .i64 (j7_3 + (1 : Int))), h, rfl, rfl⟩ (agree_cons rfl (agree_cons rfl (agree_cons rfl agree_nil))) (pSub pNil)
    replace h := cf hc h
    refine wc_exit (wx_then_exit ?_)
    obtain rfl := Option.some.inj h
    have h := hl7; clear hl7; try dsimp only [orE_l, orE_r] at h
    refine wx_then_exit (wx_block_exit (wx_then (wc_seq (wc_region ?_))))
    refine wl_pure tt_ok rfl rfl ?_
    refine wl_val (v := .int .i64 (p0.length : Int)) (val_len tt_ok rfl rfl p0N0) rfl ?_
    refine wl_pure (v := .bool (decide ((p0.length : Int) ≤ (120 : Int)))) tt_ok rfl rfl ?_
    refine wl_pure tt_ok rfl rfl ?_
    refine wl_nil (wx_then (wc_ret ?_))
    simp only [Option.some.injEq] at h
    obtain rfl := h
    exact wx_pf tt_ok (.inl rfl) Tryd.results9 (Res.tmp rfl Res.nil) rfl
  replace h := cf hc h
  refine wl_skip rfl rfl ?_
  refine wl_skip rfl rfl ?_
  simp only [Option.some.injEq, Prod.mk.injEq] at h
  obtain rfl := h
  have h := hg11; clear hg11
  refine wl_pure (v := .bool false) tt_ok rfl rfl ?_
  refine wl_nil (wx_then ?_)
  replace h := cf rfl h
  refine wc_cond_false rfl ?_
  refine wc_exit (wx_then_exit ?_)
  obtain rfl := Option.some.inj h
  have h := hl7; clear hl7; try dsimp only [orE_l, orE_r] at h
  refine wx_then_exit (wx_block_exit (wx_then (wc_seq (wc_region ?_))))
  refine wl_pure tt_ok rfl rfl ?_
  refine wl_val (v := .int .i64 (p0.length : Int)) (val_len tt_ok rfl rfl p0N0) rfl ?_
  refine wl_pure (v := .bool (decide ((p0.length : Int) ≤ (120 : Int)))) tt_ok rfl rfl ?_
  refine wl_pure tt_ok rfl rfl ?_
  refine wl_nil (wx_then (wc_ret ?_))
  simp only [Option.some.injEq] at h
  obtain rfl := h
  exact wx_pf tt_ok (.inl rfl) Tryd.results9 (Res.tmp rfl Res.nil) rfl

theorem k_hindcastref29_Watch_find {F : Nat} {p0 : T_hindcastref29_Watch} {p0b p0t : Nat} {p0a0 : Option Addr} {p0n0 : Nat} {p0c0 : Nat} {p0B0 : List Blk} {p1 : Int} {r0 : Int} (p0N0 : p0n0 = p0.L.length) (p0V0 : Own 77 5 p0a0 p0n0 p0c0 (flat c_T_hindcastref29_Entry p0.L) p0B0) (h : m_hindcastref29_Watch_find F p0 p1 = some r0) :
    Rd2 Tryd.prog 65 [.pointer (some ⟨p0b, 0, none⟩), .int .u64 p1] (⟨p0b, [.int .u64 p0.Rows, .slice p0a0 p0n0 p0c0, .bool p0.Clashed], p0t, (0, 0)⟩ :: (p0B0 ++ [])) (fun w => True) (.int .i64 r0) := by
  unfold m_hindcastref29_Watch_find at h
  refine sp_of_wc Tryd.func65 rfl Tryd.ntmps65 rfl rfl (fun w0 hR => ?_)
  refine wc_seq (wc_region ?_)
  refine wl_pure tt_ok rfl rfl ?_
  refine wl_nil (wx_then (wc_seq (wc_seq (wc_region ?_))))
  refine wl_pure tt_ok rfl rfl ?_
  refine wl_nil (wx_then (wc_block ?_))
  replace h := bsome h; obtain ⟨o7, h, hl7⟩ := h
  refine wc_loop (fun m E L => ∃ (j7_5 : Int), m_hindcastref29_Watch_find_L6 F p0 p1 m j7_5 = some o7 ∧ E = [(0, .pointer (some ⟨p0b, 0, none⟩)), (1, .int .u64 p1), (4, .int .i64 (0 : Int)), (5, .int .i64 j7_5)] ∧ L = (⟨p0b, [.int .u64 p0.Rows, .slice p0a0 p0n0 p0c0, .bool p0.Clashed], p0t, (0, 0)⟩ :: (p0B0 ++ []))) F ⟨(0 : Int), h, rfl, rfl⟩ (agree_cons rfl (agree_cons rfl (agree_cons rfl (agree_cons rfl agree_nil)))) (pSub (pCons Sel.hc (pApp Sel.ha pNil))) ?_
  clear h
  rintro m7 _ _ ⟨j7_5, h, rfl, rfl⟩
  rcases m7 with _ | m7
  · rw [m_hindcastref29_Watch_find_L6.eq_1] at h; cases h
  rw [m_hindcastref29_Watch_find_L6.eq_2] at h
  refine wc_seq (wc_seq (wc_region ?_))
  iterate 3 refine wl_pure tt_ok rfl rfl ?_
  refine wl_pure (v := .pointer (some ⟨p0b, 1, none⟩)) tt_ok rfl rfl ?_
  refine wl_val (v := .slice p0a0 p0n0 p0c0) (val_load tt_ok rfl (List.Mem.head _) rfl) rfl ?_
  refine wl_val (v := .int .i64 (p0.L.length : Int)) (val_len tt_ok rfl rfl p0N0) rfl ?_
  refine wl_pure (v := .bool (decide (j7_5 < (p0.L.length : Int)))) tt_ok rfl rfl ?_
  refine wl_nil (wx_then ?_)
  refine wc_cond rfl (fun hc => ?_) (fun hc => ?_)
  · replace h := ct hc h
    refine wc_skip (wx_then (wc_seq (wc_block (wc_seq (wc_region ?_)))))
    iterate 2 refine wl_pure tt_ok rfl rfl ?_
    refine wl_pure (v := .pointer (some ⟨p0b, 1, none⟩)) tt_ok rfl rfl ?_
    refine wl_val (v := .slice p0a0 p0n0 p0c0) (val_load tt_ok rfl (List.Mem.head _) rfl) rfl ?_
    refine wl_pure tt_ok rfl rfl ?_
    replace h := bsome h; obtain ⟨v20, x20, h⟩ := h
    refine wl_val (v := .pointer (some ((adOf p0a0).add (j7_5.toNat * 5 + 0)))) (val_ix (enc := c_T_hindcastref29_Entry) tt_ok rfl rfl rfl rfl p0N0 (Rds.of_vec p0V0) c_T_hindcastref29_Entry_len rfl x20) rfl ?_
    refine wl_val (v := .pointer (some ((adOf p0a0).add (j7_5.toNat * 5 + 0)))) (val_fa (k := j7_5.toNat * 5 + 0) (off := 0) tt_ok rfl rfl rfl rfl rfl) rfl ?_
    refine wl_val (v := .int .u64 v20.F) (val_le (enc := c_T_hindcastref29_Entry) (xs := p0.L) tt_ok rfl (Rds.of_vec p0V0) ⟨_, (Sel.sc Sel.ha)⟩ c_T_hindcastref29_Entry_len x20 rfl) rfl ?_
    refine wl_pure tt_ok rfl rfl ?_
    refine wl_pure (v := .bool (v20.F == p1)) tt_ok rfl rfl ?_
    refine wl_nil (wx_then ?_)
    refine wc_cond rfl (fun hc => ?_) (fun hc => ?_)
    · replace h := ct hc h
      refine wc_seq (wc_region ?_)
      iterate 2 refine wl_pure tt_ok rfl rfl ?_
      refine wl_nil (wx_then (wc_ret (wx_block_ret (wx_then_ret ?_))))
      obtain rfl := Option.some.inj h
      have h := hl7; clear hl7; try dsimp only [orE_l, orE_r] at h
      refine wx_then_ret (wx_block_ret (wx_then_ret ?_))
      simp only [Option.some.injEq] at h
      obtain rfl := h
      exact wx_rd tt_ok (.inl rfl) Tryd.results65 (Res.tmp rfl Res.nil) (pSub (pCons Sel.hc (pApp Sel.ha pNil))) rfl
    replace h := cf hc h
    refine wc_skip (wx_block (wx_then (wc_region ?_)))
    refine wl_pure tt_ok rfl rfl ?_
    refine wl_pure (v := .int .i64 (IntKind.wrap .i64 (j7_5 + (1 : Int)))) tt_ok rfl rfl ?_
    refine wl_pure tt_ok rfl rfl ?_
    refine wl_nil ?_
    exact wx_round m7 (Nat.lt_succ_self m7) ⟨(IntKind.wrap .i64 (j7_5 + (1 : Int))), h, rfl, rfl⟩ (agree_cons rfl (agree_cons rfl (agree_cons rfl (agree_cons rfl agree_nil)))) (pSub (pCons Sel.hc (pApp Sel.ha pNil)))
  replace h := cf hc h
  refine wc_exit (wx_then_exit ?_)
  obtain rfl := Option.some.inj h
  have h := hl7; clear hl7; try dsimp only [orE_l, orE_r] at h
  refine wx_then_exit (wx_block_exit (wx_then (wc_seq (wc_region ?_))))
  refine wl_pure tt_ok rfl rfl ?_
  refine wl_nil (wx_then (wc_ret ?_))
  simp only [Option.some.injEq] at h
  obtain rfl := h
  exact wx_rd tt_ok (.inl rfl) Tryd.results65 (Res.tmp rfl Res.nil) (pSub (pCons Sel.hc (pApp Sel.ha pNil))) rfl

theorem k_hindcastref29_Watch_least {F : Nat} {p0 : T_hindcastref29_Watch} {p0b p0t : Nat} {p0a0 : Option Addr} {p0n0 : Nat} {p0c0 : Nat} {p0B0 : List Blk} {r0 : Int} (p0N0 : p0n0 = p0.L.length) (p0V0 : Own 77 5 p0a0 p0n0 p0c0 (flat c_T_hindcastref29_Entry p0.L) p0B0) (h : m_hindcastref29_Watch_least F p0 = some r0) :
    Rd2 Tryd.prog 66 [.pointer (some ⟨p0b, 0, none⟩)] (⟨p0b, [.int .u64 p0.Rows, .slice p0a0 p0n0 p0c0, .bool p0.Clashed], p0t, (0, 0)⟩ :: (p0B0 ++ [])) (fun w => True) (.int .i64 r0) := by
  unfold m_hindcastref29_Watch_least at h
  refine sp_of_wc Tryd.func66 rfl Tryd.ntmps66 rfl rfl (fun w0 hR => ?_)
  refine wc_seq (wc_region ?_)
  refine wl_pure tt_ok rfl rfl ?_
  refine wl_nil (wx_then (wc_seq (wc_region ?_)))
  refine wl_pure tt_ok rfl rfl ?_
  refine wl_nil (wx_then (wc_seq (wc_seq (wc_region ?_))))
  refine wl_pure tt_ok rfl rfl ?_
  refine wl_nil (wx_then (wc_block ?_))
  replace h := bsome h; obtain ⟨l9_3, h, hl9⟩ := h
  refine wc_loop (fun m E L => ∃ (j9_3 : Int) (j9_4 : Int), m_hindcastref29_Watch_least_L8 F p0 m j9_3 j9_4 = some l9_3 ∧ E = [(0, .pointer (some ⟨p0b, 0, none⟩)), (2, .int .i64 (0 : Int)), (3, .int .i64 j9_3), (4, .int .i64 j9_4)] ∧ L = (⟨p0b, [.int .u64 p0.Rows, .slice p0a0 p0n0 p0c0, .bool p0.Clashed], p0t, (0, 0)⟩ :: (p0B0 ++ []))) F ⟨(0 : Int), (0 : Int), h, rfl, rfl⟩ (agree_cons rfl (agree_cons rfl (agree_cons rfl (agree_cons rfl agree_nil)))) (pSub (pCons Sel.hc (pApp Sel.ha pNil))) ?_
  clear h
  rintro m9 _ _ ⟨j9_3, j9_4, h, rfl, rfl⟩
  rcases m9 with _ | m9
  · rw [m_hindcastref29_Watch_least_L8.eq_1] at h; cases h
  rw [m_hindcastref29_Watch_least_L8.eq_2] at h
  refine wc_seq (wc_seq (wc_region ?_))
  iterate 3 refine wl_pure tt_ok rfl rfl ?_
  refine wl_pure (v := .pointer (some ⟨p0b, 1, none⟩)) tt_ok rfl rfl ?_
  refine wl_val (v := .slice p0a0 p0n0 p0c0) (val_load tt_ok rfl (List.Mem.head _) rfl) rfl ?_
  refine wl_val (v := .int .i64 (p0.L.length : Int)) (val_len tt_ok rfl rfl p0N0) rfl ?_
  refine wl_pure (v := .bool (decide (j9_4 < (p0.L.length : Int)))) tt_ok rfl rfl ?_
  refine wl_nil (wx_then ?_)
  refine wc_cond rfl (fun hc => ?_) (fun hc => ?_)
  · replace h := ct hc h
    refine wc_skip (wx_then (wc_seq (wc_block (wc_seq ?_))))
    refine wc_quiet (by kernel_rfl) (by kernel_rfl) ?_
    refine wq_pure tt_ok rfl rfl ?_
    refine wq_pure tt_ok rfl rfl ?_
    refine wq_pure (v := .pointer (some ⟨p0b, 1, none⟩)) tt_ok rfl rfl ?_
    refine wq_val (v := .slice p0a0 p0n0 p0c0) (val_load tt_ok rfl (List.Mem.head _) rfl) rfl ?_
    refine wq_pure tt_ok rfl rfl ?_
    replace h := bsome h; obtain ⟨v19, x19, h⟩ := h
    refine wq_val (v := .pointer (some ((adOf p0a0).add (j9_4.toNat * 5 + 0)))) (val_ix (enc := c_T_hindcastref29_Entry) tt_ok rfl rfl rfl rfl p0N0 (Rds.of_vec p0V0) c_T_hindcastref29_Entry_len rfl x19) rfl ?_
    refine wq_val (v := .pointer (some ((adOf p0a0).add (j9_4.toNat * 5 + 0)))) (val_fa (k := j9_4.toNat * 5 + 0) (off := 0) tt_ok rfl rfl rfl rfl rfl) rfl ?_
    refine wq_val (v := .int .u64 v19.F) (val_le (enc := c_T_hindcastref29_Entry) (xs := p0.L) tt_ok rfl (Rds.of_vec p0V0) ⟨_, (Sel.sc Sel.ha)⟩ c_T_hindcastref29_Entry_len x19 rfl) rfl ?_
    refine wq_pure tt_ok rfl rfl ?_
    refine wq_pure tt_ok rfl rfl ?_
    refine wq_pure (v := .pointer (some ⟨p0b, 1, none⟩)) tt_ok rfl rfl ?_
    refine wq_val (v := .slice p0a0 p0n0 p0c0) (val_load tt_ok rfl (List.Mem.head _) rfl) rfl ?_
    refine wq_pure tt_ok rfl rfl ?_
    replace h := bsome h; obtain ⟨v27, x27, h⟩ := h
    refine wq_val (v := .pointer (some ((adOf p0a0).add (j9_3.toNat * 5 + 0)))) (val_ix (enc := c_T_hindcastref29_Entry) tt_ok rfl rfl rfl rfl p0N0 (Rds.of_vec p0V0) c_T_hindcastref29_Entry_len rfl x27) rfl ?_
    refine wq_val (v := .pointer (some ((adOf p0a0).add (j9_3.toNat * 5 + 0)))) (val_fa (k := j9_3.toNat * 5 + 0) (off := 0) tt_ok rfl rfl rfl rfl rfl) rfl ?_
    refine wq_val (v := .int .u64 v27.F) (val_le (enc := c_T_hindcastref29_Entry) (xs := p0.L) tt_ok rfl (Rds.of_vec p0V0) ⟨_, (Sel.sc Sel.ha)⟩ c_T_hindcastref29_Entry_len x27 rfl) rfl ?_
    refine wq_pure (v := .bool (decide (v19.F < v27.F))) tt_ok rfl rfl ?_
    refine wq_nil ?_
    refine wx_then ?_
    refine wc_cond rfl (fun hc => ?_) (fun hc => ?_)
    · replace h := ct hc h
      refine wc_region ?_
      iterate 2 refine wl_pure tt_ok rfl rfl ?_
      refine wl_nil (wx_block (wx_then (wc_region ?_)))
      refine wl_pure tt_ok rfl rfl ?_
      refine wl_pure (v := .int .i64 (IntKind.wrap .i64 (j9_4 + (1 : Int)))) tt_ok rfl rfl ?_
      refine wl_pure tt_ok rfl rfl ?_
      refine wl_nil ?_
      exact wx_round m9 (Nat.lt_succ_self m9) ⟨j9_4, (IntKind.wrap .i64 (j9_4 + (1 : Int))), h, rfl, rfl⟩ (agree_cons rfl (agree_cons rfl (agree_cons rfl (agree_cons rfl agree_nil)))) (pSub (pCons Sel.hc (pApp Sel.ha pNil)))
    replace h := cf hc h
    refine wc_skip (wx_block (wx_then (wc_region ?_)))
    refine wl_pure tt_ok rfl rfl ?_
    refine wl_pure (v := .int .i64 (IntKind.wrap .i64 (j9_4 + (1 : Int)))) tt_ok rfl rfl ?_
    refine wl_pure tt_ok rfl rfl ?_
    refine wl_nil ?_
    exact wx_round m9 (Nat.lt_succ_self m9) ⟨j9_3, (IntKind.wrap .i64 (j9_4 + (1 : Int))), h, rfl, rfl⟩ (agree_cons rfl (agree_cons rfl (agree_cons rfl (agree_cons rfl agree_nil)))) (pSub (pCons Sel.hc (pApp Sel.ha pNil)))
  replace h := cf hc h
  refine wc_exit (wx_then_exit ?_)
  simp only [Option.some.injEq] at h
  obtain rfl := h
  have h := hl9; clear hl9; try dsimp only [orE_l, orE_r] at h
  refine wx_then_exit (wx_block_exit (wx_then (wc_seq (wc_region ?_))))
  iterate 2 refine wl_pure tt_ok rfl rfl ?_
  refine wl_nil (wx_then (wc_ret ?_))
  simp only [Option.some.injEq] at h
  obtain rfl := h
  exact wx_rd tt_ok (.inl rfl) Tryd.results66 (Res.tmp rfl Res.nil) (pSub (pCons Sel.hc (pApp Sel.ha pNil))) rfl

theorem k_hindcastref29_Watch_place {F : Nat} {p0 : T_hindcastref29_Watch} {p0b p0t : Nat} {p0a0 : Option Addr} {p0n0 : Nat} {p0c0 : Nat} {p0B0 : List Blk} {p1 : Int} {r0 : T_hindcastref29_Watch} {r1 : Int} (p0N0 : p0n0 = p0.L.length) (p0V0 : Own 77 5 p0a0 p0n0 p0c0 (flat c_T_hindcastref29_Entry p0.L) p0B0) (h : m_hindcastref29_Watch_place F p0 p1 = some (r0, r1)) :
    SpD Tryd.prog 42 [.pointer (some ⟨p0b, 0, none⟩), .int .u64 p1] (⟨p0b, [.int .u64 p0.Rows, .slice p0a0 p0n0 p0c0, .bool p0.Clashed], p0t, (0, 0)⟩ :: (p0B0 ++ [])) (fun w => True) (fun v D => ∃ (r0a0 : Option Addr) (r0n0 : Nat) (r0c0 : Nat) (r0B0 : List Blk), r0n0 = r0.L.length ∧ Own 77 5 r0a0 r0n0 r0c0 (flat c_T_hindcastref29_Entry r0.L) r0B0 ∧ v = .int .i64 r1 ∧ D = fun F => (⟨p0b, [.int .u64 r0.Rows, .slice r0a0 r0n0 r0c0, .bool r0.Clashed], p0t, (0, 0)⟩ :: (r0B0 ++ F))) := by
  unfold m_hindcastref29_Watch_place at h
  refine sp_of_wc Tryd.func42 rfl Tryd.ntmps42 rfl rfl (fun w0 hR => ?_)
  refine wc_seq (wc_region ?_)
  refine wl_pure tt_ok rfl rfl ?_
  refine wl_nil (wx_then (wc_seq (wc_region ?_)))
  iterate 2 refine wl_pure tt_ok rfl rfl ?_
  replace h := bsome h; obtain ⟨v10, x10, h⟩ := h
  refine wl_cq Tryd.call65 rfl rfl rfl (q_rd (k_hindcastref29_Watch_find (p0 := p0) p0N0 p0V0 x10) (pCons Sel.hc (pApp Sel.ha pNil)) (fun _ _ => trivial)) rfl ?_
  refine wl_pure tt_ok rfl rfl ?_
  refine wl_nil (wx_then (wc_seq (wc_seq (wc_region ?_))))
  refine wl_pure tt_ok rfl rfl ?_
  refine wl_pure (v := .bool (decide ((0 : Int) ≤ v10))) tt_ok rfl rfl ?_
  refine wl_nil (wx_then ?_)
  refine wc_cond rfl (fun hc => ?_) (fun hc => ?_)
  · replace h := ct hc h
    refine wc_seq (wc_region ?_)
    iterate 2 refine wl_pure tt_ok rfl rfl ?_
    refine wl_nil (wx_then (wc_ret (wx_then_ret ?_)))
    simp only [Option.some.injEq, Prod.mk.injEq] at h
    obtain ⟨rfl, rfl⟩ := h
    exact wx_spD tt_ok (.inl rfl) Tryd.results42 (Res.tmp rfl Res.nil) ⟨p0a0, p0n0, p0c0, p0B0, p0N0, p0V0, rfl, rfl⟩ (fun F => by simp) (pSub (pCons Sel.hc (pApp Sel.ha pNil)))
  replace h := cf hc h
  refine wc_skip (wx_then (wc_seq (wc_seq (wc_region ?_))))
  iterate 2 refine wl_pure tt_ok rfl rfl ?_
  refine wl_pure (v := .pointer (some ⟨p0b, 1, none⟩)) tt_ok rfl rfl ?_
  refine wl_val (v := .slice p0a0 p0n0 p0c0) (val_load tt_ok rfl (List.Mem.head _) rfl) rfl ?_
  refine wl_val (v := .int .i64 (p0.L.length : Int)) (val_len tt_ok rfl rfl p0N0) rfl ?_
  refine wl_pure (v := .bool (decide ((8 : Int) ≤ (p0.L.length : Int)))) tt_ok rfl rfl ?_
  refine wl_nil (wx_then ?_)
  refine wc_cond rfl (fun hc => ?_) (fun hc => ?_)
  · replace h := ct hc h
    refine wc_seq (wc_region ?_)
    refine wl_pure tt_ok rfl rfl ?_
    replace h := bsome h; obtain ⟨v21, x21, h⟩ := h
    refine wl_cq Tryd.call66 rfl rfl rfl (q_rd (k_hindcastref29_Watch_least (p0 := p0) p0N0 p0V0 x21) (pCons Sel.hc (pApp Sel.ha pNil)) (fun _ _ => trivial)) rfl ?_
    refine wl_pure tt_ok rfl rfl ?_
    refine wl_nil (wx_then (wc_seq (wc_seq (wc_region ?_))))
    iterate 2 refine wl_pure tt_ok rfl rfl ?_
    refine wl_pure (v := .pointer (some ⟨p0b, 1, none⟩)) tt_ok rfl rfl ?_
    refine wl_val (v := .slice p0a0 p0n0 p0c0) (val_load tt_ok rfl (List.Mem.head _) rfl) rfl ?_
    refine wl_pure tt_ok rfl rfl ?_
    replace h := bsome h; obtain ⟨v27, x27, h⟩ := h
    refine wl_val (v := .pointer (some ((adOf p0a0).add (v21.toNat * 5 + 0)))) (val_ix (enc := c_T_hindcastref29_Entry) tt_ok rfl rfl rfl rfl p0N0 (Rds.of_vec p0V0) c_T_hindcastref29_Entry_len rfl x27) rfl ?_
    refine wl_val (v := .pointer (some ((adOf p0a0).add (v21.toNat * 5 + 0)))) (val_fa (k := v21.toNat * 5 + 0) (off := 0) tt_ok rfl rfl rfl rfl rfl) rfl ?_
    refine wl_val (v := .int .u64 v27.F) (val_le (enc := c_T_hindcastref29_Entry) (xs := p0.L) tt_ok rfl (Rds.of_vec p0V0) ⟨_, (Sel.sc Sel.ha)⟩ c_T_hindcastref29_Entry_len x27 rfl) rfl ?_
    refine wl_pure tt_ok rfl rfl ?_
    refine wl_pure (v := .bool (decide (p1 < v27.F))) tt_ok rfl rfl ?_
    refine wl_nil (wx_then ?_)
    refine wc_cond rfl (fun hc => ?_) (fun hc => ?_)
    · replace h := ct hc h
      refine wc_seq (wc_region ?_)
      refine wl_pure tt_ok rfl rfl ?_
      refine wl_nil (wx_then (wc_ret (wx_then_ret (wx_then_ret ?_))))
      simp only [Option.some.injEq, Prod.mk.injEq] at h
      obtain ⟨rfl, rfl⟩ := h
      exact wx_spD tt_ok (.inl rfl) Tryd.results42 (Res.tmp rfl Res.nil) ⟨p0a0, p0n0, p0c0, p0B0, p0N0, p0V0, rfl, rfl⟩ (fun F => by simp) (pSub (pCons Sel.hc (pApp Sel.ha pNil)))
    replace h := cf hc h
    refine wc_skip (wx_then (wc_seq (wc_region ?_)))
    refine wl_pure tt_ok rfl rfl ?_
    refine wl_nil (wx_then (wc_seq (wc_region ?_)))
    iterate 3 refine wl_pure tt_ok rfl rfl ?_
    refine wl_pure (v := .pointer (some ⟨p0b, 1, none⟩)) tt_ok rfl rfl ?_
    refine wl_val (v := .slice p0a0 p0n0 p0c0) (val_load tt_ok rfl (List.Mem.head _) rfl) rfl ?_
    refine wl_pure tt_ok rfl rfl ?_
    replace h := bsome h; obtain ⟨v38, x38, h⟩ := h
    refine wl_cut (enc := c_T_hindcastref29_Entry) tt_ok rfl rfl rfl p0N0 (vec_some p0V0) c_T_hindcastref29_Entry_len (vec_cap p0V0) (.inl ⟨rfl, rfl⟩) (.inr ⟨_, _, rfl, rfl⟩) (.inl ⟨rfl, rfl⟩) (by intro h; first | rfl | cases h) (cut2 x38 p0N0 (vec_cap p0V0)) x38 rfl ?_
    intro a38 n38_ c38 N38 H38 I38 O38 Z38
    replace h := bsome h; obtain ⟨v39, x39, h⟩ := h
    refine wl_chg (chg_app (enc := c_T_hindcastref29_Entry) (ys := v38) tt_ok rfl rfl rfl rfl rfl rfl rfl N38 Own.zero pNil (Rds.of_vec (O38 _ rfl p0V0)) ⟨_, (Sel.sc Sel.ha)⟩ c_T_hindcastref29_Entry_len (fun _ => rfl) rfl x39) rfl ?_
    rintro _ _ ⟨a39, n39_, c39, B39, rfl, N39, V39, rfl⟩
    refine wl_pure tt_ok rfl rfl ?_
    refine wl_nil (wx_then (wc_region ?_))
    iterate 4 refine wl_pure tt_ok rfl rfl ?_
    refine wl_pure (v := .pointer (some ⟨p0b, 1, none⟩)) tt_ok rfl rfl ?_
    refine wl_val (v := .slice p0a0 p0n0 p0c0) (val_load tt_ok rfl (mR (List.Mem.head _)) rfl) rfl ?_
    refine wl_pure tt_ok rfl rfl ?_
    refine wl_pure (v := .int .i64 (IntKind.wrap .i64 (v21 + (1 : Int)))) tt_ok rfl rfl ?_
    replace h := bsome h; obtain ⟨v48, x48, h⟩ := h
    refine wl_cut (enc := c_T_hindcastref29_Entry) tt_ok rfl rfl rfl p0N0 (vec_some p0V0) c_T_hindcastref29_Entry_len (vec_cap p0V0) (.inr ⟨_, _, rfl, rfl⟩) (.inl ⟨rfl, by rw [p0N0]⟩) (.inl ⟨rfl, rfl⟩) (by intro h; first | rfl | cases h) (cut2 x48 p0N0 (vec_cap p0V0)) x48 rfl ?_
    intro a48 n48_ c48 N48 H48 I48 O48 Z48
    replace h := bsome h; obtain ⟨v49, x49, h⟩ := h
    refine wl_chg (chg_app (enc := c_T_hindcastref29_Entry) (ys := v48) tt_ok rfl rfl rfl rfl rfl rfl N39 N48 V39 Sel.ha (Rds.of_vec (O48 _ rfl p0V0)) ⟨_, (Sel.sa (Sel.sc Sel.ha))⟩ c_T_hindcastref29_Entry_len (fun _ => rfl) rfl x49) rfl ?_
    rintro _ _ ⟨a49, n49_, c49, B49, rfl, N49, V49, rfl⟩
    refine wl_pure tt_ok rfl rfl ?_
    refine wl_pure (v := .pointer (some ⟨p0b, 1, none⟩)) tt_ok rfl rfl ?_
    apply wl_store tt_ok; rfl; exact (Upd.right Upd.here); rfl; rfl; rfl; rfl; rfl; rfl
    refine wl_nil (wx_then (wc_seq (wc_region ?_)))
    iterate 3 refine wl_pure tt_ok rfl rfl ?_
    refine wl_pure (v := .pointer (some ⟨p0b, 1, none⟩)) tt_ok rfl rfl ?_
    refine wl_val (v := .slice a49 n49_ c49) (val_load tt_ok rfl (mR (List.Mem.head _)) rfl) rfl ?_
    refine wl_pure tt_ok rfl rfl ?_
    refine wl_pure (v := .agg #[.int .u64 p1, .int .u64 (0 : Int), .int .u64 (0 : Int), .bool false, .bool false]) tt_ok rfl rfl ?_
    refine wl_chg (chg_bsv (enc := c_T_hindcastref29_Entry) (xs := ([(T_hindcastref29_Entry.mk p1 ((0 : Int), (0 : Int)) (false, false))] : List T_hindcastref29_Entry)) tt_ok rfl rfl rfl rfl rfl rfl rfl rfl c_T_hindcastref29_Entry_len) rfl ?_
    rintro _ _ ⟨a59, n59_, c59, B59, rfl, N59, V59, rfl⟩
    replace h := bsome h; obtain ⟨v60, x60, h⟩ := h
    refine wl_chg (chg_app (enc := c_T_hindcastref29_Entry) (ys := ([(T_hindcastref29_Entry.mk p1 ((0 : Int), (0 : Int)) (false, false))] : List T_hindcastref29_Entry)) tt_ok rfl rfl rfl rfl rfl rfl N49 N59 V49 (Sel.sa Sel.ha) (Rds.of_vec V59) ⟨_, Sel.ha⟩ c_T_hindcastref29_Entry_len (fun _ => rfl) rfl x60) rfl ?_
    rintro _ _ ⟨a60, n60_, c60, B60, rfl, N60, V60, rfl⟩
    refine wl_pure tt_ok rfl rfl ?_
    refine wl_pure (v := .pointer (some ⟨p0b, 1, none⟩)) tt_ok rfl rfl ?_
    apply wl_store tt_ok; rfl; exact (Upd.right (Upd.right Upd.here)); rfl; rfl; rfl; rfl; rfl; rfl
    refine wl_nil (wx_then (wc_seq (wc_region ?_)))
    iterate 2 refine wl_pure tt_ok rfl rfl ?_
    refine wl_pure (v := .pointer (some ⟨p0b, 1, none⟩)) tt_ok rfl rfl ?_
    refine wl_val (v := .slice a60 n60_ c60) (val_load tt_ok rfl (mR (mR (List.Mem.head _))) rfl) rfl ?_
    refine wl_val (v := .int .i64 (v60.length : Int)) (val_len tt_ok rfl rfl N60) rfl ?_
    refine wl_pure (v := .int .i64 (IntKind.wrap .i64 ((v60.length : Int) - (1 : Int)))) tt_ok rfl rfl ?_
    refine wl_pure tt_ok rfl rfl ?_
    refine wl_nil (wx_then (wc_ret ?_))
    simp only [Option.some.injEq, Prod.mk.injEq] at h
    obtain ⟨rfl, rfl⟩ := h
    exact wx_spD tt_ok (.inl rfl) Tryd.results42 (Res.tmp rfl Res.nil) ⟨a60, n60_, c60, B60, N60, V60, rfl, rfl⟩ (fun F => by simp) (pSub (pCons (Sel.sa (Sel.sa Sel.hc)) (pApp Sel.ha pNil)))
  replace h := cf hc h
  refine wc_skip (wx_then (wc_seq (wc_region ?_)))
  iterate 3 refine wl_pure tt_ok rfl rfl ?_
  refine wl_pure (v := .pointer (some ⟨p0b, 1, none⟩)) tt_ok rfl rfl ?_
  refine wl_val (v := .slice p0a0 p0n0 p0c0) (val_load tt_ok rfl (List.Mem.head _) rfl) rfl ?_
  refine wl_pure tt_ok rfl rfl ?_
  refine wl_pure (v := .agg #[.int .u64 p1, .int .u64 (0 : Int), .int .u64 (0 : Int), .bool false, .bool false]) tt_ok rfl rfl ?_
  refine wl_chg (chg_bsv (enc := c_T_hindcastref29_Entry) (xs := ([(T_hindcastref29_Entry.mk p1 ((0 : Int), (0 : Int)) (false, false))] : List T_hindcastref29_Entry)) tt_ok rfl rfl rfl rfl rfl rfl rfl rfl c_T_hindcastref29_Entry_len) rfl ?_
  rintro _ _ ⟨a59, n59_, c59, B59, rfl, N59, V59, rfl⟩
  replace h := bsome h; obtain ⟨v60, x60, h⟩ := h
  refine wl_chg (chg_app (enc := c_T_hindcastref29_Entry) (ys := ([(T_hindcastref29_Entry.mk p1 ((0 : Int), (0 : Int)) (false, false))] : List T_hindcastref29_Entry)) tt_ok rfl rfl rfl rfl rfl rfl p0N0 N59 p0V0 (Sel.sa (Sel.sc Sel.ha)) (Rds.of_vec V59) ⟨_, Sel.ha⟩ c_T_hindcastref29_Entry_len (fun _ => rfl) rfl x60) rfl ?_
  rintro _ _ ⟨a60, n60_, c60, B60, rfl, N60, V60, rfl⟩
  refine wl_pure tt_ok rfl rfl ?_
  refine wl_pure (v := .pointer (some ⟨p0b, 1, none⟩)) tt_ok rfl rfl ?_
  apply wl_store tt_ok; rfl; exact (Upd.right (Upd.right Upd.here)); rfl; rfl; rfl; rfl; rfl; rfl
  refine wl_nil (wx_then (wc_seq (wc_region ?_)))
  iterate 2 refine wl_pure tt_ok rfl rfl ?_
  refine wl_pure (v := .pointer (some ⟨p0b, 1, none⟩)) tt_ok rfl rfl ?_
  refine wl_val (v := .slice a60 n60_ c60) (val_load tt_ok rfl (mR (mR (List.Mem.head _))) rfl) rfl ?_
  refine wl_val (v := .int .i64 (v60.length : Int)) (val_len tt_ok rfl rfl N60) rfl ?_
  refine wl_pure (v := .int .i64 (IntKind.wrap .i64 ((v60.length : Int) - (1 : Int)))) tt_ok rfl rfl ?_
  refine wl_pure tt_ok rfl rfl ?_
  refine wl_nil (wx_then (wc_ret ?_))
  simp only [Option.some.injEq, Prod.mk.injEq] at h
  obtain ⟨rfl, rfl⟩ := h
  exact wx_spD tt_ok (.inl rfl) Tryd.results42 (Res.tmp rfl Res.nil) ⟨a60, n60_, c60, B60, N60, V60, rfl, rfl⟩ (fun F => by simp) (pSub (pCons (Sel.sa (Sel.sa Sel.hc)) (pApp Sel.ha pNil)))

theorem k_hindcastref29_Watch_Told {F : Nat} {p0 : T_hindcastref29_Watch} {p0b p0t : Nat} {p0a0 : Option Addr} {p0n0 : Nat} {p0c0 : Nat} {p0B0 : List Blk} {p1 : Int} {p2 : Int} {p3 : Int} {r0 : T_hindcastref29_Watch} {r1 : Int} (p0N0 : p0n0 = p0.L.length) (p0V0 : Own 77 5 p0a0 p0n0 p0c0 (flat c_T_hindcastref29_Entry p0.L) p0B0) (h : m_hindcastref29_Watch_Told F p0 p1 p2 p3 = some (r0, r1)) :
    SpD Tryd.prog 22 [.pointer (some ⟨p0b, 0, none⟩), .int .i64 p1, .int .u64 p2, .int .u64 p3] (⟨p0b, [.int .u64 p0.Rows, .slice p0a0 p0n0 p0c0, .bool p0.Clashed], p0t, (0, 0)⟩ :: (p0B0 ++ [])) (fun w => True) (fun v D => ∃ (r0a0 : Option Addr) (r0n0 : Nat) (r0c0 : Nat) (r0B0 : List Blk), r0n0 = r0.L.length ∧ Own 77 5 r0a0 r0n0 r0c0 (flat c_T_hindcastref29_Entry r0.L) r0B0 ∧ v = .int .i64 r1 ∧ D = fun F => (⟨p0b, [.int .u64 r0.Rows, .slice r0a0 r0n0 r0c0, .bool r0.Clashed], p0t, (0, 0)⟩ :: (r0B0 ++ F))) := by
  unfold m_hindcastref29_Watch_Told at h
  refine sp_of_wc Tryd.func22 rfl Tryd.ntmps22 rfl rfl (fun w0 hR => ?_)
  refine wc_seq (wc_region ?_)
  refine wl_pure tt_ok rfl rfl ?_
  refine wl_nil (wx_then (wc_seq (wc_seq (wc_region ?_))))
  iterate 3 refine wl_pure tt_ok rfl rfl ?_
  refine wl_pure (v := .pointer (some ⟨p0b, 0, none⟩)) tt_ok rfl rfl ?_
  refine wl_val (v := .int .u64 p0.Rows) (val_load tt_ok rfl (List.Mem.head _) rfl) rfl ?_
  replace h := bsome h; obtain ⟨v16, x16, h⟩ := h
  refine wl_val (v := .int .u64 v16) (val_rem rfl rfl x16) rfl ?_
  refine wl_pure (v := .bool (v16 != (0 : Int))) tt_ok rfl rfl ?_
  refine wl_nil (wx_then ?_)
  refine wc_cond rfl (fun hc => ?_) (fun hc => ?_)
  · replace h := ct hc h
    refine wc_seq (wc_region ?_)
    refine wl_pure tt_ok rfl rfl ?_
    refine wl_nil (wx_then (wc_ret (wx_then_ret ?_)))
    simp only [Option.some.injEq, Prod.mk.injEq] at h
    obtain ⟨rfl, rfl⟩ := h
    exact wx_spD tt_ok (.inl rfl) Tryd.results22 (Res.tmp rfl Res.nil) ⟨p0a0, p0n0, p0c0, p0B0, p0N0, p0V0, rfl, rfl⟩ (fun F => by simp) (pSub (pCons Sel.hc (pApp Sel.ha pNil)))
  replace h := cf hc h
  refine wc_skip (wx_then (wc_seq (wc_region ?_)))
  iterate 2 refine wl_pure tt_ok rfl rfl ?_
  replace h := bsome h; obtain ⟨⟨o20_0, v20⟩, x20, h⟩ := h; try dsimp only at h
  refine wl_cs Tryd.call42 rfl rfl rfl (s_sp (k_hindcastref29_Watch_place (p0 := p0) p0N0 p0V0 x20) (pCons Sel.hc (pApp Sel.ha pNil)) (fun _ _ => trivial)) rfl ?_
  rintro _ _ ⟨_, ⟨o20_0a0, o20_0n0, o20_0c0, o20_0B0, o20_0N0, o20_0V0, rfl, rfl⟩, rfl⟩
  refine wl_pure tt_ok rfl rfl ?_
  refine wl_nil (wx_then (wc_seq (wc_seq (wc_region ?_))))
  refine wl_pure tt_ok rfl rfl ?_
  refine wl_pure (v := .bool (decide ((0 : Int) ≤ v20))) tt_ok rfl rfl ?_
  refine wl_nil (wx_then ?_)
  replace h := bsome h; obtain ⟨⟨j16_p0_f1, j16_p0_f2⟩, h, hj16⟩ := h; try dsimp only at hj16
  refine wc_join2 (fun E L => ∃ (j16_p0_f1a0 : Option Addr) (j16_p0_f1n0 : Nat) (j16_p0_f1c0 : Nat) (j16_p0_f1B0 : List Blk), j16_p0_f1n0 = j16_p0_f1.length ∧ Own 77 5 j16_p0_f1a0 j16_p0_f1n0 j16_p0_f1c0 (flat c_T_hindcastref29_Entry j16_p0_f1) j16_p0_f1B0 ∧ E = [(0, .pointer (some ⟨p0b, 0, none⟩)), (8, .int .i64 (0 : Int))] ∧ L = (⟨p0b, [.int .u64 o20_0.Rows, .slice j16_p0_f1a0 j16_p0_f1n0 j16_p0_f1c0, .bool j16_p0_f2], p0t, (0, 0)⟩ :: (j16_p0_f1B0 ++ []))) ?_ ?_
  · refine wc_cond rfl (fun hc => ?_) (fun hc => ?_)
    · replace h := ct hc h
      refine wc_seq (wc_region ?_)
      iterate 2 refine wl_pure tt_ok rfl rfl ?_
      refine wl_pure (v := .pointer (some ⟨p0b, 1, none⟩)) tt_ok rfl rfl ?_
      refine wl_val (v := .slice o20_0a0 o20_0n0 o20_0c0) (val_load tt_ok rfl (List.Mem.head _) rfl) rfl ?_
      refine wl_pure tt_ok rfl rfl ?_
      replace h := bsome h; obtain ⟨v28, x28, h⟩ := h
      refine wl_val (v := .pointer (some ((adOf o20_0a0).add (v20.toNat * 5 + 0)))) (val_ix (enc := c_T_hindcastref29_Entry) tt_ok rfl rfl rfl rfl o20_0N0 (Rds.of_vec o20_0V0) c_T_hindcastref29_Entry_len rfl x28) rfl ?_
      refine wl_val (v := .agg #[.int .u64 v28.F, .int .u64 v28.Sum.1, .int .u64 v28.Sum.2, .bool v28.Is.1, .bool v28.Is.2]) (val_le (enc := c_T_hindcastref29_Entry) (xs := o20_0.L) tt_ok rfl (Rds.of_vec o20_0V0) ⟨_, (Sel.sc Sel.ha)⟩ c_T_hindcastref29_Entry_len x28 rfl) rfl ?_
      refine wl_alloc tt_ok rfl rfl (fun b10 => ?_)
      apply wl_store tt_ok; rfl; exact Upd.here; rfl; rfl; rfl; rfl; rfl; rfl
      refine wl_nil (wx_then (wc_seq (wc_seq (wc_region ?_))))
      refine wl_pure tt_ok rfl rfl ?_
      refine wl_pure (v := .pointer (some ⟨b10, 3, none⟩)) tt_ok rfl rfl ?_
      rcases Bool.eq_false_or_eq_true (p1 == (0 : Int)) with hx320 | hx320
      · replace h := ct hx320 h
        refine wl_val (v := .pointer (some ⟨b10, 3, none⟩)) (val_ia (j := 0) tt_ok rfl rfl rfl rfl (by simpa using hx320) rfl rfl) rfl ?_
        refine wl_val (v := .bool v28.Is.1) (val_load tt_ok rfl (List.Mem.head _) rfl) rfl ?_
        refine wl_pure tt_ok rfl rfl ?_
        replace h := bsome h; obtain ⟨v41, h, hg41⟩ := h
        refine wl_split (t := 34) rfl (fun hc => ?_) (fun hc => ?_)
        · replace h := ct hc h
          refine wl_run rfl ?_
          refine wl_pure tt_ok rfl rfl ?_
          refine wl_run rfl ?_
          refine wl_pure (v := .pointer (some ⟨b10, 1, none⟩)) tt_ok rfl rfl ?_
          refine wl_run rfl ?_
          refine wl_val (v := .pointer (some ⟨b10, 1, none⟩)) (val_ia (j := 0) tt_ok rfl rfl rfl rfl (by simpa using hx320) rfl rfl) rfl ?_
          refine wl_run rfl ?_
          refine wl_val (v := .int .u64 v28.Sum.1) (val_load tt_ok rfl (List.Mem.head _) rfl) rfl ?_
          refine wl_run rfl ?_
          refine wl_pure tt_ok rfl rfl ?_
          refine wl_run rfl ?_
          refine wl_pure (v := .bool (v28.Sum.1 != p3)) tt_ok rfl rfl ?_
          simp only [Option.some.injEq, Prod.mk.injEq] at h
          obtain rfl := h
          have h := hg41; clear hg41
          refine wl_pure (v := .bool (v28.Sum.1 != p3)) tt_ok rfl rfl ?_
          refine wl_nil (wx_then ?_)
          replace h := bsome h; obtain ⟨j22_p0_f2, h, hj22⟩ := h
          refine wc_join2 (fun E L => E = [(0, .pointer (some ⟨p0b, 0, none⟩)), (1, .int .i64 p1), (3, .int .u64 p3), (8, .int .i64 (0 : Int)), (9, .int .i64 v20), (10, .pointer (some ⟨b10, 0, none⟩))] ∧ L = (⟨p0b, [.int .u64 o20_0.Rows, .slice o20_0a0 o20_0n0 o20_0c0, .bool j22_p0_f2], p0t, (0, 0)⟩ :: (⟨b10, [.int .u64 v28.F, .int .u64 v28.Sum.1, .int .u64 v28.Sum.2, .bool v28.Is.1, .bool v28.Is.2], 77, (0, 0)⟩ :: (o20_0B0 ++ [])))) ?_ ?_
          · refine wc_cond rfl (fun hc => ?_) (fun hc => ?_)
            · replace h := ct hc h
              refine wc_region ?_
              iterate 2 refine wl_pure tt_ok rfl rfl ?_
              refine wl_pure (v := .pointer (some ⟨p0b, 2, none⟩)) tt_ok rfl rfl ?_
              apply wl_store tt_ok; rfl; exact (Upd.there Upd.here); rfl; rfl; rfl; rfl; rfl; rfl
              refine wl_nil ?_
              simp only [Option.some.injEq] at h
              obtain rfl := h
              exact wx_join ⟨rfl, rfl⟩ (agree_cons rfl (agree_cons rfl (agree_cons rfl (agree_cons rfl (agree_cons rfl (agree_cons rfl agree_nil)))))) (pSub (pCons (Sel.sc Sel.hc) (pCons Sel.hc (pApp Sel.ha pNil))))
            replace h := cf hc h
            refine wc_skip ?_
            simp only [Option.some.injEq] at h
            obtain rfl := h
            exact wx_join ⟨rfl, rfl⟩ (agree_cons rfl (agree_cons rfl (agree_cons rfl (agree_cons rfl (agree_cons rfl (agree_cons rfl agree_nil)))))) (pSub (pCons (Sel.sc Sel.hc) (pCons Sel.hc (pApp Sel.ha pNil))))
          rintro _ _ ⟨rfl, rfl⟩
          have h := hj22; clear hj22
          refine wc_seq (wc_seq (wc_region ?_))
          refine wl_pure tt_ok rfl rfl ?_
          refine wl_pure (v := .pointer (some ⟨b10, 3, none⟩)) tt_ok rfl rfl ?_
          refine wl_val (v := .pointer (some ⟨b10, 3, none⟩)) (val_ia (j := 0) tt_ok rfl rfl rfl rfl (by simpa using hx320) rfl rfl) rfl ?_
          refine wl_val (v := .bool v28.Is.1) (val_load tt_ok rfl (List.Mem.tail _ (List.Mem.head _)) rfl) rfl ?_
          refine wl_pure (v := .bool (!v28.Is.1)) tt_ok rfl rfl ?_
          refine wl_nil (wx_then ?_)
          replace h := bsome h; obtain ⟨j28_n10, h, hj28⟩ := h
          refine wc_join2 (fun E L => E = [(0, .pointer (some ⟨p0b, 0, none⟩)), (8, .int .i64 (0 : Int)), (9, .int .i64 v20), (10, .pointer (some ⟨b10, 0, none⟩))] ∧ L = (⟨p0b, [.int .u64 o20_0.Rows, .slice o20_0a0 o20_0n0 o20_0c0, .bool j22_p0_f2], p0t, (0, 0)⟩ :: (⟨b10, [.int .u64 j28_n10.F, .int .u64 j28_n10.Sum.1, .int .u64 j28_n10.Sum.2, .bool j28_n10.Is.1, .bool j28_n10.Is.2], 77, (0, 0)⟩ :: (o20_0B0 ++ [])))) ?_ ?_
          · refine wc_cond rfl (fun hc => ?_) (fun hc => ?_)
            · replace h := ct hc h
              refine wc_seq (wc_region ?_)
              refine wl_pure tt_ok rfl rfl ?_
              refine wl_pure (v := .pointer (some ⟨b10, 3, none⟩)) tt_ok rfl rfl ?_
              refine wl_val (v := .pointer (some ⟨b10, 3, none⟩)) (val_ia (j := 0) tt_ok rfl rfl rfl rfl (by simpa using hx320) rfl rfl) rfl ?_
              apply wl_store tt_ok; rfl; exact (Upd.there Upd.here); rfl; rfl; rfl; rfl; rfl; rfl
              refine wl_nil (wx_then (wc_region ?_))
              iterate 2 refine wl_pure tt_ok rfl rfl ?_
              refine wl_pure (v := .pointer (some ⟨b10, 1, none⟩)) tt_ok rfl rfl ?_
              refine wl_val (v := .pointer (some ⟨b10, 1, none⟩)) (val_ia (j := 0) tt_ok rfl rfl rfl rfl (by simpa using hx320) rfl rfl) rfl ?_
              apply wl_store tt_ok; rfl; exact (Upd.there Upd.here); rfl; rfl; rfl; rfl; rfl; rfl
              refine wl_nil ?_
              simp only [Option.some.injEq] at h
              obtain rfl := h
              exact wx_join ⟨rfl, rfl⟩ (agree_cons rfl (agree_cons rfl (agree_cons rfl (agree_cons rfl agree_nil)))) (pSub (pCons Sel.hc (pCons Sel.hc (pApp Sel.ha pNil))))
            replace h := cf hc h
            refine wc_skip ?_
            simp only [Option.some.injEq] at h
            obtain rfl := h
            exact wx_join ⟨rfl, rfl⟩ (agree_cons rfl (agree_cons rfl (agree_cons rfl (agree_cons rfl agree_nil)))) (pSub (pCons Sel.hc (pCons Sel.hc (pApp Sel.ha pNil))))
          rintro _ _ ⟨rfl, rfl⟩
          have h := hj28; clear hj28
          refine wc_seq (wc_seq (wc_region ?_))
          refine wl_pure (v := .pointer (some ⟨b10, 3, none⟩)) tt_ok rfl rfl ?_
          refine wl_val (v := .pointer (some ⟨b10, 3, none⟩)) (val_ia (j := 0) tt_ok rfl rfl rfl rfl rfl rfl rfl) rfl ?_
          refine wl_val (v := .bool j28_n10.Is.1) (val_load tt_ok rfl (List.Mem.tail _ (List.Mem.head _)) rfl) rfl ?_
          refine wl_pure tt_ok rfl rfl ?_
          replace h := bsome h; obtain ⟨v64, h, hg64⟩ := h
          refine wl_split (t := 60) rfl (fun hc => ?_) (fun hc => ?_)
          · replace h := ct hc h
            refine wl_run rfl ?_
            refine wl_pure (v := .pointer (some ⟨b10, 3, none⟩)) tt_ok rfl rfl ?_
            refine wl_run rfl ?_
            refine wl_val (v := .pointer (some ⟨b10, 4, none⟩)) (val_ia (j := 1) tt_ok rfl rfl rfl rfl rfl rfl rfl) rfl ?_
            refine wl_run rfl ?_
            refine wl_val (v := .bool j28_n10.Is.2) (val_load tt_ok rfl (List.Mem.tail _ (List.Mem.head _)) rfl) rfl ?_
            simp only [Option.some.injEq, Prod.mk.injEq] at h
            obtain rfl := h
            have h := hg64; clear hg64
            refine wl_pure (v := .bool j28_n10.Is.2) tt_ok rfl rfl ?_
            refine wl_pure tt_ok rfl rfl ?_
            replace h := bsome h; obtain ⟨v73, h, hg73⟩ := h
            refine wl_split (t := 65) rfl (fun hc => ?_) (fun hc => ?_)
            · replace h := ct hc h
              refine wl_run rfl ?_
              refine wl_pure (v := .pointer (some ⟨b10, 1, none⟩)) tt_ok rfl rfl ?_
              refine wl_run rfl ?_
              refine wl_val (v := .pointer (some ⟨b10, 1, none⟩)) (val_ia (j := 0) tt_ok rfl rfl rfl rfl rfl rfl rfl) rfl ?_
              refine wl_run rfl ?_
              refine wl_val (v := .int .u64 j28_n10.Sum.1) (val_load tt_ok rfl (List.Mem.tail _ (List.Mem.head _)) rfl) rfl ?_
              refine wl_run rfl ?_
              refine wl_pure (v := .pointer (some ⟨b10, 1, none⟩)) tt_ok rfl rfl ?_
              refine wl_run rfl ?_
              refine wl_val (v := .pointer (some ⟨b10, 2, none⟩)) (val_ia (j := 1) tt_ok rfl rfl rfl rfl rfl rfl rfl) rfl ?_
              refine wl_run rfl ?_
              refine wl_val (v := .int .u64 j28_n10.Sum.2) (val_load tt_ok rfl (List.Mem.tail _ (List.Mem.head _)) rfl) rfl ?_
              refine wl_run rfl ?_
              refine wl_pure (v := .bool (j28_n10.Sum.1 != j28_n10.Sum.2)) tt_ok rfl rfl ?_
              simp only [Option.some.injEq, Prod.mk.injEq] at h
              obtain rfl := h
              have h := hg73; clear hg73
              refine wl_pure (v := .bool (j28_n10.Sum.1 != j28_n10.Sum.2)) tt_ok rfl rfl ?_
              refine wl_nil (wx_then ?_)
              replace h := bsome h; obtain ⟨j36_p0_f2, h, hj36⟩ := h
              refine wc_join2 (fun E L => E = [(0, .pointer (some ⟨p0b, 0, none⟩)), (8, .int .i64 (0 : Int)), (9, .int .i64 v20), (10, .pointer (some ⟨b10, 0, none⟩))] ∧ L = (⟨p0b, [.int .u64 o20_0.Rows, .slice o20_0a0 o20_0n0 o20_0c0, .bool j36_p0_f2], p0t, (0, 0)⟩ :: (⟨b10, [.int .u64 j28_n10.F, .int .u64 j28_n10.Sum.1, .int .u64 j28_n10.Sum.2, .bool j28_n10.Is.1, .bool j28_n10.Is.2], 77, (0, 0)⟩ :: (o20_0B0 ++ [])))) ?_ ?_
              · refine wc_cond rfl (fun hc => ?_) (fun hc => ?_)
                · replace h := ct hc h
                  refine wc_region ?_
                  iterate 2 refine wl_pure tt_ok rfl rfl ?_
                  refine wl_pure (v := .pointer (some ⟨p0b, 2, none⟩)) tt_ok rfl rfl ?_
                  apply wl_store tt_ok; rfl; exact Upd.here; rfl; rfl; rfl; rfl; rfl; rfl
                  refine wl_nil ?_
                  simp only [Option.some.injEq] at h
                  obtain rfl := h
                  exact wx_join ⟨rfl, rfl⟩ (agree_cons rfl (agree_cons rfl (agree_cons rfl (agree_cons rfl agree_nil)))) (pSub (pCons Sel.hc (pCons Sel.hc (pApp Sel.ha pNil))))
                replace h := cf hc h
                refine wc_skip ?_
                simp only [Option.some.injEq] at h
                obtain rfl := h
                exact wx_join ⟨rfl, rfl⟩ (agree_cons rfl (agree_cons rfl (agree_cons rfl (agree_cons rfl agree_nil)))) (pSub (pCons Sel.hc (pCons Sel.hc (pApp Sel.ha pNil))))
              rintro _ _ ⟨rfl, rfl⟩
              have h := hj36; clear hj36
              refine wc_k2 (Ls := (⟨p0b, [.int .u64 o20_0.Rows, .slice o20_0a0 o20_0n0 o20_0c0, .bool j36_p0_f2], p0t, (0, 0)⟩ :: (⟨b10, [.int .u64 j28_n10.F, .int .u64 j28_n10.Sum.1, .int .u64 j28_n10.Sum.2, .bool j28_n10.Is.1, .bool j28_n10.Is.2], 77, (0, 0)⟩ :: (o20_0B0 ++ [])))) [7] [7] [0, 1, 3, 7, 0, 0, 63, 127] [0, 1, 2, 3, 4, 5, 6, 7] (by kernel_rfl) (by kernel_rfl) (by kernel_rfl) ?_
              refine k_val rfl rfl rfl (pSub (pCons Sel.hc (pCons Sel.hc (pApp Sel.ha pNil)))) (stepV_ok tt_ok rfl) rfl ?_
              refine k_val rfl rfl rfl (pSub (pCons Sel.hc (pCons Sel.hc (pApp Sel.ha pNil)))) (stepV_ok tt_ok rfl) rfl ?_
              refine k_val (v := .pointer (some ⟨p0b, 1, none⟩)) rfl rfl rfl (pSub (pCons Sel.hc (pCons Sel.hc (pApp Sel.ha pNil)))) (stepV_ok tt_ok rfl) rfl ?_
              refine k_val (v := .slice o20_0a0 o20_0n0 o20_0c0) rfl rfl rfl (pSub (pCons Sel.hc (pCons Sel.hc (pApp Sel.ha pNil)))) (val_load tt_ok rfl (List.Mem.head _) rfl) rfl ?_
              refine k_val rfl rfl rfl (pSub (pCons Sel.hc (pCons Sel.hc (pApp Sel.ha pNil)))) (stepV_ok tt_ok rfl) rfl ?_
              refine k_val (v := .agg #[.int .u64 j28_n10.F, .int .u64 j28_n10.Sum.1, .int .u64 j28_n10.Sum.2, .bool j28_n10.Is.1, .bool j28_n10.Is.2]) rfl rfl rfl (pSub (pCons Sel.hc (pCons Sel.hc (pApp Sel.ha pNil)))) (val_load tt_ok rfl (List.Mem.tail _ (List.Mem.head _)) rfl) rfl ?_
              replace h := bsome h; obtain ⟨v83, x83, h⟩ := h
              refine k_val (v := .pointer (some ((adOf o20_0a0).add (v20.toNat * 5 + 0)))) rfl rfl rfl (pSub (pCons Sel.hc (pCons Sel.hc (pApp Sel.ha pNil)))) (val_ix (enc := c_T_hindcastref29_Entry) tt_ok rfl rfl rfl rfl o20_0N0 (Rds.of_vec o20_0V0) c_T_hindcastref29_Entry_len rfl x83) rfl ?_
              refine k_chg0 rfl rfl rfl (chg_ste (enc := c_T_hindcastref29_Entry) (y' := j28_n10) tt_ok rfl rfl rfl rfl rfl rfl o20_0N0 o20_0V0 (Sel.sc (Sel.sc Sel.ha)) c_T_hindcastref29_Entry_len x83 rfl (by intro h; cases h)) (.inl rfl) ?_
              rintro _ _ ⟨Bs39_7, Ns39_7, Vs39_7, rfl⟩
              refine k_end (by kernel_rfl) ?_
              simp only [Option.some.injEq, Prod.mk.injEq] at h
              obtain ⟨rfl, rfl⟩ := h
              exact wx_join ⟨o20_0a0, o20_0n0, o20_0c0, Bs39_7, Ns39_7, Vs39_7, rfl, rfl⟩ (agree_cons rfl (agree_cons rfl agree_nil)) (pSub (pCons (Sel.sa Sel.hc) (pApp Sel.ha pNil)))
            replace h := cf hc h
            refine wl_skip rfl rfl ?_
            refine wl_skip rfl rfl ?_
            refine wl_skip rfl rfl ?_
            refine wl_skip rfl rfl ?_
            refine wl_skip rfl rfl ?_
            refine wl_skip rfl rfl ?_
            refine wl_skip rfl rfl ?_
            simp only [Option.some.injEq, Prod.mk.injEq] at h
            obtain rfl := h
            have h := hg73; clear hg73
            refine wl_pure (v := .bool false) tt_ok rfl rfl ?_
            refine wl_nil (wx_then ?_)
            replace h := bsome h; obtain ⟨j36_p0_f2, h, hj36⟩ := h
            refine wc_join2 (fun E L => E = [(0, .pointer (some ⟨p0b, 0, none⟩)), (8, .int .i64 (0 : Int)), (9, .int .i64 v20), (10, .pointer (some ⟨b10, 0, none⟩))] ∧ L = (⟨p0b, [.int .u64 o20_0.Rows, .slice o20_0a0 o20_0n0 o20_0c0, .bool j36_p0_f2], p0t, (0, 0)⟩ :: (⟨b10, [.int .u64 j28_n10.F, .int .u64 j28_n10.Sum.1, .int .u64 j28_n10.Sum.2, .bool j28_n10.Is.1, .bool j28_n10.Is.2], 77, (0, 0)⟩ :: (o20_0B0 ++ [])))) ?_ ?_
            · replace h := cf rfl h
              refine wc_cond_false rfl ?_
              refine wc_skip ?_
              simp only [Option.some.injEq] at h
              obtain rfl := h
              exact wx_join ⟨rfl, rfl⟩ (agree_cons rfl (agree_cons rfl (agree_cons rfl (agree_cons rfl agree_nil)))) (pSub (pCons Sel.hc (pCons Sel.hc (pApp Sel.ha pNil))))
            rintro _ _ ⟨rfl, rfl⟩
            have h := hj36; clear hj36
            refine wc_k2 (Ls := (⟨p0b, [.int .u64 o20_0.Rows, .slice o20_0a0 o20_0n0 o20_0c0, .bool j36_p0_f2], p0t, (0, 0)⟩ :: (⟨b10, [.int .u64 j28_n10.F, .int .u64 j28_n10.Sum.1, .int .u64 j28_n10.Sum.2, .bool j28_n10.Is.1, .bool j28_n10.Is.2], 77, (0, 0)⟩ :: (o20_0B0 ++ [])))) [7] [7] [0, 1, 3, 7, 0, 0, 63, 127] [0, 1, 2, 3, 4, 5, 6, 7] (by kernel_rfl) (by kernel_rfl) (by kernel_rfl) ?_
            refine k_val rfl rfl rfl (pSub (pCons Sel.hc (pCons Sel.hc (pApp Sel.ha pNil)))) (stepV_ok tt_ok rfl) rfl ?_
            refine k_val rfl rfl rfl (pSub (pCons Sel.hc (pCons Sel.hc (pApp Sel.ha pNil)))) (stepV_ok tt_ok rfl) rfl ?_
            refine k_val (v := .pointer (some ⟨p0b, 1, none⟩)) rfl rfl rfl (pSub (pCons Sel.hc (pCons Sel.hc (pApp Sel.ha pNil)))) (stepV_ok tt_ok rfl) rfl ?_
            refine k_val (v := .slice o20_0a0 o20_0n0 o20_0c0) rfl rfl rfl (pSub (pCons Sel.hc (pCons Sel.hc (pApp Sel.ha pNil)))) (val_load tt_ok rfl (List.Mem.head _) rfl) rfl ?_
            refine k_val rfl rfl rfl (pSub (pCons Sel.hc (pCons Sel.hc (pApp Sel.ha pNil)))) (stepV_ok tt_ok rfl) rfl ?_
            refine k_val (v := .agg #[.int .u64 j28_n10.F, .int .u64 j28_n10.Sum.1, .int .u64 j28_n10.Sum.2, .bool j28_n10.Is.1, .bool j28_n10.Is.2]) rfl rfl rfl (pSub (pCons Sel.hc (pCons Sel.hc (pApp Sel.ha pNil)))) (val_load tt_ok rfl (List.Mem.tail _ (List.Mem.head _)) rfl) rfl ?_
            replace h := bsome h; obtain ⟨v83, x83, h⟩ := h
            refine k_val (v := .pointer (some ((adOf o20_0a0).add (v20.toNat * 5 + 0)))) rfl rfl rfl (pSub (pCons Sel.hc (pCons Sel.hc (pApp Sel.ha pNil)))) (val_ix (enc := c_T_hindcastref29_Entry) tt_ok rfl rfl rfl rfl o20_0N0 (Rds.of_vec o20_0V0) c_T_hindcastref29_Entry_len rfl x83) rfl ?_
            refine k_chg0 rfl rfl rfl (chg_ste (enc := c_T_hindcastref29_Entry) (y' := j28_n10) tt_ok rfl rfl rfl rfl rfl rfl o20_0N0 o20_0V0 (Sel.sc (Sel.sc Sel.ha)) c_T_hindcastref29_Entry_len x83 rfl (by intro h; cases h)) (.inl rfl) ?_
            rintro _ _ ⟨Bs39_7, Ns39_7, Vs39_7, rfl⟩
            refine k_end (by kernel_rfl) ?_
            simp only [Option.some.injEq, Prod.mk.injEq] at h
            obtain ⟨rfl, rfl⟩ := h
            exact wx_join ⟨o20_0a0, o20_0n0, o20_0c0, Bs39_7, Ns39_7, Vs39_7, rfl, rfl⟩ (agree_cons rfl (agree_cons rfl agree_nil)) (pSub (pCons (Sel.sa Sel.hc) (pApp Sel.ha pNil)))
          replace h := cf hc h
          refine wl_skip rfl rfl ?_
          refine wl_skip rfl rfl ?_
          refine wl_skip rfl rfl ?_
          simp only [Option.some.injEq, Prod.mk.injEq] at h
          obtain rfl := h
          have h := hg64; clear hg64
          refine wl_pure (v := .bool false) tt_ok rfl rfl ?_
          refine wl_pure tt_ok rfl rfl ?_
          replace h := bsome h; obtain ⟨v73, h, hg73⟩ := h
          replace h := cf rfl h
          refine wl_skip rfl rfl ?_
          refine wl_skip rfl rfl ?_
          refine wl_skip rfl rfl ?_
          refine wl_skip rfl rfl ?_
          refine wl_skip rfl rfl ?_
          refine wl_skip rfl rfl ?_
          refine wl_skip rfl rfl ?_
          simp only [Option.some.injEq, Prod.mk.injEq] at h
          obtain rfl := h
          have h := hg73; clear hg73
          refine wl_pure (v := .bool false) tt_ok rfl rfl ?_
          refine wl_nil (wx_then ?_)
          replace h := bsome h; obtain ⟨j36_p0_f2, h, hj36⟩ := h
          refine wc_join2 (fun E L => E = [(0, .pointer (some ⟨p0b, 0, none⟩)), (8, .int .i64 (0 : Int)), (9, .int .i64 v20), (10, .pointer (some ⟨b10, 0, none⟩))] ∧ L = (⟨p0b, [.int .u64 o20_0.Rows, .slice o20_0a0 o20_0n0 o20_0c0, .bool j36_p0_f2], p0t, (0, 0)⟩ :: (⟨b10, [.int .u64 j28_n10.F, .int .u64 j28_n10.Sum.1, .int .u64 j28_n10.Sum.2, .bool j28_n10.Is.1, .bool j28_n10.Is.2], 77, (0, 0)⟩ :: (o20_0B0 ++ [])))) ?_ ?_
          · replace h := cf rfl h
            refine wc_cond_false rfl ?_
            refine wc_skip ?_
            simp only [Option.some.injEq] at h
            obtain rfl := h
            exact wx_join ⟨rfl, rfl⟩ (agree_cons rfl (agree_cons rfl (agree_cons rfl (agree_cons rfl agree_nil)))) (pSub (pCons Sel.hc (pCons Sel.hc (pApp Sel.ha pNil))))
          rintro _ _ ⟨rfl, rfl⟩
          have h := hj36; clear hj36
          refine wc_k2 (Ls := (⟨p0b, [.int .u64 o20_0.Rows, .slice o20_0a0 o20_0n0 o20_0c0, .bool j36_p0_f2], p0t, (0, 0)⟩ :: (⟨b10, [.int .u64 j28_n10.F, .int .u64 j28_n10.Sum.1, .int .u64 j28_n10.Sum.2, .bool j28_n10.Is.1, .bool j28_n10.Is.2], 77, (0, 0)⟩ :: (o20_0B0 ++ [])))) [7] [7] [0, 1, 3, 7, 0, 0, 63, 127] [0, 1, 2, 3, 4, 5, 6, 7] (by kernel_rfl) (by kernel_rfl) (by kernel_rfl) ?_
          refine k_val rfl rfl rfl (pSub (pCons Sel.hc (pCons Sel.hc (pApp Sel.ha pNil)))) (stepV_ok tt_ok rfl) rfl ?_
          refine k_val rfl rfl rfl (pSub (pCons Sel.hc (pCons Sel.hc (pApp Sel.ha pNil)))) (stepV_ok tt_ok rfl) rfl ?_
          refine k_val (v := .pointer (some ⟨p0b, 1, none⟩)) rfl rfl rfl (pSub (pCons Sel.hc (pCons Sel.hc (pApp Sel.ha pNil)))) (stepV_ok tt_ok rfl) rfl ?_
          refine k_val (v := .slice o20_0a0 o20_0n0 o20_0c0) rfl rfl rfl (pSub (pCons Sel.hc (pCons Sel.hc (pApp Sel.ha pNil)))) (val_load tt_ok rfl (List.Mem.head _) rfl) rfl ?_
          refine k_val rfl rfl rfl (pSub (pCons Sel.hc (pCons Sel.hc (pApp Sel.ha pNil)))) (stepV_ok tt_ok rfl) rfl ?_
          refine k_val (v := .agg #[.int .u64 j28_n10.F, .int .u64 j28_n10.Sum.1, .int .u64 j28_n10.Sum.2, .bool j28_n10.Is.1, .bool j28_n10.Is.2]) rfl rfl rfl (pSub (pCons Sel.hc (pCons Sel.hc (pApp Sel.ha pNil)))) (val_load tt_ok rfl (List.Mem.tail _ (List.Mem.head _)) rfl) rfl ?_
          replace h := bsome h; obtain ⟨v83, x83, h⟩ := h
          refine k_val (v := .pointer (some ((adOf o20_0a0).add (v20.toNat * 5 + 0)))) rfl rfl rfl (pSub (pCons Sel.hc (pCons Sel.hc (pApp Sel.ha pNil)))) (val_ix (enc := c_T_hindcastref29_Entry) tt_ok rfl rfl rfl rfl o20_0N0 (Rds.of_vec o20_0V0) c_T_hindcastref29_Entry_len rfl x83) rfl ?_
          refine k_chg0 rfl rfl rfl (chg_ste (enc := c_T_hindcastref29_Entry) (y' := j28_n10) tt_ok rfl rfl rfl rfl rfl rfl o20_0N0 o20_0V0 (Sel.sc (Sel.sc Sel.ha)) c_T_hindcastref29_Entry_len x83 rfl (by intro h; cases h)) (.inl rfl) ?_
          rintro _ _ ⟨Bs39_7, Ns39_7, Vs39_7, rfl⟩
          refine k_end (by kernel_rfl) ?_
          simp only [Option.some.injEq, Prod.mk.injEq] at h
          obtain ⟨rfl, rfl⟩ := h
          exact wx_join ⟨o20_0a0, o20_0n0, o20_0c0, Bs39_7, Ns39_7, Vs39_7, rfl, rfl⟩ (agree_cons rfl (agree_cons rfl agree_nil)) (pSub (pCons (Sel.sa Sel.hc) (pApp Sel.ha pNil)))
        replace h := cf hc h
        refine wl_skip rfl rfl ?_
        refine wl_skip rfl rfl ?_
        refine wl_skip rfl rfl ?_
        refine wl_skip rfl rfl ?_
        refine wl_skip rfl rfl ?_
        refine wl_skip rfl rfl ?_
        simp only [Option.some.injEq, Prod.mk.injEq] at h
        obtain rfl := h
        have h := hg41; clear hg41
        refine wl_pure (v := .bool false) tt_ok rfl rfl ?_
        refine wl_nil (wx_then ?_)
        replace h := bsome h; obtain ⟨j22_p0_f2, h, hj22⟩ := h
        refine wc_join2 (fun E L => E = [(0, .pointer (some ⟨p0b, 0, none⟩)), (1, .int .i64 p1), (3, .int .u64 p3), (8, .int .i64 (0 : Int)), (9, .int .i64 v20), (10, .pointer (some ⟨b10, 0, none⟩))] ∧ L = (⟨p0b, [.int .u64 o20_0.Rows, .slice o20_0a0 o20_0n0 o20_0c0, .bool j22_p0_f2], p0t, (0, 0)⟩ :: (⟨b10, [.int .u64 v28.F, .int .u64 v28.Sum.1, .int .u64 v28.Sum.2, .bool v28.Is.1, .bool v28.Is.2], 77, (0, 0)⟩ :: (o20_0B0 ++ [])))) ?_ ?_
        · replace h := cf rfl h
          refine wc_cond_false rfl ?_
          refine wc_skip ?_
          simp only [Option.some.injEq] at h
          obtain rfl := h
          exact wx_join ⟨rfl, rfl⟩ (agree_cons rfl (agree_cons rfl (agree_cons rfl (agree_cons rfl (agree_cons rfl (agree_cons rfl agree_nil)))))) (pSub (pCons (Sel.sc Sel.hc) (pCons Sel.hc (pApp Sel.ha pNil))))
        rintro _ _ ⟨rfl, rfl⟩
        have h := hj22; clear hj22
        refine wc_seq (wc_seq (wc_region ?_))
        refine wl_pure tt_ok rfl rfl ?_
        refine wl_pure (v := .pointer (some ⟨b10, 3, none⟩)) tt_ok rfl rfl ?_
        refine wl_val (v := .pointer (some ⟨b10, 3, none⟩)) (val_ia (j := 0) tt_ok rfl rfl rfl rfl (by simpa using hx320) rfl rfl) rfl ?_
        refine wl_val (v := .bool v28.Is.1) (val_load tt_ok rfl (List.Mem.tail _ (List.Mem.head _)) rfl) rfl ?_
        refine wl_pure (v := .bool (!v28.Is.1)) tt_ok rfl rfl ?_
        refine wl_nil (wx_then ?_)
        replace h := bsome h; obtain ⟨j28_n10, h, hj28⟩ := h
        refine wc_join2 (fun E L => E = [(0, .pointer (some ⟨p0b, 0, none⟩)), (8, .int .i64 (0 : Int)), (9, .int .i64 v20), (10, .pointer (some ⟨b10, 0, none⟩))] ∧ L = (⟨p0b, [.int .u64 o20_0.Rows, .slice o20_0a0 o20_0n0 o20_0c0, .bool j22_p0_f2], p0t, (0, 0)⟩ :: (⟨b10, [.int .u64 j28_n10.F, .int .u64 j28_n10.Sum.1, .int .u64 j28_n10.Sum.2, .bool j28_n10.Is.1, .bool j28_n10.Is.2], 77, (0, 0)⟩ :: (o20_0B0 ++ [])))) ?_ ?_
        · refine wc_cond rfl (fun hc => ?_) (fun hc => ?_)
          · replace h := ct hc h
            refine wc_seq (wc_region ?_)
            refine wl_pure tt_ok rfl rfl ?_
            refine wl_pure (v := .pointer (some ⟨b10, 3, none⟩)) tt_ok rfl rfl ?_
            refine wl_val (v := .pointer (some ⟨b10, 3, none⟩)) (val_ia (j := 0) tt_ok rfl rfl rfl rfl (by simpa using hx320) rfl rfl) rfl ?_
            apply wl_store tt_ok; rfl; exact (Upd.there Upd.here); rfl; rfl; rfl; rfl; rfl; rfl
            refine wl_nil (wx_then (wc_region ?_))
            iterate 2 refine wl_pure tt_ok rfl rfl ?_
            refine wl_pure (v := .pointer (some ⟨b10, 1, none⟩)) tt_ok rfl rfl ?_
            refine wl_val (v := .pointer (some ⟨b10, 1, none⟩)) (val_ia (j := 0) tt_ok rfl rfl rfl rfl (by simpa using hx320) rfl rfl) rfl ?_
            apply wl_store tt_ok; rfl; exact (Upd.there Upd.here); rfl; rfl; rfl; rfl; rfl; rfl
            refine wl_nil ?_
            simp only [Option.some.injEq] at h
            obtain rfl := h
            exact wx_join ⟨rfl, rfl⟩ (agree_cons rfl (agree_cons rfl (agree_cons rfl (agree_cons rfl agree_nil)))) (pSub (pCons Sel.hc (pCons Sel.hc (pApp Sel.ha pNil))))
          replace h := cf hc h
          refine wc_skip ?_
          simp only [Option.some.injEq] at h
          obtain rfl := h
          exact wx_join ⟨rfl, rfl⟩ (agree_cons rfl (agree_cons rfl (agree_cons rfl (agree_cons rfl agree_nil)))) (pSub (pCons Sel.hc (pCons Sel.hc (pApp Sel.ha pNil))))
        rintro _ _ ⟨rfl, rfl⟩
        have h := hj28; clear hj28
        refine wc_seq (wc_seq (wc_region ?_))
        refine wl_pure (v := .pointer (some ⟨b10, 3, none⟩)) tt_ok rfl rfl ?_
        refine wl_val (v := .pointer (some ⟨b10, 3, none⟩)) (val_ia (j := 0) tt_ok rfl rfl rfl rfl rfl rfl rfl) rfl ?_
        refine wl_val (v := .bool j28_n10.Is.1) (val_load tt_ok rfl (List.Mem.tail _ (List.Mem.head _)) rfl) rfl ?_
        refine wl_pure tt_ok rfl rfl ?_
        replace h := bsome h; obtain ⟨v64, h, hg64⟩ := h
        refine wl_split (t := 60) rfl (fun hc => ?_) (fun hc => ?_)
        · replace h := ct hc h
          refine wl_run rfl ?_
          refine wl_pure (v := .pointer (some ⟨b10, 3, none⟩)) tt_ok rfl rfl ?_
          refine wl_run rfl ?_
          refine wl_val (v := .pointer (some ⟨b10, 4, none⟩)) (val_ia (j := 1) tt_ok rfl rfl rfl rfl rfl rfl rfl) rfl ?_
          refine wl_run rfl ?_
          refine wl_val (v := .bool j28_n10.Is.2) (val_load tt_ok rfl (List.Mem.tail _ (List.Mem.head _)) rfl) rfl ?_
          simp only [Option.some.injEq, Prod.mk.injEq] at h
          obtain rfl := h
          have h := hg64; clear hg64
          refine wl_pure (v := .bool j28_n10.Is.2) tt_ok rfl rfl ?_
          refine wl_pure tt_ok rfl rfl ?_
          replace h := bsome h; obtain ⟨v73, h, hg73⟩ := h
          refine wl_split (t := 65) rfl (fun hc => ?_) (fun hc => ?_)
          · replace h := ct hc h
            refine wl_run rfl ?_
            refine wl_pure (v := .pointer (some ⟨b10, 1, none⟩)) tt_ok rfl rfl ?_
            refine wl_run rfl ?_
            refine wl_val (v := .pointer (some ⟨b10, 1, none⟩)) (val_ia (j := 0) tt_ok rfl rfl rfl rfl rfl rfl rfl) rfl ?_
            refine wl_run rfl ?_
            refine wl_val (v := .int .u64 j28_n10.Sum.1) (val_load tt_ok rfl (List.Mem.tail _ (List.Mem.head _)) rfl) rfl ?_
            refine wl_run rfl ?_
            refine wl_pure (v := .pointer (some ⟨b10, 1, none⟩)) tt_ok rfl rfl ?_
            refine wl_run rfl ?_
            refine wl_val (v := .pointer (some ⟨b10, 2, none⟩)) (val_ia (j := 1) tt_ok rfl rfl rfl rfl rfl rfl rfl) rfl ?_
            refine wl_run rfl ?_
            refine wl_val (v := .int .u64 j28_n10.Sum.2) (val_load tt_ok rfl (List.Mem.tail _ (List.Mem.head _)) rfl) rfl ?_
            refine wl_run rfl ?_
            refine wl_pure (v := .bool (j28_n10.Sum.1 != j28_n10.Sum.2)) tt_ok rfl rfl ?_
            simp only [Option.some.injEq, Prod.mk.injEq] at h
            obtain rfl := h
            have h := hg73; clear hg73
            refine wl_pure (v := .bool (j28_n10.Sum.1 != j28_n10.Sum.2)) tt_ok rfl rfl ?_
            refine wl_nil (wx_then ?_)
            replace h := bsome h; obtain ⟨j36_p0_f2, h, hj36⟩ := h
            refine wc_join2 (fun E L => E = [(0, .pointer (some ⟨p0b, 0, none⟩)), (8, .int .i64 (0 : Int)), (9, .int .i64 v20), (10, .pointer (some ⟨b10, 0, none⟩))] ∧ L = (⟨p0b, [.int .u64 o20_0.Rows, .slice o20_0a0 o20_0n0 o20_0c0, .bool j36_p0_f2], p0t, (0, 0)⟩ :: (⟨b10, [.int .u64 j28_n10.F, .int .u64 j28_n10.Sum.1, .int .u64 j28_n10.Sum.2, .bool j28_n10.Is.1, .bool j28_n10.Is.2], 77, (0, 0)⟩ :: (o20_0B0 ++ [])))) ?_ ?_
            · refine wc_cond rfl (fun hc => ?_) (fun hc => ?_)
              · replace h := ct hc h
                refine wc_region ?_
                iterate 2 refine wl_pure tt_ok rfl rfl ?_
                refine wl_pure (v := .pointer (some ⟨p0b, 2, none⟩)) tt_ok rfl rfl ?_
                apply wl_store tt_ok; rfl; exact Upd.here; rfl; rfl; rfl; rfl; rfl; rfl
                refine wl_nil ?_
                simp only [Option.some.injEq] at h
                obtain rfl := h
                exact wx_join ⟨rfl, rfl⟩ (agree_cons rfl (agree_cons rfl (agree_cons rfl (agree_cons rfl agree_nil)))) (pSub (pCons Sel.hc (pCons Sel.hc (pApp Sel.ha pNil))))
              replace h := cf hc h
              refine wc_skip ?_
              simp only [Option.some.injEq] at h
              obtain rfl := h
              exact wx_join ⟨rfl, rfl⟩ (agree_cons rfl (agree_cons rfl (agree_cons rfl (agree_cons rfl agree_nil)))) (pSub (pCons Sel.hc (pCons Sel.hc (pApp Sel.ha pNil))))
            rintro _ _ ⟨rfl, rfl⟩
            have h := hj36; clear hj36
            refine wc_k2 (Ls := (⟨p0b, [.int .u64 o20_0.Rows, .slice o20_0a0 o20_0n0 o20_0c0, .bool j36_p0_f2], p0t, (0, 0)⟩ :: (⟨b10, [.int .u64 j28_n10.F, .int .u64 j28_n10.Sum.1, .int .u64 j28_n10.Sum.2, .bool j28_n10.Is.1, .bool j28_n10.Is.2], 77, (0, 0)⟩ :: (o20_0B0 ++ [])))) [7] [7] [0, 1, 3, 7, 0, 0, 63, 127] [0, 1, 2, 3, 4, 5, 6, 7] (by kernel_rfl) (by kernel_rfl) (by kernel_rfl) ?_
            refine k_val rfl rfl rfl (pSub (pCons Sel.hc (pCons Sel.hc (pApp Sel.ha pNil)))) (stepV_ok tt_ok rfl) rfl ?_
            refine k_val rfl rfl rfl (pSub (pCons Sel.hc (pCons Sel.hc (pApp Sel.ha pNil)))) (stepV_ok tt_ok rfl) rfl ?_
            refine k_val (v := .pointer (some ⟨p0b, 1, none⟩)) rfl rfl rfl (pSub (pCons Sel.hc (pCons Sel.hc (pApp Sel.ha pNil)))) (stepV_ok tt_ok rfl) rfl ?_
            refine k_val (v := .slice o20_0a0 o20_0n0 o20_0c0) rfl rfl rfl (pSub (pCons Sel.hc (pCons Sel.hc (pApp Sel.ha pNil)))) (val_load tt_ok rfl (List.Mem.head _) rfl) rfl ?_
            refine k_val rfl rfl rfl (pSub (pCons Sel.hc (pCons Sel.hc (pApp Sel.ha pNil)))) (stepV_ok tt_ok rfl) rfl ?_
            refine k_val (v := .agg #[.int .u64 j28_n10.F, .int .u64 j28_n10.Sum.1, .int .u64 j28_n10.Sum.2, .bool j28_n10.Is.1, .bool j28_n10.Is.2]) rfl rfl rfl (pSub (pCons Sel.hc (pCons Sel.hc (pApp Sel.ha pNil)))) (val_load tt_ok rfl (List.Mem.tail _ (List.Mem.head _)) rfl) rfl ?_
            replace h := bsome h; obtain ⟨v83, x83, h⟩ := h
            refine k_val (v := .pointer (some ((adOf o20_0a0).add (v20.toNat * 5 + 0)))) rfl rfl rfl (pSub (pCons Sel.hc (pCons Sel.hc (pApp Sel.ha pNil)))) (val_ix (enc := c_T_hindcastref29_Entry) tt_ok rfl rfl rfl rfl o20_0N0 (Rds.of_vec o20_0V0) c_T_hindcastref29_Entry_len rfl x83) rfl ?_
            refine k_chg0 rfl rfl rfl (chg_ste (enc := c_T_hindcastref29_Entry) (y' := j28_n10) tt_ok rfl rfl rfl rfl rfl rfl o20_0N0 o20_0V0 (Sel.sc (Sel.sc Sel.ha)) c_T_hindcastref29_Entry_len x83 rfl (by intro h; cases h)) (.inl rfl) ?_
            rintro _ _ ⟨Bs39_7, Ns39_7, Vs39_7, rfl⟩
            refine k_end (by kernel_rfl) ?_
            simp only [Option.some.injEq, Prod.mk.injEq] at h
            obtain ⟨rfl, rfl⟩ := h
            exact wx_join ⟨o20_0a0, o20_0n0, o20_0c0, Bs39_7, Ns39_7, Vs39_7, rfl, rfl⟩ (agree_cons rfl (agree_cons rfl agree_nil)) (pSub (pCons (Sel.sa Sel.hc) (pApp Sel.ha pNil)))
          replace h := cf hc h
          refine wl_skip rfl rfl ?_
          refine wl_skip rfl rfl ?_
          refine wl_skip rfl rfl ?_
          refine wl_skip rfl rfl ?_
          refine wl_skip rfl rfl ?_
          refine wl_skip rfl rfl ?_
          refine wl_skip rfl rfl ?_
          simp only [Option.some.injEq, Prod.mk.injEq] at h
          obtain rfl := h
          have h := hg73; clear hg73
          refine wl_pure (v := .bool false) tt_ok rfl rfl ?_
          refine wl_nil (wx_then ?_)
          replace h := bsome h; obtain ⟨j36_p0_f2, h, hj36⟩ := h
          refine wc_join2 (fun E L => E = [(0, .pointer (some ⟨p0b, 0, none⟩)), (8, .int .i64 (0 : Int)), (9, .int .i64 v20), (10, .pointer (some ⟨b10, 0, none⟩))] ∧ L = (⟨p0b, [.int .u64 o20_0.Rows, .slice o20_0a0 o20_0n0 o20_0c0, .bool j36_p0_f2], p0t, (0, 0)⟩ :: (⟨b10, [.int .u64 j28_n10.F, .int .u64 j28_n10.Sum.1, .int .u64 j28_n10.Sum.2, .bool j28_n10.Is.1, .bool j28_n10.Is.2], 77, (0, 0)⟩ :: (o20_0B0 ++ [])))) ?_ ?_
          · replace h := cf rfl h
            refine wc_cond_false rfl ?_
            refine wc_skip ?_
            simp only [Option.some.injEq] at h
            obtain rfl := h
            exact wx_join ⟨rfl, rfl⟩ (agree_cons rfl (agree_cons rfl (agree_cons rfl (agree_cons rfl agree_nil)))) (pSub (pCons Sel.hc (pCons Sel.hc (pApp Sel.ha pNil))))
          rintro _ _ ⟨rfl, rfl⟩
          have h := hj36; clear hj36
          refine wc_k2 (Ls := (⟨p0b, [.int .u64 o20_0.Rows, .slice o20_0a0 o20_0n0 o20_0c0, .bool j36_p0_f2], p0t, (0, 0)⟩ :: (⟨b10, [.int .u64 j28_n10.F, .int .u64 j28_n10.Sum.1, .int .u64 j28_n10.Sum.2, .bool j28_n10.Is.1, .bool j28_n10.Is.2], 77, (0, 0)⟩ :: (o20_0B0 ++ [])))) [7] [7] [0, 1, 3, 7, 0, 0, 63, 127] [0, 1, 2, 3, 4, 5, 6, 7] (by kernel_rfl) (by kernel_rfl) (by kernel_rfl) ?_
          refine k_val rfl rfl rfl (pSub (pCons Sel.hc (pCons Sel.hc (pApp Sel.ha pNil)))) (stepV_ok tt_ok rfl) rfl ?_
          refine k_val rfl rfl rfl (pSub (pCons Sel.hc (pCons Sel.hc (pApp Sel.ha pNil)))) (stepV_ok tt_ok rfl) rfl ?_
          refine k_val (v := .pointer (some ⟨p0b, 1, none⟩)) rfl rfl rfl (pSub (pCons Sel.hc (pCons Sel.hc (pApp Sel.ha pNil)))) (stepV_ok tt_ok rfl) rfl ?_
          refine k_val (v := .slice o20_0a0 o20_0n0 o20_0c0) rfl rfl rfl (pSub (pCons Sel.hc (pCons Sel.hc (pApp Sel.ha pNil)))) (val_load tt_ok rfl (List.Mem.head _) rfl) rfl ?_
          refine k_val rfl rfl rfl (pSub (pCons Sel.hc (pCons Sel.hc (pApp Sel.ha pNil)))) (stepV_ok tt_ok rfl) rfl ?_
          refine k_val (v := .agg #[.int .u64 j28_n10.F, .int .u64 j28_n10.Sum.1, .int .u64 j28_n10.Sum.2, .bool j28_n10.Is.1, .bool j28_n10.Is.2]) rfl rfl rfl (pSub (pCons Sel.hc (pCons Sel.hc (pApp Sel.ha pNil)))) (val_load tt_ok rfl (List.Mem.tail _ (List.Mem.head _)) rfl) rfl ?_
          replace h := bsome h; obtain ⟨v83, x83, h⟩ := h
          refine k_val (v := .pointer (some ((adOf o20_0a0).add (v20.toNat * 5 + 0)))) rfl rfl rfl (pSub (pCons Sel.hc (pCons Sel.hc (pApp Sel.ha pNil)))) (val_ix (enc := c_T_hindcastref29_Entry) tt_ok rfl rfl rfl rfl o20_0N0 (Rds.of_vec o20_0V0) c_T_hindcastref29_Entry_len rfl x83) rfl ?_
          refine k_chg0 rfl rfl rfl (chg_ste (enc := c_T_hindcastref29_Entry) (y' := j28_n10) tt_ok rfl rfl rfl rfl rfl rfl o20_0N0 o20_0V0 (Sel.sc (Sel.sc Sel.ha)) c_T_hindcastref29_Entry_len x83 rfl (by intro h; cases h)) (.inl rfl) ?_
          rintro _ _ ⟨Bs39_7, Ns39_7, Vs39_7, rfl⟩
          refine k_end (by kernel_rfl) ?_
          simp only [Option.some.injEq, Prod.mk.injEq] at h
          obtain ⟨rfl, rfl⟩ := h
          exact wx_join ⟨o20_0a0, o20_0n0, o20_0c0, Bs39_7, Ns39_7, Vs39_7, rfl, rfl⟩ (agree_cons rfl (agree_cons rfl agree_nil)) (pSub (pCons (Sel.sa Sel.hc) (pApp Sel.ha pNil)))
        replace h := cf hc h
        refine wl_skip rfl rfl ?_
        refine wl_skip rfl rfl ?_
        refine wl_skip rfl rfl ?_
        simp only [Option.some.injEq, Prod.mk.injEq] at h
        obtain rfl := h
        have h := hg64; clear hg64
        refine wl_pure (v := .bool false) tt_ok rfl rfl ?_
        refine wl_pure tt_ok rfl rfl ?_
        replace h := bsome h; obtain ⟨v73, h, hg73⟩ := h
        replace h := cf rfl h
        refine wl_skip rfl rfl ?_
        refine wl_skip rfl rfl ?_
        refine wl_skip rfl rfl ?_
        refine wl_skip rfl rfl ?_
        refine wl_skip rfl rfl ?_
        refine wl_skip rfl rfl ?_
        refine wl_skip rfl rfl ?_
        simp only [Option.some.injEq, Prod.mk.injEq] at h
        obtain rfl := h
        have h := hg73; clear hg73
        refine wl_pure (v := .bool false) tt_ok rfl rfl ?_
        refine wl_nil (wx_then ?_)
        replace h := bsome h; obtain ⟨j36_p0_f2, h, hj36⟩ := h
        refine wc_join2 (fun E L => E = [(0, .pointer (some ⟨p0b, 0, none⟩)), (8, .int .i64 (0 : Int)), (9, .int .i64 v20), (10, .pointer (some ⟨b10, 0, none⟩))] ∧ L = (⟨p0b, [.int .u64 o20_0.Rows, .slice o20_0a0 o20_0n0 o20_0c0, .bool j36_p0_f2], p0t, (0, 0)⟩ :: (⟨b10, [.int .u64 j28_n10.F, .int .u64 j28_n10.Sum.1, .int .u64 j28_n10.Sum.2, .bool j28_n10.Is.1, .bool j28_n10.Is.2], 77, (0, 0)⟩ :: (o20_0B0 ++ [])))) ?_ ?_
        · replace h := cf rfl h
          refine wc_cond_false rfl ?_
          refine wc_skip ?_
          simp only [Option.some.injEq] at h
          obtain rfl := h
          exact wx_join ⟨rfl, rfl⟩ (agree_cons rfl (agree_cons rfl (agree_cons rfl (agree_cons rfl agree_nil)))) (pSub (pCons Sel.hc (pCons Sel.hc (pApp Sel.ha pNil))))
        rintro _ _ ⟨rfl, rfl⟩
        have h := hj36; clear hj36
        refine wc_k2 (Ls := (⟨p0b, [.int .u64 o20_0.Rows, .slice o20_0a0 o20_0n0 o20_0c0, .bool j36_p0_f2], p0t, (0, 0)⟩ :: (⟨b10, [.int .u64 j28_n10.F, .int .u64 j28_n10.Sum.1, .int .u64 j28_n10.Sum.2, .bool j28_n10.Is.1, .bool j28_n10.Is.2], 77, (0, 0)⟩ :: (o20_0B0 ++ [])))) [7] [7] [0, 1, 3, 7, 0, 0, 63, 127] [0, 1, 2, 3, 4, 5, 6, 7] (by kernel_rfl) (by kernel_rfl) (by kernel_rfl) ?_
        refine k_val rfl rfl rfl (pSub (pCons Sel.hc (pCons Sel.hc (pApp Sel.ha pNil)))) (stepV_ok tt_ok rfl) rfl ?_
        refine k_val rfl rfl rfl (pSub (pCons Sel.hc (pCons Sel.hc (pApp Sel.ha pNil)))) (stepV_ok tt_ok rfl) rfl ?_
        refine k_val (v := .pointer (some ⟨p0b, 1, none⟩)) rfl rfl rfl (pSub (pCons Sel.hc (pCons Sel.hc (pApp Sel.ha pNil)))) (stepV_ok tt_ok rfl) rfl ?_
        refine k_val (v := .slice o20_0a0 o20_0n0 o20_0c0) rfl rfl rfl (pSub (pCons Sel.hc (pCons Sel.hc (pApp Sel.ha pNil)))) (val_load tt_ok rfl (List.Mem.head _) rfl) rfl ?_
        refine k_val rfl rfl rfl (pSub (pCons Sel.hc (pCons Sel.hc (pApp Sel.ha pNil)))) (stepV_ok tt_ok rfl) rfl ?_
        refine k_val (v := .agg #[.int .u64 j28_n10.F, .int .u64 j28_n10.Sum.1, .int .u64 j28_n10.Sum.2, .bool j28_n10.Is.1, .bool j28_n10.Is.2]) rfl rfl rfl (pSub (pCons Sel.hc (pCons Sel.hc (pApp Sel.ha pNil)))) (val_load tt_ok rfl (List.Mem.tail _ (List.Mem.head _)) rfl) rfl ?_
        replace h := bsome h; obtain ⟨v83, x83, h⟩ := h
        refine k_val (v := .pointer (some ((adOf o20_0a0).add (v20.toNat * 5 + 0)))) rfl rfl rfl (pSub (pCons Sel.hc (pCons Sel.hc (pApp Sel.ha pNil)))) (val_ix (enc := c_T_hindcastref29_Entry) tt_ok rfl rfl rfl rfl o20_0N0 (Rds.of_vec o20_0V0) c_T_hindcastref29_Entry_len rfl x83) rfl ?_
        refine k_chg0 rfl rfl rfl (chg_ste (enc := c_T_hindcastref29_Entry) (y' := j28_n10) tt_ok rfl rfl rfl rfl rfl rfl o20_0N0 o20_0V0 (Sel.sc (Sel.sc Sel.ha)) c_T_hindcastref29_Entry_len x83 rfl (by intro h; cases h)) (.inl rfl) ?_
        rintro _ _ ⟨Bs39_7, Ns39_7, Vs39_7, rfl⟩
        refine k_end (by kernel_rfl) ?_
        simp only [Option.some.injEq, Prod.mk.injEq] at h
        obtain ⟨rfl, rfl⟩ := h
        exact wx_join ⟨o20_0a0, o20_0n0, o20_0c0, Bs39_7, Ns39_7, Vs39_7, rfl, rfl⟩ (agree_cons rfl (agree_cons rfl agree_nil)) (pSub (pCons (Sel.sa Sel.hc) (pApp Sel.ha pNil)))
      replace h := cf hx320 h
      rcases Bool.eq_false_or_eq_true (p1 == (1 : Int)) with hx321 | hx321
      · replace h := ct hx321 h
        refine wl_val (v := .pointer (some ⟨b10, 4, none⟩)) (val_ia (j := 1) tt_ok rfl rfl rfl rfl (by simpa using hx321) rfl rfl) rfl ?_
        refine wl_val (v := .bool v28.Is.2) (val_load tt_ok rfl (List.Mem.head _) rfl) rfl ?_
        refine wl_pure tt_ok rfl rfl ?_
        replace h := bsome h; obtain ⟨v41, h, hg41⟩ := h
        refine wl_split (t := 34) rfl (fun hc => ?_) (fun hc => ?_)
        · replace h := ct hc h
          refine wl_run rfl ?_
          refine wl_pure tt_ok rfl rfl ?_
          refine wl_run rfl ?_
          refine wl_pure (v := .pointer (some ⟨b10, 1, none⟩)) tt_ok rfl rfl ?_
          refine wl_run rfl ?_
          refine wl_val (v := .pointer (some ⟨b10, 2, none⟩)) (val_ia (j := 1) tt_ok rfl rfl rfl rfl (by simpa using hx321) rfl rfl) rfl ?_
          refine wl_run rfl ?_
          refine wl_val (v := .int .u64 v28.Sum.2) (val_load tt_ok rfl (List.Mem.head _) rfl) rfl ?_
          refine wl_run rfl ?_
          refine wl_pure tt_ok rfl rfl ?_
          refine wl_run rfl ?_
          refine wl_pure (v := .bool (v28.Sum.2 != p3)) tt_ok rfl rfl ?_
          simp only [Option.some.injEq, Prod.mk.injEq] at h
          obtain rfl := h
          have h := hg41; clear hg41
          refine wl_pure (v := .bool (v28.Sum.2 != p3)) tt_ok rfl rfl ?_
          refine wl_nil (wx_then ?_)
          replace h := bsome h; obtain ⟨j22_p0_f2, h, hj22⟩ := h
          refine wc_join2 (fun E L => E = [(0, .pointer (some ⟨p0b, 0, none⟩)), (1, .int .i64 p1), (3, .int .u64 p3), (8, .int .i64 (0 : Int)), (9, .int .i64 v20), (10, .pointer (some ⟨b10, 0, none⟩))] ∧ L = (⟨p0b, [.int .u64 o20_0.Rows, .slice o20_0a0 o20_0n0 o20_0c0, .bool j22_p0_f2], p0t, (0, 0)⟩ :: (⟨b10, [.int .u64 v28.F, .int .u64 v28.Sum.1, .int .u64 v28.Sum.2, .bool v28.Is.1, .bool v28.Is.2], 77, (0, 0)⟩ :: (o20_0B0 ++ [])))) ?_ ?_
          · refine wc_cond rfl (fun hc => ?_) (fun hc => ?_)
            · replace h := ct hc h
              refine wc_region ?_
              iterate 2 refine wl_pure tt_ok rfl rfl ?_
              refine wl_pure (v := .pointer (some ⟨p0b, 2, none⟩)) tt_ok rfl rfl ?_
              apply wl_store tt_ok; rfl; exact (Upd.there Upd.here); rfl; rfl; rfl; rfl; rfl; rfl
              refine wl_nil ?_
              simp only [Option.some.injEq] at h
              obtain rfl := h
              exact wx_join ⟨rfl, rfl⟩ (agree_cons rfl (agree_cons rfl (agree_cons rfl (agree_cons rfl (agree_cons rfl (agree_cons rfl agree_nil)))))) (pSub (pCons (Sel.sc Sel.hc) (pCons Sel.hc (pApp Sel.ha pNil))))
            replace h := cf hc h
            refine wc_skip ?_
            simp only [Option.some.injEq] at h
            obtain rfl := h
            exact wx_join ⟨rfl, rfl⟩ (agree_cons rfl (agree_cons rfl (agree_cons rfl (agree_cons rfl (agree_cons rfl (agree_cons rfl agree_nil)))))) (pSub (pCons (Sel.sc Sel.hc) (pCons Sel.hc (pApp Sel.ha pNil))))
          rintro _ _ ⟨rfl, rfl⟩
          have h := hj22; clear hj22
          refine wc_seq (wc_seq (wc_region ?_))
          refine wl_pure tt_ok rfl rfl ?_
          refine wl_pure (v := .pointer (some ⟨b10, 3, none⟩)) tt_ok rfl rfl ?_
          refine wl_val (v := .pointer (some ⟨b10, 4, none⟩)) (val_ia (j := 1) tt_ok rfl rfl rfl rfl (by simpa using hx321) rfl rfl) rfl ?_
          refine wl_val (v := .bool v28.Is.2) (val_load tt_ok rfl (List.Mem.tail _ (List.Mem.head _)) rfl) rfl ?_
          refine wl_pure (v := .bool (!v28.Is.2)) tt_ok rfl rfl ?_
          refine wl_nil (wx_then ?_)
          replace h := bsome h; obtain ⟨j28_n10, h, hj28⟩ := h
          refine wc_join2 (fun E L => E = [(0, .pointer (some ⟨p0b, 0, none⟩)), (8, .int .i64 (0 : Int)), (9, .int .i64 v20), (10, .pointer (some ⟨b10, 0, none⟩))] ∧ L = (⟨p0b, [.int .u64 o20_0.Rows, .slice o20_0a0 o20_0n0 o20_0c0, .bool j22_p0_f2], p0t, (0, 0)⟩ :: (⟨b10, [.int .u64 j28_n10.F, .int .u64 j28_n10.Sum.1, .int .u64 j28_n10.Sum.2, .bool j28_n10.Is.1, .bool j28_n10.Is.2], 77, (0, 0)⟩ :: (o20_0B0 ++ [])))) ?_ ?_
          · refine wc_cond rfl (fun hc => ?_) (fun hc => ?_)
            · replace h := ct hc h
              refine wc_seq (wc_region ?_)
              refine wl_pure tt_ok rfl rfl ?_
              refine wl_pure (v := .pointer (some ⟨b10, 3, none⟩)) tt_ok rfl rfl ?_
              refine wl_val (v := .pointer (some ⟨b10, 4, none⟩)) (val_ia (j := 1) tt_ok rfl rfl rfl rfl (by simpa using hx321) rfl rfl) rfl ?_
              apply wl_store tt_ok; rfl; exact (Upd.there Upd.here); rfl; rfl; rfl; rfl; rfl; rfl
              refine wl_nil (wx_then (wc_region ?_))
              iterate 2 refine wl_pure tt_ok rfl rfl ?_
              refine wl_pure (v := .pointer (some ⟨b10, 1, none⟩)) tt_ok rfl rfl ?_
              refine wl_val (v := .pointer (some ⟨b10, 2, none⟩)) (val_ia (j := 1) tt_ok rfl rfl rfl rfl (by simpa using hx321) rfl rfl) rfl ?_
              apply wl_store tt_ok; rfl; exact (Upd.there Upd.here); rfl; rfl; rfl; rfl; rfl; rfl
              refine wl_nil ?_
              simp only [Option.some.injEq] at h
              obtain rfl := h
              exact wx_join ⟨rfl, rfl⟩ (agree_cons rfl (agree_cons rfl (agree_cons rfl (agree_cons rfl agree_nil)))) (pSub (pCons Sel.hc (pCons Sel.hc (pApp Sel.ha pNil))))
            replace h := cf hc h
            refine wc_skip ?_
            simp only [Option.some.injEq] at h
            obtain rfl := h
            exact wx_join ⟨rfl, rfl⟩ (agree_cons rfl (agree_cons rfl (agree_cons rfl (agree_cons rfl agree_nil)))) (pSub (pCons Sel.hc (pCons Sel.hc (pApp Sel.ha pNil))))
          rintro _ _ ⟨rfl, rfl⟩
          have h := hj28; clear hj28
          refine wc_seq (wc_seq (wc_region ?_))
          refine wl_pure (v := .pointer (some ⟨b10, 3, none⟩)) tt_ok rfl rfl ?_
          refine wl_val (v := .pointer (some ⟨b10, 3, none⟩)) (val_ia (j := 0) tt_ok rfl rfl rfl rfl rfl rfl rfl) rfl ?_
          refine wl_val (v := .bool j28_n10.Is.1) (val_load tt_ok rfl (List.Mem.tail _ (List.Mem.head _)) rfl) rfl ?_
          refine wl_pure tt_ok rfl rfl ?_
          replace h := bsome h; obtain ⟨v64, h, hg64⟩ := h
          refine wl_split (t := 60) rfl (fun hc => ?_) (fun hc => ?_)
          · replace h := ct hc h
            refine wl_run rfl ?_
            refine wl_pure (v := .pointer (some ⟨b10, 3, none⟩)) tt_ok rfl rfl ?_
            refine wl_run rfl ?_
            refine wl_val (v := .pointer (some ⟨b10, 4, none⟩)) (val_ia (j := 1) tt_ok rfl rfl rfl rfl rfl rfl rfl) rfl ?_
            refine wl_run rfl ?_
            refine wl_val (v := .bool j28_n10.Is.2) (val_load tt_ok rfl (List.Mem.tail _ (List.Mem.head _)) rfl) rfl ?_
            simp only [Option.some.injEq, Prod.mk.injEq] at h
            obtain rfl := h
            have h := hg64; clear hg64
            refine wl_pure (v := .bool j28_n10.Is.2) tt_ok rfl rfl ?_
            refine wl_pure tt_ok rfl rfl ?_
            replace h := bsome h; obtain ⟨v73, h, hg73⟩ := h
            refine wl_split (t := 65) rfl (fun hc => ?_) (fun hc => ?_)
            · replace h := ct hc h
              refine wl_run rfl ?_
              refine wl_pure (v := .pointer (some ⟨b10, 1, none⟩)) tt_ok rfl rfl ?_
              refine wl_run rfl ?_
              refine wl_val (v := .pointer (some ⟨b10, 1, none⟩)) (val_ia (j := 0) tt_ok rfl rfl rfl rfl rfl rfl rfl) rfl ?_
              refine wl_run rfl ?_
              refine wl_val (v := .int .u64 j28_n10.Sum.1) (val_load tt_ok rfl (List.Mem.tail _ (List.Mem.head _)) rfl) rfl ?_
              refine wl_run rfl ?_
              refine wl_pure (v := .pointer (some ⟨b10, 1, none⟩)) tt_ok rfl rfl ?_
              refine wl_run rfl ?_
              refine wl_val (v := .pointer (some ⟨b10, 2, none⟩)) (val_ia (j := 1) tt_ok rfl rfl rfl rfl rfl rfl rfl) rfl ?_
              refine wl_run rfl ?_
              refine wl_val (v := .int .u64 j28_n10.Sum.2) (val_load tt_ok rfl (List.Mem.tail _ (List.Mem.head _)) rfl) rfl ?_
              refine wl_run rfl ?_
              refine wl_pure (v := .bool (j28_n10.Sum.1 != j28_n10.Sum.2)) tt_ok rfl rfl ?_
              simp only [Option.some.injEq, Prod.mk.injEq] at h
              obtain rfl := h
              have h := hg73; clear hg73
              refine wl_pure (v := .bool (j28_n10.Sum.1 != j28_n10.Sum.2)) tt_ok rfl rfl ?_
              refine wl_nil (wx_then ?_)
              replace h := bsome h; obtain ⟨j36_p0_f2, h, hj36⟩ := h
              refine wc_join2 (fun E L => E = [(0, .pointer (some ⟨p0b, 0, none⟩)), (8, .int .i64 (0 : Int)), (9, .int .i64 v20), (10, .pointer (some ⟨b10, 0, none⟩))] ∧ L = (⟨p0b, [.int .u64 o20_0.Rows, .slice o20_0a0 o20_0n0 o20_0c0, .bool j36_p0_f2], p0t, (0, 0)⟩ :: (⟨b10, [.int .u64 j28_n10.F, .int .u64 j28_n10.Sum.1, .int .u64 j28_n10.Sum.2, .bool j28_n10.Is.1, .bool j28_n10.Is.2], 77, (0, 0)⟩ :: (o20_0B0 ++ [])))) ?_ ?_
              · refine wc_cond rfl (fun hc => ?_) (fun hc => ?_)
                · replace h := ct hc h
                  refine wc_region ?_
                  iterate 2 refine wl_pure tt_ok rfl rfl ?_
                  refine wl_pure (v := .pointer (some ⟨p0b, 2, none⟩)) tt_ok rfl rfl ?_
                  apply wl_store tt_ok; rfl; exact Upd.here; rfl; rfl; rfl; rfl; rfl; rfl
                  refine wl_nil ?_
                  simp only [Option.some.injEq] at h
                  obtain rfl := h
                  exact wx_join ⟨rfl, rfl⟩ (agree_cons rfl (agree_cons rfl (agree_cons rfl (agree_cons rfl agree_nil)))) (pSub (pCons Sel.hc (pCons Sel.hc (pApp Sel.ha pNil))))
                replace h := cf hc h
                refine wc_skip ?_
                simp only [Option.some.injEq] at h
                obtain rfl := h
                exact wx_join ⟨rfl, rfl⟩ (agree_cons rfl (agree_cons rfl (agree_cons rfl (agree_cons rfl agree_nil)))) (pSub (pCons Sel.hc (pCons Sel.hc (pApp Sel.ha pNil))))
              rintro _ _ ⟨rfl, rfl⟩
              have h := hj36; clear hj36
              refine wc_k2 (Ls := (⟨p0b, [.int .u64 o20_0.Rows, .slice o20_0a0 o20_0n0 o20_0c0, .bool j36_p0_f2], p0t, (0, 0)⟩ :: (⟨b10, [.int .u64 j28_n10.F, .int .u64 j28_n10.Sum.1, .int .u64 j28_n10.Sum.2, .bool j28_n10.Is.1, .bool j28_n10.Is.2], 77, (0, 0)⟩ :: (o20_0B0 ++ [])))) [7] [7] [0, 1, 3, 7, 0, 0, 63, 127] [0, 1, 2, 3, 4, 5, 6, 7] (by kernel_rfl) (by kernel_rfl) (by kernel_rfl) ?_
              refine k_val rfl rfl rfl (pSub (pCons Sel.hc (pCons Sel.hc (pApp Sel.ha pNil)))) (stepV_ok tt_ok rfl) rfl ?_
              refine k_val rfl rfl rfl (pSub (pCons Sel.hc (pCons Sel.hc (pApp Sel.ha pNil)))) (stepV_ok tt_ok rfl) rfl ?_
              refine k_val (v := .pointer (some ⟨p0b, 1, none⟩)) rfl rfl rfl (pSub (pCons Sel.hc (pCons Sel.hc (pApp Sel.ha pNil)))) (stepV_ok tt_ok rfl) rfl ?_
              refine k_val (v := .slice o20_0a0 o20_0n0 o20_0c0) rfl rfl rfl (pSub (pCons Sel.hc (pCons Sel.hc (pApp Sel.ha pNil)))) (val_load tt_ok rfl (List.Mem.head _) rfl) rfl ?_
              refine k_val rfl rfl rfl (pSub (pCons Sel.hc (pCons Sel.hc (pApp Sel.ha pNil)))) (stepV_ok tt_ok rfl) rfl ?_
              refine k_val (v := .agg #[.int .u64 j28_n10.F, .int .u64 j28_n10.Sum.1, .int .u64 j28_n10.Sum.2, .bool j28_n10.Is.1, .bool j28_n10.Is.2]) rfl rfl rfl (pSub (pCons Sel.hc (pCons Sel.hc (pApp Sel.ha pNil)))) (val_load tt_ok rfl (List.Mem.tail _ (List.Mem.head _)) rfl) rfl ?_
              replace h := bsome h; obtain ⟨v83, x83, h⟩ := h
              refine k_val (v := .pointer (some ((adOf o20_0a0).add (v20.toNat * 5 + 0)))) rfl rfl rfl (pSub (pCons Sel.hc (pCons Sel.hc (pApp Sel.ha pNil)))) (val_ix (enc := c_T_hindcastref29_Entry) tt_ok rfl rfl rfl rfl o20_0N0 (Rds.of_vec o20_0V0) c_T_hindcastref29_Entry_len rfl x83) rfl ?_
              refine k_chg0 rfl rfl rfl (chg_ste (enc := c_T_hindcastref29_Entry) (y' := j28_n10) tt_ok rfl rfl rfl rfl rfl rfl o20_0N0 o20_0V0 (Sel.sc (Sel.sc Sel.ha)) c_T_hindcastref29_Entry_len x83 rfl (by intro h; cases h)) (.inl rfl) ?_
              rintro _ _ ⟨Bs39_7, Ns39_7, Vs39_7, rfl⟩
              refine k_end (by kernel_rfl) ?_
              simp only [Option.some.injEq, Prod.mk.injEq] at h
              obtain ⟨rfl, rfl⟩ := h
              exact wx_join ⟨o20_0a0, o20_0n0, o20_0c0, Bs39_7, Ns39_7, Vs39_7, rfl, rfl⟩ (agree_cons rfl (agree_cons rfl agree_nil)) (pSub (pCons (Sel.sa Sel.hc) (pApp Sel.ha pNil)))
            replace h := cf hc h
            refine wl_skip rfl rfl ?_
            refine wl_skip rfl rfl ?_
            refine wl_skip rfl rfl ?_
            refine wl_skip rfl rfl ?_
            refine wl_skip rfl rfl ?_
            refine wl_skip rfl rfl ?_
            refine wl_skip rfl rfl ?_
            simp only [Option.some.injEq, Prod.mk.injEq] at h
            obtain rfl := h
            have h := hg73; clear hg73
            refine wl_pure (v := .bool false) tt_ok rfl rfl ?_
            refine wl_nil (wx_then ?_)
            replace h := bsome h; obtain ⟨j36_p0_f2, h, hj36⟩ := h
            refine wc_join2 (fun E L => E = [(0, .pointer (some ⟨p0b, 0, none⟩)), (8, .int .i64 (0 : Int)), (9, .int .i64 v20), (10, .pointer (some ⟨b10, 0, none⟩))] ∧ L = (⟨p0b, [.int .u64 o20_0.Rows, .slice o20_0a0 o20_0n0 o20_0c0, .bool j36_p0_f2], p0t, (0, 0)⟩ :: (⟨b10, [.int .u64 j28_n10.F, .int .u64 j28_n10.Sum.1, .int .u64 j28_n10.Sum.2, .bool j28_n10.Is.1, .bool j28_n10.Is.2], 77, (0, 0)⟩ :: (o20_0B0 ++ [])))) ?_ ?_
            · replace h := cf rfl h
              refine wc_cond_false rfl ?_
              refine wc_skip ?_
              simp only [Option.some.injEq] at h
              obtain rfl := h
              exact wx_join ⟨rfl, rfl⟩ (agree_cons rfl (agree_cons rfl (agree_cons rfl (agree_cons rfl agree_nil)))) (pSub (pCons Sel.hc (pCons Sel.hc (pApp Sel.ha pNil))))
            rintro _ _ ⟨rfl, rfl⟩
            have h := hj36; clear hj36
            refine wc_k2 (Ls := (⟨p0b, [.int .u64 o20_0.Rows, .slice o20_0a0 o20_0n0 o20_0c0, .bool j36_p0_f2], p0t, (0, 0)⟩ :: (⟨b10, [.int .u64 j28_n10.F, .int .u64 j28_n10.Sum.1, .int .u64 j28_n10.Sum.2, .bool j28_n10.Is.1, .bool j28_n10.Is.2], 77, (0, 0)⟩ :: (o20_0B0 ++ [])))) [7] [7] [0, 1, 3, 7, 0, 0, 63, 127] [0, 1, 2, 3, 4, 5, 6, 7] (by kernel_rfl) (by kernel_rfl) (by kernel_rfl) ?_
            refine k_val rfl rfl rfl (pSub (pCons Sel.hc (pCons Sel.hc (pApp Sel.ha pNil)))) (stepV_ok tt_ok rfl) rfl ?_
            refine k_val rfl rfl rfl (pSub (pCons Sel.hc (pCons Sel.hc (pApp Sel.ha pNil)))) (stepV_ok tt_ok rfl) rfl ?_
            refine k_val (v := .pointer (some ⟨p0b, 1, none⟩)) rfl rfl rfl (pSub (pCons Sel.hc (pCons Sel.hc (pApp Sel.ha pNil)))) (stepV_ok tt_ok rfl) rfl ?_
            refine k_val (v := .slice o20_0a0 o20_0n0 o20_0c0) rfl rfl rfl (pSub (pCons Sel.hc (pCons Sel.hc (pApp Sel.ha pNil)))) (val_load tt_ok rfl (List.Mem.head _) rfl) rfl ?_
            refine k_val rfl rfl rfl (pSub (pCons Sel.hc (pCons Sel.hc (pApp Sel.ha pNil)))) (stepV_ok tt_ok rfl) rfl ?_
            refine k_val (v := .agg #[.int .u64 j28_n10.F, .int .u64 j28_n10.Sum.1, .int .u64 j28_n10.Sum.2, .bool j28_n10.Is.1, .bool j28_n10.Is.2]) rfl rfl rfl (pSub (pCons Sel.hc (pCons Sel.hc (pApp Sel.ha pNil)))) (val_load tt_ok rfl (List.Mem.tail _ (List.Mem.head _)) rfl) rfl ?_
            replace h := bsome h; obtain ⟨v83, x83, h⟩ := h
            refine k_val (v := .pointer (some ((adOf o20_0a0).add (v20.toNat * 5 + 0)))) rfl rfl rfl (pSub (pCons Sel.hc (pCons Sel.hc (pApp Sel.ha pNil)))) (val_ix (enc := c_T_hindcastref29_Entry) tt_ok rfl rfl rfl rfl o20_0N0 (Rds.of_vec o20_0V0) c_T_hindcastref29_Entry_len rfl x83) rfl ?_
            refine k_chg0 rfl rfl rfl (chg_ste (enc := c_T_hindcastref29_Entry) (y' := j28_n10) tt_ok rfl rfl rfl rfl rfl rfl o20_0N0 o20_0V0 (Sel.sc (Sel.sc Sel.ha)) c_T_hindcastref29_Entry_len x83 rfl (by intro h; cases h)) (.inl rfl) ?_
            rintro _ _ ⟨Bs39_7, Ns39_7, Vs39_7, rfl⟩
            refine k_end (by kernel_rfl) ?_
            simp only [Option.some.injEq, Prod.mk.injEq] at h
            obtain ⟨rfl, rfl⟩ := h
            exact wx_join ⟨o20_0a0, o20_0n0, o20_0c0, Bs39_7, Ns39_7, Vs39_7, rfl, rfl⟩ (agree_cons rfl (agree_cons rfl agree_nil)) (pSub (pCons (Sel.sa Sel.hc) (pApp Sel.ha pNil)))
          replace h := cf hc h
          refine wl_skip rfl rfl ?_
          refine wl_skip rfl rfl ?_
          refine wl_skip rfl rfl ?_
          simp only [Option.some.injEq, Prod.mk.injEq] at h
          obtain rfl := h
          have h := hg64; clear hg64
          refine wl_pure (v := .bool false) tt_ok rfl rfl ?_
          refine wl_pure tt_ok rfl rfl ?_
          replace h := bsome h; obtain ⟨v73, h, hg73⟩ := h
          replace h := cf rfl h
          refine wl_skip rfl rfl ?_
          refine wl_skip rfl rfl ?_
          refine wl_skip rfl rfl ?_
          refine wl_skip rfl rfl ?_
          refine wl_skip rfl rfl ?_
          refine wl_skip rfl rfl ?_
          refine wl_skip rfl rfl ?_
          simp only [Option.some.injEq, Prod.mk.injEq] at h
          obtain rfl := h
          have h := hg73; clear hg73
          refine wl_pure (v := .bool false) tt_ok rfl rfl ?_
          refine wl_nil (wx_then ?_)
          replace h := bsome h; obtain ⟨j36_p0_f2, h, hj36⟩ := h
          refine wc_join2 (fun E L => E = [(0, .pointer (some ⟨p0b, 0, none⟩)), (8, .int .i64 (0 : Int)), (9, .int .i64 v20), (10, .pointer (some ⟨b10, 0, none⟩))] ∧ L = (⟨p0b, [.int .u64 o20_0.Rows, .slice o20_0a0 o20_0n0 o20_0c0, .bool j36_p0_f2], p0t, (0, 0)⟩ :: (⟨b10, [.int .u64 j28_n10.F, .int .u64 j28_n10.Sum.1, .int .u64 j28_n10.Sum.2, .bool j28_n10.Is.1, .bool j28_n10.Is.2], 77, (0, 0)⟩ :: (o20_0B0 ++ [])))) ?_ ?_
          · replace h := cf rfl h
            refine wc_cond_false rfl ?_
            refine wc_skip ?_
            simp only [Option.some.injEq] at h
            obtain rfl := h
            exact wx_join ⟨rfl, rfl⟩ (agree_cons rfl (agree_cons rfl (agree_cons rfl (agree_cons rfl agree_nil)))) (pSub (pCons Sel.hc (pCons Sel.hc (pApp Sel.ha pNil))))
          rintro _ _ ⟨rfl, rfl⟩
          have h := hj36; clear hj36
          refine wc_k2 (Ls := (⟨p0b, [.int .u64 o20_0.Rows, .slice o20_0a0 o20_0n0 o20_0c0, .bool j36_p0_f2], p0t, (0, 0)⟩ :: (⟨b10, [.int .u64 j28_n10.F, .int .u64 j28_n10.Sum.1, .int .u64 j28_n10.Sum.2, .bool j28_n10.Is.1, .bool j28_n10.Is.2], 77, (0, 0)⟩ :: (o20_0B0 ++ [])))) [7] [7] [0, 1, 3, 7, 0, 0, 63, 127] [0, 1, 2, 3, 4, 5, 6, 7] (by kernel_rfl) (by kernel_rfl) (by kernel_rfl) ?_
          refine k_val rfl rfl rfl (pSub (pCons Sel.hc (pCons Sel.hc (pApp Sel.ha pNil)))) (stepV_ok tt_ok rfl) rfl ?_
          refine k_val rfl rfl rfl (pSub (pCons Sel.hc (pCons Sel.hc (pApp Sel.ha pNil)))) (stepV_ok tt_ok rfl) rfl ?_
          refine k_val (v := .pointer (some ⟨p0b, 1, none⟩)) rfl rfl rfl (pSub (pCons Sel.hc (pCons Sel.hc (pApp Sel.ha pNil)))) (stepV_ok tt_ok rfl) rfl ?_
          refine k_val (v := .slice o20_0a0 o20_0n0 o20_0c0) rfl rfl rfl (pSub (pCons Sel.hc (pCons Sel.hc (pApp Sel.ha pNil)))) (val_load tt_ok rfl (List.Mem.head _) rfl) rfl ?_
          refine k_val rfl rfl rfl (pSub (pCons Sel.hc (pCons Sel.hc (pApp Sel.ha pNil)))) (stepV_ok tt_ok rfl) rfl ?_
          refine k_val (v := .agg #[.int .u64 j28_n10.F, .int .u64 j28_n10.Sum.1, .int .u64 j28_n10.Sum.2, .bool j28_n10.Is.1, .bool j28_n10.Is.2]) rfl rfl rfl (pSub (pCons Sel.hc (pCons Sel.hc (pApp Sel.ha pNil)))) (val_load tt_ok rfl (List.Mem.tail _ (List.Mem.head _)) rfl) rfl ?_
          replace h := bsome h; obtain ⟨v83, x83, h⟩ := h
          refine k_val (v := .pointer (some ((adOf o20_0a0).add (v20.toNat * 5 + 0)))) rfl rfl rfl (pSub (pCons Sel.hc (pCons Sel.hc (pApp Sel.ha pNil)))) (val_ix (enc := c_T_hindcastref29_Entry) tt_ok rfl rfl rfl rfl o20_0N0 (Rds.of_vec o20_0V0) c_T_hindcastref29_Entry_len rfl x83) rfl ?_
          refine k_chg0 rfl rfl rfl (chg_ste (enc := c_T_hindcastref29_Entry) (y' := j28_n10) tt_ok rfl rfl rfl rfl rfl rfl o20_0N0 o20_0V0 (Sel.sc (Sel.sc Sel.ha)) c_T_hindcastref29_Entry_len x83 rfl (by intro h; cases h)) (.inl rfl) ?_
          rintro _ _ ⟨Bs39_7, Ns39_7, Vs39_7, rfl⟩
          refine k_end (by kernel_rfl) ?_
          simp only [Option.some.injEq, Prod.mk.injEq] at h
          obtain ⟨rfl, rfl⟩ := h
          exact wx_join ⟨o20_0a0, o20_0n0, o20_0c0, Bs39_7, Ns39_7, Vs39_7, rfl, rfl⟩ (agree_cons rfl (agree_cons rfl agree_nil)) (pSub (pCons (Sel.sa Sel.hc) (pApp Sel.ha pNil)))
        replace h := cf hc h
        refine wl_skip rfl rfl ?_
        refine wl_skip rfl rfl ?_
        refine wl_skip rfl rfl ?_
        refine wl_skip rfl rfl ?_
        refine wl_skip rfl rfl ?_
        refine wl_skip rfl rfl ?_
        simp only [Option.some.injEq, Prod.mk.injEq] at h
        obtain rfl := h
        have h := hg41; clear hg41
        refine wl_pure (v := .bool false) tt_ok rfl rfl ?_
        refine wl_nil (wx_then ?_)
        replace h := bsome h; obtain ⟨j22_p0_f2, h, hj22⟩ := h
        refine wc_join2 (fun E L => E = [(0, .pointer (some ⟨p0b, 0, none⟩)), (1, .int .i64 p1), (3, .int .u64 p3), (8, .int .i64 (0 : Int)), (9, .int .i64 v20), (10, .pointer (some ⟨b10, 0, none⟩))] ∧ L = (⟨p0b, [.int .u64 o20_0.Rows, .slice o20_0a0 o20_0n0 o20_0c0, .bool j22_p0_f2], p0t, (0, 0)⟩ :: (⟨b10, [.int .u64 v28.F, .int .u64 v28.Sum.1, .int .u64 v28.Sum.2, .bool v28.Is.1, .bool v28.Is.2], 77, (0, 0)⟩ :: (o20_0B0 ++ [])))) ?_ ?_
        · replace h := cf rfl h
          refine wc_cond_false rfl ?_
          refine wc_skip ?_
          simp only [Option.some.injEq] at h
          obtain rfl := h
          exact wx_join ⟨rfl, rfl⟩ (agree_cons rfl (agree_cons rfl (agree_cons rfl (agree_cons rfl (agree_cons rfl (agree_cons rfl agree_nil)))))) (pSub (pCons (Sel.sc Sel.hc) (pCons Sel.hc (pApp Sel.ha pNil))))
        rintro _ _ ⟨rfl, rfl⟩
        have h := hj22; clear hj22
        refine wc_seq (wc_seq (wc_region ?_))
        refine wl_pure tt_ok rfl rfl ?_
        refine wl_pure (v := .pointer (some ⟨b10, 3, none⟩)) tt_ok rfl rfl ?_
        refine wl_val (v := .pointer (some ⟨b10, 4, none⟩)) (val_ia (j := 1) tt_ok rfl rfl rfl rfl (by simpa using hx321) rfl rfl) rfl ?_
        refine wl_val (v := .bool v28.Is.2) (val_load tt_ok rfl (List.Mem.tail _ (List.Mem.head _)) rfl) rfl ?_
        refine wl_pure (v := .bool (!v28.Is.2)) tt_ok rfl rfl ?_
        refine wl_nil (wx_then ?_)
        replace h := bsome h; obtain ⟨j28_n10, h, hj28⟩ := h
        refine wc_join2 (fun E L => E = [(0, .pointer (some ⟨p0b, 0, none⟩)), (8, .int .i64 (0 : Int)), (9, .int .i64 v20), (10, .pointer (some ⟨b10, 0, none⟩))] ∧ L = (⟨p0b, [.int .u64 o20_0.Rows, .slice o20_0a0 o20_0n0 o20_0c0, .bool j22_p0_f2], p0t, (0, 0)⟩ :: (⟨b10, [.int .u64 j28_n10.F, .int .u64 j28_n10.Sum.1, .int .u64 j28_n10.Sum.2, .bool j28_n10.Is.1, .bool j28_n10.Is.2], 77, (0, 0)⟩ :: (o20_0B0 ++ [])))) ?_ ?_
        · refine wc_cond rfl (fun hc => ?_) (fun hc => ?_)
          · replace h := ct hc h
            refine wc_seq (wc_region ?_)
            refine wl_pure tt_ok rfl rfl ?_
            refine wl_pure (v := .pointer (some ⟨b10, 3, none⟩)) tt_ok rfl rfl ?_
            refine wl_val (v := .pointer (some ⟨b10, 4, none⟩)) (val_ia (j := 1) tt_ok rfl rfl rfl rfl (by simpa using hx321) rfl rfl) rfl ?_
            apply wl_store tt_ok; rfl; exact (Upd.there Upd.here); rfl; rfl; rfl; rfl; rfl; rfl
            refine wl_nil (wx_then (wc_region ?_))
            iterate 2 refine wl_pure tt_ok rfl rfl ?_
            refine wl_pure (v := .pointer (some ⟨b10, 1, none⟩)) tt_ok rfl rfl ?_
            refine wl_val (v := .pointer (some ⟨b10, 2, none⟩)) (val_ia (j := 1) tt_ok rfl rfl rfl rfl (by simpa using hx321) rfl rfl) rfl ?_
            apply wl_store tt_ok; rfl; exact (Upd.there Upd.here); rfl; rfl; rfl; rfl; rfl; rfl
            refine wl_nil ?_
            simp only [Option.some.injEq] at h
            obtain rfl := h
            exact wx_join ⟨rfl, rfl⟩ (agree_cons rfl (agree_cons rfl (agree_cons rfl (agree_cons rfl agree_nil)))) (pSub (pCons Sel.hc (pCons Sel.hc (pApp Sel.ha pNil))))
          replace h := cf hc h
          refine wc_skip ?_
          simp only [Option.some.injEq] at h
          obtain rfl := h
          exact wx_join ⟨rfl, rfl⟩ (agree_cons rfl (agree_cons rfl (agree_cons rfl (agree_cons rfl agree_nil)))) (pSub (pCons Sel.hc (pCons Sel.hc (pApp Sel.ha pNil))))
        rintro _ _ ⟨rfl, rfl⟩
        have h := hj28; clear hj28
        refine wc_seq (wc_seq (wc_region ?_))
        refine wl_pure (v := .pointer (some ⟨b10, 3, none⟩)) tt_ok rfl rfl ?_
        refine wl_val (v := .pointer (some ⟨b10, 3, none⟩)) (val_ia (j := 0) tt_ok rfl rfl rfl rfl rfl rfl rfl) rfl ?_
        refine wl_val (v := .bool j28_n10.Is.1) (val_load tt_ok rfl (List.Mem.tail _ (List.Mem.head _)) rfl) rfl ?_
        refine wl_pure tt_ok rfl rfl ?_
        replace h := bsome h; obtain ⟨v64, h, hg64⟩ := h
        refine wl_split (t := 60) rfl (fun hc => ?_) (fun hc => ?_)
        · replace h := ct hc h
          refine wl_run rfl ?_
          refine wl_pure (v := .pointer (some ⟨b10, 3, none⟩)) tt_ok rfl rfl ?_
          refine wl_run rfl ?_
          refine wl_val (v := .pointer (some ⟨b10, 4, none⟩)) (val_ia (j := 1) tt_ok rfl rfl rfl rfl rfl rfl rfl) rfl ?_
          refine wl_run rfl ?_
          refine wl_val (v := .bool j28_n10.Is.2) (val_load tt_ok rfl (List.Mem.tail _ (List.Mem.head _)) rfl) rfl ?_
          simp only [Option.some.injEq, Prod.mk.injEq] at h
          obtain rfl := h
          have h := hg64; clear hg64
          refine wl_pure (v := .bool j28_n10.Is.2) tt_ok rfl rfl ?_
          refine wl_pure tt_ok rfl rfl ?_
          replace h := bsome h; obtain ⟨v73, h, hg73⟩ := h
          refine wl_split (t := 65) rfl (fun hc => ?_) (fun hc => ?_)
          · replace h := ct hc h
            refine wl_run rfl ?_
            refine wl_pure (v := .pointer (some ⟨b10, 1, none⟩)) tt_ok rfl rfl ?_
            refine wl_run rfl ?_
            refine wl_val (v := .pointer (some ⟨b10, 1, none⟩)) (val_ia (j := 0) tt_ok rfl rfl rfl rfl rfl rfl rfl) rfl ?_
            refine wl_run rfl ?_
            refine wl_val (v := .int .u64 j28_n10.Sum.1) (val_load tt_ok rfl (List.Mem.tail _ (List.Mem.head _)) rfl) rfl ?_
            refine wl_run rfl ?_
            refine wl_pure (v := .pointer (some ⟨b10, 1, none⟩)) tt_ok rfl rfl ?_
            refine wl_run rfl ?_
            refine wl_val (v := .pointer (some ⟨b10, 2, none⟩)) (val_ia (j := 1) tt_ok rfl rfl rfl rfl rfl rfl rfl) rfl ?_
            refine wl_run rfl ?_
            refine wl_val (v := .int .u64 j28_n10.Sum.2) (val_load tt_ok rfl (List.Mem.tail _ (List.Mem.head _)) rfl) rfl ?_
            refine wl_run rfl ?_
            refine wl_pure (v := .bool (j28_n10.Sum.1 != j28_n10.Sum.2)) tt_ok rfl rfl ?_
            simp only [Option.some.injEq, Prod.mk.injEq] at h
            obtain rfl := h
            have h := hg73; clear hg73
            refine wl_pure (v := .bool (j28_n10.Sum.1 != j28_n10.Sum.2)) tt_ok rfl rfl ?_
            refine wl_nil (wx_then ?_)
            replace h := bsome h; obtain ⟨j36_p0_f2, h, hj36⟩ := h
            refine wc_join2 (fun E L => E = [(0, .pointer (some ⟨p0b, 0, none⟩)), (8, .int .i64 (0 : Int)), (9, .int .i64 v20), (10, .pointer (some ⟨b10, 0, none⟩))] ∧ L = (⟨p0b, [.int .u64 o20_0.Rows, .slice o20_0a0 o20_0n0 o20_0c0, .bool j36_p0_f2], p0t, (0, 0)⟩ :: (⟨b10, [.int .u64 j28_n10.F, .int .u64 j28_n10.Sum.1, .int .u64 j28_n10.Sum.2, .bool j28_n10.Is.1, .bool j28_n10.Is.2], 77, (0, 0)⟩ :: (o20_0B0 ++ [])))) ?_ ?_
            · refine wc_cond rfl (fun hc => ?_) (fun hc => ?_)
              · replace h := ct hc h
                refine wc_region ?_
                iterate 2 refine wl_pure tt_ok rfl rfl ?_
                refine wl_pure (v := .pointer (some ⟨p0b, 2, none⟩)) tt_ok rfl rfl ?_
                apply wl_store tt_ok; rfl; exact Upd.here; rfl; rfl; rfl; rfl; rfl; rfl
                refine wl_nil ?_
                simp only [Option.some.injEq] at h
                obtain rfl := h
                exact wx_join ⟨rfl, rfl⟩ (agree_cons rfl (agree_cons rfl (agree_cons rfl (agree_cons rfl agree_nil)))) (pSub (pCons Sel.hc (pCons Sel.hc (pApp Sel.ha pNil))))
              replace h := cf hc h
              refine wc_skip ?_
              simp only [Option.some.injEq] at h
              obtain rfl := h
              exact wx_join ⟨rfl, rfl⟩ (agree_cons rfl (agree_cons rfl (agree_cons rfl (agree_cons rfl agree_nil)))) (pSub (pCons Sel.hc (pCons Sel.hc (pApp Sel.ha pNil))))
            rintro _ _ ⟨rfl, rfl⟩
            have h := hj36; clear hj36
            refine wc_k2 (Ls := (⟨p0b, [.int .u64 o20_0.Rows, .slice o20_0a0 o20_0n0 o20_0c0, .bool j36_p0_f2], p0t, (0, 0)⟩ :: (⟨b10, [.int .u64 j28_n10.F, .int .u64 j28_n10.Sum.1, .int .u64 j28_n10.Sum.2, .bool j28_n10.Is.1, .bool j28_n10.Is.2], 77, (0, 0)⟩ :: (o20_0B0 ++ [])))) [7] [7] [0, 1, 3, 7, 0, 0, 63, 127] [0, 1, 2, 3, 4, 5, 6, 7] (by kernel_rfl) (by kernel_rfl) (by kernel_rfl) ?_
            refine k_val rfl rfl rfl (pSub (pCons Sel.hc (pCons Sel.hc (pApp Sel.ha pNil)))) (stepV_ok tt_ok rfl) rfl ?_
            refine k_val rfl rfl rfl (pSub (pCons Sel.hc (pCons Sel.hc (pApp Sel.ha pNil)))) (stepV_ok tt_ok rfl) rfl ?_
            refine k_val (v := .pointer (some ⟨p0b, 1, none⟩)) rfl rfl rfl (pSub (pCons Sel.hc (pCons Sel.hc (pApp Sel.ha pNil)))) (stepV_ok tt_ok rfl) rfl ?_
            refine k_val (v := .slice o20_0a0 o20_0n0 o20_0c0) rfl rfl rfl (pSub (pCons Sel.hc (pCons Sel.hc (pApp Sel.ha pNil)))) (val_load tt_ok rfl (List.Mem.head _) rfl) rfl ?_
            refine k_val rfl rfl rfl (pSub (pCons Sel.hc (pCons Sel.hc (pApp Sel.ha pNil)))) (stepV_ok tt_ok rfl) rfl ?_
            refine k_val (v := .agg #[.int .u64 j28_n10.F, .int .u64 j28_n10.Sum.1, .int .u64 j28_n10.Sum.2, .bool j28_n10.Is.1, .bool j28_n10.Is.2]) rfl rfl rfl (pSub (pCons Sel.hc (pCons Sel.hc (pApp Sel.ha pNil)))) (val_load tt_ok rfl (List.Mem.tail _ (List.Mem.head _)) rfl) rfl ?_
            replace h := bsome h; obtain ⟨v83, x83, h⟩ := h
            refine k_val (v := .pointer (some ((adOf o20_0a0).add (v20.toNat * 5 + 0)))) rfl rfl rfl (pSub (pCons Sel.hc (pCons Sel.hc (pApp Sel.ha pNil)))) (val_ix (enc := c_T_hindcastref29_Entry) tt_ok rfl rfl rfl rfl o20_0N0 (Rds.of_vec o20_0V0) c_T_hindcastref29_Entry_len rfl x83) rfl ?_
            refine k_chg0 rfl rfl rfl (chg_ste (enc := c_T_hindcastref29_Entry) (y' := j28_n10) tt_ok rfl rfl rfl rfl rfl rfl o20_0N0 o20_0V0 (Sel.sc (Sel.sc Sel.ha)) c_T_hindcastref29_Entry_len x83 rfl (by intro h; cases h)) (.inl rfl) ?_
            rintro _ _ ⟨Bs39_7, Ns39_7, Vs39_7, rfl⟩
            refine k_end (by kernel_rfl) ?_
            simp only [Option.some.injEq, Prod.mk.injEq] at h
            obtain ⟨rfl, rfl⟩ := h
            exact wx_join ⟨o20_0a0, o20_0n0, o20_0c0, Bs39_7, Ns39_7, Vs39_7, rfl, rfl⟩ (agree_cons rfl (agree_cons rfl agree_nil)) (pSub (pCons (Sel.sa Sel.hc) (pApp Sel.ha pNil)))
          replace h := cf hc h
          refine wl_skip rfl rfl ?_
          refine wl_skip rfl rfl ?_
          refine wl_skip rfl rfl ?_
          refine wl_skip rfl rfl ?_
          refine wl_skip rfl rfl ?_
          refine wl_skip rfl rfl ?_
          refine wl_skip rfl rfl ?_
          simp only [Option.some.injEq, Prod.mk.injEq] at h
          obtain rfl := h
          have h := hg73; clear hg73
          refine wl_pure (v := .bool false) tt_ok rfl rfl ?_
          refine wl_nil (wx_then ?_)
          replace h := bsome h; obtain ⟨j36_p0_f2, h, hj36⟩ := h
          refine wc_join2 (fun E L => E = [(0, .pointer (some ⟨p0b, 0, none⟩)), (8, .int .i64 (0 : Int)), (9, .int .i64 v20), (10, .pointer (some ⟨b10, 0, none⟩))] ∧ L = (⟨p0b, [.int .u64 o20_0.Rows, .slice o20_0a0 o20_0n0 o20_0c0, .bool j36_p0_f2], p0t, (0, 0)⟩ :: (⟨b10, [.int .u64 j28_n10.F, .int .u64 j28_n10.Sum.1, .int .u64 j28_n10.Sum.2, .bool j28_n10.Is.1, .bool j28_n10.Is.2], 77, (0, 0)⟩ :: (o20_0B0 ++ [])))) ?_ ?_
          · replace h := cf rfl h
            refine wc_cond_false rfl ?_
            refine wc_skip ?_
            simp only [Option.some.injEq] at h
            obtain rfl := h
            exact wx_join ⟨rfl, rfl⟩ (agree_cons rfl (agree_cons rfl (agree_cons rfl (agree_cons rfl agree_nil)))) (pSub (pCons Sel.hc (pCons Sel.hc (pApp Sel.ha pNil))))
          rintro _ _ ⟨rfl, rfl⟩
          have h := hj36; clear hj36
          refine wc_k2 (Ls := (⟨p0b, [.int .u64 o20_0.Rows, .slice o20_0a0 o20_0n0 o20_0c0, .bool j36_p0_f2], p0t, (0, 0)⟩ :: (⟨b10, [.int .u64 j28_n10.F, .int .u64 j28_n10.Sum.1, .int .u64 j28_n10.Sum.2, .bool j28_n10.Is.1, .bool j28_n10.Is.2], 77, (0, 0)⟩ :: (o20_0B0 ++ [])))) [7] [7] [0, 1, 3, 7, 0, 0, 63, 127] [0, 1, 2, 3, 4, 5, 6, 7] (by kernel_rfl) (by kernel_rfl) (by kernel_rfl) ?_
          refine k_val rfl rfl rfl (pSub (pCons Sel.hc (pCons Sel.hc (pApp Sel.ha pNil)))) (stepV_ok tt_ok rfl) rfl ?_
          refine k_val rfl rfl rfl (pSub (pCons Sel.hc (pCons Sel.hc (pApp Sel.ha pNil)))) (stepV_ok tt_ok rfl) rfl ?_
          refine k_val (v := .pointer (some ⟨p0b, 1, none⟩)) rfl rfl rfl (pSub (pCons Sel.hc (pCons Sel.hc (pApp Sel.ha pNil)))) (stepV_ok tt_ok rfl) rfl ?_
          refine k_val (v := .slice o20_0a0 o20_0n0 o20_0c0) rfl rfl rfl (pSub (pCons Sel.hc (pCons Sel.hc (pApp Sel.ha pNil)))) (val_load tt_ok rfl (List.Mem.head _) rfl) rfl ?_
          refine k_val rfl rfl rfl (pSub (pCons Sel.hc (pCons Sel.hc (pApp Sel.ha pNil)))) (stepV_ok tt_ok rfl) rfl ?_
          refine k_val (v := .agg #[.int .u64 j28_n10.F, .int .u64 j28_n10.Sum.1, .int .u64 j28_n10.Sum.2, .bool j28_n10.Is.1, .bool j28_n10.Is.2]) rfl rfl rfl (pSub (pCons Sel.hc (pCons Sel.hc (pApp Sel.ha pNil)))) (val_load tt_ok rfl (List.Mem.tail _ (List.Mem.head _)) rfl) rfl ?_
          replace h := bsome h; obtain ⟨v83, x83, h⟩ := h
          refine k_val (v := .pointer (some ((adOf o20_0a0).add (v20.toNat * 5 + 0)))) rfl rfl rfl (pSub (pCons Sel.hc (pCons Sel.hc (pApp Sel.ha pNil)))) (val_ix (enc := c_T_hindcastref29_Entry) tt_ok rfl rfl rfl rfl o20_0N0 (Rds.of_vec o20_0V0) c_T_hindcastref29_Entry_len rfl x83) rfl ?_
          refine k_chg0 rfl rfl rfl (chg_ste (enc := c_T_hindcastref29_Entry) (y' := j28_n10) tt_ok rfl rfl rfl rfl rfl rfl o20_0N0 o20_0V0 (Sel.sc (Sel.sc Sel.ha)) c_T_hindcastref29_Entry_len x83 rfl (by intro h; cases h)) (.inl rfl) ?_
          rintro _ _ ⟨Bs39_7, Ns39_7, Vs39_7, rfl⟩
          refine k_end (by kernel_rfl) ?_
          simp only [Option.some.injEq, Prod.mk.injEq] at h
          obtain ⟨rfl, rfl⟩ := h
          exact wx_join ⟨o20_0a0, o20_0n0, o20_0c0, Bs39_7, Ns39_7, Vs39_7, rfl, rfl⟩ (agree_cons rfl (agree_cons rfl agree_nil)) (pSub (pCons (Sel.sa Sel.hc) (pApp Sel.ha pNil)))
        replace h := cf hc h
        refine wl_skip rfl rfl ?_
        refine wl_skip rfl rfl ?_
        refine wl_skip rfl rfl ?_
        simp only [Option.some.injEq, Prod.mk.injEq] at h
        obtain rfl := h
        have h := hg64; clear hg64
        refine wl_pure (v := .bool false) tt_ok rfl rfl ?_
        refine wl_pure tt_ok rfl rfl ?_
        replace h := bsome h; obtain ⟨v73, h, hg73⟩ := h
        replace h := cf rfl h
        refine wl_skip rfl rfl ?_
        refine wl_skip rfl rfl ?_
        refine wl_skip rfl rfl ?_
        refine wl_skip rfl rfl ?_
        refine wl_skip rfl rfl ?_
        refine wl_skip rfl rfl ?_
        refine wl_skip rfl rfl ?_
        simp only [Option.some.injEq, Prod.mk.injEq] at h
        obtain rfl := h
        have h := hg73; clear hg73
        refine wl_pure (v := .bool false) tt_ok rfl rfl ?_
        refine wl_nil (wx_then ?_)
        replace h := bsome h; obtain ⟨j36_p0_f2, h, hj36⟩ := h
        refine wc_join2 (fun E L => E = [(0, .pointer (some ⟨p0b, 0, none⟩)), (8, .int .i64 (0 : Int)), (9, .int .i64 v20), (10, .pointer (some ⟨b10, 0, none⟩))] ∧ L = (⟨p0b, [.int .u64 o20_0.Rows, .slice o20_0a0 o20_0n0 o20_0c0, .bool j36_p0_f2], p0t, (0, 0)⟩ :: (⟨b10, [.int .u64 j28_n10.F, .int .u64 j28_n10.Sum.1, .int .u64 j28_n10.Sum.2, .bool j28_n10.Is.1, .bool j28_n10.Is.2], 77, (0, 0)⟩ :: (o20_0B0 ++ [])))) ?_ ?_
        · replace h := cf rfl h
          refine wc_cond_false rfl ?_
          refine wc_skip ?_
          simp only [Option.some.injEq] at h
          obtain rfl := h
          exact wx_join ⟨rfl, rfl⟩ (agree_cons rfl (agree_cons rfl (agree_cons rfl (agree_cons rfl agree_nil)))) (pSub (pCons Sel.hc (pCons Sel.hc (pApp Sel.ha pNil))))
        rintro _ _ ⟨rfl, rfl⟩
        have h := hj36; clear hj36
        refine wc_k2 (Ls := (⟨p0b, [.int .u64 o20_0.Rows, .slice o20_0a0 o20_0n0 o20_0c0, .bool j36_p0_f2], p0t, (0, 0)⟩ :: (⟨b10, [.int .u64 j28_n10.F, .int .u64 j28_n10.Sum.1, .int .u64 j28_n10.Sum.2, .bool j28_n10.Is.1, .bool j28_n10.Is.2], 77, (0, 0)⟩ :: (o20_0B0 ++ [])))) [7] [7] [0, 1, 3, 7, 0, 0, 63, 127] [0, 1, 2, 3, 4, 5, 6, 7] (by kernel_rfl) (by kernel_rfl) (by kernel_rfl) ?_
        refine k_val rfl rfl rfl (pSub (pCons Sel.hc (pCons Sel.hc (pApp Sel.ha pNil)))) (stepV_ok tt_ok rfl) rfl ?_
        refine k_val rfl rfl rfl (pSub (pCons Sel.hc (pCons Sel.hc (pApp Sel.ha pNil)))) (stepV_ok tt_ok rfl) rfl ?_
        refine k_val (v := .pointer (some ⟨p0b, 1, none⟩)) rfl rfl rfl (pSub (pCons Sel.hc (pCons Sel.hc (pApp Sel.ha pNil)))) (stepV_ok tt_ok rfl) rfl ?_
        refine k_val (v := .slice o20_0a0 o20_0n0 o20_0c0) rfl rfl rfl (pSub (pCons Sel.hc (pCons Sel.hc (pApp Sel.ha pNil)))) (val_load tt_ok rfl (List.Mem.head _) rfl) rfl ?_
        refine k_val rfl rfl rfl (pSub (pCons Sel.hc (pCons Sel.hc (pApp Sel.ha pNil)))) (stepV_ok tt_ok rfl) rfl ?_
        refine k_val (v := .agg #[.int .u64 j28_n10.F, .int .u64 j28_n10.Sum.1, .int .u64 j28_n10.Sum.2, .bool j28_n10.Is.1, .bool j28_n10.Is.2]) rfl rfl rfl (pSub (pCons Sel.hc (pCons Sel.hc (pApp Sel.ha pNil)))) (val_load tt_ok rfl (List.Mem.tail _ (List.Mem.head _)) rfl) rfl ?_
        replace h := bsome h; obtain ⟨v83, x83, h⟩ := h
        refine k_val (v := .pointer (some ((adOf o20_0a0).add (v20.toNat * 5 + 0)))) rfl rfl rfl (pSub (pCons Sel.hc (pCons Sel.hc (pApp Sel.ha pNil)))) (val_ix (enc := c_T_hindcastref29_Entry) tt_ok rfl rfl rfl rfl o20_0N0 (Rds.of_vec o20_0V0) c_T_hindcastref29_Entry_len rfl x83) rfl ?_
        refine k_chg0 rfl rfl rfl (chg_ste (enc := c_T_hindcastref29_Entry) (y' := j28_n10) tt_ok rfl rfl rfl rfl rfl rfl o20_0N0 o20_0V0 (Sel.sc (Sel.sc Sel.ha)) c_T_hindcastref29_Entry_len x83 rfl (by intro h; cases h)) (.inl rfl) ?_
        rintro _ _ ⟨Bs39_7, Ns39_7, Vs39_7, rfl⟩
        refine k_end (by kernel_rfl) ?_
        simp only [Option.some.injEq, Prod.mk.injEq] at h
        obtain ⟨rfl, rfl⟩ := h
        exact wx_join ⟨o20_0a0, o20_0n0, o20_0c0, Bs39_7, Ns39_7, Vs39_7, rfl, rfl⟩ (agree_cons rfl (agree_cons rfl agree_nil)) (pSub (pCons (Sel.sa Sel.hc) (pApp Sel.ha pNil)))
      replace h := cf hx321 h
      cases h
    replace h := cf hc h
    refine wc_skip ?_
    simp only [Option.some.injEq, Prod.mk.injEq] at h
    obtain ⟨rfl, rfl⟩ := h
    exact wx_join ⟨o20_0a0, o20_0n0, o20_0c0, o20_0B0, o20_0N0, o20_0V0, rfl, rfl⟩ (agree_cons rfl (agree_cons rfl agree_nil)) (pSub (pCons Sel.hc (pApp Sel.ha pNil)))
  rintro _ _ ⟨j16_p0_f1a0, j16_p0_f1n0, j16_p0_f1c0, j16_p0_f1B0, j16_p0_f1N0, j16_p0_f1V0, rfl, rfl⟩
  have h := hj16; clear hj16
  refine wc_seq (wc_seq (wc_region ?_))
  iterate 2 refine wl_pure tt_ok rfl rfl ?_
  refine wl_pure (v := .pointer (some ⟨p0b, 2, none⟩)) tt_ok rfl rfl ?_
  refine wl_val (v := .bool j16_p0_f2) (val_load tt_ok rfl (List.Mem.head _) rfl) rfl ?_
  refine wl_nil (wx_then ?_)
  refine wc_cond rfl (fun hc => ?_) (fun hc => ?_)
  · replace h := ct hc h
    refine wc_seq (wc_region ?_)
    refine wl_pure tt_ok rfl rfl ?_
    refine wl_nil (wx_then (wc_ret (wx_then_ret ?_)))
    simp only [Option.some.injEq, Prod.mk.injEq] at h
    obtain ⟨rfl, rfl⟩ := h
    exact wx_spD tt_ok (.inl rfl) Tryd.results22 (Res.tmp rfl Res.nil) ⟨j16_p0_f1a0, j16_p0_f1n0, j16_p0_f1c0, j16_p0_f1B0, j16_p0_f1N0, j16_p0_f1V0, rfl, rfl⟩ (fun F => by simp) (pSub (pCons Sel.hc (pApp Sel.ha pNil)))
  replace h := cf hc h
  refine wc_skip (wx_then (wc_seq (wc_region ?_)))
  refine wl_pure tt_ok rfl rfl ?_
  refine wl_nil (wx_then (wc_ret ?_))
  simp only [Option.some.injEq, Prod.mk.injEq] at h
  obtain ⟨rfl, rfl⟩ := h
  exact wx_spD tt_ok (.inl rfl) Tryd.results22 (Res.tmp rfl Res.nil) ⟨j16_p0_f1a0, j16_p0_f1n0, j16_p0_f1c0, j16_p0_f1B0, j16_p0_f1N0, j16_p0_f1V0, rfl, rfl⟩ (fun F => by simp) (pSub (pCons Sel.hc (pApp Sel.ha pNil)))

theorem k_state_ofPlayer {F : Nat} {p0 : T_api_Player} {r0 : (List Int)} (h : m_state_ofPlayer F p0 = some r0) :
    SpD Tryd.prog 47 [.agg #[.int .i32 p0.X, .int .i32 p0.Y, .int .i32 p0.VX, .int .i32 p0.VY, .int .u8 p0.Health, .int .u8 p0.Cool, .int .u8 p0.Face]] [] (fun w => True) (fun v D => ∃ (r0a0 : Option Addr) (r0n0 : Nat) (r0c0 : Nat) (r0B0 : List Blk), r0n0 = r0.length ∧ Own 21 1 r0a0 r0n0 r0c0 (flat (e1 .i32) r0) r0B0 ∧ v = .slice r0a0 r0n0 r0c0 ∧ D = fun F => (r0B0 ++ F)) := by
  unfold m_state_ofPlayer at h
  refine sp_of_wc Tryd.func47 rfl Tryd.ntmps47 rfl rfl (fun w0 hR => ?_)
  refine wc_seq (wc_region ?_)
  refine wl_box rfl rfl rfl (fun b1 => ?_)
  refine wl_pure tt_ok rfl rfl ?_
  refine wl_nil (wx_then (wc_seq (wc_region ?_)))
  refine wl_pure (v := .pointer (some ⟨b1, 0, none⟩)) tt_ok rfl rfl ?_
  refine wl_val (v := .int .i32 p0.X) (val_load tt_ok rfl (List.Mem.head _) rfl) rfl ?_
  refine wl_pure (v := .pointer (some ⟨b1, 1, none⟩)) tt_ok rfl rfl ?_
  refine wl_val (v := .int .i32 p0.Y) (val_load tt_ok rfl (List.Mem.head _) rfl) rfl ?_
  refine wl_pure (v := .pointer (some ⟨b1, 2, none⟩)) tt_ok rfl rfl ?_
  refine wl_val (v := .int .i32 p0.VX) (val_load tt_ok rfl (List.Mem.head _) rfl) rfl ?_
  refine wl_pure (v := .pointer (some ⟨b1, 3, none⟩)) tt_ok rfl rfl ?_
  refine wl_val (v := .int .i32 p0.VY) (val_load tt_ok rfl (List.Mem.head _) rfl) rfl ?_
  refine wl_pure (v := .pointer (some ⟨b1, 4, none⟩)) tt_ok rfl rfl ?_
  refine wl_val (v := .int .u8 p0.Health) (val_load tt_ok rfl (List.Mem.head _) rfl) rfl ?_
  refine wl_pure (v := .int .i32 (IntKind.wrap .i32 p0.Health)) tt_ok rfl rfl ?_
  refine wl_pure (v := .pointer (some ⟨b1, 5, none⟩)) tt_ok rfl rfl ?_
  refine wl_val (v := .int .u8 p0.Cool) (val_load tt_ok rfl (List.Mem.head _) rfl) rfl ?_
  refine wl_pure (v := .int .i32 (IntKind.wrap .i32 p0.Cool)) tt_ok rfl rfl ?_
  refine wl_pure (v := .pointer (some ⟨b1, 6, none⟩)) tt_ok rfl rfl ?_
  refine wl_val (v := .int .u8 p0.Face) (val_load tt_ok rfl (List.Mem.head _) rfl) rfl ?_
  refine wl_pure (v := .int .i32 (IntKind.wrap .i32 p0.Face)) tt_ok rfl rfl ?_
  refine wl_chg (chg_bsv (enc := (e1 .i32)) (xs := ([p0.X, p0.Y, p0.VX, p0.VY, (IntKind.wrap .i32 p0.Health), (IntKind.wrap .i32 p0.Cool), (IntKind.wrap .i32 p0.Face)] : List Int)) tt_ok rfl rfl rfl rfl rfl rfl rfl rfl (e1_len _)) rfl ?_
  rintro _ _ ⟨a20, n20_, c20, B20, rfl, N20, V20, rfl⟩
  refine wl_pure tt_ok rfl rfl ?_
  refine wl_nil (wx_then (wc_ret ?_))
  simp only [Option.some.injEq] at h
  obtain rfl := h
  exact wx_spD tt_ok (.inl rfl) Tryd.results47 (Res.tmp rfl Res.nil) ⟨a20, n20_, c20, B20, N20, V20, rfl, rfl⟩ (fun F => by simp) (pSub (pApp Sel.ha pNil))

theorem k_state_within {F : Nat} {p0 : (List Int)} {p0a0 : Option Addr} {p0n0 p0c0 : Nat} {p1 : (List (Int × Int))} {p1a0 : Option Addr} {p1n0 p1c0 : Nat} {r0 : Bool} (p0N0 : p0n0 = p0.length) (p0H0 : p0n0 ≤ p0c0) (p1N0 : p1n0 = p1.length) (p1H0 : p1n0 ≤ p1c0) (h : m_state_within F p0 p1 = some r0) :
    Pf Tryd.prog 53 [.slice p0a0 p0n0 p0c0, .slice p1a0 p1n0 p1c0] (fun w => Rds w [] [] p0a0 (flat (e1 .i32) p0) ∧ Rds w [] [] p1a0 (flat (e2 .i32) p1)) (.bool r0) := by
  unfold m_state_within at h
  refine pf_of_wc Tryd.func53 rfl Tryd.ntmps53 rfl rfl (fun w0 hR => ?_)
  obtain ⟨p0S0, p1S0⟩ := hR
  refine wc_seq (wc_region ?_)
  refine wl_pure tt_ok rfl rfl ?_
  refine wl_nil (wx_then (wc_seq (wc_seq (wc_region ?_))))
  refine wl_pure tt_ok rfl rfl ?_
  refine wl_val (v := .int .i64 (p0.length : Int)) (val_len tt_ok rfl rfl p0N0) rfl ?_
  refine wl_pure tt_ok rfl rfl ?_
  refine wl_nil (wx_then (wc_block ?_))
  replace h := bsome h; obtain ⟨o7, h, hl7⟩ := h
  refine wc_loop (fun m E L => ∃ (j7_8 : Int), m_state_within_L6 F p0 p1 m j7_8 = some o7 ∧ E = [(0, .slice p0a0 p0n0 p0c0), (1, .slice p1a0 p1n0 p1c0), (4, .bool false), (7, .int .i64 (p0.length : Int)), (8, .int .i64 j7_8)] ∧ L = []) F ⟨(0 : Int), h, rfl, rfl⟩ (agree_cons rfl (agree_cons rfl (agree_cons rfl (agree_cons rfl (agree_cons rfl agree_nil))))) (pSub pNil) ?_
  clear h
  rintro m7 _ _ ⟨j7_8, h, rfl, rfl⟩
  rcases m7 with _ | m7
  · rw [m_state_within_L6.eq_1] at h; cases h
  rw [m_state_within_L6.eq_2] at h
  refine wc_seq (wc_region ?_)
  refine wl_pure (v := .bool (decide (j7_8 < (p0.length : Int)))) tt_ok rfl rfl ?_
  refine wl_nil (wx_then (wc_seq ?_))
  refine wc_cond rfl (fun hc => ?_) (fun hc => ?_)
  · replace h := ct hc h
    refine wc_skip (wx_then (wc_seq (wc_block (wc_seq (wc_region ?_)))))
    iterate 2 refine wl_pure tt_ok rfl rfl ?_
    refine wl_nil (wx_then (wc_seq ?_))
    refine wc_quiet (by kernel_rfl) (by kernel_rfl) ?_
    refine wq_pure tt_ok rfl rfl ?_
    refine wq_pure tt_ok rfl rfl ?_
    replace h := bsome h; obtain ⟨v13, x13, h⟩ := h
    refine wq_val (v := .pointer (some ((adOf p0a0).add (j7_8.toNat * 1 + 0)))) (val_ix (enc := (e1 .i32)) tt_ok rfl rfl rfl rfl p0N0 p0S0 (e1_len _) rfl x13) rfl ?_
    refine wq_val (v := .int .i32 v13) (val_le (enc := (e1 .i32)) (xs := p0) tt_ok rfl p0S0 rsub_nil (e1_len _) x13 rfl) rfl ?_
    refine wq_pure tt_ok rfl rfl ?_
    refine wq_pure tt_ok rfl rfl ?_
    replace h := bsome h; obtain ⟨v17, x17, h⟩ := h
    refine wq_val (v := .pointer (some ((adOf p1a0).add (j7_8.toNat * 2 + 0)))) (val_ix (enc := (e2 .i32)) tt_ok rfl rfl rfl rfl p1N0 p1S0 (e2_len _) rfl x17) rfl ?_
    refine wq_val (v := .pointer (some ((adOf p1a0).add (j7_8.toNat * 2 + 0)))) (val_fia (j := 0) tt_ok rfl rfl rfl rfl rfl rfl rfl) rfl ?_
    refine wq_val (v := .int .i32 v17.1) (val_le (enc := (e2 .i32)) (xs := p1) tt_ok rfl p1S0 rsub_nil (e2_len _) x17 rfl) rfl ?_
    refine wq_pure (v := .bool (decide (v13 < v17.1))) tt_ok rfl rfl ?_
    refine wq_pure tt_ok rfl rfl ?_
    replace h := bsome h; obtain ⟨v32, h, hg32⟩ := h
    refine wq_split (t := 21) rfl (fun hc => ?_) (fun hc => ?_)
    · replace h := ct hc h
      refine wq_skip rfl rfl ?_
      refine wq_skip rfl rfl ?_
      refine wq_skip rfl rfl ?_
      refine wq_skip rfl rfl ?_
      refine wq_skip rfl rfl ?_
      refine wq_skip rfl rfl ?_
      refine wq_skip rfl rfl ?_
      refine wq_skip rfl rfl ?_
      refine wq_skip rfl rfl ?_
      refine wq_skip rfl rfl ?_
      simp only [Option.some.injEq, Prod.mk.injEq] at h
      obtain rfl := h
      have h := hg32; clear hg32
      refine wq_pure (v := .bool true) tt_ok rfl rfl ?_
      refine wq_nil ?_
      refine wx_then ?_
      replace h := ct rfl h
      refine wc_cond_true rfl ?_
      refine wc_seq (wc_region ?_)
      refine wl_pure tt_ok rfl rfl ?_
      refine wl_nil (wx_then (wc_ret (wx_block_ret (wx_then_ret ?_))))
      obtain rfl := Option.some.inj h
      have h := hl7; clear hl7; try dsimp only [orE_l, orE_r] at h
      refine wx_then_ret (wx_block_ret (wx_then_ret ?_))
      simp only [Option.some.injEq] at h
      obtain rfl := h
      exact wx_pf tt_ok (.inl rfl) Tryd.results53 (Res.tmp rfl Res.nil) rfl
    replace h := cf hc h
    refine wq_run rfl ?_
    refine wq_pure tt_ok rfl rfl ?_
    refine wq_run rfl ?_
    refine wq_pure tt_ok rfl rfl ?_
    replace h := bsome h; obtain ⟨v24, x24, h⟩ := h
    refine wq_run rfl ?_
    refine wq_val (v := .pointer (some ((adOf p0a0).add (j7_8.toNat * 1 + 0)))) (val_ix (enc := (e1 .i32)) tt_ok rfl rfl rfl rfl p0N0 p0S0 (e1_len _) rfl x24) rfl ?_
    refine wq_run rfl ?_
    refine wq_val (v := .int .i32 v24) (val_le (enc := (e1 .i32)) (xs := p0) tt_ok rfl p0S0 rsub_nil (e1_len _) x24 rfl) rfl ?_
    refine wq_run rfl ?_
    refine wq_pure tt_ok rfl rfl ?_
    refine wq_run rfl ?_
    refine wq_pure tt_ok rfl rfl ?_
    replace h := bsome h; obtain ⟨v28, x28, h⟩ := h
    refine wq_run rfl ?_
    refine wq_val (v := .pointer (some ((adOf p1a0).add (j7_8.toNat * 2 + 0)))) (val_ix (enc := (e2 .i32)) tt_ok rfl rfl rfl rfl p1N0 p1S0 (e2_len _) rfl x28) rfl ?_
    refine wq_run rfl ?_
    refine wq_val (v := .pointer (some ((adOf p1a0).add (j7_8.toNat * 2 + 1)))) (val_fia (j := 1) tt_ok rfl rfl rfl rfl rfl rfl rfl) rfl ?_
    refine wq_run rfl ?_
    refine wq_val (v := .int .i32 v28.2) (val_le (enc := (e2 .i32)) (xs := p1) tt_ok rfl p1S0 rsub_nil (e2_len _) x28 rfl) rfl ?_
    refine wq_run rfl ?_
    refine wq_pure (v := .bool (decide (v28.2 < v24))) tt_ok rfl rfl ?_
    simp only [Option.some.injEq, Prod.mk.injEq] at h
    obtain rfl := h
    have h := hg32; clear hg32
    refine wq_pure (v := .bool (decide (v28.2 < v24))) tt_ok rfl rfl ?_
    refine wq_nil ?_
    refine wx_then ?_
    refine wc_cond rfl (fun hc => ?_) (fun hc => ?_)
    · replace h := ct hc h
      refine wc_seq (wc_region ?_)
      refine wl_pure tt_ok rfl rfl ?_
      refine wl_nil (wx_then (wc_ret (wx_block_ret (wx_then_ret ?_))))
      obtain rfl := Option.some.inj h
      have h := hl7; clear hl7; try dsimp only [orE_l, orE_r] at h
      refine wx_then_ret (wx_block_ret (wx_then_ret ?_))
      simp only [Option.some.injEq] at h
      obtain rfl := h
      exact wx_pf tt_ok (.inl rfl) Tryd.results53 (Res.tmp rfl Res.nil) rfl
    replace h := cf hc h
    refine wc_skip (wx_block (wx_then (wc_region ?_)))
    refine wl_pure (v := .int .i64 (IntKind.wrap .i64 (j7_8 + (1 : Int)))) tt_ok rfl rfl ?_
    refine wl_pure tt_ok rfl rfl ?_
    refine wl_nil ?_
    exact wx_round m7 (Nat.lt_succ_self m7) ⟨(IntKind.wrap .i64 (j7_8 + (1 : Int))), h, rfl, rfl⟩ (agree_cons rfl (agree_cons rfl (agree_cons rfl (agree_cons rfl (agree_cons rfl agree_nil))))) (pSub pNil)
  replace h := cf hc h
  refine wc_exit (wx_then_exit ?_)
  obtain rfl := Option.some.inj h
  have h := hl7; clear hl7; try dsimp only [orE_l, orE_r] at h
  refine wx_then_exit (wx_block_exit (wx_then (wc_seq (wc_region ?_))))
  refine wl_pure tt_ok rfl rfl ?_
  refine wl_nil (wx_then (wc_ret ?_))
  simp only [Option.some.injEq] at h
  obtain rfl := h
  exact wx_pf tt_ok (.inl rfl) Tryd.results53 (Res.tmp rfl Res.nil) rfl

theorem k_state_ofShot {F : Nat} {p0 : T_api_Shot} {r0 : (List Int)} (h : m_state_ofShot F p0 = some r0) :
    SpD Tryd.prog 49 [.agg #[.int .i32 p0.X, .int .i32 p0.Y, .int .i32 p0.VX, .int .i32 p0.VY, .int .u8 p0.Owner, .int .u8 p0.Life]] [] (fun w => True) (fun v D => ∃ (r0a0 : Option Addr) (r0n0 : Nat) (r0c0 : Nat) (r0B0 : List Blk), r0n0 = r0.length ∧ Own 21 1 r0a0 r0n0 r0c0 (flat (e1 .i32) r0) r0B0 ∧ v = .slice r0a0 r0n0 r0c0 ∧ D = fun F => (r0B0 ++ F)) := by
  unfold m_state_ofShot at h
  refine sp_of_wc Tryd.func49 rfl Tryd.ntmps49 rfl rfl (fun w0 hR => ?_)
  refine wc_seq (wc_region ?_)
  refine wl_box rfl rfl rfl (fun b1 => ?_)
  refine wl_pure tt_ok rfl rfl ?_
  refine wl_nil (wx_then (wc_seq (wc_region ?_)))
  refine wl_pure (v := .pointer (some ⟨b1, 0, none⟩)) tt_ok rfl rfl ?_
  refine wl_val (v := .int .i32 p0.X) (val_load tt_ok rfl (List.Mem.head _) rfl) rfl ?_
  refine wl_pure (v := .pointer (some ⟨b1, 1, none⟩)) tt_ok rfl rfl ?_
  refine wl_val (v := .int .i32 p0.Y) (val_load tt_ok rfl (List.Mem.head _) rfl) rfl ?_
  refine wl_pure (v := .pointer (some ⟨b1, 2, none⟩)) tt_ok rfl rfl ?_
  refine wl_val (v := .int .i32 p0.VX) (val_load tt_ok rfl (List.Mem.head _) rfl) rfl ?_
  refine wl_pure (v := .pointer (some ⟨b1, 3, none⟩)) tt_ok rfl rfl ?_
  refine wl_val (v := .int .i32 p0.VY) (val_load tt_ok rfl (List.Mem.head _) rfl) rfl ?_
  refine wl_pure (v := .pointer (some ⟨b1, 4, none⟩)) tt_ok rfl rfl ?_
  refine wl_val (v := .int .u8 p0.Owner) (val_load tt_ok rfl (List.Mem.head _) rfl) rfl ?_
  refine wl_pure (v := .int .i32 (IntKind.wrap .i32 p0.Owner)) tt_ok rfl rfl ?_
  refine wl_pure (v := .pointer (some ⟨b1, 5, none⟩)) tt_ok rfl rfl ?_
  refine wl_val (v := .int .u8 p0.Life) (val_load tt_ok rfl (List.Mem.head _) rfl) rfl ?_
  refine wl_pure (v := .int .i32 (IntKind.wrap .i32 p0.Life)) tt_ok rfl rfl ?_
  refine wl_chg (chg_bsv (enc := (e1 .i32)) (xs := ([p0.X, p0.Y, p0.VX, p0.VY, (IntKind.wrap .i32 p0.Owner), (IntKind.wrap .i32 p0.Life)] : List Int)) tt_ok rfl rfl rfl rfl rfl rfl rfl rfl (e1_len _)) rfl ?_
  rintro _ _ ⟨a17, n17_, c17, B17, rfl, N17, V17, rfl⟩
  refine wl_pure tt_ok rfl rfl ?_
  refine wl_nil (wx_then (wc_ret ?_))
  simp only [Option.some.injEq] at h
  obtain rfl := h
  exact wx_spD tt_ok (.inl rfl) Tryd.results49 (Res.tmp rfl Res.nil) ⟨a17, n17_, c17, B17, N17, V17, rfl, rfl⟩ (fun F => by simp) (pSub (pApp Sel.ha pNil))

theorem k_state_Check_1 {F : Nat} {p0 : T_api_Shot} {p1 : (Arr (Int × Int) 6)} {p1b p1t : Nat} {r0 : Bool} (h : m_state_Check_1 F p0 p1 = some r0) :
    Rd2 Tryd.prog 55 [.agg #[.int .i32 p0.X, .int .i32 p0.Y, .int .i32 p0.VX, .int .i32 p0.VY, .int .u8 p0.Owner, .int .u8 p0.Life], .pointer (some ⟨p1b, 0, none⟩)] (⟨p1b, flat (e2 .i32) p1.1, p1t, (0, 0)⟩ :: []) (fun w => True) (.bool r0) := by
  unfold m_state_Check_1 at h
  refine sp_of_wc Tryd.func55 rfl Tryd.ntmps55 rfl rfl (fun w0 hR => ?_)
  refine wc_seq (wc_region ?_)
  refine wl_box rfl rfl rfl (fun b2 => ?_)
  refine wl_pure tt_ok rfl rfl ?_
  refine wl_nil (wx_then (wc_seq ?_))
  refine wc_k2 (Ls := (⟨b2, [.int .i32 p0.X, .int .i32 p0.Y, .int .i32 p0.VX, .int .i32 p0.VY, .int .u8 p0.Owner, .int .u8 p0.Life], 87, (0, 0)⟩ :: (⟨p1b, flat (e2 .i32) p1.1, p1t, (0, 0)⟩ :: []))) [1, 3, 4, 5] [3, 4, 5] [0, 1, 0, 7, 15, 31] [0, 2, 1, 3, 4, 5] (by kernel_rfl) (by kernel_rfl) (by kernel_rfl) ?_
  refine k_val (v := .agg #[.int .i32 p0.X, .int .i32 p0.Y, .int .i32 p0.VX, .int .i32 p0.VY, .int .u8 p0.Owner, .int .u8 p0.Life]) rfl rfl rfl (pSub (pCons Sel.hc (pCons Sel.hc pNil))) (val_load tt_ok rfl (List.Mem.head _) rfl) rfl ?_
  refine k_val (v := .slice (some ⟨p1b, 0, none⟩) 6 6) rfl rfl rfl (pSub (pCons Sel.hc (pCons Sel.hc pNil))) (val_sla tt_ok rfl rfl rfl rfl) rfl ?_
  replace h := bsome h; obtain ⟨v5, x5, h⟩ := h
  refine k_cs rfl rfl rfl Tryd.call49 rfl rfl rfl (s_sp (k_state_ofShot x5) pNil (fun _ _ => trivial)) rfl (.inr (by rintro _ _ ⟨_, ⟨_, _, _, _, _, _, rfl, rfl⟩, rfl⟩; exact ⟨_, (pCons (Sel.sa Sel.hc) (pCons (Sel.sa Sel.hc) pNil))⟩)) ?_
  rintro _ _ ⟨_, ⟨v5a0, v5n0, v5c0, v5B0, v5N0, v5V0, rfl, rfl⟩, rfl⟩
  replace h := bsome h; obtain ⟨v7, x7, h⟩ := h
  refine k_cq rfl rfl rfl Tryd.call53 rfl rfl rfl (q_pf (k_state_within (p0 := v5) (p1 := p1.1) v5N0 (vec_cap v5V0) (p1.2).symm (Nat.le_refl _) x7) (fun w hI => ⟨(Rds.call (Rds.of_vec v5V0) pNil ⟨_, Sel.ha⟩) w hI, (Rds.call (Rds.of_blk (t := p1t) (fz := (0, 0))) pNil ⟨_, (Sel.sa (Sel.sc Sel.hc))⟩) w hI⟩)) rfl (pSub (pCons (Sel.sa Sel.hc) (pCons (Sel.sa Sel.hc) pNil))) ?_
  refine k_chg rfl rfl rfl (Chg.of_val (v := .bool (!v7)) (stepV_ok tt_ok rfl)) rfl (.inl rfl) ?_
  rintro _ _ ⟨rfl, rfl⟩
  refine k_chg rfl rfl rfl (Chg.of_val (stepV_ok tt_ok rfl)) rfl (.inl rfl) ?_
  rintro _ _ ⟨rfl, rfl⟩
  refine k_end (by kernel_rfl) ?_
  refine wx_then (wc_ret ?_)
  simp only [Option.some.injEq] at h
  obtain rfl := h
  exact wx_rd tt_ok (.inl rfl) Tryd.results55 (Res.tmp rfl Res.nil) (pSub (pCons (Sel.sa (Sel.sc Sel.hc)) pNil)) rfl

theorem k_slices_IndexFunc___api_Shot_api_Shot_f1_state_Check_1 {F : Nat} {p0 : (List T_api_Shot)} {p0a0 : Option Addr} {p0n0 p0c0 : Nat} {p1c0 : (Arr (Int × Int) 6)} {p1c0b p1c0t : Nat} {r0 : Int} (p0N0 : p0n0 = p0.length) (p0H0 : p0n0 ≤ p0c0) (h : m_slices_IndexFunc___api_Shot_api_Shot_f1_state_Check_1 F p0 p1c0 = some r0) :
    Rd2 Tryd.prog 78 [.slice p0a0 p0n0 p0c0, .func (.func 55) #[] #[.pointer (some ⟨p1c0b, 0, none⟩)]] (⟨p1c0b, flat (e2 .i32) p1c0.1, p1c0t, (0, 0)⟩ :: []) (fun w => Rds w (ids (⟨p1c0b, flat (e2 .i32) p1c0.1, p1c0t, (0, 0)⟩ :: [])) [] p0a0 (flat c_T_api_Shot p0)) (.int .i64 r0) := by
  unfold m_slices_IndexFunc___api_Shot_api_Shot_f1_state_Check_1 at h
  refine sp_of_wc Tryd.func78 rfl Tryd.ntmps78 rfl rfl (fun w0 hR => ?_)
  have p0S0 := hR
  refine wc_seq (wc_region ?_)
  refine wl_pure tt_ok rfl rfl ?_
  refine wl_nil (wx_then (wc_seq (wc_seq (wc_region ?_))))
  refine wl_pure tt_ok rfl rfl ?_
  refine wl_val (v := .int .i64 (p0.length : Int)) (val_len tt_ok rfl rfl p0N0) rfl ?_
  refine wl_pure tt_ok rfl rfl ?_
  refine wl_nil (wx_then (wc_block ?_))
  replace h := bsome h; obtain ⟨o7, h, hl7⟩ := h
  refine wc_loop (fun m E L => ∃ (j7_8 : Int), m_slices_IndexFunc___api_Shot_api_Shot_f1_state_Check_1_L6 F p0 p1c0 m j7_8 = some o7 ∧ E = [(0, .slice p0a0 p0n0 p0c0), (1, .func (.func 55) #[] #[.pointer (some ⟨p1c0b, 0, none⟩)]), (4, .int .i64 (0 : Int)), (7, .int .i64 (p0.length : Int)), (8, .int .i64 j7_8)] ∧ L = (⟨p1c0b, flat (e2 .i32) p1c0.1, p1c0t, (0, 0)⟩ :: [])) F ⟨(0 : Int), h, rfl, rfl⟩ (agree_cons rfl (agree_cons rfl (agree_cons rfl (agree_cons rfl (agree_cons rfl agree_nil))))) (pSub (pCons Sel.hc pNil)) ?_
  clear h
  rintro m7 _ _ ⟨j7_8, h, rfl, rfl⟩
  rcases m7 with _ | m7
  · rw [m_slices_IndexFunc___api_Shot_api_Shot_f1_state_Check_1_L6.eq_1] at h; cases h
  rw [m_slices_IndexFunc___api_Shot_api_Shot_f1_state_Check_1_L6.eq_2] at h
  refine wc_seq (wc_region ?_)
  refine wl_pure (v := .bool (decide (j7_8 < (p0.length : Int)))) tt_ok rfl rfl ?_
  refine wl_nil (wx_then (wc_seq ?_))
  refine wc_cond rfl (fun hc => ?_) (fun hc => ?_)
  · replace h := ct hc h
    refine wc_skip (wx_then (wc_seq (wc_block (wc_seq (wc_region ?_)))))
    iterate 2 refine wl_pure tt_ok rfl rfl ?_
    refine wl_nil (wx_then (wc_seq (wc_region ?_)))
    iterate 3 refine wl_pure tt_ok rfl rfl ?_
    replace h := bsome h; obtain ⟨v14, x14, h⟩ := h
    refine wl_val (v := .pointer (some ((adOf p0a0).add (j7_8.toNat * 6 + 0)))) (val_ix (enc := c_T_api_Shot) tt_ok rfl rfl rfl rfl p0N0 p0S0 c_T_api_Shot_len rfl x14) rfl ?_
    refine wl_val (v := .agg #[.int .i32 v14.X, .int .i32 v14.Y, .int .i32 v14.VX, .int .i32 v14.VY, .int .u8 v14.Owner, .int .u8 v14.Life]) (val_le (enc := c_T_api_Shot) (xs := p0) tt_ok rfl p0S0 rsub_nil c_T_api_Shot_len x14 rfl) rfl ?_
    replace h := bsome h; obtain ⟨v16, x16, h⟩ := h
    refine wl_cq Tryd.call55 rfl rfl rfl (q_rd (k_state_Check_1 x16) (pCons Sel.hc pNil) (fun _ _ => trivial)) rfl ?_
    refine wl_nil (wx_then ?_)
    refine wc_cond rfl (fun hc => ?_) (fun hc => ?_)
    · replace h := ct hc h
      refine wc_seq (wc_region ?_)
      iterate 2 refine wl_pure tt_ok rfl rfl ?_
      refine wl_nil (wx_then (wc_ret (wx_block_ret (wx_then_ret ?_))))
      obtain rfl := Option.some.inj h
      have h := hl7; clear hl7; try dsimp only [orE_l, orE_r] at h
      refine wx_then_ret (wx_block_ret (wx_then_ret ?_))
      simp only [Option.some.injEq] at h
      obtain rfl := h
      exact wx_rd tt_ok (.inl rfl) Tryd.results78 (Res.tmp rfl Res.nil) (pSub (pCons Sel.hc pNil)) rfl
    replace h := cf hc h
    refine wc_skip (wx_block (wx_then (wc_region ?_)))
    refine wl_pure (v := .int .i64 (IntKind.wrap .i64 (j7_8 + (1 : Int)))) tt_ok rfl rfl ?_
    refine wl_pure tt_ok rfl rfl ?_
    refine wl_nil ?_
    exact wx_round m7 (Nat.lt_succ_self m7) ⟨(IntKind.wrap .i64 (j7_8 + (1 : Int))), h, rfl, rfl⟩ (agree_cons rfl (agree_cons rfl (agree_cons rfl (agree_cons rfl (agree_cons rfl agree_nil))))) (pSub (pCons Sel.hc pNil))
  replace h := cf hc h
  refine wc_exit (wx_then_exit ?_)
  obtain rfl := Option.some.inj h
  have h := hl7; clear hl7; try dsimp only [orE_l, orE_r] at h
  refine wx_then_exit (wx_block_exit (wx_then (wc_seq (wc_region ?_))))
  refine wl_pure tt_ok rfl rfl ?_
  refine wl_nil (wx_then (wc_ret ?_))
  simp only [Option.some.injEq] at h
  obtain rfl := h
  exact wx_rd tt_ok (.inl rfl) Tryd.results78 (Res.tmp rfl Res.nil) (pSub (pCons Sel.hc pNil)) rfl

theorem k_slices_ContainsFunc___api_Shot_api_Shot_f1_state_Check_1 {F : Nat} {p0 : (List T_api_Shot)} {p0a0 : Option Addr} {p0n0 p0c0 : Nat} {p1c0 : (Arr (Int × Int) 6)} {p1c0b p1c0t : Nat} {r0 : Bool} (p0N0 : p0n0 = p0.length) (p0H0 : p0n0 ≤ p0c0) (h : m_slices_ContainsFunc___api_Shot_api_Shot_f1_state_Check_1 F p0 p1c0 = some r0) :
    Rd2 Tryd.prog 54 [.slice p0a0 p0n0 p0c0, .func (.func 55) #[] #[.pointer (some ⟨p1c0b, 0, none⟩)]] (⟨p1c0b, flat (e2 .i32) p1c0.1, p1c0t, (0, 0)⟩ :: []) (fun w => Rds w (ids (⟨p1c0b, flat (e2 .i32) p1c0.1, p1c0t, (0, 0)⟩ :: [])) [] p0a0 (flat c_T_api_Shot p0)) (.bool r0) := by
  unfold m_slices_ContainsFunc___api_Shot_api_Shot_f1_state_Check_1 at h
  refine sp_of_wc Tryd.func54 rfl Tryd.ntmps54 rfl rfl (fun w0 hR => ?_)
  have p0S0 := hR
  refine wc_seq (wc_region ?_)
  refine wl_pure tt_ok rfl rfl ?_
  refine wl_nil (wx_then (wc_seq (wc_region ?_)))
  iterate 2 refine wl_pure tt_ok rfl rfl ?_
  replace h := bsome h; obtain ⟨v7, x7, h⟩ := h
  refine wl_cq Tryd.call78 rfl rfl rfl (q_rd (k_slices_IndexFunc___api_Shot_api_Shot_f1_state_Check_1 (p0 := p0) p0N0 p0H0 x7) (pCons Sel.hc pNil) (Rds.call p0S0 (pCons Sel.hc pNil) rsub_nil)) rfl ?_
  refine wl_pure (v := .bool (decide ((0 : Int) ≤ v7))) tt_ok rfl rfl ?_
  refine wl_pure tt_ok rfl rfl ?_
  refine wl_nil (wx_then (wc_ret ?_))
  simp only [Option.some.injEq] at h
  obtain rfl := h
  exact wx_rd tt_ok (.inl rfl) Tryd.results54 (Res.tmp rfl Res.nil) (pSub (pCons Sel.hc pNil)) rfl

theorem k_state_Check {F : Nat} {p0 : T_api_State} {p0a0 : Option Addr} {p0n0 p0c0 : Nat} {r0 : Int} (p0N0 : p0n0 = p0.Shots.length) (p0H0 : p0n0 ≤ p0c0) (h : m_state_Check F p0 = some r0) :
    Pf Tryd.prog 31 [.agg #[.int .u64 p0.Frame, .int .u64 p0.Seed, .int .i32 p0.Players.1.X, .int .i32 p0.Players.1.Y, .int .i32 p0.Players.1.VX, .int .i32 p0.Players.1.VY, .int .u8 p0.Players.1.Health, .int .u8 p0.Players.1.Cool, .int .u8 p0.Players.1.Face, .int .i32 p0.Players.2.X, .int .i32 p0.Players.2.Y, .int .i32 p0.Players.2.VX, .int .i32 p0.Players.2.VY, .int .u8 p0.Players.2.Health, .int .u8 p0.Players.2.Cool, .int .u8 p0.Players.2.Face, .slice p0a0 p0n0 p0c0, .int .u16 p0.Score.1, .int .u16 p0.Score.2]] (fun w => Rds w [] [] p0a0 (flat c_T_api_Shot p0.Shots) ∧ Rds w [] [] (some ⟨0, 0, none⟩) (flat (fun _ : Unit => gl_state_playerBounds) [()]) ∧ Rds w [] [] (some ⟨1, 0, none⟩) (flat (fun _ : Unit => gl_state_shotBounds) [()])) (.int .i64 r0) := by
  unfold m_state_Check at h
  refine pf_of_wc Tryd.func31 rfl Tryd.ntmps31 rfl rfl (fun w0 hR => ?_)
  obtain ⟨p0S0, G0S, G1S⟩ := hR
  refine wc_seq (wc_region ?_)
  refine wl_box rfl rfl rfl (fun b1 => ?_)
  refine wl_pure tt_ok rfl rfl ?_
  refine wl_nil (wx_then (wc_seq (wc_region ?_)))
  refine wl_val (v := .agg #[.int .i32 (0 : Int), .int .i32 (61440 : Int), .int .i32 (0 : Int), .int .i32 (28672 : Int), .int .i32 ((-1024) : Int), .int .i32 (1024 : Int), .int .i32 ((-1024) : Int), .int .i32 (1024 : Int), .int .i32 (1 : Int), .int .i32 (100 : Int), .int .i32 (0 : Int), .int .i32 (30 : Int), .int .i32 (0 : Int), .int .i32 (3 : Int)]) (val_le (enc := fun _ : Unit => gl_state_playerBounds) (xs := [()]) (v := 0) (o := 0) (size := 14) tt_ok rfl G0S rsub_nil (fun _ => rfl) rfl rfl) rfl ?_
  refine wl_val (v := .agg #[.int .i32 (0 : Int), .int .i32 (65024 : Int), .int .i32 (0 : Int), .int .i32 (32256 : Int), .int .i32 ((-2048) : Int), .int .i32 (2048 : Int), .int .i32 ((-2048) : Int), .int .i32 (2048 : Int), .int .i32 (0 : Int), .int .i32 (1 : Int), .int .i32 (1 : Int), .int .i32 (40 : Int)]) (val_le (enc := fun _ : Unit => gl_state_shotBounds) (xs := [()]) (v := 0) (o := 0) (size := 12) tt_ok rfl G1S rsub_nil (fun _ => rfl) rfl rfl) rfl ?_
  refine wl_alloc tt_ok rfl rfl (fun b3 => ?_)
  refine wl_alloc tt_ok rfl rfl (fun b4 => ?_)
  apply wl_store tt_ok; rfl; exact (Upd.there Upd.here); rfl; rfl; rfl; rfl; rfl; rfl
  apply wl_store tt_ok; rfl; exact Upd.here; rfl; rfl; rfl; rfl; rfl; rfl
  refine wl_nil (wx_then (wc_seq (wc_region ?_)))
  refine wl_pure (v := .pointer (some ⟨b1, 16, none⟩)) tt_ok rfl rfl ?_
  refine wl_val (v := .slice p0a0 p0n0 p0c0) (val_load tt_ok rfl (List.Mem.tail _ (List.Mem.tail _ (List.Mem.head _))) rfl) rfl ?_
  refine wl_val (v := .int .i64 (p0.Shots.length : Int)) (val_len tt_ok rfl rfl p0N0) rfl ?_
  refine wl_pure (v := .bool (decide ((p0.Shots.length : Int) ≤ (8 : Int)))) tt_ok rfl rfl ?_
  refine wl_pure tt_ok rfl rfl ?_
  refine wl_nil (wx_then (wc_seq (wc_seq (wc_region ?_))))
  refine wl_pure (v := .pointer (some ⟨b1, 2, none⟩)) tt_ok rfl rfl ?_
  refine wl_val (v := .agg #[.int .i32 p0.Players.1.X, .int .i32 p0.Players.1.Y, .int .i32 p0.Players.1.VX, .int .i32 p0.Players.1.VY, .int .u8 p0.Players.1.Health, .int .u8 p0.Players.1.Cool, .int .u8 p0.Players.1.Face, .int .i32 p0.Players.2.X, .int .i32 p0.Players.2.Y, .int .i32 p0.Players.2.VX, .int .i32 p0.Players.2.VY, .int .u8 p0.Players.2.Health, .int .u8 p0.Players.2.Cool, .int .u8 p0.Players.2.Face]) (val_load tt_ok rfl (List.Mem.tail _ (List.Mem.tail _ (List.Mem.head _))) rfl) rfl ?_
  refine wl_pure tt_ok rfl rfl ?_
  refine wl_nil (wx_then (wc_block ?_))
  replace h := bsome h; obtain ⟨l11_5, h, hl11⟩ := h
  refine wc_loop (fun m E L => ∃ (j11_5 : Bool) (j11_16 : Int), m_state_Check_L10 F p0 m j11_5 j11_16 = some l11_5 ∧ E = [(1, .pointer (some ⟨b1, 0, none⟩)), (2, .int .i64 (0 : Int)), (3, .pointer (some ⟨b3, 0, none⟩)), (4, .pointer (some ⟨b4, 0, none⟩)), (5, .bool j11_5), (15, .agg #[.int .i32 p0.Players.1.X, .int .i32 p0.Players.1.Y, .int .i32 p0.Players.1.VX, .int .i32 p0.Players.1.VY, .int .u8 p0.Players.1.Health, .int .u8 p0.Players.1.Cool, .int .u8 p0.Players.1.Face, .int .i32 p0.Players.2.X, .int .i32 p0.Players.2.Y, .int .i32 p0.Players.2.VX, .int .i32 p0.Players.2.VY, .int .u8 p0.Players.2.Health, .int .u8 p0.Players.2.Cool, .int .u8 p0.Players.2.Face]), (16, .int .i64 j11_16)] ∧ L = (⟨b1, [.int .u64 p0.Frame, .int .u64 p0.Seed, .int .i32 p0.Players.1.X, .int .i32 p0.Players.1.Y, .int .i32 p0.Players.1.VX, .int .i32 p0.Players.1.VY, .int .u8 p0.Players.1.Health, .int .u8 p0.Players.1.Cool, .int .u8 p0.Players.1.Face, .int .i32 p0.Players.2.X, .int .i32 p0.Players.2.Y, .int .i32 p0.Players.2.VX, .int .i32 p0.Players.2.VY, .int .u8 p0.Players.2.Health, .int .u8 p0.Players.2.Cool, .int .u8 p0.Players.2.Face, .slice p0a0 p0n0 p0c0, .int .u16 p0.Score.1, .int .u16 p0.Score.2], 41, (0, 0)⟩ :: (⟨b3, [.int .i32 (0 : Int), .int .i32 (61440 : Int), .int .i32 (0 : Int), .int .i32 (28672 : Int), .int .i32 ((-1024) : Int), .int .i32 (1024 : Int), .int .i32 ((-1024) : Int), .int .i32 (1024 : Int), .int .i32 (1 : Int), .int .i32 (100 : Int), .int .i32 (0 : Int), .int .i32 (30 : Int), .int .i32 (0 : Int), .int .i32 (3 : Int)], 114, (0, 0)⟩ :: (⟨b4, [.int .i32 (0 : Int), .int .i32 (65024 : Int), .int .i32 (0 : Int), .int .i32 (32256 : Int), .int .i32 ((-2048) : Int), .int .i32 (2048 : Int), .int .i32 ((-2048) : Int), .int .i32 (2048 : Int), .int .i32 (0 : Int), .int .i32 (1 : Int), .int .i32 (1 : Int), .int .i32 (40 : Int)], 115, (0, 0)⟩ :: [])))) F ⟨(decide ((p0.Shots.length : Int) ≤ (8 : Int))), (0 : Int), h, rfl, rfl⟩ (agree_cons rfl (agree_cons rfl (agree_cons rfl (agree_cons rfl (agree_cons rfl (agree_cons rfl (agree_cons rfl agree_nil))))))) (pSub (pCons (Sel.sc (Sel.sc Sel.hc)) (pCons (Sel.sc Sel.hc) (pCons Sel.hc pNil)))) ?_
  clear h
  rintro m11 _ _ ⟨j11_5, j11_16, h, rfl, rfl⟩
  rcases m11 with _ | m11
  · rw [m_state_Check_L10.eq_1] at h; cases h
  rw [m_state_Check_L10.eq_2] at h
  refine wc_seq (wc_region ?_)
  refine wl_pure (v := .bool (decide (j11_16 < (2 : Int)))) tt_ok rfl rfl ?_
  refine wl_nil (wx_then (wc_seq ?_))
  refine wc_cond rfl (fun hc => ?_) (fun hc => ?_)
  · replace h := ct hc h
    refine wc_skip (wx_then (wc_seq (wc_block (wc_seq (wc_region ?_)))))
    rcases Bool.eq_false_or_eq_true (j11_16 == (0 : Int)) with hx180 | hx180
    · replace h := ct hx180 h
      refine wl_val (v := .agg #[.int .i32 p0.Players.1.X, .int .i32 p0.Players.1.Y, .int .i32 p0.Players.1.VX, .int .i32 p0.Players.1.VY, .int .u8 p0.Players.1.Health, .int .u8 p0.Players.1.Cool, .int .u8 p0.Players.1.Face]) (val_iv (j := 0) tt_ok rfl rfl rfl rfl (by simpa using hx180) rfl rfl) rfl ?_
      refine wl_alloc tt_ok rfl rfl (fun b7 => ?_)
      apply wl_store tt_ok; rfl; exact Upd.here; rfl; rfl; rfl; rfl; rfl; rfl
      refine wl_nil (wx_then ?_)
      refine wc_k2 (Ls := (⟨b7, [.int .i32 p0.Players.1.X, .int .i32 p0.Players.1.Y, .int .i32 p0.Players.1.VX, .int .i32 p0.Players.1.VY, .int .u8 p0.Players.1.Health, .int .u8 p0.Players.1.Cool, .int .u8 p0.Players.1.Face], 35, (0, 0)⟩ :: (⟨b1, [.int .u64 p0.Frame, .int .u64 p0.Seed, .int .i32 p0.Players.1.X, .int .i32 p0.Players.1.Y, .int .i32 p0.Players.1.VX, .int .i32 p0.Players.1.VY, .int .u8 p0.Players.1.Health, .int .u8 p0.Players.1.Cool, .int .u8 p0.Players.1.Face, .int .i32 p0.Players.2.X, .int .i32 p0.Players.2.Y, .int .i32 p0.Players.2.VX, .int .i32 p0.Players.2.VY, .int .u8 p0.Players.2.Health, .int .u8 p0.Players.2.Cool, .int .u8 p0.Players.2.Face, .slice p0a0 p0n0 p0c0, .int .u16 p0.Score.1, .int .u16 p0.Score.2], 41, (0, 0)⟩ :: (⟨b3, [.int .i32 (0 : Int), .int .i32 (61440 : Int), .int .i32 (0 : Int), .int .i32 (28672 : Int), .int .i32 ((-1024) : Int), .int .i32 (1024 : Int), .int .i32 ((-1024) : Int), .int .i32 (1024 : Int), .int .i32 (1 : Int), .int .i32 (100 : Int), .int .i32 (0 : Int), .int .i32 (30 : Int), .int .i32 (0 : Int), .int .i32 (3 : Int)], 114, (0, 0)⟩ :: (⟨b4, [.int .i32 (0 : Int), .int .i32 (65024 : Int), .int .i32 (0 : Int), .int .i32 (32256 : Int), .int .i32 ((-2048) : Int), .int .i32 (2048 : Int), .int .i32 ((-2048) : Int), .int .i32 (2048 : Int), .int .i32 (0 : Int), .int .i32 (1 : Int), .int .i32 (1 : Int), .int .i32 (40 : Int)], 115, (0, 0)⟩ :: []))))) [3, 5] [] [0, 1, 3, 7, 3, 31, 63, 127] [0, 1, 2, 4, 3, 5, 6, 7] (by kernel_rfl) (by kernel_rfl) (by kernel_rfl) ?_
      refine k_val rfl rfl rfl (pSub (pCons Sel.hc (pCons Sel.hc (pCons Sel.hc (pCons Sel.hc pNil))))) (stepV_ok tt_ok rfl) rfl ?_
      refine k_val rfl rfl rfl (pSub (pCons Sel.hc (pCons Sel.hc (pCons Sel.hc (pCons Sel.hc pNil))))) (stepV_ok tt_ok rfl) rfl ?_
      replace h := bsome h; obtain ⟨v25, h, hg25⟩ := h
      refine k_split (t := 20) rfl (fun hc => ?_) (fun hc => ?_)
      · replace h := ct hc h
        refine k_val (v := .agg #[.int .i32 p0.Players.1.X, .int .i32 p0.Players.1.Y, .int .i32 p0.Players.1.VX, .int .i32 p0.Players.1.VY, .int .u8 p0.Players.1.Health, .int .u8 p0.Players.1.Cool, .int .u8 p0.Players.1.Face]) rfl rfl rfl (pSub (pCons Sel.hc (pCons Sel.hc (pCons Sel.hc (pCons Sel.hc pNil))))) (val_load tt_ok rfl (List.Mem.head _) rfl) rfl ?_
        refine k_val (v := .slice (some ⟨b3, 0, none⟩) 7 7) rfl rfl rfl (pSub (pCons Sel.hc (pCons Sel.hc (pCons Sel.hc (pCons Sel.hc pNil))))) (val_sla tt_ok rfl rfl rfl rfl) rfl ?_
        replace h := bsome h; obtain ⟨v22, x22, h⟩ := h
        refine k_cs rfl rfl rfl Tryd.call47 rfl rfl rfl (s_sp (k_state_ofPlayer x22) pNil (fun _ _ => trivial)) rfl (.inr (by rintro _ _ ⟨_, ⟨_, _, _, _, _, _, rfl, rfl⟩, rfl⟩; exact ⟨_, (pCons (Sel.sa Sel.hc) (pCons (Sel.sa Sel.hc) (pCons (Sel.sa Sel.hc) (pCons (Sel.sa Sel.hc) pNil))))⟩)) ?_
        rintro _ _ ⟨_, ⟨v22a0, v22n0, v22c0, v22B0, v22N0, v22V0, rfl, rfl⟩, rfl⟩
        replace h := bsome h; obtain ⟨v24, x24, h⟩ := h
        refine k_cq rfl rfl rfl Tryd.call53 rfl rfl rfl (q_pf (k_state_within (p0 := v22) (p1 := ([((0 : Int), (61440 : Int)), ((0 : Int), (28672 : Int)), (((-1024) : Int), (1024 : Int)), (((-1024) : Int), (1024 : Int)), ((1 : Int), (100 : Int)), ((0 : Int), (30 : Int)), ((0 : Int), (3 : Int))] : List (Int × Int))) v22N0 (vec_cap v22V0) rfl (Nat.le_refl _) x24) (fun w hI => ⟨(Rds.call (Rds.of_vec v22V0) pNil ⟨_, Sel.ha⟩) w hI, (Rds.call (Rds.of_blk (t := 114) (fz := (0, 0))) pNil ⟨_, (Sel.sa (Sel.sc (Sel.sc Sel.hc)))⟩) w hI⟩)) rfl (pSub (pCons (Sel.sa Sel.hc) (pCons (Sel.sa Sel.hc) (pCons (Sel.sa Sel.hc) (pCons (Sel.sa Sel.hc) pNil))))) ?_
        simp only [Option.some.injEq, Prod.mk.injEq] at h
        obtain rfl := h
        have h := hg25; clear hg25
        refine k_val (v := .bool v24) rfl rfl rfl (pSub (pCons (Sel.sa Sel.hc) (pCons (Sel.sa Sel.hc) (pCons (Sel.sa Sel.hc) (pCons (Sel.sa Sel.hc) pNil))))) (stepV_ok tt_ok rfl) rfl ?_
        refine k_val rfl rfl rfl (pSub (pCons (Sel.sa Sel.hc) (pCons (Sel.sa Sel.hc) (pCons (Sel.sa Sel.hc) (pCons (Sel.sa Sel.hc) pNil))))) (stepV_ok tt_ok rfl) rfl ?_
        refine k_end (by kernel_rfl) ?_
        refine wx_block (wx_then (wc_region ?_))
        refine wl_pure (v := .int .i64 (IntKind.wrap .i64 (j11_16 + (1 : Int)))) tt_ok rfl rfl ?_
        refine wl_pure tt_ok rfl rfl ?_
        refine wl_nil ?_
        exact wx_round m11 (Nat.lt_succ_self m11) ⟨v24, (IntKind.wrap .i64 (j11_16 + (1 : Int))), h, rfl, rfl⟩ (agree_cons rfl (agree_cons rfl (agree_cons rfl (agree_cons rfl (agree_cons rfl (agree_cons rfl (agree_cons rfl agree_nil))))))) (pSub (pCons (Sel.sa (Sel.sc Sel.hc)) (pCons (Sel.sa (Sel.sc Sel.hc)) (pCons (Sel.sa (Sel.sc Sel.hc)) pNil))))
      replace h := cf hc h
      refine k_skip rfl rfl (pSub (pCons Sel.hc (pCons Sel.hc (pCons Sel.hc (pCons Sel.hc pNil))))) rfl ?_
      refine k_skip rfl rfl (pSub (pCons Sel.hc (pCons Sel.hc (pCons Sel.hc (pCons Sel.hc pNil))))) rfl ?_
      refine k_skip rfl rfl (pSub (pCons Sel.hc (pCons Sel.hc (pCons Sel.hc (pCons Sel.hc pNil))))) rfl ?_
      refine k_skip rfl rfl (pSub (pCons Sel.hc (pCons Sel.hc (pCons Sel.hc (pCons Sel.hc pNil))))) rfl ?_
      simp only [Option.some.injEq, Prod.mk.injEq] at h
      obtain rfl := h
      have h := hg25; clear hg25
      refine k_val (v := .bool false) rfl rfl rfl (pSub (pCons Sel.hc (pCons Sel.hc (pCons Sel.hc (pCons Sel.hc pNil))))) (stepV_ok tt_ok rfl) rfl ?_
      refine k_val rfl rfl rfl (pSub (pCons Sel.hc (pCons Sel.hc (pCons Sel.hc (pCons Sel.hc pNil))))) (stepV_ok tt_ok rfl) rfl ?_
      refine k_end (by kernel_rfl) ?_
      refine wx_block (wx_then (wc_region ?_))
      refine wl_pure (v := .int .i64 (IntKind.wrap .i64 (j11_16 + (1 : Int)))) tt_ok rfl rfl ?_
      refine wl_pure tt_ok rfl rfl ?_
      refine wl_nil ?_
      exact wx_round m11 (Nat.lt_succ_self m11) ⟨false, (IntKind.wrap .i64 (j11_16 + (1 : Int))), h, rfl, rfl⟩ (agree_cons rfl (agree_cons rfl (agree_cons rfl (agree_cons rfl (agree_cons rfl (agree_cons rfl (agree_cons rfl agree_nil))))))) (pSub (pCons (Sel.sc Sel.hc) (pCons (Sel.sc Sel.hc) (pCons (Sel.sc Sel.hc) pNil))))
    replace h := cf hx180 h
    rcases Bool.eq_false_or_eq_true (j11_16 == (1 : Int)) with hx181 | hx181
    · replace h := ct hx181 h
      refine wl_val (v := .agg #[.int .i32 p0.Players.2.X, .int .i32 p0.Players.2.Y, .int .i32 p0.Players.2.VX, .int .i32 p0.Players.2.VY, .int .u8 p0.Players.2.Health, .int .u8 p0.Players.2.Cool, .int .u8 p0.Players.2.Face]) (val_iv (j := 1) tt_ok rfl rfl rfl rfl (by simpa using hx181) rfl rfl) rfl ?_
      refine wl_alloc tt_ok rfl rfl (fun b7 => ?_)
      apply wl_store tt_ok; rfl; exact Upd.here; rfl; rfl; rfl; rfl; rfl; rfl
      refine wl_nil (wx_then ?_)
      refine wc_k2 (Ls := (⟨b7, [.int .i32 p0.Players.2.X, .int .i32 p0.Players.2.Y, .int .i32 p0.Players.2.VX, .int .i32 p0.Players.2.VY, .int .u8 p0.Players.2.Health, .int .u8 p0.Players.2.Cool, .int .u8 p0.Players.2.Face], 35, (0, 0)⟩ :: (⟨b1, [.int .u64 p0.Frame, .int .u64 p0.Seed, .int .i32 p0.Players.1.X, .int .i32 p0.Players.1.Y, .int .i32 p0.Players.1.VX, .int .i32 p0.Players.1.VY, .int .u8 p0.Players.1.Health, .int .u8 p0.Players.1.Cool, .int .u8 p0.Players.1.Face, .int .i32 p0.Players.2.X, .int .i32 p0.Players.2.Y, .int .i32 p0.Players.2.VX, .int .i32 p0.Players.2.VY, .int .u8 p0.Players.2.Health, .int .u8 p0.Players.2.Cool, .int .u8 p0.Players.2.Face, .slice p0a0 p0n0 p0c0, .int .u16 p0.Score.1, .int .u16 p0.Score.2], 41, (0, 0)⟩ :: (⟨b3, [.int .i32 (0 : Int), .int .i32 (61440 : Int), .int .i32 (0 : Int), .int .i32 (28672 : Int), .int .i32 ((-1024) : Int), .int .i32 (1024 : Int), .int .i32 ((-1024) : Int), .int .i32 (1024 : Int), .int .i32 (1 : Int), .int .i32 (100 : Int), .int .i32 (0 : Int), .int .i32 (30 : Int), .int .i32 (0 : Int), .int .i32 (3 : Int)], 114, (0, 0)⟩ :: (⟨b4, [.int .i32 (0 : Int), .int .i32 (65024 : Int), .int .i32 (0 : Int), .int .i32 (32256 : Int), .int .i32 ((-2048) : Int), .int .i32 (2048 : Int), .int .i32 ((-2048) : Int), .int .i32 (2048 : Int), .int .i32 (0 : Int), .int .i32 (1 : Int), .int .i32 (1 : Int), .int .i32 (40 : Int)], 115, (0, 0)⟩ :: []))))) [3, 5] [] [0, 1, 3, 7, 3, 31, 63, 127] [0, 1, 2, 4, 3, 5, 6, 7] (by kernel_rfl) (by kernel_rfl) (by kernel_rfl) ?_
      refine k_val rfl rfl rfl (pSub (pCons Sel.hc (pCons Sel.hc (pCons Sel.hc (pCons Sel.hc pNil))))) (stepV_ok tt_ok rfl) rfl ?_
      refine k_val rfl rfl rfl (pSub (pCons Sel.hc (pCons Sel.hc (pCons Sel.hc (pCons Sel.hc pNil))))) (stepV_ok tt_ok rfl) rfl ?_
      replace h := bsome h; obtain ⟨v25, h, hg25⟩ := h
      refine k_split (t := 20) rfl (fun hc => ?_) (fun hc => ?_)
      · replace h := ct hc h
        refine k_val (v := .agg #[.int .i32 p0.Players.2.X, .int .i32 p0.Players.2.Y, .int .i32 p0.Players.2.VX, .int .i32 p0.Players.2.VY, .int .u8 p0.Players.2.Health, .int .u8 p0.Players.2.Cool, .int .u8 p0.Players.2.Face]) rfl rfl rfl (pSub (pCons Sel.hc (pCons Sel.hc (pCons Sel.hc (pCons Sel.hc pNil))))) (val_load tt_ok rfl (List.Mem.head _) rfl) rfl ?_
        refine k_val (v := .slice (some ⟨b3, 0, none⟩) 7 7) rfl rfl rfl (pSub (pCons Sel.hc (pCons Sel.hc (pCons Sel.hc (pCons Sel.hc pNil))))) (val_sla tt_ok rfl rfl rfl rfl) rfl ?_
        replace h := bsome h; obtain ⟨v22, x22, h⟩ := h
        refine k_cs rfl rfl rfl Tryd.call47 rfl rfl rfl (s_sp (k_state_ofPlayer x22) pNil (fun _ _ => trivial)) rfl (.inr (by rintro _ _ ⟨_, ⟨_, _, _, _, _, _, rfl, rfl⟩, rfl⟩; exact ⟨_, (pCons (Sel.sa Sel.hc) (pCons (Sel.sa Sel.hc) (pCons (Sel.sa Sel.hc) (pCons (Sel.sa Sel.hc) pNil))))⟩)) ?_
        rintro _ _ ⟨_, ⟨v22a0, v22n0, v22c0, v22B0, v22N0, v22V0, rfl, rfl⟩, rfl⟩
        replace h := bsome h; obtain ⟨v24, x24, h⟩ := h
        refine k_cq rfl rfl rfl Tryd.call53 rfl rfl rfl (q_pf (k_state_within (p0 := v22) (p1 := ([((0 : Int), (61440 : Int)), ((0 : Int), (28672 : Int)), (((-1024) : Int), (1024 : Int)), (((-1024) : Int), (1024 : Int)), ((1 : Int), (100 : Int)), ((0 : Int), (30 : Int)), ((0 : Int), (3 : Int))] : List (Int × Int))) v22N0 (vec_cap v22V0) rfl (Nat.le_refl _) x24) (fun w hI => ⟨(Rds.call (Rds.of_vec v22V0) pNil ⟨_, Sel.ha⟩) w hI, (Rds.call (Rds.of_blk (t := 114) (fz := (0, 0))) pNil ⟨_, (Sel.sa (Sel.sc (Sel.sc Sel.hc)))⟩) w hI⟩)) rfl (pSub (pCons (Sel.sa Sel.hc) (pCons (Sel.sa Sel.hc) (pCons (Sel.sa Sel.hc) (pCons (Sel.sa Sel.hc) pNil))))) ?_
        simp only [Option.some.injEq, Prod.mk.injEq] at h
        obtain rfl := h
        have h := hg25; clear hg25
        refine k_val (v := .bool v24) rfl rfl rfl (pSub (pCons (Sel.sa Sel.hc) (pCons (Sel.sa Sel.hc) (pCons (Sel.sa Sel.hc) (pCons (Sel.sa Sel.hc) pNil))))) (stepV_ok tt_ok rfl) rfl ?_
        refine k_val rfl rfl rfl (pSub (pCons (Sel.sa Sel.hc) (pCons (Sel.sa Sel.hc) (pCons (Sel.sa Sel.hc) (pCons (Sel.sa Sel.hc) pNil))))) (stepV_ok tt_ok rfl) rfl ?_
        refine k_end (by kernel_rfl) ?_
        refine wx_block (wx_then (wc_region ?_))
        refine wl_pure (v := .int .i64 (IntKind.wrap .i64 (j11_16 + (1 : Int)))) tt_ok rfl rfl ?_
        refine wl_pure tt_ok rfl rfl ?_
        refine wl_nil ?_
        exact wx_round m11 (Nat.lt_succ_self m11) ⟨v24, (IntKind.wrap .i64 (j11_16 + (1 : Int))), h, rfl, rfl⟩ (agree_cons rfl (agree_cons rfl (agree_cons rfl (agree_cons rfl (agree_cons rfl (agree_cons rfl (agree_cons rfl agree_nil))))))) (pSub (pCons (Sel.sa (Sel.sc Sel.hc)) (pCons (Sel.sa (Sel.sc Sel.hc)) (pCons (Sel.sa (Sel.sc Sel.hc)) pNil))))
      replace h := cf hc h
      refine k_skip rfl rfl (pSub (pCons Sel.hc (pCons Sel.hc (pCons Sel.hc (pCons Sel.hc pNil))))) rfl ?_
      refine k_skip rfl rfl (pSub (pCons Sel.hc (pCons Sel.hc (pCons Sel.hc (pCons Sel.hc pNil))))) rfl ?_
      refine k_skip rfl rfl (pSub (pCons Sel.hc (pCons Sel.hc (pCons Sel.hc (pCons Sel.hc pNil))))) rfl ?_
      refine k_skip rfl rfl (pSub (pCons Sel.hc (pCons Sel.hc (pCons Sel.hc (pCons Sel.hc pNil))))) rfl ?_
      simp only [Option.some.injEq, Prod.mk.injEq] at h
      obtain rfl := h
      have h := hg25; clear hg25
      refine k_val (v := .bool false) rfl rfl rfl (pSub (pCons Sel.hc (pCons Sel.hc (pCons Sel.hc (pCons Sel.hc pNil))))) (stepV_ok tt_ok rfl) rfl ?_
      refine k_val rfl rfl rfl (pSub (pCons Sel.hc (pCons Sel.hc (pCons Sel.hc (pCons Sel.hc pNil))))) (stepV_ok tt_ok rfl) rfl ?_
      refine k_end (by kernel_rfl) ?_
      refine wx_block (wx_then (wc_region ?_))
      refine wl_pure (v := .int .i64 (IntKind.wrap .i64 (j11_16 + (1 : Int)))) tt_ok rfl rfl ?_
      refine wl_pure tt_ok rfl rfl ?_
      refine wl_nil ?_
      exact wx_round m11 (Nat.lt_succ_self m11) ⟨false, (IntKind.wrap .i64 (j11_16 + (1 : Int))), h, rfl, rfl⟩ (agree_cons rfl (agree_cons rfl (agree_cons rfl (agree_cons rfl (agree_cons rfl (agree_cons rfl (agree_cons rfl agree_nil))))))) (pSub (pCons (Sel.sc Sel.hc) (pCons (Sel.sc Sel.hc) (pCons (Sel.sc Sel.hc) pNil))))
    replace h := cf hx181 h
    cases h
  replace h := cf hc h
  refine wc_exit (wx_then_exit ?_)
  simp only [Option.some.injEq] at h
  obtain rfl := h
  have h := hl11; clear hl11; try dsimp only [orE_l, orE_r] at h
  refine wx_then_exit (wx_block_exit (wx_then (wc_seq (wc_seq (wc_region ?_)))))
  refine wl_pure tt_ok rfl rfl ?_
  refine wl_pure (v := .bool (!j11_5)) tt_ok rfl rfl ?_
  refine wl_pure tt_ok rfl rfl ?_
  replace h := bsome h; obtain ⟨v34, h, hg34⟩ := h
  refine wl_split (t := 29) rfl (fun hc => ?_) (fun hc => ?_)
  · replace h := ct hc h
    refine wl_skip rfl rfl ?_
    refine wl_skip rfl rfl ?_
    refine wl_skip rfl rfl ?_
    refine wl_skip rfl rfl ?_
    simp only [Option.some.injEq, Prod.mk.injEq] at h
    obtain rfl := h
    have h := hg34; clear hg34
    refine wl_pure (v := .bool true) tt_ok rfl rfl ?_
    refine wl_nil (wx_then ?_)
    replace h := ct rfl h
    refine wc_cond_true rfl ?_
    refine wc_seq (wc_region ?_)
    refine wl_pure tt_ok rfl rfl ?_
    refine wl_nil (wx_then (wc_ret (wx_then_ret ?_)))
    simp only [Option.some.injEq] at h
    obtain rfl := h
    exact wx_pf tt_ok (.inl rfl) Tryd.results31 (Res.tmp rfl Res.nil) rfl
  replace h := cf hc h
  refine wl_run rfl ?_
  refine wl_pure (v := .pointer (some ⟨b1, 16, none⟩)) tt_ok rfl rfl ?_
  refine wl_run rfl ?_
  refine wl_val (v := .slice p0a0 p0n0 p0c0) (val_load tt_ok rfl (List.Mem.head _) rfl) rfl ?_
  refine wl_run rfl ?_
  refine wl_pure tt_ok rfl rfl ?_
  replace h := bsome h; obtain ⟨v33, x33, h⟩ := h
  refine wl_run rfl ?_
  refine wl_cq Tryd.call54 rfl rfl rfl (q_rd (k_slices_ContainsFunc___api_Shot_api_Shot_f1_state_Check_1 (p0 := p0.Shots) p0N0 p0H0 x33) (pCons (Sel.sc (Sel.sc Sel.hc)) pNil) (Rds.call p0S0 (pCons (Sel.sc (Sel.sc Sel.hc)) pNil) rsub_nil)) rfl ?_
  simp only [Option.some.injEq, Prod.mk.injEq] at h
  obtain rfl := h
  have h := hg34; clear hg34
  refine wl_pure (v := .bool v33) tt_ok rfl rfl ?_
  refine wl_nil (wx_then ?_)
  refine wc_cond rfl (fun hc => ?_) (fun hc => ?_)
  · replace h := ct hc h
    refine wc_seq (wc_region ?_)
    refine wl_pure tt_ok rfl rfl ?_
    refine wl_nil (wx_then (wc_ret (wx_then_ret ?_)))
    simp only [Option.some.injEq] at h
    obtain rfl := h
    exact wx_pf tt_ok (.inl rfl) Tryd.results31 (Res.tmp rfl Res.nil) rfl
  replace h := cf hc h
  refine wc_skip (wx_then (wc_seq (wc_region ?_)))
  refine wl_pure tt_ok rfl rfl ?_
  refine wl_nil (wx_then (wc_ret ?_))
  simp only [Option.some.injEq] at h
  obtain rfl := h
  exact wx_pf tt_ok (.inl rfl) Tryd.results31 (Res.tmp rfl Res.nil) rfl

theorem k_codec_put_uint64 {F : Nat} {p0 : T_codec_Writer} {p0b p0t : Nat} {p0a0 : Option Addr} {p0n0 : Nat} {p0c0 : Nat} {p0B0 : List Blk} {p1 : Int} {p2 : Int} {r0 : T_codec_Writer} (p0N0 : p0n0 = p0.b.length) (p0V0 : Own 5 1 p0a0 p0n0 p0c0 (flat (e1 .u8) p0.b) p0B0) (h : m_codec_put_uint64 F p0 p1 p2 = some r0) :
    SpD Tryd.prog 74 [.pointer (some ⟨p0b, 0, none⟩), .int .u64 p1, .int .i64 p2] (⟨p0b, [.slice p0a0 p0n0 p0c0], p0t, (0, 0)⟩ :: (p0B0 ++ [])) (fun w => True) (fun v D => ∃ (r0a0 : Option Addr) (r0n0 : Nat) (r0c0 : Nat) (r0B0 : List Blk), r0n0 = r0.b.length ∧ Own 5 1 r0a0 r0n0 r0c0 (flat (e1 .u8) r0.b) r0B0 ∧ v = .tuple #[] ∧ D = fun F => (⟨p0b, [.slice r0a0 r0n0 r0c0], p0t, (0, 0)⟩ :: (r0B0 ++ F))) := by
  unfold m_codec_put_uint64 at h
  refine sp_of_wc Tryd.func74 rfl Tryd.ntmps74 rfl rfl (fun w0 hR => ?_)
  refine wc_seq (wc_seq (wc_region ?_))
  refine wl_pure tt_ok rfl rfl ?_
  refine wl_pure (v := .bool false) tt_ok rfl rfl ?_
  refine wl_nil (wx_then ?_)
  refine wc_cond_false rfl ?_
  refine wc_skip (wx_then (wc_seq (wc_region ?_)))
  iterate 2 refine wl_pure tt_ok rfl rfl ?_
  refine wl_nil (wx_then (wc_block ?_))
  replace h := bsome h; obtain ⟨l10_p0_f0, h, hl10⟩ := h
  refine wc_loop (fun m E L => ∃ (j10_10 : Int) (j10_p0_f0 : (List Int)) (j10_p0_f0a0 : Option Addr) (j10_p0_f0n0 : Nat) (j10_p0_f0c0 : Nat) (j10_p0_f0B0 : List Blk), m_codec_put_uint64_L9 F p1 p2 m j10_10 j10_p0_f0 = some l10_p0_f0 ∧ j10_p0_f0n0 = j10_p0_f0.length ∧ Own 5 1 j10_p0_f0a0 j10_p0_f0n0 j10_p0_f0c0 (flat (e1 .u8) j10_p0_f0) j10_p0_f0B0 ∧ E = [(0, .pointer (some ⟨p0b, 0, none⟩)), (1, .int .u64 p1), (9, .int .i64 p2), (10, .int .i64 j10_10)] ∧ L = (⟨p0b, [.slice j10_p0_f0a0 j10_p0_f0n0 j10_p0_f0c0], p0t, (0, 0)⟩ :: (j10_p0_f0B0 ++ []))) F ⟨(0 : Int), p0.b, p0a0, p0n0, p0c0, p0B0, h, p0N0, p0V0, rfl, rfl⟩ (agree_cons rfl (agree_cons rfl (agree_cons rfl (agree_cons rfl agree_nil)))) (pSub (pCons Sel.hc (pApp Sel.ha pNil))) ?_
  clear h
  rintro m10 _ _ ⟨j10_10, j10_p0_f0, j10_p0_f0a0, j10_p0_f0n0, j10_p0_f0c0, j10_p0_f0B0, h, j10_p0_f0N0, j10_p0_f0V0, rfl, rfl⟩
  rcases m10 with _ | m10
  · rw [m_codec_put_uint64_L9.eq_1] at h; cases h
  rw [m_codec_put_uint64_L9.eq_2] at h
  refine wc_seq (wc_region ?_)
  refine wl_pure (v := .bool (decide (j10_10 < p2))) tt_ok rfl rfl ?_
  refine wl_nil (wx_then (wc_seq ?_))
  refine wc_cond rfl (fun hc => ?_) (fun hc => ?_)
  · replace h := ct hc h
    refine wc_skip (wx_then (wc_seq (wc_block (wc_seq (wc_region ?_)))))
    iterate 2 refine wl_pure tt_ok rfl rfl ?_
    refine wl_nil (wx_then ?_)
    refine wc_k2 (Ls := (⟨p0b, [.slice j10_p0_f0a0 j10_p0_f0n0 j10_p0_f0c0], p0t, (0, 0)⟩ :: [])) [10, 11, 12, 13, 14] [12, 13, 14] [0, 0, 2, 6, 14, 0, 0, 64, 224, 480, 992, 2046, 4095, 8191, 16383] [0, 1, 2, 3, 4, 5, 6, 7, 8, 9, 10, 11, 12, 13, 14] (by kernel_rfl) (by kernel_rfl) (by kernel_rfl) ?_
    refine k_val rfl rfl rfl (pSub (pCons Sel.hc pNil)) (stepV_ok tt_ok rfl) rfl ?_
    refine k_val rfl rfl rfl (pSub (pCons Sel.hc pNil)) (stepV_ok tt_ok rfl) rfl ?_
    refine k_val rfl rfl rfl (pSub (pCons Sel.hc pNil)) (stepV_ok tt_ok rfl) rfl ?_
    refine k_val (v := .pointer (some ⟨p0b, 0, none⟩)) rfl rfl rfl (pSub (pCons Sel.hc pNil)) (stepV_ok tt_ok rfl) rfl ?_
    refine k_val (v := .slice j10_p0_f0a0 j10_p0_f0n0 j10_p0_f0c0) rfl rfl rfl (pSub (pCons Sel.hc pNil)) (val_load tt_ok rfl (List.Mem.head _) rfl) rfl ?_
    refine k_val rfl rfl rfl (pSub (pCons Sel.hc pNil)) (stepV_ok tt_ok rfl) rfl ?_
    refine k_val rfl rfl rfl (pSub (pCons Sel.hc pNil)) (stepV_ok tt_ok rfl) rfl ?_
    refine k_val (v := .int .i64 (IntKind.wrap .i64 ((8 : Int) * j10_10))) rfl rfl rfl (pSub (pCons Sel.hc pNil)) (stepV_ok tt_ok rfl) rfl ?_
    replace h := bsome h; obtain ⟨v21, x21, h⟩ := h
    refine k_val (v := .int .u64 v21) rfl rfl rfl (pSub (pCons Sel.hc pNil)) (val_shr rfl rfl x21) rfl ?_
    refine k_val (v := .int .u8 (IntKind.wrap .u8 v21)) rfl rfl rfl (pSub (pCons Sel.hc pNil)) (stepV_ok tt_ok rfl) rfl ?_
    refine k_chg rfl rfl rfl (chg_bsv (enc := (e1 .u8)) (xs := ([(IntKind.wrap .u8 v21)] : List Int)) tt_ok rfl rfl rfl rfl rfl rfl rfl rfl (e1_len _)) rfl (.inr (by rintro _ _ ⟨_, _, _, _, rfl, _, _, rfl⟩; exact ⟨_, (pCons (Sel.sa Sel.hc) pNil)⟩)) ?_
    rintro _ _ ⟨a23, n23_, c23, B23, rfl, N23, V23, rfl⟩
    replace h := bsome h; obtain ⟨v24, x24, h⟩ := h
    refine k_chg rfl rfl rfl (chg_app (enc := (e1 .u8)) (ys := ([(IntKind.wrap .u8 v21)] : List Int)) tt_ok rfl rfl rfl rfl rfl rfl j10_p0_f0N0 N23 j10_p0_f0V0 (Sel.sa (Sel.sc Sel.ha)) (Rds.of_vec V23) ⟨_, Sel.ha⟩ (e1_len _) (fun _ => rfl) rfl x24) rfl (.inr (by rintro _ _ ⟨_, _, _, _, rfl, _, _, rfl⟩; exact ⟨_, (pCons (Sel.sa (Sel.sa Sel.hc)) pNil)⟩)) ?_
    rintro _ _ ⟨a24, n24_, c24, B24, rfl, N24, V24, rfl⟩
    refine k_chg rfl rfl rfl (Chg.of_val (stepV_ok tt_ok rfl)) rfl (.inl rfl) ?_
    rintro _ _ ⟨rfl, rfl⟩
    refine k_chg rfl rfl rfl (Chg.of_val (v := .pointer (some ⟨p0b, 0, none⟩)) (stepV_ok tt_ok rfl)) rfl (.inl rfl) ?_
    rintro _ _ ⟨rfl, rfl⟩
    refine k_chg0 rfl rfl rfl (chg_store tt_ok rfl (Upd.right (Upd.right Upd.here)) rfl rfl rfl rfl rfl rfl) (.inl rfl) ?_
    rintro _ _ rfl
    refine k_end (by kernel_rfl) ?_
    refine wx_block (wx_then (wc_region ?_))
    refine wl_pure (v := .int .i64 (IntKind.wrap .i64 (j10_10 + (1 : Int)))) tt_ok rfl rfl ?_
    refine wl_pure tt_ok rfl rfl ?_
    refine wl_nil ?_
    exact wx_round m10 (Nat.lt_succ_self m10) ⟨(IntKind.wrap .i64 (j10_10 + (1 : Int))), v24, a24, n24_, c24, B24, h, N24, V24, rfl, rfl⟩ (agree_cons rfl (agree_cons rfl (agree_cons rfl (agree_cons rfl agree_nil)))) (pSub (pCons (Sel.sa (Sel.sa Sel.hc)) (pApp Sel.ha pNil)))
  replace h := cf hc h
  refine wc_exit (wx_then_exit ?_)
  simp only [Option.some.injEq] at h
  obtain rfl := h
  have h := hl10; clear hl10; try dsimp only [orE_l, orE_r] at h
  refine wx_then_exit (wx_block_exit ?_)
  simp only [Option.some.injEq] at h
  obtain rfl := h
  exact wx_spD tt_ok (.inr rfl) Tryd.results74 Res.nil ⟨j10_p0_f0a0, j10_p0_f0n0, j10_p0_f0c0, j10_p0_f0B0, j10_p0_f0N0, j10_p0_f0V0, rfl, rfl⟩ (fun F => by simp) (pSub (pCons Sel.hc (pApp Sel.ha pNil)))

theorem k_codec_Writer_U64 {F : Nat} {p0 : T_codec_Writer} {p0b p0t : Nat} {p0a0 : Option Addr} {p0n0 : Nat} {p0c0 : Nat} {p0B0 : List Blk} {p1 : Int} {r0 : T_codec_Writer} (p0N0 : p0n0 = p0.b.length) (p0V0 : Own 5 1 p0a0 p0n0 p0c0 (flat (e1 .u8) p0.b) p0B0) (h : m_codec_Writer_U64 F p0 p1 = some r0) :
    SpD Tryd.prog 45 [.pointer (some ⟨p0b, 0, none⟩), .int .u64 p1] (⟨p0b, [.slice p0a0 p0n0 p0c0], p0t, (0, 0)⟩ :: (p0B0 ++ [])) (fun w => True) (fun v D => ∃ (r0a0 : Option Addr) (r0n0 : Nat) (r0c0 : Nat) (r0B0 : List Blk), r0n0 = r0.b.length ∧ Own 5 1 r0a0 r0n0 r0c0 (flat (e1 .u8) r0.b) r0B0 ∧ v = .tuple #[] ∧ D = fun F => (⟨p0b, [.slice r0a0 r0n0 r0c0], p0t, (0, 0)⟩ :: (r0B0 ++ F))) := by
  unfold m_codec_Writer_U64 at h
  refine sp_of_wc Tryd.func45 rfl Tryd.ntmps45 rfl rfl (fun w0 hR => ?_)
  refine wc_region ?_
  iterate 2 refine wl_pure tt_ok rfl rfl ?_
  replace h := bsome h; obtain ⟨o6_0, x6, h⟩ := h
  refine wl_cs Tryd.call74 rfl rfl rfl (s_sp (k_codec_put_uint64 (p0 := p0) p0N0 p0V0 x6) (pCons Sel.hc (pApp Sel.ha pNil)) (fun _ _ => trivial)) rfl ?_
  rintro _ _ ⟨_, ⟨o6_0a0, o6_0n0, o6_0c0, o6_0B0, o6_0N0, o6_0V0, rfl, rfl⟩, rfl⟩
  refine wl_nil ?_
  simp only [Option.some.injEq] at h
  obtain rfl := h
  exact wx_spD tt_ok (.inr rfl) Tryd.results45 Res.nil ⟨o6_0a0, o6_0n0, o6_0c0, o6_0B0, o6_0N0, o6_0V0, rfl, rfl⟩ (fun F => by simp) (pSub (pCons Sel.hc (pApp Sel.ha pNil)))

theorem k_codec_put_uint32 {F : Nat} {p0 : T_codec_Writer} {p0b p0t : Nat} {p0a0 : Option Addr} {p0n0 : Nat} {p0c0 : Nat} {p0B0 : List Blk} {p1 : Int} {p2 : Int} {r0 : T_codec_Writer} (p0N0 : p0n0 = p0.b.length) (p0V0 : Own 5 1 p0a0 p0n0 p0c0 (flat (e1 .u8) p0.b) p0B0) (h : m_codec_put_uint32 F p0 p1 p2 = some r0) :
    SpD Tryd.prog 91 [.pointer (some ⟨p0b, 0, none⟩), .int .u32 p1, .int .i64 p2] (⟨p0b, [.slice p0a0 p0n0 p0c0], p0t, (0, 0)⟩ :: (p0B0 ++ [])) (fun w => True) (fun v D => ∃ (r0a0 : Option Addr) (r0n0 : Nat) (r0c0 : Nat) (r0B0 : List Blk), r0n0 = r0.b.length ∧ Own 5 1 r0a0 r0n0 r0c0 (flat (e1 .u8) r0.b) r0B0 ∧ v = .tuple #[] ∧ D = fun F => (⟨p0b, [.slice r0a0 r0n0 r0c0], p0t, (0, 0)⟩ :: (r0B0 ++ F))) := by
  unfold m_codec_put_uint32 at h
  refine sp_of_wc Tryd.func91 rfl Tryd.ntmps91 rfl rfl (fun w0 hR => ?_)
  refine wc_seq (wc_seq (wc_region ?_))
  refine wl_pure tt_ok rfl rfl ?_
  refine wl_pure (v := .bool false) tt_ok rfl rfl ?_
  refine wl_nil (wx_then ?_)
  refine wc_cond_false rfl ?_
  refine wc_skip (wx_then (wc_seq (wc_region ?_)))
  iterate 2 refine wl_pure tt_ok rfl rfl ?_
  refine wl_nil (wx_then (wc_block ?_))
  replace h := bsome h; obtain ⟨l10_p0_f0, h, hl10⟩ := h
  refine wc_loop (fun m E L => ∃ (j10_10 : Int) (j10_p0_f0 : (List Int)) (j10_p0_f0a0 : Option Addr) (j10_p0_f0n0 : Nat) (j10_p0_f0c0 : Nat) (j10_p0_f0B0 : List Blk), m_codec_put_uint32_L9 F p1 p2 m j10_10 j10_p0_f0 = some l10_p0_f0 ∧ j10_p0_f0n0 = j10_p0_f0.length ∧ Own 5 1 j10_p0_f0a0 j10_p0_f0n0 j10_p0_f0c0 (flat (e1 .u8) j10_p0_f0) j10_p0_f0B0 ∧ E = [(0, .pointer (some ⟨p0b, 0, none⟩)), (1, .int .u32 p1), (9, .int .i64 p2), (10, .int .i64 j10_10)] ∧ L = (⟨p0b, [.slice j10_p0_f0a0 j10_p0_f0n0 j10_p0_f0c0], p0t, (0, 0)⟩ :: (j10_p0_f0B0 ++ []))) F ⟨(0 : Int), p0.b, p0a0, p0n0, p0c0, p0B0, h, p0N0, p0V0, rfl, rfl⟩ (agree_cons rfl (agree_cons rfl (agree_cons rfl (agree_cons rfl agree_nil)))) (pSub (pCons Sel.hc (pApp Sel.ha pNil))) ?_
  clear h
  rintro m10 _ _ ⟨j10_10, j10_p0_f0, j10_p0_f0a0, j10_p0_f0n0, j10_p0_f0c0, j10_p0_f0B0, h, j10_p0_f0N0, j10_p0_f0V0, rfl, rfl⟩
  rcases m10 with _ | m10
  · rw [m_codec_put_uint32_L9.eq_1] at h; cases h
  rw [m_codec_put_uint32_L9.eq_2] at h
  refine wc_seq (wc_region ?_)
  refine wl_pure (v := .bool (decide (j10_10 < p2))) tt_ok rfl rfl ?_
  refine wl_nil (wx_then (wc_seq ?_))
  refine wc_cond rfl (fun hc => ?_) (fun hc => ?_)
  · replace h := ct hc h
    refine wc_skip (wx_then (wc_seq (wc_block (wc_seq (wc_region ?_)))))
    iterate 2 refine wl_pure tt_ok rfl rfl ?_
    refine wl_nil (wx_then ?_)
    refine wc_k2 (Ls := (⟨p0b, [.slice j10_p0_f0a0 j10_p0_f0n0 j10_p0_f0c0], p0t, (0, 0)⟩ :: [])) [11, 12, 13, 14, 15] [13, 14, 15] [0, 0, 2, 6, 14, 0, 32, 0, 128, 480, 992, 2016, 4094, 8191, 16383, 32767] [0, 1, 2, 3, 4, 5, 6, 7, 8, 9, 10, 11, 12, 13, 14, 15] (by kernel_rfl) (by kernel_rfl) (by kernel_rfl) ?_
    refine k_val rfl rfl rfl (pSub (pCons Sel.hc pNil)) (stepV_ok tt_ok rfl) rfl ?_
    refine k_val rfl rfl rfl (pSub (pCons Sel.hc pNil)) (stepV_ok tt_ok rfl) rfl ?_
    refine k_val rfl rfl rfl (pSub (pCons Sel.hc pNil)) (stepV_ok tt_ok rfl) rfl ?_
    refine k_val (v := .pointer (some ⟨p0b, 0, none⟩)) rfl rfl rfl (pSub (pCons Sel.hc pNil)) (stepV_ok tt_ok rfl) rfl ?_
    refine k_val (v := .slice j10_p0_f0a0 j10_p0_f0n0 j10_p0_f0c0) rfl rfl rfl (pSub (pCons Sel.hc pNil)) (val_load tt_ok rfl (List.Mem.head _) rfl) rfl ?_
    refine k_val rfl rfl rfl (pSub (pCons Sel.hc pNil)) (stepV_ok tt_ok rfl) rfl ?_
    refine k_val (v := .int .u64 (IntKind.wrap .u64 p1)) rfl rfl rfl (pSub (pCons Sel.hc pNil)) (stepV_ok tt_ok rfl) rfl ?_
    refine k_val rfl rfl rfl (pSub (pCons Sel.hc pNil)) (stepV_ok tt_ok rfl) rfl ?_
    refine k_val (v := .int .i64 (IntKind.wrap .i64 ((8 : Int) * j10_10))) rfl rfl rfl (pSub (pCons Sel.hc pNil)) (stepV_ok tt_ok rfl) rfl ?_
    replace h := bsome h; obtain ⟨v22, x22, h⟩ := h
    refine k_val (v := .int .u64 v22) rfl rfl rfl (pSub (pCons Sel.hc pNil)) (val_shr rfl rfl x22) rfl ?_
    refine k_val (v := .int .u8 (IntKind.wrap .u8 v22)) rfl rfl rfl (pSub (pCons Sel.hc pNil)) (stepV_ok tt_ok rfl) rfl ?_
    refine k_chg rfl rfl rfl (chg_bsv (enc := (e1 .u8)) (xs := ([(IntKind.wrap .u8 v22)] : List Int)) tt_ok rfl rfl rfl rfl rfl rfl rfl rfl (e1_len _)) rfl (.inr (by rintro _ _ ⟨_, _, _, _, rfl, _, _, rfl⟩; exact ⟨_, (pCons (Sel.sa Sel.hc) pNil)⟩)) ?_
    rintro _ _ ⟨a24, n24_, c24, B24, rfl, N24, V24, rfl⟩
    replace h := bsome h; obtain ⟨v25, x25, h⟩ := h
    refine k_chg rfl rfl rfl (chg_app (enc := (e1 .u8)) (ys := ([(IntKind.wrap .u8 v22)] : List Int)) tt_ok rfl rfl rfl rfl rfl rfl j10_p0_f0N0 N24 j10_p0_f0V0 (Sel.sa (Sel.sc Sel.ha)) (Rds.of_vec V24) ⟨_, Sel.ha⟩ (e1_len _) (fun _ => rfl) rfl x25) rfl (.inr (by rintro _ _ ⟨_, _, _, _, rfl, _, _, rfl⟩; exact ⟨_, (pCons (Sel.sa (Sel.sa Sel.hc)) pNil)⟩)) ?_
    rintro _ _ ⟨a25, n25_, c25, B25, rfl, N25, V25, rfl⟩
    refine k_chg rfl rfl rfl (Chg.of_val (stepV_ok tt_ok rfl)) rfl (.inl rfl) ?_
    rintro _ _ ⟨rfl, rfl⟩
    refine k_chg rfl rfl rfl (Chg.of_val (v := .pointer (some ⟨p0b, 0, none⟩)) (stepV_ok tt_ok rfl)) rfl (.inl rfl) ?_
    rintro _ _ ⟨rfl, rfl⟩
    refine k_chg0 rfl rfl rfl (chg_store tt_ok rfl (Upd.right (Upd.right Upd.here)) rfl rfl rfl rfl rfl rfl) (.inl rfl) ?_
    rintro _ _ rfl
    refine k_end (by kernel_rfl) ?_
    refine wx_block (wx_then (wc_region ?_))
    refine wl_pure (v := .int .i64 (IntKind.wrap .i64 (j10_10 + (1 : Int)))) tt_ok rfl rfl ?_
    refine wl_pure tt_ok rfl rfl ?_
    refine wl_nil ?_
    exact wx_round m10 (Nat.lt_succ_self m10) ⟨(IntKind.wrap .i64 (j10_10 + (1 : Int))), v25, a25, n25_, c25, B25, h, N25, V25, rfl, rfl⟩ (agree_cons rfl (agree_cons rfl (agree_cons rfl (agree_cons rfl agree_nil)))) (pSub (pCons (Sel.sa (Sel.sa Sel.hc)) (pApp Sel.ha pNil)))
  replace h := cf hc h
  refine wc_exit (wx_then_exit ?_)
  simp only [Option.some.injEq] at h
  obtain rfl := h
  have h := hl10; clear hl10; try dsimp only [orE_l, orE_r] at h
  refine wx_then_exit (wx_block_exit ?_)
  simp only [Option.some.injEq] at h
  obtain rfl := h
  exact wx_spD tt_ok (.inr rfl) Tryd.results91 Res.nil ⟨j10_p0_f0a0, j10_p0_f0n0, j10_p0_f0c0, j10_p0_f0B0, j10_p0_f0N0, j10_p0_f0V0, rfl, rfl⟩ (fun F => by simp) (pSub (pCons Sel.hc (pApp Sel.ha pNil)))

theorem k_codec_Writer_I32 {F : Nat} {p0 : T_codec_Writer} {p0b p0t : Nat} {p0a0 : Option Addr} {p0n0 : Nat} {p0c0 : Nat} {p0B0 : List Blk} {p1 : Int} {r0 : T_codec_Writer} (p0N0 : p0n0 = p0.b.length) (p0V0 : Own 5 1 p0a0 p0n0 p0c0 (flat (e1 .u8) p0.b) p0B0) (h : m_codec_Writer_I32 F p0 p1 = some r0) :
    SpD Tryd.prog 75 [.pointer (some ⟨p0b, 0, none⟩), .int .i32 p1] (⟨p0b, [.slice p0a0 p0n0 p0c0], p0t, (0, 0)⟩ :: (p0B0 ++ [])) (fun w => True) (fun v D => ∃ (r0a0 : Option Addr) (r0n0 : Nat) (r0c0 : Nat) (r0B0 : List Blk), r0n0 = r0.b.length ∧ Own 5 1 r0a0 r0n0 r0c0 (flat (e1 .u8) r0.b) r0B0 ∧ v = .tuple #[] ∧ D = fun F => (⟨p0b, [.slice r0a0 r0n0 r0c0], p0t, (0, 0)⟩ :: (r0B0 ++ F))) := by
  unfold m_codec_Writer_I32 at h
  refine sp_of_wc Tryd.func75 rfl Tryd.ntmps75 rfl rfl (fun w0 hR => ?_)
  refine wc_region ?_
  iterate 2 refine wl_pure tt_ok rfl rfl ?_
  refine wl_pure (v := .int .u32 (IntKind.wrap .u32 p1)) tt_ok rfl rfl ?_
  replace h := bsome h; obtain ⟨o7_0, x7, h⟩ := h
  refine wl_cs Tryd.call91 rfl rfl rfl (s_sp (k_codec_put_uint32 (p0 := p0) p0N0 p0V0 x7) (pCons Sel.hc (pApp Sel.ha pNil)) (fun _ _ => trivial)) rfl ?_
  rintro _ _ ⟨_, ⟨o7_0a0, o7_0n0, o7_0c0, o7_0B0, o7_0N0, o7_0V0, rfl, rfl⟩, rfl⟩
  refine wl_nil ?_
  simp only [Option.some.injEq] at h
  obtain rfl := h
  exact wx_spD tt_ok (.inr rfl) Tryd.results75 Res.nil ⟨o7_0a0, o7_0n0, o7_0c0, o7_0B0, o7_0N0, o7_0V0, rfl, rfl⟩ (fun F => by simp) (pSub (pCons Sel.hc (pApp Sel.ha pNil)))

theorem k_codec_put_uint8 {F : Nat} {p0 : T_codec_Writer} {p0b p0t : Nat} {p0a0 : Option Addr} {p0n0 : Nat} {p0c0 : Nat} {p0B0 : List Blk} {p1 : Int} {p2 : Int} {r0 : T_codec_Writer} (p0N0 : p0n0 = p0.b.length) (p0V0 : Own 5 1 p0a0 p0n0 p0c0 (flat (e1 .u8) p0.b) p0B0) (h : m_codec_put_uint8 F p0 p1 p2 = some r0) :
    SpD Tryd.prog 92 [.pointer (some ⟨p0b, 0, none⟩), .int .u8 p1, .int .i64 p2] (⟨p0b, [.slice p0a0 p0n0 p0c0], p0t, (0, 0)⟩ :: (p0B0 ++ [])) (fun w => True) (fun v D => ∃ (r0a0 : Option Addr) (r0n0 : Nat) (r0c0 : Nat) (r0B0 : List Blk), r0n0 = r0.b.length ∧ Own 5 1 r0a0 r0n0 r0c0 (flat (e1 .u8) r0.b) r0B0 ∧ v = .tuple #[] ∧ D = fun F => (⟨p0b, [.slice r0a0 r0n0 r0c0], p0t, (0, 0)⟩ :: (r0B0 ++ F))) := by
  unfold m_codec_put_uint8 at h
  refine sp_of_wc Tryd.func92 rfl Tryd.ntmps92 rfl rfl (fun w0 hR => ?_)
  refine wc_seq (wc_seq (wc_region ?_))
  refine wl_pure tt_ok rfl rfl ?_
  refine wl_pure (v := .bool false) tt_ok rfl rfl ?_
  refine wl_nil (wx_then ?_)
  refine wc_cond_false rfl ?_
  refine wc_skip (wx_then (wc_seq (wc_region ?_)))
  iterate 2 refine wl_pure tt_ok rfl rfl ?_
  refine wl_nil (wx_then (wc_block ?_))
  replace h := bsome h; obtain ⟨l10_p0_f0, h, hl10⟩ := h
  refine wc_loop (fun m E L => ∃ (j10_10 : Int) (j10_p0_f0 : (List Int)) (j10_p0_f0a0 : Option Addr) (j10_p0_f0n0 : Nat) (j10_p0_f0c0 : Nat) (j10_p0_f0B0 : List Blk), m_codec_put_uint8_L9 F p1 p2 m j10_10 j10_p0_f0 = some l10_p0_f0 ∧ j10_p0_f0n0 = j10_p0_f0.length ∧ Own 5 1 j10_p0_f0a0 j10_p0_f0n0 j10_p0_f0c0 (flat (e1 .u8) j10_p0_f0) j10_p0_f0B0 ∧ E = [(0, .pointer (some ⟨p0b, 0, none⟩)), (1, .int .u8 p1), (9, .int .i64 p2), (10, .int .i64 j10_10)] ∧ L = (⟨p0b, [.slice j10_p0_f0a0 j10_p0_f0n0 j10_p0_f0c0], p0t, (0, 0)⟩ :: (j10_p0_f0B0 ++ []))) F ⟨(0 : Int), p0.b, p0a0, p0n0, p0c0, p0B0, h, p0N0, p0V0, rfl, rfl⟩ (agree_cons rfl (agree_cons rfl (agree_cons rfl (agree_cons rfl agree_nil)))) (pSub (pCons Sel.hc (pApp Sel.ha pNil))) ?_
  clear h
  rintro m10 _ _ ⟨j10_10, j10_p0_f0, j10_p0_f0a0, j10_p0_f0n0, j10_p0_f0c0, j10_p0_f0B0, h, j10_p0_f0N0, j10_p0_f0V0, rfl, rfl⟩
  rcases m10 with _ | m10
  · rw [m_codec_put_uint8_L9.eq_1] at h; cases h
  rw [m_codec_put_uint8_L9.eq_2] at h
  refine wc_seq (wc_region ?_)
  refine wl_pure (v := .bool (decide (j10_10 < p2))) tt_ok rfl rfl ?_
  refine wl_nil (wx_then (wc_seq ?_))
  refine wc_cond rfl (fun hc => ?_) (fun hc => ?_)
  · replace h := ct hc h
    refine wc_skip (wx_then (wc_seq (wc_block (wc_seq (wc_region ?_)))))
    iterate 2 refine wl_pure tt_ok rfl rfl ?_
    refine wl_nil (wx_then ?_)
    refine wc_k2 (Ls := (⟨p0b, [.slice j10_p0_f0a0 j10_p0_f0n0 j10_p0_f0c0], p0t, (0, 0)⟩ :: [])) [11, 12, 13, 14, 15] [13, 14, 15] [0, 0, 2, 6, 14, 0, 32, 0, 128, 480, 992, 2016, 4094, 8191, 16383, 32767] [0, 1, 2, 3, 4, 5, 6, 7, 8, 9, 10, 11, 12, 13, 14, 15] (by kernel_rfl) (by kernel_rfl) (by kernel_rfl) ?_
    refine k_val rfl rfl rfl (pSub (pCons Sel.hc pNil)) (stepV_ok tt_ok rfl) rfl ?_
    refine k_val rfl rfl rfl (pSub (pCons Sel.hc pNil)) (stepV_ok tt_ok rfl) rfl ?_
    refine k_val rfl rfl rfl (pSub (pCons Sel.hc pNil)) (stepV_ok tt_ok rfl) rfl ?_
    refine k_val (v := .pointer (some ⟨p0b, 0, none⟩)) rfl rfl rfl (pSub (pCons Sel.hc pNil)) (stepV_ok tt_ok rfl) rfl ?_
    refine k_val (v := .slice j10_p0_f0a0 j10_p0_f0n0 j10_p0_f0c0) rfl rfl rfl (pSub (pCons Sel.hc pNil)) (val_load tt_ok rfl (List.Mem.head _) rfl) rfl ?_
    refine k_val rfl rfl rfl (pSub (pCons Sel.hc pNil)) (stepV_ok tt_ok rfl) rfl ?_
    refine k_val (v := .int .u64 (IntKind.wrap .u64 p1)) rfl rfl rfl (pSub (pCons Sel.hc pNil)) (stepV_ok tt_ok rfl) rfl ?_
    refine k_val rfl rfl rfl (pSub (pCons Sel.hc pNil)) (stepV_ok tt_ok rfl) rfl ?_
    refine k_val (v := .int .i64 (IntKind.wrap .i64 ((8 : Int) * j10_10))) rfl rfl rfl (pSub (pCons Sel.hc pNil)) (stepV_ok tt_ok rfl) rfl ?_
    replace h := bsome h; obtain ⟨v22, x22, h⟩ := h
    refine k_val (v := .int .u64 v22) rfl rfl rfl (pSub (pCons Sel.hc pNil)) (val_shr rfl rfl x22) rfl ?_
    refine k_val (v := .int .u8 (IntKind.wrap .u8 v22)) rfl rfl rfl (pSub (pCons Sel.hc pNil)) (stepV_ok tt_ok rfl) rfl ?_
    refine k_chg rfl rfl rfl (chg_bsv (enc := (e1 .u8)) (xs := ([(IntKind.wrap .u8 v22)] : List Int)) tt_ok rfl rfl rfl rfl rfl rfl rfl rfl (e1_len _)) rfl (.inr (by rintro _ _ ⟨_, _, _, _, rfl, _, _, rfl⟩; exact ⟨_, (pCons (Sel.sa Sel.hc) pNil)⟩)) ?_
    rintro _ _ ⟨a24, n24_, c24, B24, rfl, N24, V24, rfl⟩
    replace h := bsome h; obtain ⟨v25, x25, h⟩ := h
    refine k_chg rfl rfl rfl (chg_app (enc := (e1 .u8)) (ys := ([(IntKind.wrap .u8 v22)] : List Int)) tt_ok rfl rfl rfl rfl rfl rfl j10_p0_f0N0 N24 j10_p0_f0V0 (Sel.sa (Sel.sc Sel.ha)) (Rds.of_vec V24) ⟨_, Sel.ha⟩ (e1_len _) (fun _ => rfl) rfl x25) rfl (.inr (by rintro _ _ ⟨_, _, _, _, rfl, _, _, rfl⟩; exact ⟨_, (pCons (Sel.sa (Sel.sa Sel.hc)) pNil)⟩)) ?_
    rintro _ _ ⟨a25, n25_, c25, B25, rfl, N25, V25, rfl⟩
    refine k_chg rfl rfl rfl (Chg.of_val (stepV_ok tt_ok rfl)) rfl (.inl rfl) ?_
    rintro _ _ ⟨rfl, rfl⟩
    refine k_chg rfl rfl rfl (Chg.of_val (v := .pointer (some ⟨p0b, 0, none⟩)) (stepV_ok tt_ok rfl)) rfl (.inl rfl) ?_
    rintro _ _ ⟨rfl, rfl⟩
    refine k_chg0 rfl rfl rfl (chg_store tt_ok rfl (Upd.right (Upd.right Upd.here)) rfl rfl rfl rfl rfl rfl) (.inl rfl) ?_
    rintro _ _ rfl
    refine k_end (by kernel_rfl) ?_
    refine wx_block (wx_then (wc_region ?_))
    refine wl_pure (v := .int .i64 (IntKind.wrap .i64 (j10_10 + (1 : Int)))) tt_ok rfl rfl ?_
    refine wl_pure tt_ok rfl rfl ?_
    refine wl_nil ?_
    exact wx_round m10 (Nat.lt_succ_self m10) ⟨(IntKind.wrap .i64 (j10_10 + (1 : Int))), v25, a25, n25_, c25, B25, h, N25, V25, rfl, rfl⟩ (agree_cons rfl (agree_cons rfl (agree_cons rfl (agree_cons rfl agree_nil)))) (pSub (pCons (Sel.sa (Sel.sa Sel.hc)) (pApp Sel.ha pNil)))
  replace h := cf hc h
  refine wc_exit (wx_then_exit ?_)
  simp only [Option.some.injEq] at h
  obtain rfl := h
  have h := hl10; clear hl10; try dsimp only [orE_l, orE_r] at h
  refine wx_then_exit (wx_block_exit ?_)
  simp only [Option.some.injEq] at h
  obtain rfl := h
  exact wx_spD tt_ok (.inr rfl) Tryd.results92 Res.nil ⟨j10_p0_f0a0, j10_p0_f0n0, j10_p0_f0c0, j10_p0_f0B0, j10_p0_f0N0, j10_p0_f0V0, rfl, rfl⟩ (fun F => by simp) (pSub (pCons Sel.hc (pApp Sel.ha pNil)))

theorem k_codec_Writer_U8 {F : Nat} {p0 : T_codec_Writer} {p0b p0t : Nat} {p0a0 : Option Addr} {p0n0 : Nat} {p0c0 : Nat} {p0B0 : List Blk} {p1 : Int} {r0 : T_codec_Writer} (p0N0 : p0n0 = p0.b.length) (p0V0 : Own 5 1 p0a0 p0n0 p0c0 (flat (e1 .u8) p0.b) p0B0) (h : m_codec_Writer_U8 F p0 p1 = some r0) :
    SpD Tryd.prog 76 [.pointer (some ⟨p0b, 0, none⟩), .int .u8 p1] (⟨p0b, [.slice p0a0 p0n0 p0c0], p0t, (0, 0)⟩ :: (p0B0 ++ [])) (fun w => True) (fun v D => ∃ (r0a0 : Option Addr) (r0n0 : Nat) (r0c0 : Nat) (r0B0 : List Blk), r0n0 = r0.b.length ∧ Own 5 1 r0a0 r0n0 r0c0 (flat (e1 .u8) r0.b) r0B0 ∧ v = .tuple #[] ∧ D = fun F => (⟨p0b, [.slice r0a0 r0n0 r0c0], p0t, (0, 0)⟩ :: (r0B0 ++ F))) := by
  unfold m_codec_Writer_U8 at h
  refine sp_of_wc Tryd.func76 rfl Tryd.ntmps76 rfl rfl (fun w0 hR => ?_)
  refine wc_region ?_
  iterate 2 refine wl_pure tt_ok rfl rfl ?_
  replace h := bsome h; obtain ⟨o6_0, x6, h⟩ := h
  refine wl_cs Tryd.call92 rfl rfl rfl (s_sp (k_codec_put_uint8 (p0 := p0) p0N0 p0V0 x6) (pCons Sel.hc (pApp Sel.ha pNil)) (fun _ _ => trivial)) rfl ?_
  rintro _ _ ⟨_, ⟨o6_0a0, o6_0n0, o6_0c0, o6_0B0, o6_0N0, o6_0V0, rfl, rfl⟩, rfl⟩
  refine wl_nil ?_
  simp only [Option.some.injEq] at h
  obtain rfl := h
  exact wx_spD tt_ok (.inr rfl) Tryd.results76 Res.nil ⟨o6_0a0, o6_0n0, o6_0c0, o6_0B0, o6_0N0, o6_0V0, rfl, rfl⟩ (fun F => by simp) (pSub (pCons Sel.hc (pApp Sel.ha pNil)))

theorem k_state_put {F : Nat} {p0 : T_codec_Writer} {p0b p0t : Nat} {p0a0 : Option Addr} {p0n0 : Nat} {p0c0 : Nat} {p0B0 : List Blk} {p1 : (List Int)} {p1a0 : Option Addr} {p1n0 p1c0 : Nat} {r0 : T_codec_Writer} (p0N0 : p0n0 = p0.b.length) (p0V0 : Own 5 1 p0a0 p0n0 p0c0 (flat (e1 .u8) p0.b) p0B0) (p1N0 : p1n0 = p1.length) (p1H0 : p1n0 ≤ p1c0) (h : m_state_put F p0 p1 = some r0) :
    SpD Tryd.prog 46 [.pointer (some ⟨p0b, 0, none⟩), .slice p1a0 p1n0 p1c0] (⟨p0b, [.slice p0a0 p0n0 p0c0], p0t, (0, 0)⟩ :: (p0B0 ++ [])) (fun w => Rds w (ids (⟨p0b, [.slice p0a0 p0n0 p0c0], p0t, (0, 0)⟩ :: (p0B0 ++ []))) [] p1a0 (flat (e1 .i32) p1)) (fun v D => ∃ (r0a0 : Option Addr) (r0n0 : Nat) (r0c0 : Nat) (r0B0 : List Blk), r0n0 = r0.b.length ∧ Own 5 1 r0a0 r0n0 r0c0 (flat (e1 .u8) r0.b) r0B0 ∧ v = .tuple #[] ∧ D = fun F => (⟨p0b, [.slice r0a0 r0n0 r0c0], p0t, (0, 0)⟩ :: (r0B0 ++ F))) := by
  unfold m_state_put at h
  refine sp_of_wc Tryd.func46 rfl Tryd.ntmps46 rfl rfl (fun w0 hR => ?_)
  have p1S0 := hR
  refine wc_seq (wc_region ?_)
  refine wl_pure tt_ok rfl rfl ?_
  refine wl_val (v := .int .i64 (p1.length : Int)) (val_len tt_ok rfl rfl p1N0) rfl ?_
  refine wl_pure tt_ok rfl rfl ?_
  refine wl_nil (wx_then (wc_block ?_))
  replace h := bsome h; obtain ⟨l4_p0_f0, h, hl4⟩ := h
  refine wc_loop (fun m E L => ∃ (j4_8 : Int) (j4_p0_f0 : (List Int)) (j4_p0_f0a0 : Option Addr) (j4_p0_f0n0 : Nat) (j4_p0_f0c0 : Nat) (j4_p0_f0B0 : List Blk), m_state_put_L3 F p1 m j4_8 j4_p0_f0 = some l4_p0_f0 ∧ j4_p0_f0n0 = j4_p0_f0.length ∧ Own 5 1 j4_p0_f0a0 j4_p0_f0n0 j4_p0_f0c0 (flat (e1 .u8) j4_p0_f0) j4_p0_f0B0 ∧ E = [(0, .pointer (some ⟨p0b, 0, none⟩)), (6, .slice p1a0 p1n0 p1c0), (7, .int .i64 (p1.length : Int)), (8, .int .i64 j4_8)] ∧ L = (⟨p0b, [.slice j4_p0_f0a0 j4_p0_f0n0 j4_p0_f0c0], p0t, (0, 0)⟩ :: (j4_p0_f0B0 ++ []))) F ⟨(0 : Int), p0.b, p0a0, p0n0, p0c0, p0B0, h, p0N0, p0V0, rfl, rfl⟩ (agree_cons rfl (agree_cons rfl (agree_cons rfl (agree_cons rfl agree_nil)))) (pSub (pCons Sel.hc (pApp Sel.ha pNil))) ?_
  clear h
  rintro m4 _ _ ⟨j4_8, j4_p0_f0, j4_p0_f0a0, j4_p0_f0n0, j4_p0_f0c0, j4_p0_f0B0, h, j4_p0_f0N0, j4_p0_f0V0, rfl, rfl⟩
  rcases m4 with _ | m4
  · rw [m_state_put_L3.eq_1] at h; cases h
  rw [m_state_put_L3.eq_2] at h
  refine wc_seq (wc_region ?_)
  refine wl_pure (v := .bool (decide (j4_8 < (p1.length : Int)))) tt_ok rfl rfl ?_
  refine wl_nil (wx_then (wc_seq ?_))
  refine wc_cond rfl (fun hc => ?_) (fun hc => ?_)
  · replace h := ct hc h
    refine wc_skip (wx_then (wc_seq (wc_block (wc_seq (wc_region ?_)))))
    refine wl_pure tt_ok rfl rfl ?_
    replace h := bsome h; obtain ⟨v11, x11, h⟩ := h
    refine wl_val (v := .pointer (some ((adOf p1a0).add (j4_8.toNat * 1 + 0)))) (val_ix (enc := (e1 .i32)) tt_ok rfl rfl rfl rfl p1N0 p1S0 (e1_len _) rfl x11) rfl ?_
    refine wl_val (v := .int .i32 v11) (val_le (enc := (e1 .i32)) (xs := p1) tt_ok rfl p1S0 rsub_nil (e1_len _) x11 rfl) rfl ?_
    iterate 2 refine wl_pure tt_ok rfl rfl ?_
    refine wl_nil (wx_then (wc_seq (wc_region ?_)))
    refine wl_pure tt_ok rfl rfl ?_
    refine wl_pure (v := .bool (decide (j4_8 < (4 : Int)))) tt_ok rfl rfl ?_
    refine wl_nil (wx_then ?_)
    refine wc_cond rfl (fun hc => ?_) (fun hc => ?_)
    · replace h := ct hc h
      refine wc_region ?_
      iterate 2 refine wl_pure tt_ok rfl rfl ?_
      replace h := bsome h; obtain ⟨o17_0, x17, h⟩ := h
      refine wl_cs Tryd.call75 rfl rfl rfl (s_sp (k_codec_Writer_I32 (p0 := (T_codec_Writer.mk j4_p0_f0)) j4_p0_f0N0 j4_p0_f0V0 x17) (pCons Sel.hc (pApp Sel.ha pNil)) (fun _ _ => trivial)) rfl ?_
      rintro _ _ ⟨_, ⟨o17_0a0, o17_0n0, o17_0c0, o17_0B0, o17_0N0, o17_0V0, rfl, rfl⟩, rfl⟩
      refine wl_nil (wx_block (wx_then (wc_region ?_)))
      refine wl_pure (v := .int .i64 (IntKind.wrap .i64 (j4_8 + (1 : Int)))) tt_ok rfl rfl ?_
      refine wl_pure tt_ok rfl rfl ?_
      refine wl_nil ?_
      exact wx_round m4 (Nat.lt_succ_self m4) ⟨(IntKind.wrap .i64 (j4_8 + (1 : Int))), o17_0.b, o17_0a0, o17_0n0, o17_0c0, o17_0B0, h, o17_0N0, o17_0V0, rfl, rfl⟩ (agree_cons rfl (agree_cons rfl (agree_cons rfl (agree_cons rfl agree_nil)))) (pSub (pCons Sel.hc (pApp Sel.ha pNil)))
    replace h := cf hc h
    refine wc_region ?_
    iterate 2 refine wl_pure tt_ok rfl rfl ?_
    refine wl_pure (v := .int .u8 (IntKind.wrap .u8 v11)) tt_ok rfl rfl ?_
    replace h := bsome h; obtain ⟨o21_0, x21, h⟩ := h
    refine wl_cs Tryd.call76 rfl rfl rfl (s_sp (k_codec_Writer_U8 (p0 := (T_codec_Writer.mk j4_p0_f0)) j4_p0_f0N0 j4_p0_f0V0 x21) (pCons Sel.hc (pApp Sel.ha pNil)) (fun _ _ => trivial)) rfl ?_
    rintro _ _ ⟨_, ⟨o21_0a0, o21_0n0, o21_0c0, o21_0B0, o21_0N0, o21_0V0, rfl, rfl⟩, rfl⟩
    refine wl_nil (wx_block (wx_then (wc_region ?_)))
    refine wl_pure (v := .int .i64 (IntKind.wrap .i64 (j4_8 + (1 : Int)))) tt_ok rfl rfl ?_
    refine wl_pure tt_ok rfl rfl ?_
    refine wl_nil ?_
    exact wx_round m4 (Nat.lt_succ_self m4) ⟨(IntKind.wrap .i64 (j4_8 + (1 : Int))), o21_0.b, o21_0a0, o21_0n0, o21_0c0, o21_0B0, h, o21_0N0, o21_0V0, rfl, rfl⟩ (agree_cons rfl (agree_cons rfl (agree_cons rfl (agree_cons rfl agree_nil)))) (pSub (pCons Sel.hc (pApp Sel.ha pNil)))
  replace h := cf hc h
  refine wc_exit (wx_then_exit ?_)
  simp only [Option.some.injEq] at h
  obtain rfl := h
  have h := hl4; clear hl4; try dsimp only [orE_l, orE_r] at h
  refine wx_then_exit (wx_block_exit ?_)
  simp only [Option.some.injEq] at h
  obtain rfl := h
  exact wx_spD tt_ok (.inr rfl) Tryd.results46 Res.nil ⟨j4_p0_f0a0, j4_p0_f0n0, j4_p0_f0c0, j4_p0_f0B0, j4_p0_f0N0, j4_p0_f0V0, rfl, rfl⟩ (fun F => by simp) (pSub (pCons Sel.hc (pApp Sel.ha pNil)))

theorem k_codec_Writer_Var {F : Nat} {p0 : T_codec_Writer} {p0b p0t : Nat} {p0a0 : Option Addr} {p0n0 : Nat} {p0c0 : Nat} {p0B0 : List Blk} {p1 : Int} {r0 : T_codec_Writer} (p0N0 : p0n0 = p0.b.length) (p0V0 : Own 5 1 p0a0 p0n0 p0c0 (flat (e1 .u8) p0.b) p0B0) (h : m_codec_Writer_Var F p0 p1 = some r0) :
    SpD Tryd.prog 48 [.pointer (some ⟨p0b, 0, none⟩), .int .u64 p1] (⟨p0b, [.slice p0a0 p0n0 p0c0], p0t, (0, 0)⟩ :: (p0B0 ++ [])) (fun w => True) (fun v D => ∃ (r0a0 : Option Addr) (r0n0 : Nat) (r0c0 : Nat) (r0B0 : List Blk), r0n0 = r0.b.length ∧ Own 5 1 r0a0 r0n0 r0c0 (flat (e1 .u8) r0.b) r0B0 ∧ v = .tuple #[] ∧ D = fun F => (⟨p0b, [.slice r0a0 r0n0 r0c0], p0t, (0, 0)⟩ :: (r0B0 ++ F))) := by
  unfold m_codec_Writer_Var at h
  refine sp_of_wc Tryd.func48 rfl Tryd.ntmps48 rfl rfl (fun w0 hR => ?_)
  refine wc_seq (wc_block ?_)
  replace h := bsome h; obtain ⟨⟨l3_1, l3_p0_f0⟩, h, hl3⟩ := h; try dsimp only at hl3
  refine wc_loop (fun m E L => ∃ (j3_1 : Int) (j3_p0_f0 : (List Int)) (j3_p0_f0a0 : Option Addr) (j3_p0_f0n0 : Nat) (j3_p0_f0c0 : Nat) (j3_p0_f0B0 : List Blk), m_codec_Writer_Var_L2 F m j3_1 j3_p0_f0 = some (l3_1, l3_p0_f0) ∧ j3_p0_f0n0 = j3_p0_f0.length ∧ Own 5 1 j3_p0_f0a0 j3_p0_f0n0 j3_p0_f0c0 (flat (e1 .u8) j3_p0_f0) j3_p0_f0B0 ∧ E = [(0, .pointer (some ⟨p0b, 0, none⟩)), (1, .int .u64 j3_1)] ∧ L = (⟨p0b, [.slice j3_p0_f0a0 j3_p0_f0n0 j3_p0_f0c0], p0t, (0, 0)⟩ :: (j3_p0_f0B0 ++ []))) F ⟨p1, p0.b, p0a0, p0n0, p0c0, p0B0, h, p0N0, p0V0, rfl, rfl⟩ (agree_cons rfl (agree_cons rfl agree_nil)) (pSub (pCons Sel.hc (pApp Sel.ha pNil))) ?_
  clear h
  rintro m3 _ _ ⟨j3_1, j3_p0_f0, j3_p0_f0a0, j3_p0_f0n0, j3_p0_f0c0, j3_p0_f0B0, h, j3_p0_f0N0, j3_p0_f0V0, rfl, rfl⟩
  rcases m3 with _ | m3
  · rw [m_codec_Writer_Var_L2.eq_1] at h; cases h
  rw [m_codec_Writer_Var_L2.eq_2] at h
  refine wc_seq (wc_seq (wc_region ?_))
  refine wl_pure tt_ok rfl rfl ?_
  refine wl_pure (v := .bool (decide ((127 : Int) < j3_1))) tt_ok rfl rfl ?_
  refine wl_nil (wx_then ?_)
  refine wc_cond rfl (fun hc => ?_) (fun hc => ?_)
  · replace h := ct hc h
    refine wc_skip (wx_then (wc_block (wc_seq (wc_region ?_))))
    iterate 2 refine wl_pure tt_ok rfl rfl ?_
    refine wl_pure (v := .int .u8 (IntKind.wrap .u8 j3_1)) tt_ok rfl rfl ?_
    refine wl_pure (v := .int .u8 (bits .or .u8 (IntKind.wrap .u8 j3_1) (128 : Int))) tt_ok rfl rfl ?_
    replace h := bsome h; obtain ⟨o10_0, x10, h⟩ := h
    refine wl_cs Tryd.call76 rfl rfl rfl (s_sp (k_codec_Writer_U8 (p0 := (T_codec_Writer.mk j3_p0_f0)) j3_p0_f0N0 j3_p0_f0V0 x10) (pCons Sel.hc (pApp Sel.ha pNil)) (fun _ _ => trivial)) rfl ?_
    rintro _ _ ⟨_, ⟨o10_0a0, o10_0n0, o10_0c0, o10_0B0, o10_0N0, o10_0V0, rfl, rfl⟩, rfl⟩
    refine wl_nil (wx_then (wc_region ?_))
    refine wl_pure tt_ok rfl rfl ?_
    refine wl_pure (v := .int .u64 (j3_1 / 2 ^ (min 7 (IntKind.bits .u64)))) tt_ok rfl rfl ?_
    refine wl_pure tt_ok rfl rfl ?_
    refine wl_nil (wx_block ?_)
    exact wx_round m3 (Nat.lt_succ_self m3) ⟨(j3_1 / 2 ^ (min 7 (IntKind.bits .u64))), o10_0.b, o10_0a0, o10_0n0, o10_0c0, o10_0B0, h, o10_0N0, o10_0V0, rfl, rfl⟩ (agree_cons rfl (agree_cons rfl agree_nil)) (pSub (pCons Sel.hc (pApp Sel.ha pNil)))
  replace h := cf hc h
  refine wc_exit (wx_then_exit ?_)
  simp only [Option.some.injEq, Prod.mk.injEq] at h
  obtain ⟨rfl, rfl⟩ := h
  have h := hl3; clear hl3; try dsimp only [orE_l, orE_r] at h
  refine wx_then_exit (wx_block_exit (wx_then (wc_region ?_)))
  iterate 2 refine wl_pure tt_ok rfl rfl ?_
  refine wl_pure (v := .int .u8 (IntKind.wrap .u8 j3_1)) tt_ok rfl rfl ?_
  replace h := bsome h; obtain ⟨o16_0, x16, h⟩ := h
  refine wl_cs Tryd.call76 rfl rfl rfl (s_sp (k_codec_Writer_U8 (p0 := (T_codec_Writer.mk j3_p0_f0)) j3_p0_f0N0 j3_p0_f0V0 x16) (pCons Sel.hc (pApp Sel.ha pNil)) (fun _ _ => trivial)) rfl ?_
  rintro _ _ ⟨_, ⟨o16_0a0, o16_0n0, o16_0c0, o16_0B0, o16_0N0, o16_0V0, rfl, rfl⟩, rfl⟩
  refine wl_nil ?_
  simp only [Option.some.injEq] at h
  obtain rfl := h
  exact wx_spD tt_ok (.inr rfl) Tryd.results48 Res.nil ⟨o16_0a0, o16_0n0, o16_0c0, o16_0B0, o16_0N0, o16_0V0, rfl, rfl⟩ (fun F => by simp) (pSub (pCons Sel.hc (pApp Sel.ha pNil)))

theorem k_codec_put_uint16 {F : Nat} {p0 : T_codec_Writer} {p0b p0t : Nat} {p0a0 : Option Addr} {p0n0 : Nat} {p0c0 : Nat} {p0B0 : List Blk} {p1 : Int} {p2 : Int} {r0 : T_codec_Writer} (p0N0 : p0n0 = p0.b.length) (p0V0 : Own 5 1 p0a0 p0n0 p0c0 (flat (e1 .u8) p0.b) p0B0) (h : m_codec_put_uint16 F p0 p1 p2 = some r0) :
    SpD Tryd.prog 77 [.pointer (some ⟨p0b, 0, none⟩), .int .u16 p1, .int .i64 p2] (⟨p0b, [.slice p0a0 p0n0 p0c0], p0t, (0, 0)⟩ :: (p0B0 ++ [])) (fun w => True) (fun v D => ∃ (r0a0 : Option Addr) (r0n0 : Nat) (r0c0 : Nat) (r0B0 : List Blk), r0n0 = r0.b.length ∧ Own 5 1 r0a0 r0n0 r0c0 (flat (e1 .u8) r0.b) r0B0 ∧ v = .tuple #[] ∧ D = fun F => (⟨p0b, [.slice r0a0 r0n0 r0c0], p0t, (0, 0)⟩ :: (r0B0 ++ F))) := by
  unfold m_codec_put_uint16 at h
  refine sp_of_wc Tryd.func77 rfl Tryd.ntmps77 rfl rfl (fun w0 hR => ?_)
  refine wc_seq (wc_seq (wc_region ?_))
  refine wl_pure tt_ok rfl rfl ?_
  refine wl_pure (v := .bool false) tt_ok rfl rfl ?_
  refine wl_nil (wx_then ?_)
  refine wc_cond_false rfl ?_
  refine wc_skip (wx_then (wc_seq (wc_region ?_)))
  iterate 2 refine wl_pure tt_ok rfl rfl ?_
  refine wl_nil (wx_then (wc_block ?_))
  replace h := bsome h; obtain ⟨l10_p0_f0, h, hl10⟩ := h
  refine wc_loop (fun m E L => ∃ (j10_10 : Int) (j10_p0_f0 : (List Int)) (j10_p0_f0a0 : Option Addr) (j10_p0_f0n0 : Nat) (j10_p0_f0c0 : Nat) (j10_p0_f0B0 : List Blk), m_codec_put_uint16_L9 F p1 p2 m j10_10 j10_p0_f0 = some l10_p0_f0 ∧ j10_p0_f0n0 = j10_p0_f0.length ∧ Own 5 1 j10_p0_f0a0 j10_p0_f0n0 j10_p0_f0c0 (flat (e1 .u8) j10_p0_f0) j10_p0_f0B0 ∧ E = [(0, .pointer (some ⟨p0b, 0, none⟩)), (1, .int .u16 p1), (9, .int .i64 p2), (10, .int .i64 j10_10)] ∧ L = (⟨p0b, [.slice j10_p0_f0a0 j10_p0_f0n0 j10_p0_f0c0], p0t, (0, 0)⟩ :: (j10_p0_f0B0 ++ []))) F ⟨(0 : Int), p0.b, p0a0, p0n0, p0c0, p0B0, h, p0N0, p0V0, rfl, rfl⟩ (agree_cons rfl (agree_cons rfl (agree_cons rfl (agree_cons rfl agree_nil)))) (pSub (pCons Sel.hc (pApp Sel.ha pNil))) ?_
  clear h
  rintro m10 _ _ ⟨j10_10, j10_p0_f0, j10_p0_f0a0, j10_p0_f0n0, j10_p0_f0c0, j10_p0_f0B0, h, j10_p0_f0N0, j10_p0_f0V0, rfl, rfl⟩
  rcases m10 with _ | m10
  · rw [m_codec_put_uint16_L9.eq_1] at h; cases h
  rw [m_codec_put_uint16_L9.eq_2] at h
  refine wc_seq (wc_region ?_)
  refine wl_pure (v := .bool (decide (j10_10 < p2))) tt_ok rfl rfl ?_
  refine wl_nil (wx_then (wc_seq ?_))
  refine wc_cond rfl (fun hc => ?_) (fun hc => ?_)
  · replace h := ct hc h
    refine wc_skip (wx_then (wc_seq (wc_block (wc_seq (wc_region ?_)))))
    iterate 2 refine wl_pure tt_ok rfl rfl ?_
    refine wl_nil (wx_then ?_)
    refine wc_k2 (Ls := (⟨p0b, [.slice j10_p0_f0a0 j10_p0_f0n0 j10_p0_f0c0], p0t, (0, 0)⟩ :: [])) [11, 12, 13, 14, 15] [13, 14, 15] [0, 0, 2, 6, 14, 0, 32, 0, 128, 480, 992, 2016, 4094, 8191, 16383, 32767] [0, 1, 2, 3, 4, 5, 6, 7, 8, 9, 10, 11, 12, 13, 14, 15] (by kernel_rfl) (by kernel_rfl) (by kernel_rfl) ?_
    refine k_val rfl rfl rfl (pSub (pCons Sel.hc pNil)) (stepV_ok tt_ok rfl) rfl ?_
    refine k_val rfl rfl rfl (pSub (pCons Sel.hc pNil)) (stepV_ok tt_ok rfl) rfl ?_
    refine k_val rfl rfl rfl (pSub (pCons Sel.hc pNil)) (stepV_ok tt_ok rfl) rfl ?_
    refine k_val (v := .pointer (some ⟨p0b, 0, none⟩)) rfl rfl rfl (pSub (pCons Sel.hc pNil)) (stepV_ok tt_ok rfl) rfl ?_
    refine k_val (v := .slice j10_p0_f0a0 j10_p0_f0n0 j10_p0_f0c0) rfl rfl rfl (pSub (pCons Sel.hc pNil)) (val_load tt_ok rfl (List.Mem.head _) rfl) rfl ?_
    refine k_val rfl rfl rfl (pSub (pCons Sel.hc pNil)) (stepV_ok tt_ok rfl) rfl ?_
    refine k_val (v := .int .u64 (IntKind.wrap .u64 p1)) rfl rfl rfl (pSub (pCons Sel.hc pNil)) (stepV_ok tt_ok rfl) rfl ?_
    refine k_val rfl rfl rfl (pSub (pCons Sel.hc pNil)) (stepV_ok tt_ok rfl) rfl ?_
    refine k_val (v := .int .i64 (IntKind.wrap .i64 ((8 : Int) * j10_10))) rfl rfl rfl (pSub (pCons Sel.hc pNil)) (stepV_ok tt_ok rfl) rfl ?_
    replace h := bsome h; obtain ⟨v22, x22, h⟩ := h
    refine k_val (v := .int .u64 v22) rfl rfl rfl (pSub (pCons Sel.hc pNil)) (val_shr rfl rfl x22) rfl ?_
    refine k_val (v := .int .u8 (IntKind.wrap .u8 v22)) rfl rfl rfl (pSub (pCons Sel.hc pNil)) (stepV_ok tt_ok rfl) rfl ?_
    refine k_chg rfl rfl rfl (chg_bsv (enc := (e1 .u8)) (xs := ([(IntKind.wrap .u8 v22)] : List Int)) tt_ok rfl rfl rfl rfl rfl rfl rfl rfl (e1_len _)) rfl (.inr (by rintro _ _ ⟨_, _, _, _, rfl, _, _, rfl⟩; exact ⟨_, (pCons (Sel.sa Sel.hc) pNil)⟩)) ?_
    rintro _ _ ⟨a24, n24_, c24, B24, rfl, N24, V24, rfl⟩
    replace h := bsome h; obtain ⟨v25, x25, h⟩ := h
    refine k_chg rfl rfl rfl (chg_app (enc := (e1 .u8)) (ys := ([(IntKind.wrap .u8 v22)] : List Int)) tt_ok rfl rfl rfl rfl rfl rfl j10_p0_f0N0 N24 j10_p0_f0V0 (Sel.sa (Sel.sc Sel.ha)) (Rds.of_vec V24) ⟨_, Sel.ha⟩ (e1_len _) (fun _ => rfl) rfl x25) rfl (.inr (by rintro _ _ ⟨_, _, _, _, rfl, _, _, rfl⟩; exact ⟨_, (pCons (Sel.sa (Sel.sa Sel.hc)) pNil)⟩)) ?_
    rintro _ _ ⟨a25, n25_, c25, B25, rfl, N25, V25, rfl⟩
    refine k_chg rfl rfl rfl (Chg.of_val (stepV_ok tt_ok rfl)) rfl (.inl rfl) ?_
    rintro _ _ ⟨rfl, rfl⟩
    refine k_chg rfl rfl rfl (Chg.of_val (v := .pointer (some ⟨p0b, 0, none⟩)) (stepV_ok tt_ok rfl)) rfl (.inl rfl) ?_
    rintro _ _ ⟨rfl, rfl⟩
    refine k_chg0 rfl rfl rfl (chg_store tt_ok rfl (Upd.right (Upd.right Upd.here)) rfl rfl rfl rfl rfl rfl) (.inl rfl) ?_
    rintro _ _ rfl
    refine k_end (by kernel_rfl) ?_
    refine wx_block (wx_then (wc_region ?_))
    refine wl_pure (v := .int .i64 (IntKind.wrap .i64 (j10_10 + (1 : Int)))) tt_ok rfl rfl ?_
    refine wl_pure tt_ok rfl rfl ?_
    refine wl_nil ?_
    exact wx_round m10 (Nat.lt_succ_self m10) ⟨(IntKind.wrap .i64 (j10_10 + (1 : Int))), v25, a25, n25_, c25, B25, h, N25, V25, rfl, rfl⟩ (agree_cons rfl (agree_cons rfl (agree_cons rfl (agree_cons rfl agree_nil)))) (pSub (pCons (Sel.sa (Sel.sa Sel.hc)) (pApp Sel.ha pNil)))
  replace h := cf hc h
  refine wc_exit (wx_then_exit ?_)
  simp only [Option.some.injEq] at h
  obtain rfl := h
  have h := hl10; clear hl10; try dsimp only [orE_l, orE_r] at h
  refine wx_then_exit (wx_block_exit ?_)
  simp only [Option.some.injEq] at h
  obtain rfl := h
  exact wx_spD tt_ok (.inr rfl) Tryd.results77 Res.nil ⟨j10_p0_f0a0, j10_p0_f0n0, j10_p0_f0c0, j10_p0_f0B0, j10_p0_f0N0, j10_p0_f0V0, rfl, rfl⟩ (fun F => by simp) (pSub (pCons Sel.hc (pApp Sel.ha pNil)))

theorem k_codec_Writer_U16 {F : Nat} {p0 : T_codec_Writer} {p0b p0t : Nat} {p0a0 : Option Addr} {p0n0 : Nat} {p0c0 : Nat} {p0B0 : List Blk} {p1 : Int} {r0 : T_codec_Writer} (p0N0 : p0n0 = p0.b.length) (p0V0 : Own 5 1 p0a0 p0n0 p0c0 (flat (e1 .u8) p0.b) p0B0) (h : m_codec_Writer_U16 F p0 p1 = some r0) :
    SpD Tryd.prog 50 [.pointer (some ⟨p0b, 0, none⟩), .int .u16 p1] (⟨p0b, [.slice p0a0 p0n0 p0c0], p0t, (0, 0)⟩ :: (p0B0 ++ [])) (fun w => True) (fun v D => ∃ (r0a0 : Option Addr) (r0n0 : Nat) (r0c0 : Nat) (r0B0 : List Blk), r0n0 = r0.b.length ∧ Own 5 1 r0a0 r0n0 r0c0 (flat (e1 .u8) r0.b) r0B0 ∧ v = .tuple #[] ∧ D = fun F => (⟨p0b, [.slice r0a0 r0n0 r0c0], p0t, (0, 0)⟩ :: (r0B0 ++ F))) := by
  unfold m_codec_Writer_U16 at h
  refine sp_of_wc Tryd.func50 rfl Tryd.ntmps50 rfl rfl (fun w0 hR => ?_)
  refine wc_region ?_
  iterate 2 refine wl_pure tt_ok rfl rfl ?_
  replace h := bsome h; obtain ⟨o6_0, x6, h⟩ := h
  refine wl_cs Tryd.call77 rfl rfl rfl (s_sp (k_codec_put_uint16 (p0 := p0) p0N0 p0V0 x6) (pCons Sel.hc (pApp Sel.ha pNil)) (fun _ _ => trivial)) rfl ?_
  rintro _ _ ⟨_, ⟨o6_0a0, o6_0n0, o6_0c0, o6_0B0, o6_0N0, o6_0V0, rfl, rfl⟩, rfl⟩
  refine wl_nil ?_
  simp only [Option.some.injEq] at h
  obtain rfl := h
  exact wx_spD tt_ok (.inr rfl) Tryd.results50 Res.nil ⟨o6_0a0, o6_0n0, o6_0c0, o6_0B0, o6_0N0, o6_0V0, rfl, rfl⟩ (fun F => by simp) (pSub (pCons Sel.hc (pApp Sel.ha pNil)))

theorem k_codec_Writer_Bytes {F : Nat} {p0 : T_codec_Writer} {p0b p0t : Nat} {p0a0 : Option Addr} {p0n0 : Nat} {p0c0 : Nat} {p0B0 : List Blk} {r0 : (List UInt8)} (p0N0 : p0n0 = p0.b.length) (p0V0 : Own 5 1 p0a0 p0n0 p0c0 (flat (e1 .u8) p0.b) p0B0) (h : m_codec_Writer_Bytes F p0 = some r0) :
    Rd2 Tryd.prog 51 [.pointer (some ⟨p0b, 0, none⟩)] (⟨p0b, [.slice p0a0 p0n0 p0c0], p0t, (0, 0)⟩ :: (p0B0 ++ [])) (fun w => True) (.string ⟨r0.toArray⟩) := by
  unfold m_codec_Writer_Bytes at h
  refine sp_of_wc Tryd.func51 rfl Tryd.ntmps51 rfl rfl (fun w0 hR => ?_)
  refine wc_seq (wc_region ?_)
  refine wl_pure tt_ok rfl rfl ?_
  refine wl_nil (wx_then (wc_seq (wc_seq (wc_region ?_))))
  refine wl_pure tt_ok rfl rfl ?_
  refine wl_pure (v := .bool false) tt_ok rfl rfl ?_
  refine wl_nil (wx_then ?_)
  refine wc_cond_false rfl ?_
  refine wc_skip (wx_then (wc_seq (wc_region ?_)))
  iterate 2 refine wl_pure tt_ok rfl rfl ?_
  refine wl_pure (v := .pointer (some ⟨p0b, 0, none⟩)) tt_ok rfl rfl ?_
  refine wl_val (v := .slice p0a0 p0n0 p0c0) (val_load tt_ok rfl (List.Mem.head _) rfl) rfl ?_
  refine wl_val (v := .string ⟨(toB p0.b).toArray⟩) (val_b2s (xs := p0.b) tt_ok rfl rfl rfl rfl p0N0 (Rds.of_vec p0V0) ⟨_, (Sel.sc Sel.ha)⟩) rfl ?_
  refine wl_pure tt_ok rfl rfl ?_
  refine wl_nil (wx_then (wc_ret ?_))
  simp only [Option.some.injEq] at h
  obtain rfl := h
  exact wx_rd tt_ok (.inl rfl) Tryd.results51 (Res.tmp rfl Res.nil) (pSub (pCons Sel.hc (pApp Sel.ha pNil))) rfl

end Go.Proofs.YthlnellnlhkphaaDoor
