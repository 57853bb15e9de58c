/-
  Each function computes what its model says. Printed by a program of this claim's own.
-/
import Derived.Test.YtfjmhnfaoifehaaTab
import Derived.Test.YtfjmhnfaoifehaaMod
import Derived.Test.YtfjmhnfaoifehaaWalk2
namespace Go.Proofs.Ytfjmhnfaoifehaa
open Go.Proofs.Ytfjmhnfaoifehaa.Eng
set_option linter.unusedVariables false
set_option linter.unusedSimpArgs false
set_option maxHeartbeats 4000000
set_option maxRecDepth 20000

theorem k_hindcastlaw24_QueueKnown {F : Nat} {r0 : Bool} (h : m_hindcastlaw24_QueueKnown F = some r0) :
    Pf Try.prog 6 [] (fun w => True) (.bool r0) := by
  unfold m_hindcastlaw24_QueueKnown at h
  refine pf_of_wc Try.func6 rfl Try.ntmps6 rfl rfl (fun w0 hR => ?_)
  refine wc_seq ?_
  refine wc_region ?_
  refine wl_pure tt_ok rfl rfl ?_
  refine wl_nil ?_
  refine wx_then ?_
  refine wc_seq ?_
  refine wc_region ?_
  replace h := bsome h; obtain ⟨v5, x5, h⟩ := h
  refine wl_cs Try.call8 rfl rfl rfl (s_sp (k_queue_New x5) pNil (fun _ _ => trivial)) rfl ?_
  rintro _ _ ⟨_, ⟨b5_0, v5a0, v5n0, v5c0, v5B0, v5N0, v5V0, rfl, rfl⟩, rfl⟩
  refine wl_pure tt_ok rfl rfl ?_
  refine wl_nil ?_
  refine wx_then ?_
  refine wc_seq ?_
  refine wc_seq ?_
  refine wc_region ?_
  refine wl_pure tt_ok rfl rfl ?_
  refine wl_pure (v := .bool false) tt_ok rfl rfl ?_
  refine wl_pure tt_ok rfl rfl ?_
  replace h := bsome h; obtain ⟨v9, x9, h⟩ := h
  refine wl_run rfl ?_
  refine wl_cq Try.call7 rfl rfl rfl (q_pf (k_hindcastlaw24_works x9) (fun _ _ => trivial)) rfl ?_
  refine wl_run rfl ?_
  refine wl_pure (v := .bool (!v9)) tt_ok rfl rfl ?_
  refine wl_pure (v := .bool (!v9)) tt_ok rfl rfl ?_
  refine wl_pure tt_ok rfl rfl ?_
  replace h := bsome h; obtain ⟨⟨v16, g16_n5_0⟩, h, hg16⟩ := h
  refine wl_split (t := 12) rfl (fun hc => ?_) (fun hc => ?_)
  · replace h := ct hc h
    refine wl_skip rfl rfl ?_
    refine wl_skip rfl rfl ?_
    refine wl_skip rfl rfl ?_
    simp only [Option.some.injEq, Prod.mk.injEq] at h
    obtain ⟨rfl, rfl⟩ := h
    have h := hg16; clear hg16; try dsimp only at h
    refine wl_pure (v := .bool true) tt_ok rfl rfl ?_
    refine wl_pure tt_ok rfl rfl ?_
    replace h := bsome h; obtain ⟨⟨v21, g21_n5_0⟩, h, hg21⟩ := h
    replace h := ct rfl h
    refine wl_skip rfl rfl ?_
    refine wl_skip rfl rfl ?_
    refine wl_skip rfl rfl ?_
    simp only [Option.some.injEq, Prod.mk.injEq] at h
    obtain ⟨rfl, rfl⟩ := h
    have h := hg21; clear hg21; try dsimp only at h
    refine wl_pure (v := .bool true) tt_ok rfl rfl ?_
    refine wl_pure tt_ok rfl rfl ?_
    replace h := bsome h; obtain ⟨⟨v26, g26_n5_0⟩, h, hg26⟩ := h
    replace h := ct rfl h
    refine wl_skip rfl rfl ?_
    refine wl_skip rfl rfl ?_
    refine wl_skip rfl rfl ?_
    simp only [Option.some.injEq, Prod.mk.injEq] at h
    obtain ⟨rfl, rfl⟩ := h
    have h := hg26; clear hg26; try dsimp only at h
    refine wl_pure (v := .bool true) tt_ok rfl rfl ?_
    refine wl_pure tt_ok rfl rfl ?_
    replace h := bsome h; obtain ⟨⟨v31, g31_n5_0⟩, h, hg31⟩ := h
    replace h := ct rfl h
    refine wl_skip rfl rfl ?_
    refine wl_skip rfl rfl ?_
    refine wl_skip rfl rfl ?_
    simp only [Option.some.injEq, Prod.mk.injEq] at h
    obtain ⟨rfl, rfl⟩ := h
    have h := hg31; clear hg31; try dsimp only at h
    refine wl_pure (v := .bool true) tt_ok rfl rfl ?_
    refine wl_pure tt_ok rfl rfl ?_
    replace h := bsome h; obtain ⟨⟨v36, g36_n5_0⟩, h, hg36⟩ := h
    replace h := ct rfl h
    refine wl_skip rfl rfl ?_
    refine wl_skip rfl rfl ?_
    refine wl_skip rfl rfl ?_
    simp only [Option.some.injEq, Prod.mk.injEq] at h
    obtain ⟨rfl, rfl⟩ := h
    have h := hg36; clear hg36; try dsimp only at h
    refine wl_pure (v := .bool true) tt_ok rfl rfl ?_
    refine wl_pure tt_ok rfl rfl ?_
    replace h := bsome h; obtain ⟨⟨v41, g41_n5_0⟩, h, hg41⟩ := h
    replace h := ct rfl h
    refine wl_skip rfl rfl ?_
    refine wl_skip rfl rfl ?_
    refine wl_skip rfl rfl ?_
    simp only [Option.some.injEq, Prod.mk.injEq] at h
    obtain ⟨rfl, rfl⟩ := h
    have h := hg41; clear hg41; try dsimp only at h
    refine wl_pure (v := .bool true) tt_ok rfl rfl ?_
    refine wl_pure tt_ok rfl rfl ?_
    replace h := bsome h; obtain ⟨v46, h, hg46⟩ := h
    replace h := ct rfl h
    refine wl_skip rfl rfl ?_
    refine wl_skip rfl rfl ?_
    refine wl_skip rfl rfl ?_
    simp only [Option.some.injEq, Prod.mk.injEq] at h
    obtain rfl := h
    have h := hg46; clear hg46
    refine wl_pure (v := .bool true) tt_ok rfl rfl ?_
    refine wl_pure tt_ok rfl rfl ?_
    replace h := bsome h; obtain ⟨⟨v51, g51_n5_0⟩, h, hg51⟩ := h
    replace h := ct rfl h
    refine wl_skip rfl rfl ?_
    refine wl_skip rfl rfl ?_
    refine wl_skip rfl rfl ?_
    simp only [Option.some.injEq, Prod.mk.injEq] at h
    obtain ⟨rfl, rfl⟩ := h
    have h := hg51; clear hg51; try dsimp only at h
    refine wl_pure (v := .bool true) tt_ok rfl rfl ?_
    refine wl_nil ?_
    refine wx_then ?_
    replace h := ct rfl h
    refine wc_cond_true rfl ?_
    refine wc_seq ?_
    refine wc_region ?_
    refine wl_pure tt_ok rfl rfl ?_
    refine wl_nil ?_
    refine wx_then ?_
    refine wc_ret ?_
    refine wx_then_ret ?_
    simp only [Option.some.injEq] at h
    obtain rfl := h
    exact wx_pf tt_ok (.inl rfl) Try.results6 (Res.tmp rfl Res.nil) rfl
  · replace h := cf hc h
    refine wl_run rfl ?_
    refine wl_pure tt_ok rfl rfl ?_
    replace h := bsome h; obtain ⟨⟨o14_0, v14⟩, x14, h⟩ := h; try dsimp only at h
    refine wl_run rfl ?_
    refine wl_cs Try.call10 rfl rfl rfl (s_sp (k_queue_Queue_Add v5N0 v5V0 x14) (pCons Sel.hc (pApp Sel.ha pNil)) (fun _ _ => trivial)) rfl ?_
    rintro _ _ ⟨_, ⟨o14_0a0, o14_0n0, o14_0c0, o14_0B0, o14_0N0, o14_0V0, rfl, rfl⟩, rfl⟩
    refine wl_run rfl ?_
    refine wl_pure (v := .bool (v14 != (0 : Int))) tt_ok rfl rfl ?_
    simp only [Option.some.injEq, Prod.mk.injEq] at h
    obtain ⟨rfl, rfl⟩ := h
    have h := hg16; clear hg16; try dsimp only at h
    refine wl_pure (v := .bool (v14 != (0 : Int))) tt_ok rfl rfl ?_
    refine wl_pure tt_ok rfl rfl ?_
    replace h := bsome h; obtain ⟨⟨v21, g21_n5_0⟩, h, hg21⟩ := h
    refine wl_split (t := 17) rfl (fun hc => ?_) (fun hc => ?_)
    · replace h := ct hc h
      refine wl_skip rfl rfl ?_
      refine wl_skip rfl rfl ?_
      refine wl_skip rfl rfl ?_
      simp only [Option.some.injEq, Prod.mk.injEq] at h
      obtain ⟨rfl, rfl⟩ := h
      have h := hg21; clear hg21; try dsimp only at h
      refine wl_pure (v := .bool true) tt_ok rfl rfl ?_
      refine wl_pure tt_ok rfl rfl ?_
      replace h := bsome h; obtain ⟨⟨v26, g26_n5_0⟩, h, hg26⟩ := h
      replace h := ct rfl h
      refine wl_skip rfl rfl ?_
      refine wl_skip rfl rfl ?_
      refine wl_skip rfl rfl ?_
      simp only [Option.some.injEq, Prod.mk.injEq] at h
      obtain ⟨rfl, rfl⟩ := h
      have h := hg26; clear hg26; try dsimp only at h
      refine wl_pure (v := .bool true) tt_ok rfl rfl ?_
      refine wl_pure tt_ok rfl rfl ?_
      replace h := bsome h; obtain ⟨⟨v31, g31_n5_0⟩, h, hg31⟩ := h
      replace h := ct rfl h
      refine wl_skip rfl rfl ?_
      refine wl_skip rfl rfl ?_
      refine wl_skip rfl rfl ?_
      simp only [Option.some.injEq, Prod.mk.injEq] at h
      obtain ⟨rfl, rfl⟩ := h
      have h := hg31; clear hg31; try dsimp only at h
      refine wl_pure (v := .bool true) tt_ok rfl rfl ?_
      refine wl_pure tt_ok rfl rfl ?_
      replace h := bsome h; obtain ⟨⟨v36, g36_n5_0⟩, h, hg36⟩ := h
      replace h := ct rfl h
      refine wl_skip rfl rfl ?_
      refine wl_skip rfl rfl ?_
      refine wl_skip rfl rfl ?_
      simp only [Option.some.injEq, Prod.mk.injEq] at h
      obtain ⟨rfl, rfl⟩ := h
      have h := hg36; clear hg36; try dsimp only at h
      refine wl_pure (v := .bool true) tt_ok rfl rfl ?_
      refine wl_pure tt_ok rfl rfl ?_
      replace h := bsome h; obtain ⟨⟨v41, g41_n5_0⟩, h, hg41⟩ := h
      replace h := ct rfl h
      refine wl_skip rfl rfl ?_
      refine wl_skip rfl rfl ?_
      refine wl_skip rfl rfl ?_
      simp only [Option.some.injEq, Prod.mk.injEq] at h
      obtain ⟨rfl, rfl⟩ := h
      have h := hg41; clear hg41; try dsimp only at h
      refine wl_pure (v := .bool true) tt_ok rfl rfl ?_
      refine wl_pure tt_ok rfl rfl ?_
      replace h := bsome h; obtain ⟨v46, h, hg46⟩ := h
      replace h := ct rfl h
      refine wl_skip rfl rfl ?_
      refine wl_skip rfl rfl ?_
      refine wl_skip rfl rfl ?_
      simp only [Option.some.injEq, Prod.mk.injEq] at h
      obtain rfl := h
      have h := hg46; clear hg46
      refine wl_pure (v := .bool true) tt_ok rfl rfl ?_
      refine wl_pure tt_ok rfl rfl ?_
      replace h := bsome h; obtain ⟨⟨v51, g51_n5_0⟩, h, hg51⟩ := h
      replace h := ct rfl h
      refine wl_skip rfl rfl ?_
      refine wl_skip rfl rfl ?_
      refine wl_skip rfl rfl ?_
      simp only [Option.some.injEq, Prod.mk.injEq] at h
      obtain ⟨rfl, rfl⟩ := h
      have h := hg51; clear hg51; try dsimp only at h
      refine wl_pure (v := .bool true) tt_ok rfl rfl ?_
      refine wl_nil ?_
      refine wx_then ?_
      replace h := ct rfl h
      refine wc_cond_true rfl ?_
      refine wc_seq ?_
      refine wc_region ?_
      refine wl_pure tt_ok rfl rfl ?_
      refine wl_nil ?_
      refine wx_then ?_
      refine wc_ret ?_
      refine wx_then_ret ?_
      simp only [Option.some.injEq] at h
      obtain rfl := h
      exact wx_pf tt_ok (.inl rfl) Try.results6 (Res.tmp rfl Res.nil) rfl
    · replace h := cf hc h
      refine wl_run rfl ?_
      refine wl_pure tt_ok rfl rfl ?_
      replace h := bsome h; obtain ⟨⟨o19_0, v19⟩, x19, h⟩ := h; try dsimp only at h
      refine wl_run rfl ?_
      refine wl_cs Try.call10 rfl rfl rfl (s_sp (k_queue_Queue_Add o14_0N0 o14_0V0 x19) (pCons Sel.hc (pApp Sel.ha pNil)) (fun _ _ => trivial)) rfl ?_
      rintro _ _ ⟨_, ⟨o19_0a0, o19_0n0, o19_0c0, o19_0B0, o19_0N0, o19_0V0, rfl, rfl⟩, rfl⟩
      refine wl_run rfl ?_
      refine wl_pure (v := .bool (v19 != (0 : Int))) tt_ok rfl rfl ?_
      simp only [Option.some.injEq, Prod.mk.injEq] at h
      obtain ⟨rfl, rfl⟩ := h
      have h := hg21; clear hg21; try dsimp only at h
      refine wl_pure (v := .bool (v19 != (0 : Int))) tt_ok rfl rfl ?_
      refine wl_pure tt_ok rfl rfl ?_
      replace h := bsome h; obtain ⟨⟨v26, g26_n5_0⟩, h, hg26⟩ := h
      refine wl_split (t := 22) rfl (fun hc => ?_) (fun hc => ?_)
      · replace h := ct hc h
        refine wl_skip rfl rfl ?_
        refine wl_skip rfl rfl ?_
        refine wl_skip rfl rfl ?_
        simp only [Option.some.injEq, Prod.mk.injEq] at h
        obtain ⟨rfl, rfl⟩ := h
        have h := hg26; clear hg26; try dsimp only at h
        refine wl_pure (v := .bool true) tt_ok rfl rfl ?_
        refine wl_pure tt_ok rfl rfl ?_
        replace h := bsome h; obtain ⟨⟨v31, g31_n5_0⟩, h, hg31⟩ := h
        replace h := ct rfl h
        refine wl_skip rfl rfl ?_
        refine wl_skip rfl rfl ?_
        refine wl_skip rfl rfl ?_
        simp only [Option.some.injEq, Prod.mk.injEq] at h
        obtain ⟨rfl, rfl⟩ := h
        have h := hg31; clear hg31; try dsimp only at h
        refine wl_pure (v := .bool true) tt_ok rfl rfl ?_
        refine wl_pure tt_ok rfl rfl ?_
        replace h := bsome h; obtain ⟨⟨v36, g36_n5_0⟩, h, hg36⟩ := h
        replace h := ct rfl h
        refine wl_skip rfl rfl ?_
        refine wl_skip rfl rfl ?_
        refine wl_skip rfl rfl ?_
        simp only [Option.some.injEq, Prod.mk.injEq] at h
        obtain ⟨rfl, rfl⟩ := h
        have h := hg36; clear hg36; try dsimp only at h
        refine wl_pure (v := .bool true) tt_ok rfl rfl ?_
        refine wl_pure tt_ok rfl rfl ?_
        replace h := bsome h; obtain ⟨⟨v41, g41_n5_0⟩, h, hg41⟩ := h
        replace h := ct rfl h
        refine wl_skip rfl rfl ?_
        refine wl_skip rfl rfl ?_
        refine wl_skip rfl rfl ?_
        simp only [Option.some.injEq, Prod.mk.injEq] at h
        obtain ⟨rfl, rfl⟩ := h
        have h := hg41; clear hg41; try dsimp only at h
        refine wl_pure (v := .bool true) tt_ok rfl rfl ?_
        refine wl_pure tt_ok rfl rfl ?_
        replace h := bsome h; obtain ⟨v46, h, hg46⟩ := h
        replace h := ct rfl h
        refine wl_skip rfl rfl ?_
        refine wl_skip rfl rfl ?_
        refine wl_skip rfl rfl ?_
        simp only [Option.some.injEq, Prod.mk.injEq] at h
        obtain rfl := h
        have h := hg46; clear hg46
        refine wl_pure (v := .bool true) tt_ok rfl rfl ?_
        refine wl_pure tt_ok rfl rfl ?_
        replace h := bsome h; obtain ⟨⟨v51, g51_n5_0⟩, h, hg51⟩ := h
        replace h := ct rfl h
        refine wl_skip rfl rfl ?_
        refine wl_skip rfl rfl ?_
        refine wl_skip rfl rfl ?_
        simp only [Option.some.injEq, Prod.mk.injEq] at h
        obtain ⟨rfl, rfl⟩ := h
        have h := hg51; clear hg51; try dsimp only at h
        refine wl_pure (v := .bool true) tt_ok rfl rfl ?_
        refine wl_nil ?_
        refine wx_then ?_
        replace h := ct rfl h
        refine wc_cond_true rfl ?_
        refine wc_seq ?_
        refine wc_region ?_
        refine wl_pure tt_ok rfl rfl ?_
        refine wl_nil ?_
        refine wx_then ?_
        refine wc_ret ?_
        refine wx_then_ret ?_
        simp only [Option.some.injEq] at h
        obtain rfl := h
        exact wx_pf tt_ok (.inl rfl) Try.results6 (Res.tmp rfl Res.nil) rfl
      · replace h := cf hc h
        refine wl_run rfl ?_
        refine wl_pure tt_ok rfl rfl ?_
        replace h := bsome h; obtain ⟨⟨o24_0, v24⟩, x24, h⟩ := h; try dsimp only at h
        refine wl_run rfl ?_
        refine wl_cs Try.call10 rfl rfl rfl (s_sp (k_queue_Queue_Add o19_0N0 o19_0V0 x24) (pCons Sel.hc (pApp Sel.ha pNil)) (fun _ _ => trivial)) rfl ?_
        rintro _ _ ⟨_, ⟨o24_0a0, o24_0n0, o24_0c0, o24_0B0, o24_0N0, o24_0V0, rfl, rfl⟩, rfl⟩
        refine wl_run rfl ?_
        refine wl_pure (v := .bool (v24 != (11 : Int))) tt_ok rfl rfl ?_
        simp only [Option.some.injEq, Prod.mk.injEq] at h
        obtain ⟨rfl, rfl⟩ := h
        have h := hg26; clear hg26; try dsimp only at h
        refine wl_pure (v := .bool (v24 != (11 : Int))) tt_ok rfl rfl ?_
        refine wl_pure tt_ok rfl rfl ?_
        replace h := bsome h; obtain ⟨⟨v31, g31_n5_0⟩, h, hg31⟩ := h
        refine wl_split (t := 27) rfl (fun hc => ?_) (fun hc => ?_)
        · replace h := ct hc h
          refine wl_skip rfl rfl ?_
          refine wl_skip rfl rfl ?_
          refine wl_skip rfl rfl ?_
          simp only [Option.some.injEq, Prod.mk.injEq] at h
          obtain ⟨rfl, rfl⟩ := h
          have h := hg31; clear hg31; try dsimp only at h
          refine wl_pure (v := .bool true) tt_ok rfl rfl ?_
          refine wl_pure tt_ok rfl rfl ?_
          replace h := bsome h; obtain ⟨⟨v36, g36_n5_0⟩, h, hg36⟩ := h
          replace h := ct rfl h
          refine wl_skip rfl rfl ?_
          refine wl_skip rfl rfl ?_
          refine wl_skip rfl rfl ?_
          simp only [Option.some.injEq, Prod.mk.injEq] at h
          obtain ⟨rfl, rfl⟩ := h
          have h := hg36; clear hg36; try dsimp only at h
          refine wl_pure (v := .bool true) tt_ok rfl rfl ?_
          refine wl_pure tt_ok rfl rfl ?_
          replace h := bsome h; obtain ⟨⟨v41, g41_n5_0⟩, h, hg41⟩ := h
          replace h := ct rfl h
          refine wl_skip rfl rfl ?_
          refine wl_skip rfl rfl ?_
          refine wl_skip rfl rfl ?_
          simp only [Option.some.injEq, Prod.mk.injEq] at h
          obtain ⟨rfl, rfl⟩ := h
          have h := hg41; clear hg41; try dsimp only at h
          refine wl_pure (v := .bool true) tt_ok rfl rfl ?_
          refine wl_pure tt_ok rfl rfl ?_
          replace h := bsome h; obtain ⟨v46, h, hg46⟩ := h
          replace h := ct rfl h
          refine wl_skip rfl rfl ?_
          refine wl_skip rfl rfl ?_
          refine wl_skip rfl rfl ?_
          simp only [Option.some.injEq, Prod.mk.injEq] at h
          obtain rfl := h
          have h := hg46; clear hg46
          refine wl_pure (v := .bool true) tt_ok rfl rfl ?_
          refine wl_pure tt_ok rfl rfl ?_
          replace h := bsome h; obtain ⟨⟨v51, g51_n5_0⟩, h, hg51⟩ := h
          replace h := ct rfl h
          refine wl_skip rfl rfl ?_
          refine wl_skip rfl rfl ?_
          refine wl_skip rfl rfl ?_
          simp only [Option.some.injEq, Prod.mk.injEq] at h
          obtain ⟨rfl, rfl⟩ := h
          have h := hg51; clear hg51; try dsimp only at h
          refine wl_pure (v := .bool true) tt_ok rfl rfl ?_
          refine wl_nil ?_
          refine wx_then ?_
          replace h := ct rfl h
          refine wc_cond_true rfl ?_
          refine wc_seq ?_
          refine wc_region ?_
          refine wl_pure tt_ok rfl rfl ?_
          refine wl_nil ?_
          refine wx_then ?_
          refine wc_ret ?_
          refine wx_then_ret ?_
          simp only [Option.some.injEq] at h
          obtain rfl := h
          exact wx_pf tt_ok (.inl rfl) Try.results6 (Res.tmp rfl Res.nil) rfl
        · replace h := cf hc h
          refine wl_run rfl ?_
          refine wl_pure tt_ok rfl rfl ?_
          replace h := bsome h; obtain ⟨⟨o29_0, v29⟩, x29, h⟩ := h; try dsimp only at h
          refine wl_run rfl ?_
          refine wl_cs Try.call10 rfl rfl rfl (s_sp (k_queue_Queue_Add o24_0N0 o24_0V0 x29) (pCons Sel.hc (pApp Sel.ha pNil)) (fun _ _ => trivial)) rfl ?_
          rintro _ _ ⟨_, ⟨o29_0a0, o29_0n0, o29_0c0, o29_0B0, o29_0N0, o29_0V0, rfl, rfl⟩, rfl⟩
          refine wl_run rfl ?_
          refine wl_pure (v := .bool (v29 != (0 : Int))) tt_ok rfl rfl ?_
          simp only [Option.some.injEq, Prod.mk.injEq] at h
          obtain ⟨rfl, rfl⟩ := h
          have h := hg31; clear hg31; try dsimp only at h
          refine wl_pure (v := .bool (v29 != (0 : Int))) tt_ok rfl rfl ?_
          refine wl_pure tt_ok rfl rfl ?_
          replace h := bsome h; obtain ⟨⟨v36, g36_n5_0⟩, h, hg36⟩ := h
          refine wl_split (t := 32) rfl (fun hc => ?_) (fun hc => ?_)
          · replace h := ct hc h
            refine wl_skip rfl rfl ?_
            refine wl_skip rfl rfl ?_
            refine wl_skip rfl rfl ?_
            simp only [Option.some.injEq, Prod.mk.injEq] at h
            obtain ⟨rfl, rfl⟩ := h
            have h := hg36; clear hg36; try dsimp only at h
            refine wl_pure (v := .bool true) tt_ok rfl rfl ?_
            refine wl_pure tt_ok rfl rfl ?_
            replace h := bsome h; obtain ⟨⟨v41, g41_n5_0⟩, h, hg41⟩ := h
            replace h := ct rfl h
            refine wl_skip rfl rfl ?_
            refine wl_skip rfl rfl ?_
            refine wl_skip rfl rfl ?_
            simp only [Option.some.injEq, Prod.mk.injEq] at h
            obtain ⟨rfl, rfl⟩ := h
            have h := hg41; clear hg41; try dsimp only at h
            refine wl_pure (v := .bool true) tt_ok rfl rfl ?_
            refine wl_pure tt_ok rfl rfl ?_
            replace h := bsome h; obtain ⟨v46, h, hg46⟩ := h
            replace h := ct rfl h
            refine wl_skip rfl rfl ?_
            refine wl_skip rfl rfl ?_
            refine wl_skip rfl rfl ?_
            simp only [Option.some.injEq, Prod.mk.injEq] at h
            obtain rfl := h
            have h := hg46; clear hg46
            refine wl_pure (v := .bool true) tt_ok rfl rfl ?_
            refine wl_pure tt_ok rfl rfl ?_
            replace h := bsome h; obtain ⟨⟨v51, g51_n5_0⟩, h, hg51⟩ := h
            replace h := ct rfl h
            refine wl_skip rfl rfl ?_
            refine wl_skip rfl rfl ?_
            refine wl_skip rfl rfl ?_
            simp only [Option.some.injEq, Prod.mk.injEq] at h
            obtain ⟨rfl, rfl⟩ := h
            have h := hg51; clear hg51; try dsimp only at h
            refine wl_pure (v := .bool true) tt_ok rfl rfl ?_
            refine wl_nil ?_
            refine wx_then ?_
            replace h := ct rfl h
            refine wc_cond_true rfl ?_
            refine wc_seq ?_
            refine wc_region ?_
            refine wl_pure tt_ok rfl rfl ?_
            refine wl_nil ?_
            refine wx_then ?_
            refine wc_ret ?_
            refine wx_then_ret ?_
            simp only [Option.some.injEq] at h
            obtain rfl := h
            exact wx_pf tt_ok (.inl rfl) Try.results6 (Res.tmp rfl Res.nil) rfl
          · replace h := cf hc h
            refine wl_run rfl ?_
            refine wl_pure tt_ok rfl rfl ?_
            replace h := bsome h; obtain ⟨⟨o34_0, v34⟩, x34, h⟩ := h; try dsimp only at h
            refine wl_run rfl ?_
            refine wl_cs Try.call10 rfl rfl rfl (s_sp (k_queue_Queue_Add o29_0N0 o29_0V0 x34) (pCons Sel.hc (pApp Sel.ha pNil)) (fun _ _ => trivial)) rfl ?_
            rintro _ _ ⟨_, ⟨o34_0a0, o34_0n0, o34_0c0, o34_0B0, o34_0N0, o34_0V0, rfl, rfl⟩, rfl⟩
            refine wl_run rfl ?_
            refine wl_pure (v := .bool (v34 != (2 : Int))) tt_ok rfl rfl ?_
            simp only [Option.some.injEq, Prod.mk.injEq] at h
            obtain ⟨rfl, rfl⟩ := h
            have h := hg36; clear hg36; try dsimp only at h
            refine wl_pure (v := .bool (v34 != (2 : Int))) tt_ok rfl rfl ?_
            refine wl_pure tt_ok rfl rfl ?_
            replace h := bsome h; obtain ⟨⟨v41, g41_n5_0⟩, h, hg41⟩ := h
            refine wl_split (t := 37) rfl (fun hc => ?_) (fun hc => ?_)
            · replace h := ct hc h
              refine wl_skip rfl rfl ?_
              refine wl_skip rfl rfl ?_
              refine wl_skip rfl rfl ?_
              simp only [Option.some.injEq, Prod.mk.injEq] at h
              obtain ⟨rfl, rfl⟩ := h
              have h := hg41; clear hg41; try dsimp only at h
              refine wl_pure (v := .bool true) tt_ok rfl rfl ?_
              refine wl_pure tt_ok rfl rfl ?_
              replace h := bsome h; obtain ⟨v46, h, hg46⟩ := h
              replace h := ct rfl h
              refine wl_skip rfl rfl ?_
              refine wl_skip rfl rfl ?_
              refine wl_skip rfl rfl ?_
              simp only [Option.some.injEq, Prod.mk.injEq] at h
              obtain rfl := h
              have h := hg46; clear hg46
              refine wl_pure (v := .bool true) tt_ok rfl rfl ?_
              refine wl_pure tt_ok rfl rfl ?_
              replace h := bsome h; obtain ⟨⟨v51, g51_n5_0⟩, h, hg51⟩ := h
              replace h := ct rfl h
              refine wl_skip rfl rfl ?_
              refine wl_skip rfl rfl ?_
              refine wl_skip rfl rfl ?_
              simp only [Option.some.injEq, Prod.mk.injEq] at h
              obtain ⟨rfl, rfl⟩ := h
              have h := hg51; clear hg51; try dsimp only at h
              refine wl_pure (v := .bool true) tt_ok rfl rfl ?_
              refine wl_nil ?_
              refine wx_then ?_
              replace h := ct rfl h
              refine wc_cond_true rfl ?_
              refine wc_seq ?_
              refine wc_region ?_
              refine wl_pure tt_ok rfl rfl ?_
              refine wl_nil ?_
              refine wx_then ?_
              refine wc_ret ?_
              refine wx_then_ret ?_
              simp only [Option.some.injEq] at h
              obtain rfl := h
              exact wx_pf tt_ok (.inl rfl) Try.results6 (Res.tmp rfl Res.nil) rfl
            · replace h := cf hc h
              refine wl_run rfl ?_
              refine wl_pure tt_ok rfl rfl ?_
              replace h := bsome h; obtain ⟨⟨o39_0, v39⟩, x39, h⟩ := h; try dsimp only at h
              refine wl_run rfl ?_
              refine wl_cs Try.call10 rfl rfl rfl (s_sp (k_queue_Queue_Add o34_0N0 o34_0V0 x39) (pCons Sel.hc (pApp Sel.ha pNil)) (fun _ _ => trivial)) rfl ?_
              rintro _ _ ⟨_, ⟨o39_0a0, o39_0n0, o39_0c0, o39_0B0, o39_0N0, o39_0V0, rfl, rfl⟩, rfl⟩
              refine wl_run rfl ?_
              refine wl_pure (v := .bool (v39 != (2 : Int))) tt_ok rfl rfl ?_
              simp only [Option.some.injEq, Prod.mk.injEq] at h
              obtain ⟨rfl, rfl⟩ := h
              have h := hg41; clear hg41; try dsimp only at h
              refine wl_pure (v := .bool (v39 != (2 : Int))) tt_ok rfl rfl ?_
              refine wl_pure tt_ok rfl rfl ?_
              replace h := bsome h; obtain ⟨v46, h, hg46⟩ := h
              refine wl_split (t := 42) rfl (fun hc => ?_) (fun hc => ?_)
              · replace h := ct hc h
                refine wl_skip rfl rfl ?_
                refine wl_skip rfl rfl ?_
                refine wl_skip rfl rfl ?_
                simp only [Option.some.injEq, Prod.mk.injEq] at h
                obtain rfl := h
                have h := hg46; clear hg46
                refine wl_pure (v := .bool true) tt_ok rfl rfl ?_
                refine wl_pure tt_ok rfl rfl ?_
                replace h := bsome h; obtain ⟨⟨v51, g51_n5_0⟩, h, hg51⟩ := h
                replace h := ct rfl h
                refine wl_skip rfl rfl ?_
                refine wl_skip rfl rfl ?_
                refine wl_skip rfl rfl ?_
                simp only [Option.some.injEq, Prod.mk.injEq] at h
                obtain ⟨rfl, rfl⟩ := h
                have h := hg51; clear hg51; try dsimp only at h
                refine wl_pure (v := .bool true) tt_ok rfl rfl ?_
                refine wl_nil ?_
                refine wx_then ?_
                replace h := ct rfl h
                refine wc_cond_true rfl ?_
                refine wc_seq ?_
                refine wc_region ?_
                refine wl_pure tt_ok rfl rfl ?_
                refine wl_nil ?_
                refine wx_then ?_
                refine wc_ret ?_
                refine wx_then_ret ?_
                simp only [Option.some.injEq] at h
                obtain rfl := h
                exact wx_pf tt_ok (.inl rfl) Try.results6 (Res.tmp rfl Res.nil) rfl
              · replace h := cf hc h
                refine wl_run rfl ?_
                refine wl_pure tt_ok rfl rfl ?_
                replace h := bsome h; obtain ⟨v44, x44, h⟩ := h
                refine wl_run rfl ?_
                refine wl_cq Try.call12 rfl rfl rfl (q_rd (k_queue_Queue_Guess o39_0N0 o39_0V0 x44) (pCons Sel.hc (pApp Sel.ha pNil)) (fun _ _ => trivial)) rfl ?_
                refine wl_run rfl ?_
                refine wl_pure (v := .bool (v44 != (7 : Int))) tt_ok rfl rfl ?_
                simp only [Option.some.injEq, Prod.mk.injEq] at h
                obtain rfl := h
                have h := hg46; clear hg46
                refine wl_pure (v := .bool (v44 != (7 : Int))) tt_ok rfl rfl ?_
                refine wl_pure tt_ok rfl rfl ?_
                replace h := bsome h; obtain ⟨⟨v51, g51_n5_0⟩, h, hg51⟩ := h
                refine wl_split (t := 47) rfl (fun hc => ?_) (fun hc => ?_)
                · replace h := ct hc h
                  refine wl_skip rfl rfl ?_
                  refine wl_skip rfl rfl ?_
                  refine wl_skip rfl rfl ?_
                  simp only [Option.some.injEq, Prod.mk.injEq] at h
                  obtain ⟨rfl, rfl⟩ := h
                  have h := hg51; clear hg51; try dsimp only at h
                  refine wl_pure (v := .bool true) tt_ok rfl rfl ?_
                  refine wl_nil ?_
                  refine wx_then ?_
                  replace h := ct rfl h
                  refine wc_cond_true rfl ?_
                  refine wc_seq ?_
                  refine wc_region ?_
                  refine wl_pure tt_ok rfl rfl ?_
                  refine wl_nil ?_
                  refine wx_then ?_
                  refine wc_ret ?_
                  refine wx_then_ret ?_
                  simp only [Option.some.injEq] at h
                  obtain rfl := h
                  exact wx_pf tt_ok (.inl rfl) Try.results6 (Res.tmp rfl Res.nil) rfl
                · replace h := cf hc h
                  refine wl_run rfl ?_
                  refine wl_pure tt_ok rfl rfl ?_
                  replace h := bsome h; obtain ⟨⟨o49_0, v49⟩, x49, h⟩ := h; try dsimp only at h
                  refine wl_run rfl ?_
                  refine wl_cs Try.call10 rfl rfl rfl (s_sp (k_queue_Queue_Add o39_0N0 o39_0V0 x49) (pCons Sel.hc (pApp Sel.ha pNil)) (fun _ _ => trivial)) rfl ?_
                  rintro _ _ ⟨_, ⟨o49_0a0, o49_0n0, o49_0c0, o49_0B0, o49_0N0, o49_0V0, rfl, rfl⟩, rfl⟩
                  refine wl_run rfl ?_
                  refine wl_pure (v := .bool (v49 != (0 : Int))) tt_ok rfl rfl ?_
                  simp only [Option.some.injEq, Prod.mk.injEq] at h
                  obtain ⟨rfl, rfl⟩ := h
                  have h := hg51; clear hg51; try dsimp only at h
                  refine wl_pure (v := .bool (v49 != (0 : Int))) tt_ok rfl rfl ?_
                  refine wl_nil ?_
                  refine wx_then ?_
                  refine wc_cond rfl (fun hc => ?_) (fun hc => ?_)
                  · replace h := ct hc h
                    refine wc_seq ?_
                    refine wc_region ?_
                    refine wl_pure tt_ok rfl rfl ?_
                    refine wl_nil ?_
                    refine wx_then ?_
                    refine wc_ret ?_
                    refine wx_then_ret ?_
                    simp only [Option.some.injEq] at h
                    obtain rfl := h
                    exact wx_pf tt_ok (.inl rfl) Try.results6 (Res.tmp rfl Res.nil) rfl
                  · replace h := cf hc h
                    refine wc_skip ?_
                    refine wx_then ?_
                    refine wc_seq ?_
                    refine wc_seq ?_
                    refine wc_region ?_
                    refine wl_pure tt_ok rfl rfl ?_
                    replace h := bsome h; obtain ⟨v53, x53, h⟩ := h
                    refine wl_cs Try.call24 rfl rfl rfl (s_sp (k_queue_Queue_Slice o49_0N0 o49_0V0 x53) (pCons Sel.hc (pApp Sel.ha pNil)) (fun _ _ => trivial)) rfl ?_
                    rintro _ _ ⟨_, ⟨v53a0, v53n0, v53c0, v53B0, v53N0, v53V0, rfl, rfl⟩, rfl⟩
                    refine wl_chg (chg_bs tt_ok rfl rfl rfl rfl rfl) rfl ?_
                    rintro _ _ ⟨b54, rfl, rfl⟩
                    replace h := bsome h; obtain ⟨v55, x55, h⟩ := h
                    refine wl_cq Try.call26 rfl rfl rfl (q_pf (k_hindcastlaw24_is v53N0 (vec_cap v53V0) rfl (Nat.le_refl _) x55) (fun w hI => ⟨(Rds.call (Rds.of_vec v53V0) pNil ⟨_, (Sel.sc (Sel.sc (Sel.sa Sel.ha)))⟩) w hI, (Rds.call (Rds.of_blk (t := 31) (fz := (0, 0))) pNil ⟨_, Sel.hc⟩) w hI⟩)) rfl ?_
                    refine wl_pure (v := .bool (!v55)) tt_ok rfl rfl ?_
                    refine wl_pure tt_ok rfl rfl ?_
                    replace h := bsome h; obtain ⟨v62, h, hg62⟩ := h
                    refine wl_split (t := 57) rfl (fun hc => ?_) (fun hc => ?_)
                    · replace h := ct hc h
                      refine wl_skip rfl rfl ?_
                      refine wl_skip rfl rfl ?_
                      refine wl_skip rfl rfl ?_
                      refine wl_skip rfl rfl ?_
                      simp only [Option.some.injEq, Prod.mk.injEq] at h
                      obtain rfl := h
                      have h := hg62; clear hg62
                      refine wl_pure (v := .bool true) tt_ok rfl rfl ?_
                      refine wl_pure tt_ok rfl rfl ?_
                      replace h := bsome h; obtain ⟨v69, h, hg69⟩ := h
                      replace h := ct rfl h
                      refine wl_skip rfl rfl ?_
                      refine wl_skip rfl rfl ?_
                      refine wl_skip rfl rfl ?_
                      refine wl_skip rfl rfl ?_
                      refine wl_skip rfl rfl ?_
                      simp only [Option.some.injEq, Prod.mk.injEq] at h
                      obtain rfl := h
                      have h := hg69; clear hg69
                      refine wl_pure (v := .bool true) tt_ok rfl rfl ?_
                      refine wl_pure tt_ok rfl rfl ?_
                      replace h := bsome h; obtain ⟨v75, h, hg75⟩ := h
                      replace h := ct rfl h
                      refine wl_skip rfl rfl ?_
                      refine wl_skip rfl rfl ?_
                      refine wl_skip rfl rfl ?_
                      refine wl_skip rfl rfl ?_
                      simp only [Option.some.injEq, Prod.mk.injEq] at h
                      obtain rfl := h
                      have h := hg75; clear hg75
                      refine wl_pure (v := .bool true) tt_ok rfl rfl ?_
                      refine wl_pure tt_ok rfl rfl ?_
                      replace h := bsome h; obtain ⟨v81, h, hg81⟩ := h
                      replace h := ct rfl h
                      refine wl_skip rfl rfl ?_
                      refine wl_skip rfl rfl ?_
                      refine wl_skip rfl rfl ?_
                      refine wl_skip rfl rfl ?_
                      simp only [Option.some.injEq, Prod.mk.injEq] at h
                      obtain rfl := h
                      have h := hg81; clear hg81
                      refine wl_pure (v := .bool true) tt_ok rfl rfl ?_
                      refine wl_pure tt_ok rfl rfl ?_
                      replace h := bsome h; obtain ⟨v87, h, hg87⟩ := h
                      replace h := ct rfl h
                      refine wl_skip rfl rfl ?_
                      refine wl_skip rfl rfl ?_
                      refine wl_skip rfl rfl ?_
                      refine wl_skip rfl rfl ?_
                      simp only [Option.some.injEq, Prod.mk.injEq] at h
                      obtain rfl := h
                      have h := hg87; clear hg87
                      refine wl_pure (v := .bool true) tt_ok rfl rfl ?_
                      refine wl_nil ?_
                      refine wx_then ?_
                      replace h := ct rfl h
                      refine wc_cond_true rfl ?_
                      refine wc_seq ?_
                      refine wc_region ?_
                      refine wl_pure tt_ok rfl rfl ?_
                      refine wl_nil ?_
                      refine wx_then ?_
                      refine wc_ret ?_
                      refine wx_then_ret ?_
                      simp only [Option.some.injEq] at h
                      obtain rfl := h
                      exact wx_pf tt_ok (.inl rfl) Try.results6 (Res.tmp rfl Res.nil) rfl
                    · replace h := cf hc h
                      refine wl_run rfl ?_
                      refine wl_pure tt_ok rfl rfl ?_
                      replace h := bsome h; obtain ⟨v59, x59, h⟩ := h
                      refine wl_run rfl ?_
                      refine wl_cs Try.call24 rfl rfl rfl (s_sp (k_queue_Queue_Slice o49_0N0 o49_0V0 x59) (pCons (Sel.sc Sel.hc) (pApp (Sel.sc Sel.ha) pNil)) (fun _ _ => trivial)) rfl ?_
                      rintro _ _ ⟨_, ⟨v59a0, v59n0, v59c0, v59B0, v59N0, v59V0, rfl, rfl⟩, rfl⟩
                      replace h := bsome h; obtain ⟨v60, x60, h⟩ := h
                      refine wl_run rfl ?_
                      refine wl_cq Try.call26 rfl rfl rfl (q_pf (k_hindcastlaw24_is v59N0 (vec_cap v59V0) rfl (Nat.le_refl _) x60) (fun w hI => ⟨(Rds.call (Rds.of_vec v59V0) pNil ⟨_, (Sel.sc (Sel.sa Sel.ha))⟩) w hI, (fun _ _ => Rds.nil) w hI⟩)) rfl ?_
                      refine wl_run rfl ?_
                      refine wl_pure (v := .bool (!v60)) tt_ok rfl rfl ?_
                      simp only [Option.some.injEq, Prod.mk.injEq] at h
                      obtain rfl := h
                      have h := hg62; clear hg62
                      refine wl_pure (v := .bool (!v60)) tt_ok rfl rfl ?_
                      refine wl_pure tt_ok rfl rfl ?_
                      replace h := bsome h; obtain ⟨v69, h, hg69⟩ := h
                      refine wl_split (t := 63) rfl (fun hc => ?_) (fun hc => ?_)
                      · replace h := ct hc h
                        refine wl_skip rfl rfl ?_
                        refine wl_skip rfl rfl ?_
                        refine wl_skip rfl rfl ?_
                        refine wl_skip rfl rfl ?_
                        refine wl_skip rfl rfl ?_
                        simp only [Option.some.injEq, Prod.mk.injEq] at h
                        obtain rfl := h
                        have h := hg69; clear hg69
                        refine wl_pure (v := .bool true) tt_ok rfl rfl ?_
                        refine wl_pure tt_ok rfl rfl ?_
                        replace h := bsome h; obtain ⟨v75, h, hg75⟩ := h
                        replace h := ct rfl h
                        refine wl_skip rfl rfl ?_
                        refine wl_skip rfl rfl ?_
                        refine wl_skip rfl rfl ?_
                        refine wl_skip rfl rfl ?_
                        simp only [Option.some.injEq, Prod.mk.injEq] at h
                        obtain rfl := h
                        have h := hg75; clear hg75
                        refine wl_pure (v := .bool true) tt_ok rfl rfl ?_
                        refine wl_pure tt_ok rfl rfl ?_
                        replace h := bsome h; obtain ⟨v81, h, hg81⟩ := h
                        replace h := ct rfl h
                        refine wl_skip rfl rfl ?_
                        refine wl_skip rfl rfl ?_
                        refine wl_skip rfl rfl ?_
                        refine wl_skip rfl rfl ?_
                        simp only [Option.some.injEq, Prod.mk.injEq] at h
                        obtain rfl := h
                        have h := hg81; clear hg81
                        refine wl_pure (v := .bool true) tt_ok rfl rfl ?_
                        refine wl_pure tt_ok rfl rfl ?_
                        replace h := bsome h; obtain ⟨v87, h, hg87⟩ := h
                        replace h := ct rfl h
                        refine wl_skip rfl rfl ?_
                        refine wl_skip rfl rfl ?_
                        refine wl_skip rfl rfl ?_
                        refine wl_skip rfl rfl ?_
                        simp only [Option.some.injEq, Prod.mk.injEq] at h
                        obtain rfl := h
                        have h := hg87; clear hg87
                        refine wl_pure (v := .bool true) tt_ok rfl rfl ?_
                        refine wl_nil ?_
                        refine wx_then ?_
                        replace h := ct rfl h
                        refine wc_cond_true rfl ?_
                        refine wc_seq ?_
                        refine wc_region ?_
                        refine wl_pure tt_ok rfl rfl ?_
                        refine wl_nil ?_
                        refine wx_then ?_
                        refine wc_ret ?_
                        refine wx_then_ret ?_
                        simp only [Option.some.injEq] at h
                        obtain rfl := h
                        exact wx_pf tt_ok (.inl rfl) Try.results6 (Res.tmp rfl Res.nil) rfl
                      · replace h := cf hc h
                        refine wl_run rfl ?_
                        refine wl_pure tt_ok rfl rfl ?_
                        replace h := bsome h; obtain ⟨v65, x65, h⟩ := h
                        refine wl_run rfl ?_
                        refine wl_cs Try.call24 rfl rfl rfl (s_sp (k_queue_Queue_Slice o49_0N0 o49_0V0 x65) (pCons Sel.hc (pApp Sel.ha pNil)) (fun _ _ => trivial)) rfl ?_
                        rintro _ _ ⟨_, ⟨v65a0, v65n0, v65c0, v65B0, v65N0, v65V0, rfl, rfl⟩, rfl⟩
                        refine wl_run rfl ?_
                        refine wl_chg (chg_bs tt_ok rfl rfl rfl rfl rfl) rfl ?_
                        rintro _ _ ⟨b66, rfl, rfl⟩
                        replace h := bsome h; obtain ⟨v67, x67, h⟩ := h
                        refine wl_run rfl ?_
                        refine wl_cq Try.call26 rfl rfl rfl (q_pf (k_hindcastlaw24_is v65N0 (vec_cap v65V0) rfl (Nat.le_refl _) x67) (fun w hI => ⟨(Rds.call (Rds.of_vec v65V0) pNil ⟨_, (Sel.sc (Sel.sc (Sel.sa Sel.ha)))⟩) w hI, (Rds.call (Rds.of_blk (t := 31) (fz := (0, 0))) pNil ⟨_, Sel.hc⟩) w hI⟩)) rfl ?_
                        refine wl_run rfl ?_
                        refine wl_pure (v := .bool (!v67)) tt_ok rfl rfl ?_
                        simp only [Option.some.injEq, Prod.mk.injEq] at h
                        obtain rfl := h
                        have h := hg69; clear hg69
                        refine wl_pure (v := .bool (!v67)) tt_ok rfl rfl ?_
                        refine wl_pure tt_ok rfl rfl ?_
                        replace h := bsome h; obtain ⟨v75, h, hg75⟩ := h
                        refine wl_split (t := 70) rfl (fun hc => ?_) (fun hc => ?_)
                        · replace h := ct hc h
                          refine wl_skip rfl rfl ?_
                          refine wl_skip rfl rfl ?_
                          refine wl_skip rfl rfl ?_
                          refine wl_skip rfl rfl ?_
                          simp only [Option.some.injEq, Prod.mk.injEq] at h
                          obtain rfl := h
                          have h := hg75; clear hg75
                          refine wl_pure (v := .bool true) tt_ok rfl rfl ?_
                          refine wl_pure tt_ok rfl rfl ?_
                          replace h := bsome h; obtain ⟨v81, h, hg81⟩ := h
                          replace h := ct rfl h
                          refine wl_skip rfl rfl ?_
                          refine wl_skip rfl rfl ?_
                          refine wl_skip rfl rfl ?_
                          refine wl_skip rfl rfl ?_
                          simp only [Option.some.injEq, Prod.mk.injEq] at h
                          obtain rfl := h
                          have h := hg81; clear hg81
                          refine wl_pure (v := .bool true) tt_ok rfl rfl ?_
                          refine wl_pure tt_ok rfl rfl ?_
                          replace h := bsome h; obtain ⟨v87, h, hg87⟩ := h
                          replace h := ct rfl h
                          refine wl_skip rfl rfl ?_
                          refine wl_skip rfl rfl ?_
                          refine wl_skip rfl rfl ?_
                          refine wl_skip rfl rfl ?_
                          simp only [Option.some.injEq, Prod.mk.injEq] at h
                          obtain rfl := h
                          have h := hg87; clear hg87
                          refine wl_pure (v := .bool true) tt_ok rfl rfl ?_
                          refine wl_nil ?_
                          refine wx_then ?_
                          replace h := ct rfl h
                          refine wc_cond_true rfl ?_
                          refine wc_seq ?_
                          refine wc_region ?_
                          refine wl_pure tt_ok rfl rfl ?_
                          refine wl_nil ?_
                          refine wx_then ?_
                          refine wc_ret ?_
                          refine wx_then_ret ?_
                          simp only [Option.some.injEq] at h
                          obtain rfl := h
                          exact wx_pf tt_ok (.inl rfl) Try.results6 (Res.tmp rfl Res.nil) rfl
                        · replace h := cf hc h
                          refine wl_run rfl ?_
                          refine wl_pure tt_ok rfl rfl ?_
                          replace h := bsome h; obtain ⟨v72, x72, h⟩ := h
                          refine wl_run rfl ?_
                          refine wl_cs Try.call24 rfl rfl rfl (s_sp (k_queue_Queue_Slice o49_0N0 o49_0V0 x72) (pCons (Sel.sc Sel.hc) (pApp (Sel.sc Sel.ha) pNil)) (fun _ _ => trivial)) rfl ?_
                          rintro _ _ ⟨_, ⟨v72a0, v72n0, v72c0, v72B0, v72N0, v72V0, rfl, rfl⟩, rfl⟩
                          replace h := bsome h; obtain ⟨v73, x73, h⟩ := h
                          refine wl_run rfl ?_
                          refine wl_cq Try.call26 rfl rfl rfl (q_pf (k_hindcastlaw24_is v72N0 (vec_cap v72V0) rfl (Nat.le_refl _) x73) (fun w hI => ⟨(Rds.call (Rds.of_vec v72V0) pNil ⟨_, (Sel.sc (Sel.sa Sel.ha))⟩) w hI, (fun _ _ => Rds.nil) w hI⟩)) rfl ?_
                          refine wl_run rfl ?_
                          refine wl_pure (v := .bool (!v73)) tt_ok rfl rfl ?_
                          simp only [Option.some.injEq, Prod.mk.injEq] at h
                          obtain rfl := h
                          have h := hg75; clear hg75
                          refine wl_pure (v := .bool (!v73)) tt_ok rfl rfl ?_
                          refine wl_pure tt_ok rfl rfl ?_
                          replace h := bsome h; obtain ⟨v81, h, hg81⟩ := h
                          refine wl_split (t := 76) rfl (fun hc => ?_) (fun hc => ?_)
                          · replace h := ct hc h
                            refine wl_skip rfl rfl ?_
                            refine wl_skip rfl rfl ?_
                            refine wl_skip rfl rfl ?_
                            refine wl_skip rfl rfl ?_
                            simp only [Option.some.injEq, Prod.mk.injEq] at h
                            obtain rfl := h
                            have h := hg81; clear hg81
                            refine wl_pure (v := .bool true) tt_ok rfl rfl ?_
                            refine wl_pure tt_ok rfl rfl ?_
                            replace h := bsome h; obtain ⟨v87, h, hg87⟩ := h
                            replace h := ct rfl h
                            refine wl_skip rfl rfl ?_
                            refine wl_skip rfl rfl ?_
                            refine wl_skip rfl rfl ?_
                            refine wl_skip rfl rfl ?_
                            simp only [Option.some.injEq, Prod.mk.injEq] at h
                            obtain rfl := h
                            have h := hg87; clear hg87
                            refine wl_pure (v := .bool true) tt_ok rfl rfl ?_
                            refine wl_nil ?_
                            refine wx_then ?_
                            replace h := ct rfl h
                            refine wc_cond_true rfl ?_
                            refine wc_seq ?_
                            refine wc_region ?_
                            refine wl_pure tt_ok rfl rfl ?_
                            refine wl_nil ?_
                            refine wx_then ?_
                            refine wc_ret ?_
                            refine wx_then_ret ?_
                            simp only [Option.some.injEq] at h
                            obtain rfl := h
                            exact wx_pf tt_ok (.inl rfl) Try.results6 (Res.tmp rfl Res.nil) rfl
                          · replace h := cf hc h
                            refine wl_run rfl ?_
                            refine wl_pure tt_ok rfl rfl ?_
                            replace h := bsome h; obtain ⟨v78, x78, h⟩ := h
                            refine wl_run rfl ?_
                            refine wl_cs Try.call24 rfl rfl rfl (s_sp (k_queue_Queue_Slice o49_0N0 o49_0V0 x78) (pCons Sel.hc (pApp Sel.ha pNil)) (fun _ _ => trivial)) rfl ?_
                            rintro _ _ ⟨_, ⟨v78a0, v78n0, v78c0, v78B0, v78N0, v78V0, rfl, rfl⟩, rfl⟩
                            replace h := bsome h; obtain ⟨v79, x79, h⟩ := h
                            refine wl_run rfl ?_
                            refine wl_cq Try.call26 rfl rfl rfl (q_pf (k_hindcastlaw24_is v78N0 (vec_cap v78V0) rfl (Nat.le_refl _) x79) (fun w hI => ⟨(Rds.call (Rds.of_vec v78V0) pNil ⟨_, (Sel.sc (Sel.sa Sel.ha))⟩) w hI, (fun _ _ => Rds.nil) w hI⟩)) rfl ?_
                            refine wl_run rfl ?_
                            refine wl_pure (v := .bool (!v79)) tt_ok rfl rfl ?_
                            simp only [Option.some.injEq, Prod.mk.injEq] at h
                            obtain rfl := h
                            have h := hg81; clear hg81
                            refine wl_pure (v := .bool (!v79)) tt_ok rfl rfl ?_
                            refine wl_pure tt_ok rfl rfl ?_
                            replace h := bsome h; obtain ⟨v87, h, hg87⟩ := h
                            refine wl_split (t := 82) rfl (fun hc => ?_) (fun hc => ?_)
                            · replace h := ct hc h
                              refine wl_skip rfl rfl ?_
                              refine wl_skip rfl rfl ?_
                              refine wl_skip rfl rfl ?_
                              refine wl_skip rfl rfl ?_
                              simp only [Option.some.injEq, Prod.mk.injEq] at h
                              obtain rfl := h
                              have h := hg87; clear hg87
                              refine wl_pure (v := .bool true) tt_ok rfl rfl ?_
                              refine wl_nil ?_
                              refine wx_then ?_
                              replace h := ct rfl h
                              refine wc_cond_true rfl ?_
                              refine wc_seq ?_
                              refine wc_region ?_
                              refine wl_pure tt_ok rfl rfl ?_
                              refine wl_nil ?_
                              refine wx_then ?_
                              refine wc_ret ?_
                              refine wx_then_ret ?_
                              simp only [Option.some.injEq] at h
                              obtain rfl := h
                              exact wx_pf tt_ok (.inl rfl) Try.results6 (Res.tmp rfl Res.nil) rfl
                            · replace h := cf hc h
                              refine wl_run rfl ?_
                              refine wl_pure tt_ok rfl rfl ?_
                              replace h := bsome h; obtain ⟨v84, x84, h⟩ := h
                              refine wl_run rfl ?_
                              refine wl_cs Try.call24 rfl rfl rfl (s_sp (k_queue_Queue_Slice o49_0N0 o49_0V0 x84) (pCons Sel.hc (pApp Sel.ha pNil)) (fun _ _ => trivial)) rfl ?_
                              rintro _ _ ⟨_, ⟨v84a0, v84n0, v84c0, v84B0, v84N0, v84V0, rfl, rfl⟩, rfl⟩
                              replace h := bsome h; obtain ⟨v85, x85, h⟩ := h
                              refine wl_run rfl ?_
                              refine wl_cq Try.call26 rfl rfl rfl (q_pf (k_hindcastlaw24_is v84N0 (vec_cap v84V0) rfl (Nat.le_refl _) x85) (fun w hI => ⟨(Rds.call (Rds.of_vec v84V0) pNil ⟨_, (Sel.sc (Sel.sa Sel.ha))⟩) w hI, (fun _ _ => Rds.nil) w hI⟩)) rfl ?_
                              refine wl_run rfl ?_
                              refine wl_pure (v := .bool (!v85)) tt_ok rfl rfl ?_
                              simp only [Option.some.injEq, Prod.mk.injEq] at h
                              obtain rfl := h
                              have h := hg87; clear hg87
                              refine wl_pure (v := .bool (!v85)) tt_ok rfl rfl ?_
                              refine wl_nil ?_
                              refine wx_then ?_
                              refine wc_cond rfl (fun hc => ?_) (fun hc => ?_)
                              · replace h := ct hc h
                                refine wc_seq ?_
                                refine wc_region ?_
                                refine wl_pure tt_ok rfl rfl ?_
                                refine wl_nil ?_
                                refine wx_then ?_
                                refine wc_ret ?_
                                refine wx_then_ret ?_
                                simp only [Option.some.injEq] at h
                                obtain rfl := h
                                exact wx_pf tt_ok (.inl rfl) Try.results6 (Res.tmp rfl Res.nil) rfl
                              · replace h := cf hc h
                                refine wc_skip ?_
                                refine wx_then ?_
                                refine wc_seq ?_
                                refine wc_region ?_
                                refine wl_pure tt_ok rfl rfl ?_
                                replace h := bsome h; obtain ⟨o89_0, x89, h⟩ := h
                                refine wl_cs Try.call16 rfl rfl rfl (s_sp (k_queue_Queue_Drop o49_0N0 o49_0V0 x89) (pCons Sel.hc (pApp Sel.ha pNil)) (fun _ _ => trivial)) rfl ?_
                                rintro _ _ ⟨_, ⟨o89_0a0, o89_0n0, o89_0c0, o89_0B0, o89_0N0, o89_0V0, rfl, rfl⟩, rfl⟩
                                refine wl_nil ?_
                                refine wx_then ?_
                                refine wc_seq ?_
                                refine wc_seq ?_
                                refine wc_region ?_
                                refine wl_pure tt_ok rfl rfl ?_
                                replace h := bsome h; obtain ⟨v91, x91, h⟩ := h
                                refine wl_cq Try.call13 rfl rfl rfl (q_rd (k_hindcastlaw24_no o89_0N0 o89_0V0 x91) (pCons Sel.hc (pApp Sel.ha pNil)) (fun _ _ => trivial)) rfl ?_
                                refine wl_pure (v := .bool (!v91)) tt_ok rfl rfl ?_
                                refine wl_pure tt_ok rfl rfl ?_
                                replace h := bsome h; obtain ⟨v97, h, hg97⟩ := h
                                refine wl_split (t := 93) rfl (fun hc => ?_) (fun hc => ?_)
                                · replace h := ct hc h
                                  refine wl_skip rfl rfl ?_
                                  refine wl_skip rfl rfl ?_
                                  refine wl_skip rfl rfl ?_
                                  simp only [Option.some.injEq, Prod.mk.injEq] at h
                                  obtain rfl := h
                                  have h := hg97; clear hg97
                                  refine wl_pure (v := .bool true) tt_ok rfl rfl ?_
                                  refine wl_pure tt_ok rfl rfl ?_
                                  replace h := bsome h; obtain ⟨v102, h, hg102⟩ := h
                                  replace h := ct rfl h
                                  refine wl_skip rfl rfl ?_
                                  refine wl_skip rfl rfl ?_
                                  refine wl_skip rfl rfl ?_
                                  simp only [Option.some.injEq, Prod.mk.injEq] at h
                                  obtain rfl := h
                                  have h := hg102; clear hg102
                                  refine wl_pure (v := .bool true) tt_ok rfl rfl ?_
                                  refine wl_pure tt_ok rfl rfl ?_
                                  replace h := bsome h; obtain ⟨v107, h, hg107⟩ := h
                                  replace h := ct rfl h
                                  refine wl_skip rfl rfl ?_
                                  refine wl_skip rfl rfl ?_
                                  refine wl_skip rfl rfl ?_
                                  simp only [Option.some.injEq, Prod.mk.injEq] at h
                                  obtain rfl := h
                                  have h := hg107; clear hg107
                                  refine wl_pure (v := .bool true) tt_ok rfl rfl ?_
                                  refine wl_nil ?_
                                  refine wx_then ?_
                                  replace h := ct rfl h
                                  refine wc_cond_true rfl ?_
                                  refine wc_seq ?_
                                  refine wc_region ?_
                                  refine wl_pure tt_ok rfl rfl ?_
                                  refine wl_nil ?_
                                  refine wx_then ?_
                                  refine wc_ret ?_
                                  refine wx_then_ret ?_
                                  simp only [Option.some.injEq] at h
                                  obtain rfl := h
                                  exact wx_pf tt_ok (.inl rfl) Try.results6 (Res.tmp rfl Res.nil) rfl
                                · replace h := cf hc h
                                  refine wl_run rfl ?_
                                  refine wl_pure tt_ok rfl rfl ?_
                                  replace h := bsome h; obtain ⟨v95, x95, h⟩ := h
                                  refine wl_run rfl ?_
                                  refine wl_cq Try.call20 rfl rfl rfl (q_rd (k_queue_Queue_First o89_0N0 o89_0V0 x95) (pCons Sel.hc (pApp Sel.ha pNil)) (fun _ _ => trivial)) rfl ?_
                                  refine wl_run rfl ?_
                                  refine wl_pure (v := .bool (v95 != (6 : Int))) tt_ok rfl rfl ?_
                                  simp only [Option.some.injEq, Prod.mk.injEq] at h
                                  obtain rfl := h
                                  have h := hg97; clear hg97
                                  refine wl_pure (v := .bool (v95 != (6 : Int))) tt_ok rfl rfl ?_
                                  refine wl_pure tt_ok rfl rfl ?_
                                  replace h := bsome h; obtain ⟨v102, h, hg102⟩ := h
                                  refine wl_split (t := 98) rfl (fun hc => ?_) (fun hc => ?_)
                                  · replace h := ct hc h
                                    refine wl_skip rfl rfl ?_
                                    refine wl_skip rfl rfl ?_
                                    refine wl_skip rfl rfl ?_
                                    simp only [Option.some.injEq, Prod.mk.injEq] at h
                                    obtain rfl := h
                                    have h := hg102; clear hg102
                                    refine wl_pure (v := .bool true) tt_ok rfl rfl ?_
                                    refine wl_pure tt_ok rfl rfl ?_
                                    replace h := bsome h; obtain ⟨v107, h, hg107⟩ := h
                                    replace h := ct rfl h
                                    refine wl_skip rfl rfl ?_
                                    refine wl_skip rfl rfl ?_
                                    refine wl_skip rfl rfl ?_
                                    simp only [Option.some.injEq, Prod.mk.injEq] at h
                                    obtain rfl := h
                                    have h := hg107; clear hg107
                                    refine wl_pure (v := .bool true) tt_ok rfl rfl ?_
                                    refine wl_nil ?_
                                    refine wx_then ?_
                                    replace h := ct rfl h
                                    refine wc_cond_true rfl ?_
                                    refine wc_seq ?_
                                    refine wc_region ?_
                                    refine wl_pure tt_ok rfl rfl ?_
                                    refine wl_nil ?_
                                    refine wx_then ?_
                                    refine wc_ret ?_
                                    refine wx_then_ret ?_
                                    simp only [Option.some.injEq] at h
                                    obtain rfl := h
                                    exact wx_pf tt_ok (.inl rfl) Try.results6 (Res.tmp rfl Res.nil) rfl
                                  · replace h := cf hc h
                                    refine wl_run rfl ?_
                                    refine wl_pure tt_ok rfl rfl ?_
                                    replace h := bsome h; obtain ⟨v100, x100, h⟩ := h
                                    refine wl_run rfl ?_
                                    refine wl_cq Try.call12 rfl rfl rfl (q_rd (k_queue_Queue_Guess o89_0N0 o89_0V0 x100) (pCons Sel.hc (pApp Sel.ha pNil)) (fun _ _ => trivial)) rfl ?_
                                    refine wl_run rfl ?_
                                    refine wl_pure (v := .bool (v100 != (9 : Int))) tt_ok rfl rfl ?_
                                    simp only [Option.some.injEq, Prod.mk.injEq] at h
                                    obtain rfl := h
                                    have h := hg102; clear hg102
                                    refine wl_pure (v := .bool (v100 != (9 : Int))) tt_ok rfl rfl ?_
                                    refine wl_pure tt_ok rfl rfl ?_
                                    replace h := bsome h; obtain ⟨v107, h, hg107⟩ := h
                                    refine wl_split (t := 103) rfl (fun hc => ?_) (fun hc => ?_)
                                    · replace h := ct hc h
                                      refine wl_skip rfl rfl ?_
                                      refine wl_skip rfl rfl ?_
                                      refine wl_skip rfl rfl ?_
                                      simp only [Option.some.injEq, Prod.mk.injEq] at h
                                      obtain rfl := h
                                      have h := hg107; clear hg107
                                      refine wl_pure (v := .bool true) tt_ok rfl rfl ?_
                                      refine wl_nil ?_
                                      refine wx_then ?_
                                      replace h := ct rfl h
                                      refine wc_cond_true rfl ?_
                                      refine wc_seq ?_
                                      refine wc_region ?_
                                      refine wl_pure tt_ok rfl rfl ?_
                                      refine wl_nil ?_
                                      refine wx_then ?_
                                      refine wc_ret ?_
                                      refine wx_then_ret ?_
                                      simp only [Option.some.injEq] at h
                                      obtain rfl := h
                                      exact wx_pf tt_ok (.inl rfl) Try.results6 (Res.tmp rfl Res.nil) rfl
                                    · replace h := cf hc h
                                      refine wl_run rfl ?_
                                      refine wl_pure tt_ok rfl rfl ?_
                                      replace h := bsome h; obtain ⟨v105, x105, h⟩ := h
                                      refine wl_run rfl ?_
                                      refine wl_cq Try.call9 rfl rfl rfl (q_rd (k_queue_Queue_Known o89_0N0 o89_0V0 x105) (pCons Sel.hc (pApp Sel.ha pNil)) (fun _ _ => trivial)) rfl ?_
                                      refine wl_run rfl ?_
                                      refine wl_pure (v := .bool (v105 != (7 : Int))) tt_ok rfl rfl ?_
                                      simp only [Option.some.injEq, Prod.mk.injEq] at h
                                      obtain rfl := h
                                      have h := hg107; clear hg107
                                      refine wl_pure (v := .bool (v105 != (7 : Int))) tt_ok rfl rfl ?_
                                      refine wl_nil ?_
                                      refine wx_then ?_
                                      refine wc_cond rfl (fun hc => ?_) (fun hc => ?_)
                                      · replace h := ct hc h
                                        refine wc_seq ?_
                                        refine wc_region ?_
                                        refine wl_pure tt_ok rfl rfl ?_
                                        refine wl_nil ?_
                                        refine wx_then ?_
                                        refine wc_ret ?_
                                        refine wx_then_ret ?_
                                        simp only [Option.some.injEq] at h
                                        obtain rfl := h
                                        exact wx_pf tt_ok (.inl rfl) Try.results6 (Res.tmp rfl Res.nil) rfl
                                      · replace h := cf hc h
                                        refine wc_skip ?_
                                        refine wx_then ?_
                                        refine wc_seq ?_
                                        refine wc_region ?_
                                        refine wl_pure tt_ok rfl rfl ?_
                                        replace h := bsome h; obtain ⟨o109_0, x109, h⟩ := h
                                        refine wl_cs Try.call16 rfl rfl rfl (s_sp (k_queue_Queue_Drop o89_0N0 o89_0V0 x109) (pCons Sel.hc (pApp Sel.ha pNil)) (fun _ _ => trivial)) rfl ?_
                                        rintro _ _ ⟨_, ⟨o109_0a0, o109_0n0, o109_0c0, o109_0B0, o109_0N0, o109_0V0, rfl, rfl⟩, rfl⟩
                                        refine wl_nil ?_
                                        refine wx_then ?_
                                        refine wc_seq ?_
                                        refine wc_seq ?_
                                        refine wc_region ?_
                                        refine wl_pure tt_ok rfl rfl ?_
                                        replace h := bsome h; obtain ⟨v111, x111, h⟩ := h
                                        refine wl_cq Try.call20 rfl rfl rfl (q_rd (k_queue_Queue_First o109_0N0 o109_0V0 x111) (pCons Sel.hc (pApp Sel.ha pNil)) (fun _ _ => trivial)) rfl ?_
                                        refine wl_pure (v := .bool (v111 != (7 : Int))) tt_ok rfl rfl ?_
                                        refine wl_pure tt_ok rfl rfl ?_
                                        replace h := bsome h; obtain ⟨v117, h, hg117⟩ := h
                                        refine wl_split (t := 113) rfl (fun hc => ?_) (fun hc => ?_)
                                        · replace h := ct hc h
                                          refine wl_skip rfl rfl ?_
                                          refine wl_skip rfl rfl ?_
                                          refine wl_skip rfl rfl ?_
                                          simp only [Option.some.injEq, Prod.mk.injEq] at h
                                          obtain rfl := h
                                          have h := hg117; clear hg117
                                          refine wl_pure (v := .bool true) tt_ok rfl rfl ?_
                                          refine wl_pure tt_ok rfl rfl ?_
                                          replace h := bsome h; obtain ⟨v122, h, hg122⟩ := h
                                          replace h := ct rfl h
                                          refine wl_skip rfl rfl ?_
                                          refine wl_skip rfl rfl ?_
                                          refine wl_skip rfl rfl ?_
                                          simp only [Option.some.injEq, Prod.mk.injEq] at h
                                          obtain rfl := h
                                          have h := hg122; clear hg122
                                          refine wl_pure (v := .bool true) tt_ok rfl rfl ?_
                                          refine wl_pure tt_ok rfl rfl ?_
                                          replace h := bsome h; obtain ⟨v127, h, hg127⟩ := h
                                          replace h := ct rfl h
                                          refine wl_skip rfl rfl ?_
                                          refine wl_skip rfl rfl ?_
                                          refine wl_skip rfl rfl ?_
                                          simp only [Option.some.injEq, Prod.mk.injEq] at h
                                          obtain rfl := h
                                          have h := hg127; clear hg127
                                          refine wl_pure (v := .bool true) tt_ok rfl rfl ?_
                                          refine wl_nil ?_
                                          refine wx_then ?_
                                          replace h := ct rfl h
                                          refine wc_cond_true rfl ?_
                                          refine wc_seq ?_
                                          refine wc_region ?_
                                          refine wl_pure tt_ok rfl rfl ?_
                                          refine wl_nil ?_
                                          refine wx_then ?_
                                          refine wc_ret ?_
                                          refine wx_then_ret ?_
                                          simp only [Option.some.injEq] at h
                                          obtain rfl := h
                                          exact wx_pf tt_ok (.inl rfl) Try.results6 (Res.tmp rfl Res.nil) rfl
                                        · replace h := cf hc h
                                          refine wl_run rfl ?_
                                          refine wl_pure tt_ok rfl rfl ?_
                                          replace h := bsome h; obtain ⟨v115, x115, h⟩ := h
                                          refine wl_run rfl ?_
                                          refine wl_cq Try.call9 rfl rfl rfl (q_rd (k_queue_Queue_Known o109_0N0 o109_0V0 x115) (pCons Sel.hc (pApp Sel.ha pNil)) (fun _ _ => trivial)) rfl ?_
                                          refine wl_run rfl ?_
                                          refine wl_pure (v := .bool (v115 != (7 : Int))) tt_ok rfl rfl ?_
                                          simp only [Option.some.injEq, Prod.mk.injEq] at h
                                          obtain rfl := h
                                          have h := hg117; clear hg117
                                          refine wl_pure (v := .bool (v115 != (7 : Int))) tt_ok rfl rfl ?_
                                          refine wl_pure tt_ok rfl rfl ?_
                                          replace h := bsome h; obtain ⟨v122, h, hg122⟩ := h
                                          refine wl_split (t := 118) rfl (fun hc => ?_) (fun hc => ?_)
                                          · replace h := ct hc h
                                            refine wl_skip rfl rfl ?_
                                            refine wl_skip rfl rfl ?_
                                            refine wl_skip rfl rfl ?_
                                            simp only [Option.some.injEq, Prod.mk.injEq] at h
                                            obtain rfl := h
                                            have h := hg122; clear hg122
                                            refine wl_pure (v := .bool true) tt_ok rfl rfl ?_
                                            refine wl_pure tt_ok rfl rfl ?_
                                            replace h := bsome h; obtain ⟨v127, h, hg127⟩ := h
                                            replace h := ct rfl h
                                            refine wl_skip rfl rfl ?_
                                            refine wl_skip rfl rfl ?_
                                            refine wl_skip rfl rfl ?_
                                            simp only [Option.some.injEq, Prod.mk.injEq] at h
                                            obtain rfl := h
                                            have h := hg127; clear hg127
                                            refine wl_pure (v := .bool true) tt_ok rfl rfl ?_
                                            refine wl_nil ?_
                                            refine wx_then ?_
                                            replace h := ct rfl h
                                            refine wc_cond_true rfl ?_
                                            refine wc_seq ?_
                                            refine wc_region ?_
                                            refine wl_pure tt_ok rfl rfl ?_
                                            refine wl_nil ?_
                                            refine wx_then ?_
                                            refine wc_ret ?_
                                            refine wx_then_ret ?_
                                            simp only [Option.some.injEq] at h
                                            obtain rfl := h
                                            exact wx_pf tt_ok (.inl rfl) Try.results6 (Res.tmp rfl Res.nil) rfl
                                          · replace h := cf hc h
                                            refine wl_run rfl ?_
                                            refine wl_pure tt_ok rfl rfl ?_
                                            replace h := bsome h; obtain ⟨v120, x120, h⟩ := h
                                            refine wl_run rfl ?_
                                            refine wl_cq Try.call12 rfl rfl rfl (q_rd (k_queue_Queue_Guess o109_0N0 o109_0V0 x120) (pCons Sel.hc (pApp Sel.ha pNil)) (fun _ _ => trivial)) rfl ?_
                                            refine wl_run rfl ?_
                                            refine wl_pure (v := .bool (v120 != (9 : Int))) tt_ok rfl rfl ?_
                                            simp only [Option.some.injEq, Prod.mk.injEq] at h
                                            obtain rfl := h
                                            have h := hg122; clear hg122
                                            refine wl_pure (v := .bool (v120 != (9 : Int))) tt_ok rfl rfl ?_
                                            refine wl_pure tt_ok rfl rfl ?_
                                            replace h := bsome h; obtain ⟨v127, h, hg127⟩ := h
                                            refine wl_split (t := 123) rfl (fun hc => ?_) (fun hc => ?_)
                                            · replace h := ct hc h
                                              refine wl_skip rfl rfl ?_
                                              refine wl_skip rfl rfl ?_
                                              refine wl_skip rfl rfl ?_
                                              simp only [Option.some.injEq, Prod.mk.injEq] at h
                                              obtain rfl := h
                                              have h := hg127; clear hg127
                                              refine wl_pure (v := .bool true) tt_ok rfl rfl ?_
                                              refine wl_nil ?_
                                              refine wx_then ?_
                                              replace h := ct rfl h
                                              refine wc_cond_true rfl ?_
                                              refine wc_seq ?_
                                              refine wc_region ?_
                                              refine wl_pure tt_ok rfl rfl ?_
                                              refine wl_nil ?_
                                              refine wx_then ?_
                                              refine wc_ret ?_
                                              refine wx_then_ret ?_
                                              simp only [Option.some.injEq] at h
                                              obtain rfl := h
                                              exact wx_pf tt_ok (.inl rfl) Try.results6 (Res.tmp rfl Res.nil) rfl
                                            · replace h := cf hc h
                                              refine wl_run rfl ?_
                                              refine wl_pure tt_ok rfl rfl ?_
                                              replace h := bsome h; obtain ⟨v125, x125, h⟩ := h
                                              refine wl_run rfl ?_
                                              refine wl_cq Try.call13 rfl rfl rfl (q_rd (k_hindcastlaw24_no o109_0N0 o109_0V0 x125) (pCons Sel.hc (pApp Sel.ha pNil)) (fun _ _ => trivial)) rfl ?_
                                              refine wl_run rfl ?_
                                              refine wl_pure (v := .bool (!v125)) tt_ok rfl rfl ?_
                                              simp only [Option.some.injEq, Prod.mk.injEq] at h
                                              obtain rfl := h
                                              have h := hg127; clear hg127
                                              refine wl_pure (v := .bool (!v125)) tt_ok rfl rfl ?_
                                              refine wl_nil ?_
                                              refine wx_then ?_
                                              refine wc_cond rfl (fun hc => ?_) (fun hc => ?_)
                                              · replace h := ct hc h
                                                refine wc_seq ?_
                                                refine wc_region ?_
                                                refine wl_pure tt_ok rfl rfl ?_
                                                refine wl_nil ?_
                                                refine wx_then ?_
                                                refine wc_ret ?_
                                                refine wx_then_ret ?_
                                                simp only [Option.some.injEq] at h
                                                obtain rfl := h
                                                exact wx_pf tt_ok (.inl rfl) Try.results6 (Res.tmp rfl Res.nil) rfl
                                              · replace h := cf hc h
                                                refine wc_skip ?_
                                                refine wx_then ?_
                                                refine wc_seq ?_
                                                refine wc_seq ?_
                                                refine wc_region ?_
                                                refine wl_pure tt_ok rfl rfl ?_
                                                refine wl_nil ?_
                                                refine wx_then ?_
                                                refine wc_block ?_
                                                replace h := bsome h; obtain ⟨o45, h, hl45⟩ := h
                                                refine wc_loop (fun m E L => ∃ (j45_2 : Int) (j45_n5_0 : T_queue_Queue) (j45_n5_0a0 : Option Addr) (j45_n5_0n0 : Nat) (j45_n5_0c0 : Nat) (j45_n5_0B0 : List Blk), m_hindcastlaw24_QueueKnown_L44 F m j45_2 j45_n5_0 = some o45 ∧ j45_n5_0n0 = j45_n5_0.l.length ∧ Own 31 1 j45_n5_0a0 j45_n5_0n0 j45_n5_0c0 (flat (e1 .u8) j45_n5_0.l) j45_n5_0B0 ∧ E = [(0, .bool false), (1, .pointer (some ⟨b5_0, 0, none⟩)), (2, .int .i64 j45_2)] ∧ L = (⟨b5_0, [.int .u64 j45_n5_0.first_, .slice j45_n5_0a0 j45_n5_0n0 j45_n5_0c0, .int .u8 j45_n5_0.last], 52, (0, 0)⟩ :: (j45_n5_0B0 ++ []))) F ⟨(0 : Int), o109_0, o109_0a0, o109_0n0, o109_0c0, o109_0B0, h, o109_0N0, o109_0V0, rfl, rfl⟩ (agree_cons rfl (agree_cons rfl (agree_cons rfl agree_nil))) (pSub (pCons Sel.hc (pApp Sel.ha pNil))) ?_
                                                clear h
                                                rintro m45 _ _ ⟨j45_2, j45_n5_0, j45_n5_0a0, j45_n5_0n0, j45_n5_0c0, j45_n5_0B0, h, j45_n5_0N0, j45_n5_0V0, rfl, rfl⟩
                                                rcases m45 with _ | m45
                                                · rw [m_hindcastlaw24_QueueKnown_L44.eq_1] at h; cases h
                                                rw [m_hindcastlaw24_QueueKnown_L44.eq_2] at h
                                                refine wc_seq ?_
                                                refine wc_seq ?_
                                                refine wc_region ?_
                                                refine wl_pure tt_ok rfl rfl ?_
                                                refine wl_pure (v := .bool (decide (j45_2 < (24 : Int)))) tt_ok rfl rfl ?_
                                                refine wl_nil ?_
                                                refine wx_then ?_
                                                refine wc_cond rfl (fun hc => ?_) (fun hc => ?_)
                                                · replace h := ct hc h
                                                  refine wc_skip ?_
                                                  refine wx_then ?_
                                                  refine wc_seq ?_
                                                  refine wc_block ?_
                                                  refine wc_seq ?_
                                                  refine wc_region ?_
                                                  refine wl_pure tt_ok rfl rfl ?_
                                                  refine wl_pure tt_ok rfl rfl ?_
                                                  refine wl_pure (v := .int .i64 (IntKind.wrap .i64 ((7 : Int) + j45_2))) tt_ok rfl rfl ?_
                                                  refine wl_pure (v := .int .u64 (IntKind.wrap .u64 (IntKind.wrap .i64 ((7 : Int) + j45_2)))) tt_ok rfl rfl ?_
                                                  replace h := bsome h; obtain ⟨⟨o136_0, v136⟩, x136, h⟩ := h; try dsimp only at h
                                                  refine wl_cs Try.call10 rfl rfl rfl (s_sp (k_queue_Queue_Add j45_n5_0N0 j45_n5_0V0 x136) (pCons Sel.hc (pApp Sel.ha pNil)) (fun _ _ => trivial)) rfl ?_
                                                  rintro _ _ ⟨_, ⟨o136_0a0, o136_0n0, o136_0c0, o136_0B0, o136_0N0, o136_0V0, rfl, rfl⟩, rfl⟩
                                                  refine wl_pure (v := .bool (v136 != (0 : Int))) tt_ok rfl rfl ?_
                                                  refine wl_nil ?_
                                                  refine wx_then ?_
                                                  refine wc_cond rfl (fun hc => ?_) (fun hc => ?_)
                                                  · replace h := ct hc h
                                                    refine wc_seq ?_
                                                    refine wc_region ?_
                                                    refine wl_pure tt_ok rfl rfl ?_
                                                    refine wl_nil ?_
                                                    refine wx_then ?_
                                                    refine wc_ret ?_
                                                    refine wx_block_ret ?_
                                                    refine wx_then_ret ?_
                                                    obtain rfl := Option.some.inj h
                                                    have h := hl45; clear hl45; try dsimp only [orE_l, orE_r] at h
                                                    refine wx_then_ret ?_
                                                    refine wx_block_ret ?_
                                                    refine wx_then_ret ?_
                                                    simp only [Option.some.injEq] at h
                                                    obtain rfl := h
                                                    exact wx_pf tt_ok (.inl rfl) Try.results6 (Res.tmp rfl Res.nil) rfl
                                                  · replace h := cf hc h
                                                    refine wc_skip ?_
                                                    refine wx_block ?_
                                                    refine wx_then ?_
                                                    refine wc_region ?_
                                                    refine wl_pure tt_ok rfl rfl ?_
                                                    refine wl_pure (v := .int .i64 (IntKind.wrap .i64 (j45_2 + (1 : Int)))) tt_ok rfl rfl ?_
                                                    refine wl_pure tt_ok rfl rfl ?_
                                                    refine wl_nil ?_
                                                    exact wx_round m45 (Nat.lt_succ_self m45) ⟨(IntKind.wrap .i64 (j45_2 + (1 : Int))), o136_0, o136_0a0, o136_0n0, o136_0c0, o136_0B0, h, o136_0N0, o136_0V0, rfl, rfl⟩ (agree_cons rfl (agree_cons rfl (agree_cons rfl agree_nil))) (pSub (pCons Sel.hc (pApp Sel.ha pNil)))
                                                · replace h := cf hc h
                                                  refine wc_exit ?_
                                                  refine wx_then_exit ?_
                                                  obtain rfl := Option.some.inj h
                                                  have h := hl45; clear hl45; try dsimp only [orE_l, orE_r] at h
                                                  refine wx_then_exit ?_
                                                  refine wx_block_exit ?_
                                                  refine wx_then ?_
                                                  refine wc_seq ?_
                                                  refine wc_seq ?_
                                                  refine wc_region ?_
                                                  refine wl_pure tt_ok rfl rfl ?_
                                                  replace h := bsome h; obtain ⟨⟨o139_0, v139⟩, x139, h⟩ := h; try dsimp only at h
                                                  refine wl_cs Try.call10 rfl rfl rfl (s_sp (k_queue_Queue_Add j45_n5_0N0 j45_n5_0V0 x139) (pCons Sel.hc (pApp Sel.ha pNil)) (fun _ _ => trivial)) rfl ?_
                                                  rintro _ _ ⟨_, ⟨o139_0a0, o139_0n0, o139_0c0, o139_0B0, o139_0N0, o139_0V0, rfl, rfl⟩, rfl⟩
                                                  refine wl_pure (v := .bool (v139 != (7 : Int))) tt_ok rfl rfl ?_
                                                  refine wl_pure tt_ok rfl rfl ?_
                                                  replace h := bsome h; obtain ⟨⟨v145, g145_n5_0⟩, h, hg145⟩ := h
                                                  refine wl_split (t := 141) rfl (fun hc => ?_) (fun hc => ?_)
                                                  · replace h := ct hc h
                                                    refine wl_skip rfl rfl ?_
                                                    refine wl_skip rfl rfl ?_
                                                    refine wl_skip rfl rfl ?_
                                                    simp only [Option.some.injEq, Prod.mk.injEq] at h
                                                    obtain ⟨rfl, rfl⟩ := h
                                                    have h := hg145; clear hg145; try dsimp only at h
                                                    refine wl_pure (v := .bool true) tt_ok rfl rfl ?_
                                                    refine wl_pure tt_ok rfl rfl ?_
                                                    replace h := bsome h; obtain ⟨⟨v150, g150_n5_0⟩, h, hg150⟩ := h
                                                    replace h := ct rfl h
                                                    refine wl_skip rfl rfl ?_
                                                    refine wl_skip rfl rfl ?_
                                                    refine wl_skip rfl rfl ?_
                                                    simp only [Option.some.injEq, Prod.mk.injEq] at h
                                                    obtain ⟨rfl, rfl⟩ := h
                                                    have h := hg150; clear hg150; try dsimp only at h
                                                    refine wl_pure (v := .bool true) tt_ok rfl rfl ?_
                                                    refine wl_nil ?_
                                                    refine wx_then ?_
                                                    replace h := ct rfl h
                                                    refine wc_cond_true rfl ?_
                                                    refine wc_seq ?_
                                                    refine wc_region ?_
                                                    refine wl_pure tt_ok rfl rfl ?_
                                                    refine wl_nil ?_
                                                    refine wx_then ?_
                                                    refine wc_ret ?_
                                                    refine wx_then_ret ?_
                                                    simp only [Option.some.injEq] at h
                                                    obtain rfl := h
                                                    exact wx_pf tt_ok (.inl rfl) Try.results6 (Res.tmp rfl Res.nil) rfl
                                                  · replace h := cf hc h
                                                    refine wl_run rfl ?_
                                                    refine wl_pure tt_ok rfl rfl ?_
                                                    replace h := bsome h; obtain ⟨⟨o143_0, v143⟩, x143, h⟩ := h; try dsimp only at h
                                                    refine wl_run rfl ?_
                                                    refine wl_cs Try.call10 rfl rfl rfl (s_sp (k_queue_Queue_Add o139_0N0 o139_0V0 x143) (pCons Sel.hc (pApp Sel.ha pNil)) (fun _ _ => trivial)) rfl ?_
                                                    rintro _ _ ⟨_, ⟨o143_0a0, o143_0n0, o143_0c0, o143_0B0, o143_0N0, o143_0V0, rfl, rfl⟩, rfl⟩
                                                    refine wl_run rfl ?_
                                                    refine wl_pure (v := .bool (v143 != (0 : Int))) tt_ok rfl rfl ?_
                                                    simp only [Option.some.injEq, Prod.mk.injEq] at h
                                                    obtain ⟨rfl, rfl⟩ := h
                                                    have h := hg145; clear hg145; try dsimp only at h
                                                    refine wl_pure (v := .bool (v143 != (0 : Int))) tt_ok rfl rfl ?_
                                                    refine wl_pure tt_ok rfl rfl ?_
                                                    replace h := bsome h; obtain ⟨⟨v150, g150_n5_0⟩, h, hg150⟩ := h
                                                    refine wl_split (t := 146) rfl (fun hc => ?_) (fun hc => ?_)
                                                    · replace h := ct hc h
                                                      refine wl_skip rfl rfl ?_
                                                      refine wl_skip rfl rfl ?_
                                                      refine wl_skip rfl rfl ?_
                                                      simp only [Option.some.injEq, Prod.mk.injEq] at h
                                                      obtain ⟨rfl, rfl⟩ := h
                                                      have h := hg150; clear hg150; try dsimp only at h
                                                      refine wl_pure (v := .bool true) tt_ok rfl rfl ?_
                                                      refine wl_nil ?_
                                                      refine wx_then ?_
                                                      replace h := ct rfl h
                                                      refine wc_cond_true rfl ?_
                                                      refine wc_seq ?_
                                                      refine wc_region ?_
                                                      refine wl_pure tt_ok rfl rfl ?_
                                                      refine wl_nil ?_
                                                      refine wx_then ?_
                                                      refine wc_ret ?_
                                                      refine wx_then_ret ?_
                                                      simp only [Option.some.injEq] at h
                                                      obtain rfl := h
                                                      exact wx_pf tt_ok (.inl rfl) Try.results6 (Res.tmp rfl Res.nil) rfl
                                                    · replace h := cf hc h
                                                      refine wl_run rfl ?_
                                                      refine wl_pure tt_ok rfl rfl ?_
                                                      replace h := bsome h; obtain ⟨⟨o148_0, v148⟩, x148, h⟩ := h; try dsimp only at h
                                                      refine wl_run rfl ?_
                                                      refine wl_cs Try.call10 rfl rfl rfl (s_sp (k_queue_Queue_Add o143_0N0 o143_0V0 x148) (pCons Sel.hc (pApp Sel.ha pNil)) (fun _ _ => trivial)) rfl ?_
                                                      rintro _ _ ⟨_, ⟨o148_0a0, o148_0n0, o148_0c0, o148_0B0, o148_0N0, o148_0V0, rfl, rfl⟩, rfl⟩
                                                      refine wl_run rfl ?_
                                                      refine wl_pure (v := .bool (v148 != (14 : Int))) tt_ok rfl rfl ?_
                                                      simp only [Option.some.injEq, Prod.mk.injEq] at h
                                                      obtain ⟨rfl, rfl⟩ := h
                                                      have h := hg150; clear hg150; try dsimp only at h
                                                      refine wl_pure (v := .bool (v148 != (14 : Int))) tt_ok rfl rfl ?_
                                                      refine wl_nil ?_
                                                      refine wx_then ?_
                                                      refine wc_cond rfl (fun hc => ?_) (fun hc => ?_)
                                                      · replace h := ct hc h
                                                        refine wc_seq ?_
                                                        refine wc_region ?_
                                                        refine wl_pure tt_ok rfl rfl ?_
                                                        refine wl_nil ?_
                                                        refine wx_then ?_
                                                        refine wc_ret ?_
                                                        refine wx_then_ret ?_
                                                        simp only [Option.some.injEq] at h
                                                        obtain rfl := h
                                                        exact wx_pf tt_ok (.inl rfl) Try.results6 (Res.tmp rfl Res.nil) rfl
                                                      · replace h := cf hc h
                                                        refine wc_skip ?_
                                                        refine wx_then ?_
                                                        refine wc_seq ?_
                                                        refine wc_region ?_
                                                        refine wl_pure tt_ok rfl rfl ?_
                                                        replace h := bsome h; obtain ⟨o152_0, x152, h⟩ := h
                                                        refine wl_cs Try.call16 rfl rfl rfl (s_sp (k_queue_Queue_Drop o148_0N0 o148_0V0 x152) (pCons Sel.hc (pApp Sel.ha pNil)) (fun _ _ => trivial)) rfl ?_
                                                        rintro _ _ ⟨_, ⟨o152_0a0, o152_0n0, o152_0c0, o152_0B0, o152_0N0, o152_0V0, rfl, rfl⟩, rfl⟩
                                                        refine wl_nil ?_
                                                        refine wx_then ?_
                                                        refine wc_seq ?_
                                                        refine wc_region ?_
                                                        replace h := bsome h; obtain ⟨v153, x153, h⟩ := h
                                                        refine wl_cs Try.call8 rfl rfl rfl (s_sp (k_queue_New x153) pNil (fun _ _ => trivial)) rfl ?_
                                                        rintro _ _ ⟨_, ⟨b153_0, v153a0, v153n0, v153c0, v153B0, v153N0, v153V0, rfl, rfl⟩, rfl⟩
                                                        refine wl_pure tt_ok rfl rfl ?_
                                                        refine wl_nil ?_
                                                        refine wx_then ?_
                                                        refine wc_seq ?_
                                                        refine wc_region ?_
                                                        refine wl_pure tt_ok rfl rfl ?_
                                                        refine wl_nil ?_
                                                        refine wx_then ?_
                                                        refine wc_seq ?_
                                                        refine wc_region ?_
                                                        refine wl_pure tt_ok rfl rfl ?_
                                                        replace h := bsome h; obtain ⟨_, x155, h⟩ := h
                                                        refine wl_cq Try.call16 rfl rfl rfl (q_pf (k_queue_Queue_Drop_nil0 x155) (fun _ _ => trivial)) rfl ?_
                                                        refine wl_nil ?_
                                                        refine wx_then ?_
                                                        refine wc_seq ?_
                                                        refine wc_region ?_
                                                        refine wl_pure tt_ok rfl rfl ?_
                                                        replace h := bsome h; obtain ⟨⟨o157_0, v157⟩, x157, h⟩ := h; try dsimp only at h
                                                        refine wl_cs Try.call10 rfl rfl rfl (s_sp (k_queue_Queue_Add o152_0N0 o152_0V0 x157) (pCons (Sel.sc (Sel.sa Sel.hc)) (pApp (Sel.sc (Sel.sa Sel.ha)) pNil)) (fun _ _ => trivial)) rfl ?_
                                                        rintro _ _ ⟨_, ⟨o157_0a0, o157_0n0, o157_0c0, o157_0B0, o157_0N0, o157_0V0, rfl, rfl⟩, rfl⟩
                                                        refine wl_pure (v := .bool (v157 == (0 : Int))) tt_ok rfl rfl ?_
                                                        refine wl_pure tt_ok rfl rfl ?_
                                                        replace h := bsome h; obtain ⟨⟨v163, g163_n153_0⟩, h, hg163⟩ := h
                                                        refine wl_split (t := 159) rfl (fun hc => ?_) (fun hc => ?_)
                                                        · replace h := ct hc h
                                                          refine wl_run rfl ?_
                                                          refine wl_pure tt_ok rfl rfl ?_
                                                          replace h := bsome h; obtain ⟨⟨o161_0, v161⟩, x161, h⟩ := h; try dsimp only at h
                                                          refine wl_run rfl ?_
                                                          refine wl_cs Try.call10 rfl rfl rfl (s_sp (k_queue_Queue_Add v153N0 v153V0 x161) (pCons (Sel.sc (Sel.sa Sel.hc)) (pApp (Sel.sc (Sel.sa Sel.ha)) pNil)) (fun _ _ => trivial)) rfl ?_
                                                          rintro _ _ ⟨_, ⟨o161_0a0, o161_0n0, o161_0c0, o161_0B0, o161_0N0, o161_0V0, rfl, rfl⟩, rfl⟩
                                                          refine wl_run rfl ?_
                                                          refine wl_pure (v := .bool (v161 == (0 : Int))) tt_ok rfl rfl ?_
                                                          simp only [Option.some.injEq, Prod.mk.injEq] at h
                                                          obtain ⟨rfl, rfl⟩ := h
                                                          have h := hg163; clear hg163; try dsimp only at h
                                                          refine wl_pure (v := .bool (v161 == (0 : Int))) tt_ok rfl rfl ?_
                                                          refine wl_pure tt_ok rfl rfl ?_
                                                          replace h := bsome h; obtain ⟨⟨v168, g168_n153_0⟩, h, hg168⟩ := h
                                                          refine wl_split (t := 164) rfl (fun hc => ?_) (fun hc => ?_)
                                                          · replace h := ct hc h
                                                            refine wl_run rfl ?_
                                                            refine wl_pure tt_ok rfl rfl ?_
                                                            replace h := bsome h; obtain ⟨⟨o166_0, v166⟩, x166, h⟩ := h; try dsimp only at h
                                                            refine wl_run rfl ?_
                                                            refine wl_cs Try.call10 rfl rfl rfl (s_sp (k_queue_Queue_Add o161_0N0 o161_0V0 x166) (pCons Sel.hc (pApp Sel.ha pNil)) (fun _ _ => trivial)) rfl ?_
                                                            rintro _ _ ⟨_, ⟨o166_0a0, o166_0n0, o166_0c0, o166_0B0, o166_0N0, o166_0V0, rfl, rfl⟩, rfl⟩
                                                            refine wl_run rfl ?_
                                                            refine wl_pure (v := .bool (v166 == (11 : Int))) tt_ok rfl rfl ?_
                                                            simp only [Option.some.injEq, Prod.mk.injEq] at h
                                                            obtain ⟨rfl, rfl⟩ := h
                                                            have h := hg168; clear hg168; try dsimp only at h
                                                            refine wl_pure (v := .bool (v166 == (11 : Int))) tt_ok rfl rfl ?_
                                                            refine wl_pure tt_ok rfl rfl ?_
                                                            replace h := bsome h; obtain ⟨v173, h, hg173⟩ := h
                                                            refine wl_split (t := 169) rfl (fun hc => ?_) (fun hc => ?_)
                                                            · replace h := ct hc h
                                                              refine wl_run rfl ?_
                                                              refine wl_pure tt_ok rfl rfl ?_
                                                              replace h := bsome h; obtain ⟨v171, x171, h⟩ := h
                                                              refine wl_run rfl ?_
                                                              refine wl_cq Try.call10 rfl rfl rfl (q_pf (k_queue_Queue_Add_nil0 x171) (fun _ _ => trivial)) rfl ?_
                                                              refine wl_run rfl ?_
                                                              refine wl_pure (v := .bool (v171 == (1 : Int))) tt_ok rfl rfl ?_
                                                              simp only [Option.some.injEq, Prod.mk.injEq] at h
                                                              obtain rfl := h
                                                              have h := hg173; clear hg173
                                                              refine wl_pure (v := .bool (v171 == (1 : Int))) tt_ok rfl rfl ?_
                                                              refine wl_pure tt_ok rfl rfl ?_
                                                              replace h := bsome h; obtain ⟨v178, h, hg178⟩ := h
                                                              refine wl_split (t := 174) rfl (fun hc => ?_) (fun hc => ?_)
                                                              · replace h := ct hc h
                                                                refine wl_run rfl ?_
                                                                refine wl_pure tt_ok rfl rfl ?_
                                                                replace h := bsome h; obtain ⟨v176, x176, h⟩ := h
                                                                refine wl_run rfl ?_
                                                                refine wl_cq Try.call9 rfl rfl rfl (q_pf (k_queue_Queue_Known_nil0 x176) (fun _ _ => trivial)) rfl ?_
                                                                refine wl_run rfl ?_
                                                                refine wl_pure (v := .bool (v176 == (0 : Int))) tt_ok rfl rfl ?_
                                                                simp only [Option.some.injEq, Prod.mk.injEq] at h
                                                                obtain rfl := h
                                                                have h := hg178; clear hg178
                                                                refine wl_pure (v := .bool (v176 == (0 : Int))) tt_ok rfl rfl ?_
                                                                refine wl_pure tt_ok rfl rfl ?_
                                                                replace h := bsome h; obtain ⟨v183, h, hg183⟩ := h
                                                                refine wl_split (t := 179) rfl (fun hc => ?_) (fun hc => ?_)
                                                                · replace h := ct hc h
                                                                  refine wl_run rfl ?_
                                                                  refine wl_pure tt_ok rfl rfl ?_
                                                                  replace h := bsome h; obtain ⟨v181, x181, h⟩ := h
                                                                  refine wl_run rfl ?_
                                                                  refine wl_cq Try.call20 rfl rfl rfl (q_pf (k_queue_Queue_First_nil0 x181) (fun _ _ => trivial)) rfl ?_
                                                                  refine wl_run rfl ?_
                                                                  refine wl_pure (v := .bool (v181 == (0 : Int))) tt_ok rfl rfl ?_
                                                                  simp only [Option.some.injEq, Prod.mk.injEq] at h
                                                                  obtain rfl := h
                                                                  have h := hg183; clear hg183
                                                                  refine wl_pure (v := .bool (v181 == (0 : Int))) tt_ok rfl rfl ?_
                                                                  refine wl_pure tt_ok rfl rfl ?_
                                                                  replace h := bsome h; obtain ⟨v187, h, hg187⟩ := h
                                                                  refine wl_split (t := 184) rfl (fun hc => ?_) (fun hc => ?_)
                                                                  · replace h := ct hc h
                                                                    refine wl_run rfl ?_
                                                                    refine wl_pure tt_ok rfl rfl ?_
                                                                    replace h := bsome h; obtain ⟨v186, x186, h⟩ := h
                                                                    refine wl_run rfl ?_
                                                                    refine wl_cq Try.call13 rfl rfl rfl (q_pf (k_hindcastlaw24_no_nil0 x186) (fun _ _ => trivial)) rfl ?_
                                                                    simp only [Option.some.injEq, Prod.mk.injEq] at h
                                                                    obtain rfl := h
                                                                    have h := hg187; clear hg187
                                                                    refine wl_pure (v := .bool v186) tt_ok rfl rfl ?_
                                                                    refine wl_pure tt_ok rfl rfl ?_
                                                                    replace h := bsome h; obtain ⟨v192, h, hg192⟩ := h
                                                                    refine wl_split (t := 188) rfl (fun hc => ?_) (fun hc => ?_)
                                                                    · replace h := ct hc h
                                                                      refine wl_run rfl ?_
                                                                      refine wl_pure tt_ok rfl rfl ?_
                                                                      replace h := bsome h; obtain ⟨v190, x190, h⟩ := h
                                                                      refine wl_run rfl ?_
                                                                      refine wl_cq Try.call12 rfl rfl rfl (q_pf (k_queue_Queue_Guess_nil0 x190) (fun _ _ => trivial)) rfl ?_
                                                                      refine wl_run rfl ?_
                                                                      refine wl_pure (v := .bool (v190 == (0 : Int))) tt_ok rfl rfl ?_
                                                                      simp only [Option.some.injEq, Prod.mk.injEq] at h
                                                                      obtain rfl := h
                                                                      have h := hg192; clear hg192
                                                                      refine wl_pure (v := .bool (v190 == (0 : Int))) tt_ok rfl rfl ?_
                                                                      refine wl_pure tt_ok rfl rfl ?_
                                                                      replace h := bsome h; obtain ⟨v197, h, hg197⟩ := h
                                                                      refine wl_split (t := 193) rfl (fun hc => ?_) (fun hc => ?_)
                                                                      · replace h := ct hc h
                                                                        refine wl_run rfl ?_
                                                                        refine wl_pure tt_ok rfl rfl ?_
                                                                        replace h := bsome h; obtain ⟨v195, x195, h⟩ := h
                                                                        refine wl_run rfl ?_
                                                                        refine wl_cs Try.call24 rfl rfl rfl (s_sp (k_queue_Queue_Slice_nil0 x195) pNil (fun _ _ => trivial)) rfl ?_
                                                                        rintro _ _ ⟨_, ⟨v195a0, v195n0, v195c0, v195B0, v195N0, v195V0, rfl, rfl⟩, rfl⟩
                                                                        replace h := bsome h; obtain ⟨v196, x196, h⟩ := h
                                                                        refine wl_run rfl ?_
                                                                        refine wl_cq Try.call26 rfl rfl rfl (q_pf (k_hindcastlaw24_is v195N0 (vec_cap v195V0) rfl (Nat.le_refl _) x196) (fun w hI => ⟨(Rds.call (Rds.of_vec v195V0) pNil ⟨_, Sel.ha⟩) w hI, (fun _ _ => Rds.nil) w hI⟩)) rfl ?_
                                                                        simp only [Option.some.injEq, Prod.mk.injEq] at h
                                                                        obtain rfl := h
                                                                        have h := hg197; clear hg197
                                                                        refine wl_pure (v := .bool v196) tt_ok rfl rfl ?_
                                                                        refine wl_pure tt_ok rfl rfl ?_
                                                                        replace h := bsome h; obtain ⟨v202, h, hg202⟩ := h
                                                                        refine wl_split (t := 198) rfl (fun hc => ?_) (fun hc => ?_)
                                                                        · replace h := ct hc h
                                                                          replace h := bsome h; obtain ⟨v199, x199, h⟩ := h
                                                                          refine wl_run rfl ?_
                                                                          refine wl_cs Try.call8 rfl rfl rfl (s_sp (k_queue_New x199) pNil (fun _ _ => trivial)) rfl ?_
                                                                          rintro _ _ ⟨_, ⟨b199_0, v199a0, v199n0, v199c0, v199B0, v199N0, v199V0, rfl, rfl⟩, rfl⟩
                                                                          replace h := bsome h; obtain ⟨v200, x200, h⟩ := h
                                                                          refine wl_run rfl ?_
                                                                          refine wl_cq Try.call12 rfl rfl rfl (q_rd (k_queue_Queue_Guess v199N0 v199V0 x200) (pCons Sel.hc (pApp Sel.ha pNil)) (fun _ _ => trivial)) rfl ?_
                                                                          refine wl_run rfl ?_
                                                                          refine wl_pure (v := .bool (v200 == (0 : Int))) tt_ok rfl rfl ?_
                                                                          simp only [Option.some.injEq, Prod.mk.injEq] at h
                                                                          obtain rfl := h
                                                                          have h := hg202; clear hg202
                                                                          refine wl_pure (v := .bool (v200 == (0 : Int))) tt_ok rfl rfl ?_
                                                                          refine wl_pure tt_ok rfl rfl ?_
                                                                          replace h := bsome h; obtain ⟨v205, h, hg205⟩ := h
                                                                          refine wl_split (t := 203) rfl (fun hc => ?_) (fun hc => ?_)
                                                                          · replace h := ct hc h
                                                                            replace h := bsome h; obtain ⟨v204, x204, h⟩ := h
                                                                            refine wl_run rfl ?_
                                                                            refine wl_cq Try.call7 rfl rfl rfl (q_pf (k_hindcastlaw24_works x204) (fun _ _ => trivial)) rfl ?_
                                                                            simp only [Option.some.injEq, Prod.mk.injEq] at h
                                                                            obtain rfl := h
                                                                            have h := hg205; clear hg205
                                                                            refine wl_pure (v := .bool v204) tt_ok rfl rfl ?_
                                                                            refine wl_pure tt_ok rfl rfl ?_
                                                                            refine wl_nil ?_
                                                                            refine wx_then ?_
                                                                            refine wc_ret ?_
                                                                            simp only [Option.some.injEq] at h
                                                                            obtain rfl := h
                                                                            exact wx_pf tt_ok (.inl rfl) Try.results6 (Res.tmp rfl Res.nil) rfl
                                                                          · replace h := cf hc h
                                                                            refine wl_skip rfl rfl ?_
                                                                            simp only [Option.some.injEq, Prod.mk.injEq] at h
                                                                            obtain rfl := h
                                                                            have h := hg205; clear hg205
                                                                            refine wl_pure (v := .bool false) tt_ok rfl rfl ?_
                                                                            refine wl_pure tt_ok rfl rfl ?_
                                                                            refine wl_nil ?_
                                                                            refine wx_then ?_
                                                                            refine wc_ret ?_
                                                                            simp only [Option.some.injEq] at h
                                                                            obtain rfl := h
                                                                            exact wx_pf tt_ok (.inl rfl) Try.results6 (Res.tmp rfl Res.nil) rfl
                                                                        · replace h := cf hc h
                                                                          refine wl_skip rfl rfl ?_
                                                                          refine wl_skip rfl rfl ?_
                                                                          refine wl_skip rfl rfl ?_
                                                                          simp only [Option.some.injEq, Prod.mk.injEq] at h
                                                                          obtain rfl := h
                                                                          have h := hg202; clear hg202
                                                                          refine wl_pure (v := .bool false) tt_ok rfl rfl ?_
                                                                          refine wl_pure tt_ok rfl rfl ?_
                                                                          replace h := bsome h; obtain ⟨v205, h, hg205⟩ := h
                                                                          replace h := cf rfl h
                                                                          refine wl_skip rfl rfl ?_
                                                                          simp only [Option.some.injEq, Prod.mk.injEq] at h
                                                                          obtain rfl := h
                                                                          have h := hg205; clear hg205
                                                                          refine wl_pure (v := .bool false) tt_ok rfl rfl ?_
                                                                          refine wl_pure tt_ok rfl rfl ?_
                                                                          refine wl_nil ?_
                                                                          refine wx_then ?_
                                                                          refine wc_ret ?_
                                                                          simp only [Option.some.injEq] at h
                                                                          obtain rfl := h
                                                                          exact wx_pf tt_ok (.inl rfl) Try.results6 (Res.tmp rfl Res.nil) rfl
                                                                      · replace h := cf hc h
                                                                        refine wl_skip rfl rfl ?_
                                                                        refine wl_skip rfl rfl ?_
                                                                        refine wl_skip rfl rfl ?_
                                                                        simp only [Option.some.injEq, Prod.mk.injEq] at h
                                                                        obtain rfl := h
                                                                        have h := hg197; clear hg197
                                                                        refine wl_pure (v := .bool false) tt_ok rfl rfl ?_
                                                                        refine wl_pure tt_ok rfl rfl ?_
                                                                        replace h := bsome h; obtain ⟨v202, h, hg202⟩ := h
                                                                        replace h := cf rfl h
                                                                        refine wl_skip rfl rfl ?_
                                                                        refine wl_skip rfl rfl ?_
                                                                        refine wl_skip rfl rfl ?_
                                                                        simp only [Option.some.injEq, Prod.mk.injEq] at h
                                                                        obtain rfl := h
                                                                        have h := hg202; clear hg202
                                                                        refine wl_pure (v := .bool false) tt_ok rfl rfl ?_
                                                                        refine wl_pure tt_ok rfl rfl ?_
                                                                        replace h := bsome h; obtain ⟨v205, h, hg205⟩ := h
                                                                        replace h := cf rfl h
                                                                        refine wl_skip rfl rfl ?_
                                                                        simp only [Option.some.injEq, Prod.mk.injEq] at h
                                                                        obtain rfl := h
                                                                        have h := hg205; clear hg205
                                                                        refine wl_pure (v := .bool false) tt_ok rfl rfl ?_
                                                                        refine wl_pure tt_ok rfl rfl ?_
                                                                        refine wl_nil ?_
                                                                        refine wx_then ?_
                                                                        refine wc_ret ?_
                                                                        simp only [Option.some.injEq] at h
                                                                        obtain rfl := h
                                                                        exact wx_pf tt_ok (.inl rfl) Try.results6 (Res.tmp rfl Res.nil) rfl
                                                                    · replace h := cf hc h
                                                                      refine wl_skip rfl rfl ?_
                                                                      refine wl_skip rfl rfl ?_
                                                                      refine wl_skip rfl rfl ?_
                                                                      simp only [Option.some.injEq, Prod.mk.injEq] at h
                                                                      obtain rfl := h
                                                                      have h := hg192; clear hg192
                                                                      refine wl_pure (v := .bool false) tt_ok rfl rfl ?_
                                                                      refine wl_pure tt_ok rfl rfl ?_
                                                                      replace h := bsome h; obtain ⟨v197, h, hg197⟩ := h
                                                                      replace h := cf rfl h
                                                                      refine wl_skip rfl rfl ?_
                                                                      refine wl_skip rfl rfl ?_
                                                                      refine wl_skip rfl rfl ?_
                                                                      simp only [Option.some.injEq, Prod.mk.injEq] at h
                                                                      obtain rfl := h
                                                                      have h := hg197; clear hg197
                                                                      refine wl_pure (v := .bool false) tt_ok rfl rfl ?_
                                                                      refine wl_pure tt_ok rfl rfl ?_
                                                                      replace h := bsome h; obtain ⟨v202, h, hg202⟩ := h
                                                                      replace h := cf rfl h
                                                                      refine wl_skip rfl rfl ?_
                                                                      refine wl_skip rfl rfl ?_
                                                                      refine wl_skip rfl rfl ?_
                                                                      simp only [Option.some.injEq, Prod.mk.injEq] at h
                                                                      obtain rfl := h
                                                                      have h := hg202; clear hg202
                                                                      refine wl_pure (v := .bool false) tt_ok rfl rfl ?_
                                                                      refine wl_pure tt_ok rfl rfl ?_
                                                                      replace h := bsome h; obtain ⟨v205, h, hg205⟩ := h
                                                                      replace h := cf rfl h
                                                                      refine wl_skip rfl rfl ?_
                                                                      simp only [Option.some.injEq, Prod.mk.injEq] at h
                                                                      obtain rfl := h
                                                                      have h := hg205; clear hg205
                                                                      refine wl_pure (v := .bool false) tt_ok rfl rfl ?_
                                                                      refine wl_pure tt_ok rfl rfl ?_
                                                                      refine wl_nil ?_
                                                                      refine wx_then ?_
                                                                      refine wc_ret ?_
                                                                      simp only [Option.some.injEq] at h
                                                                      obtain rfl := h
                                                                      exact wx_pf tt_ok (.inl rfl) Try.results6 (Res.tmp rfl Res.nil) rfl
                                                                  · replace h := cf hc h
                                                                    refine wl_skip rfl rfl ?_
                                                                    refine wl_skip rfl rfl ?_
                                                                    simp only [Option.some.injEq, Prod.mk.injEq] at h
                                                                    obtain rfl := h
                                                                    have h := hg187; clear hg187
                                                                    refine wl_pure (v := .bool false) tt_ok rfl rfl ?_
                                                                    refine wl_pure tt_ok rfl rfl ?_
                                                                    replace h := bsome h; obtain ⟨v192, h, hg192⟩ := h
                                                                    replace h := cf rfl h
                                                                    refine wl_skip rfl rfl ?_
                                                                    refine wl_skip rfl rfl ?_
                                                                    refine wl_skip rfl rfl ?_
                                                                    simp only [Option.some.injEq, Prod.mk.injEq] at h
                                                                    obtain rfl := h
                                                                    have h := hg192; clear hg192
                                                                    refine wl_pure (v := .bool false) tt_ok rfl rfl ?_
                                                                    refine wl_pure tt_ok rfl rfl ?_
                                                                    replace h := bsome h; obtain ⟨v197, h, hg197⟩ := h
                                                                    replace h := cf rfl h
                                                                    refine wl_skip rfl rfl ?_
                                                                    refine wl_skip rfl rfl ?_
                                                                    refine wl_skip rfl rfl ?_
                                                                    simp only [Option.some.injEq, Prod.mk.injEq] at h
                                                                    obtain rfl := h
                                                                    have h := hg197; clear hg197
                                                                    refine wl_pure (v := .bool false) tt_ok rfl rfl ?_
                                                                    refine wl_pure tt_ok rfl rfl ?_
                                                                    replace h := bsome h; obtain ⟨v202, h, hg202⟩ := h
                                                                    replace h := cf rfl h
                                                                    refine wl_skip rfl rfl ?_
                                                                    refine wl_skip rfl rfl ?_
                                                                    refine wl_skip rfl rfl ?_
                                                                    simp only [Option.some.injEq, Prod.mk.injEq] at h
                                                                    obtain rfl := h
                                                                    have h := hg202; clear hg202
                                                                    refine wl_pure (v := .bool false) tt_ok rfl rfl ?_
                                                                    refine wl_pure tt_ok rfl rfl ?_
                                                                    replace h := bsome h; obtain ⟨v205, h, hg205⟩ := h
                                                                    replace h := cf rfl h
                                                                    refine wl_skip rfl rfl ?_
                                                                    simp only [Option.some.injEq, Prod.mk.injEq] at h
                                                                    obtain rfl := h
                                                                    have h := hg205; clear hg205
                                                                    refine wl_pure (v := .bool false) tt_ok rfl rfl ?_
                                                                    refine wl_pure tt_ok rfl rfl ?_
                                                                    refine wl_nil ?_
                                                                    refine wx_then ?_
                                                                    refine wc_ret ?_
                                                                    simp only [Option.some.injEq] at h
                                                                    obtain rfl := h
                                                                    exact wx_pf tt_ok (.inl rfl) Try.results6 (Res.tmp rfl Res.nil) rfl
                                                                · replace h := cf hc h
                                                                  refine wl_skip rfl rfl ?_
                                                                  refine wl_skip rfl rfl ?_
                                                                  refine wl_skip rfl rfl ?_
                                                                  simp only [Option.some.injEq, Prod.mk.injEq] at h
                                                                  obtain rfl := h
                                                                  have h := hg183; clear hg183
                                                                  refine wl_pure (v := .bool false) tt_ok rfl rfl ?_
                                                                  refine wl_pure tt_ok rfl rfl ?_
                                                                  replace h := bsome h; obtain ⟨v187, h, hg187⟩ := h
                                                                  replace h := cf rfl h
                                                                  refine wl_skip rfl rfl ?_
                                                                  refine wl_skip rfl rfl ?_
                                                                  simp only [Option.some.injEq, Prod.mk.injEq] at h
                                                                  obtain rfl := h
                                                                  have h := hg187; clear hg187
                                                                  refine wl_pure (v := .bool false) tt_ok rfl rfl ?_
                                                                  refine wl_pure tt_ok rfl rfl ?_
                                                                  replace h := bsome h; obtain ⟨v192, h, hg192⟩ := h
                                                                  replace h := cf rfl h
                                                                  refine wl_skip rfl rfl ?_
                                                                  refine wl_skip rfl rfl ?_
                                                                  refine wl_skip rfl rfl ?_
                                                                  simp only [Option.some.injEq, Prod.mk.injEq] at h
                                                                  obtain rfl := h
                                                                  have h := hg192; clear hg192
                                                                  refine wl_pure (v := .bool false) tt_ok rfl rfl ?_
                                                                  refine wl_pure tt_ok rfl rfl ?_
                                                                  replace h := bsome h; obtain ⟨v197, h, hg197⟩ := h
                                                                  replace h := cf rfl h
                                                                  refine wl_skip rfl rfl ?_
                                                                  refine wl_skip rfl rfl ?_
                                                                  refine wl_skip rfl rfl ?_
                                                                  simp only [Option.some.injEq, Prod.mk.injEq] at h
                                                                  obtain rfl := h
                                                                  have h := hg197; clear hg197
                                                                  refine wl_pure (v := .bool false) tt_ok rfl rfl ?_
                                                                  refine wl_pure tt_ok rfl rfl ?_
                                                                  replace h := bsome h; obtain ⟨v202, h, hg202⟩ := h
                                                                  replace h := cf rfl h
                                                                  refine wl_skip rfl rfl ?_
                                                                  refine wl_skip rfl rfl ?_
                                                                  refine wl_skip rfl rfl ?_
                                                                  simp only [Option.some.injEq, Prod.mk.injEq] at h
                                                                  obtain rfl := h
                                                                  have h := hg202; clear hg202
                                                                  refine wl_pure (v := .bool false) tt_ok rfl rfl ?_
                                                                  refine wl_pure tt_ok rfl rfl ?_
                                                                  replace h := bsome h; obtain ⟨v205, h, hg205⟩ := h
                                                                  replace h := cf rfl h
                                                                  refine wl_skip rfl rfl ?_
                                                                  simp only [Option.some.injEq, Prod.mk.injEq] at h
                                                                  obtain rfl := h
                                                                  have h := hg205; clear hg205
                                                                  refine wl_pure (v := .bool false) tt_ok rfl rfl ?_
                                                                  refine wl_pure tt_ok rfl rfl ?_
                                                                  refine wl_nil ?_
                                                                  refine wx_then ?_
                                                                  refine wc_ret ?_
                                                                  simp only [Option.some.injEq] at h
                                                                  obtain rfl := h
                                                                  exact wx_pf tt_ok (.inl rfl) Try.results6 (Res.tmp rfl Res.nil) rfl
                                                              · replace h := cf hc h
                                                                refine wl_skip rfl rfl ?_
                                                                refine wl_skip rfl rfl ?_
                                                                refine wl_skip rfl rfl ?_
                                                                simp only [Option.some.injEq, Prod.mk.injEq] at h
                                                                obtain rfl := h
                                                                have h := hg178; clear hg178
                                                                refine wl_pure (v := .bool false) tt_ok rfl rfl ?_
                                                                refine wl_pure tt_ok rfl rfl ?_
                                                                replace h := bsome h; obtain ⟨v183, h, hg183⟩ := h
                                                                replace h := cf rfl h
                                                                refine wl_skip rfl rfl ?_
                                                                refine wl_skip rfl rfl ?_
                                                                refine wl_skip rfl rfl ?_
                                                                simp only [Option.some.injEq, Prod.mk.injEq] at h
                                                                obtain rfl := h
                                                                have h := hg183; clear hg183
                                                                refine wl_pure (v := .bool false) tt_ok rfl rfl ?_
                                                                refine wl_pure tt_ok rfl rfl ?_
                                                                replace h := bsome h; obtain ⟨v187, h, hg187⟩ := h
                                                                replace h := cf rfl h
                                                                refine wl_skip rfl rfl ?_
                                                                refine wl_skip rfl rfl ?_
                                                                simp only [Option.some.injEq, Prod.mk.injEq] at h
                                                                obtain rfl := h
                                                                have h := hg187; clear hg187
                                                                refine wl_pure (v := .bool false) tt_ok rfl rfl ?_
                                                                refine wl_pure tt_ok rfl rfl ?_
                                                                replace h := bsome h; obtain ⟨v192, h, hg192⟩ := h
                                                                replace h := cf rfl h
                                                                refine wl_skip rfl rfl ?_
                                                                refine wl_skip rfl rfl ?_
                                                                refine wl_skip rfl rfl ?_
                                                                simp only [Option.some.injEq, Prod.mk.injEq] at h
                                                                obtain rfl := h
                                                                have h := hg192; clear hg192
                                                                refine wl_pure (v := .bool false) tt_ok rfl rfl ?_
                                                                refine wl_pure tt_ok rfl rfl ?_
                                                                replace h := bsome h; obtain ⟨v197, h, hg197⟩ := h
                                                                replace h := cf rfl h
                                                                refine wl_skip rfl rfl ?_
                                                                refine wl_skip rfl rfl ?_
                                                                refine wl_skip rfl rfl ?_
                                                                simp only [Option.some.injEq, Prod.mk.injEq] at h
                                                                obtain rfl := h
                                                                have h := hg197; clear hg197
                                                                refine wl_pure (v := .bool false) tt_ok rfl rfl ?_
                                                                refine wl_pure tt_ok rfl rfl ?_
                                                                replace h := bsome h; obtain ⟨v202, h, hg202⟩ := h
                                                                replace h := cf rfl h
                                                                refine wl_skip rfl rfl ?_
                                                                refine wl_skip rfl rfl ?_
                                                                refine wl_skip rfl rfl ?_
                                                                simp only [Option.some.injEq, Prod.mk.injEq] at h
                                                                obtain rfl := h
                                                                have h := hg202; clear hg202
                                                                refine wl_pure (v := .bool false) tt_ok rfl rfl ?_
                                                                refine wl_pure tt_ok rfl rfl ?_
                                                                replace h := bsome h; obtain ⟨v205, h, hg205⟩ := h
                                                                replace h := cf rfl h
                                                                refine wl_skip rfl rfl ?_
                                                                simp only [Option.some.injEq, Prod.mk.injEq] at h
                                                                obtain rfl := h
                                                                have h := hg205; clear hg205
                                                                refine wl_pure (v := .bool false) tt_ok rfl rfl ?_
                                                                refine wl_pure tt_ok rfl rfl ?_
                                                                refine wl_nil ?_
                                                                refine wx_then ?_
                                                                refine wc_ret ?_
                                                                simp only [Option.some.injEq] at h
                                                                obtain rfl := h
                                                                exact wx_pf tt_ok (.inl rfl) Try.results6 (Res.tmp rfl Res.nil) rfl
                                                            · replace h := cf hc h
                                                              refine wl_skip rfl rfl ?_
                                                              refine wl_skip rfl rfl ?_
                                                              refine wl_skip rfl rfl ?_
                                                              simp only [Option.some.injEq, Prod.mk.injEq] at h
                                                              obtain rfl := h
                                                              have h := hg173; clear hg173
                                                              refine wl_pure (v := .bool false) tt_ok rfl rfl ?_
                                                              refine wl_pure tt_ok rfl rfl ?_
                                                              replace h := bsome h; obtain ⟨v178, h, hg178⟩ := h
                                                              replace h := cf rfl h
                                                              refine wl_skip rfl rfl ?_
                                                              refine wl_skip rfl rfl ?_
                                                              refine wl_skip rfl rfl ?_
                                                              simp only [Option.some.injEq, Prod.mk.injEq] at h
                                                              obtain rfl := h
                                                              have h := hg178; clear hg178
                                                              refine wl_pure (v := .bool false) tt_ok rfl rfl ?_
                                                              refine wl_pure tt_ok rfl rfl ?_
                                                              replace h := bsome h; obtain ⟨v183, h, hg183⟩ := h
                                                              replace h := cf rfl h
                                                              refine wl_skip rfl rfl ?_
                                                              refine wl_skip rfl rfl ?_
                                                              refine wl_skip rfl rfl ?_
                                                              simp only [Option.some.injEq, Prod.mk.injEq] at h
                                                              obtain rfl := h
                                                              have h := hg183; clear hg183
                                                              refine wl_pure (v := .bool false) tt_ok rfl rfl ?_
                                                              refine wl_pure tt_ok rfl rfl ?_
                                                              replace h := bsome h; obtain ⟨v187, h, hg187⟩ := h
                                                              replace h := cf rfl h
                                                              refine wl_skip rfl rfl ?_
                                                              refine wl_skip rfl rfl ?_
                                                              simp only [Option.some.injEq, Prod.mk.injEq] at h
                                                              obtain rfl := h
                                                              have h := hg187; clear hg187
                                                              refine wl_pure (v := .bool false) tt_ok rfl rfl ?_
                                                              refine wl_pure tt_ok rfl rfl ?_
                                                              replace h := bsome h; obtain ⟨v192, h, hg192⟩ := h
                                                              replace h := cf rfl h
                                                              refine wl_skip rfl rfl ?_
                                                              refine wl_skip rfl rfl ?_
                                                              refine wl_skip rfl rfl ?_
                                                              simp only [Option.some.injEq, Prod.mk.injEq] at h
                                                              obtain rfl := h
                                                              have h := hg192; clear hg192
                                                              refine wl_pure (v := .bool false) tt_ok rfl rfl ?_
                                                              refine wl_pure tt_ok rfl rfl ?_
                                                              replace h := bsome h; obtain ⟨v197, h, hg197⟩ := h
                                                              replace h := cf rfl h
                                                              refine wl_skip rfl rfl ?_
                                                              refine wl_skip rfl rfl ?_
                                                              refine wl_skip rfl rfl ?_
                                                              simp only [Option.some.injEq, Prod.mk.injEq] at h
                                                              obtain rfl := h
                                                              have h := hg197; clear hg197
                                                              refine wl_pure (v := .bool false) tt_ok rfl rfl ?_
                                                              refine wl_pure tt_ok rfl rfl ?_
                                                              replace h := bsome h; obtain ⟨v202, h, hg202⟩ := h
                                                              replace h := cf rfl h
                                                              refine wl_skip rfl rfl ?_
                                                              refine wl_skip rfl rfl ?_
                                                              refine wl_skip rfl rfl ?_
                                                              simp only [Option.some.injEq, Prod.mk.injEq] at h
                                                              obtain rfl := h
                                                              have h := hg202; clear hg202
                                                              refine wl_pure (v := .bool false) tt_ok rfl rfl ?_
                                                              refine wl_pure tt_ok rfl rfl ?_
                                                              replace h := bsome h; obtain ⟨v205, h, hg205⟩ := h
                                                              replace h := cf rfl h
                                                              refine wl_skip rfl rfl ?_
                                                              simp only [Option.some.injEq, Prod.mk.injEq] at h
                                                              obtain rfl := h
                                                              have h := hg205; clear hg205
                                                              refine wl_pure (v := .bool false) tt_ok rfl rfl ?_
                                                              refine wl_pure tt_ok rfl rfl ?_
                                                              refine wl_nil ?_
                                                              refine wx_then ?_
                                                              refine wc_ret ?_
                                                              simp only [Option.some.injEq] at h
                                                              obtain rfl := h
                                                              exact wx_pf tt_ok (.inl rfl) Try.results6 (Res.tmp rfl Res.nil) rfl
                                                          · replace h := cf hc h
                                                            refine wl_skip rfl rfl ?_
                                                            refine wl_skip rfl rfl ?_
                                                            refine wl_skip rfl rfl ?_
                                                            simp only [Option.some.injEq, Prod.mk.injEq] at h
                                                            obtain ⟨rfl, rfl⟩ := h
                                                            have h := hg168; clear hg168; try dsimp only at h
                                                            refine wl_pure (v := .bool false) tt_ok rfl rfl ?_
                                                            refine wl_pure tt_ok rfl rfl ?_
                                                            replace h := bsome h; obtain ⟨v173, h, hg173⟩ := h
                                                            replace h := cf rfl h
                                                            refine wl_skip rfl rfl ?_
                                                            refine wl_skip rfl rfl ?_
                                                            refine wl_skip rfl rfl ?_
                                                            simp only [Option.some.injEq, Prod.mk.injEq] at h
                                                            obtain rfl := h
                                                            have h := hg173; clear hg173
                                                            refine wl_pure (v := .bool false) tt_ok rfl rfl ?_
                                                            refine wl_pure tt_ok rfl rfl ?_
                                                            replace h := bsome h; obtain ⟨v178, h, hg178⟩ := h
                                                            replace h := cf rfl h
                                                            refine wl_skip rfl rfl ?_
                                                            refine wl_skip rfl rfl ?_
                                                            refine wl_skip rfl rfl ?_
                                                            simp only [Option.some.injEq, Prod.mk.injEq] at h
                                                            obtain rfl := h
                                                            have h := hg178; clear hg178
                                                            refine wl_pure (v := .bool false) tt_ok rfl rfl ?_
                                                            refine wl_pure tt_ok rfl rfl ?_
                                                            replace h := bsome h; obtain ⟨v183, h, hg183⟩ := h
                                                            replace h := cf rfl h
                                                            refine wl_skip rfl rfl ?_
                                                            refine wl_skip rfl rfl ?_
                                                            refine wl_skip rfl rfl ?_
                                                            simp only [Option.some.injEq, Prod.mk.injEq] at h
                                                            obtain rfl := h
                                                            have h := hg183; clear hg183
                                                            refine wl_pure (v := .bool false) tt_ok rfl rfl ?_
                                                            refine wl_pure tt_ok rfl rfl ?_
                                                            replace h := bsome h; obtain ⟨v187, h, hg187⟩ := h
                                                            replace h := cf rfl h
                                                            refine wl_skip rfl rfl ?_
                                                            refine wl_skip rfl rfl ?_
                                                            simp only [Option.some.injEq, Prod.mk.injEq] at h
                                                            obtain rfl := h
                                                            have h := hg187; clear hg187
                                                            refine wl_pure (v := .bool false) tt_ok rfl rfl ?_
                                                            refine wl_pure tt_ok rfl rfl ?_
                                                            replace h := bsome h; obtain ⟨v192, h, hg192⟩ := h
                                                            replace h := cf rfl h
                                                            refine wl_skip rfl rfl ?_
                                                            refine wl_skip rfl rfl ?_
                                                            refine wl_skip rfl rfl ?_
                                                            simp only [Option.some.injEq, Prod.mk.injEq] at h
                                                            obtain rfl := h
                                                            have h := hg192; clear hg192
                                                            refine wl_pure (v := .bool false) tt_ok rfl rfl ?_
                                                            refine wl_pure tt_ok rfl rfl ?_
                                                            replace h := bsome h; obtain ⟨v197, h, hg197⟩ := h
                                                            replace h := cf rfl h
                                                            refine wl_skip rfl rfl ?_
                                                            refine wl_skip rfl rfl ?_
                                                            refine wl_skip rfl rfl ?_
                                                            simp only [Option.some.injEq, Prod.mk.injEq] at h
                                                            obtain rfl := h
                                                            have h := hg197; clear hg197
                                                            refine wl_pure (v := .bool false) tt_ok rfl rfl ?_
                                                            refine wl_pure tt_ok rfl rfl ?_
                                                            replace h := bsome h; obtain ⟨v202, h, hg202⟩ := h
                                                            replace h := cf rfl h
                                                            refine wl_skip rfl rfl ?_
                                                            refine wl_skip rfl rfl ?_
                                                            refine wl_skip rfl rfl ?_
                                                            simp only [Option.some.injEq, Prod.mk.injEq] at h
                                                            obtain rfl := h
                                                            have h := hg202; clear hg202
                                                            refine wl_pure (v := .bool false) tt_ok rfl rfl ?_
                                                            refine wl_pure tt_ok rfl rfl ?_
                                                            replace h := bsome h; obtain ⟨v205, h, hg205⟩ := h
                                                            replace h := cf rfl h
                                                            refine wl_skip rfl rfl ?_
                                                            simp only [Option.some.injEq, Prod.mk.injEq] at h
                                                            obtain rfl := h
                                                            have h := hg205; clear hg205
                                                            refine wl_pure (v := .bool false) tt_ok rfl rfl ?_
                                                            refine wl_pure tt_ok rfl rfl ?_
                                                            refine wl_nil ?_
                                                            refine wx_then ?_
                                                            refine wc_ret ?_
                                                            simp only [Option.some.injEq] at h
                                                            obtain rfl := h
                                                            exact wx_pf tt_ok (.inl rfl) Try.results6 (Res.tmp rfl Res.nil) rfl
                                                        · replace h := cf hc h
                                                          refine wl_skip rfl rfl ?_
                                                          refine wl_skip rfl rfl ?_
                                                          refine wl_skip rfl rfl ?_
                                                          simp only [Option.some.injEq, Prod.mk.injEq] at h
                                                          obtain ⟨rfl, rfl⟩ := h
                                                          have h := hg163; clear hg163; try dsimp only at h
                                                          refine wl_pure (v := .bool false) tt_ok rfl rfl ?_
                                                          refine wl_pure tt_ok rfl rfl ?_
                                                          replace h := bsome h; obtain ⟨⟨v168, g168_n153_0⟩, h, hg168⟩ := h
                                                          replace h := cf rfl h
                                                          refine wl_skip rfl rfl ?_
                                                          refine wl_skip rfl rfl ?_
                                                          refine wl_skip rfl rfl ?_
                                                          simp only [Option.some.injEq, Prod.mk.injEq] at h
                                                          obtain ⟨rfl, rfl⟩ := h
                                                          have h := hg168; clear hg168; try dsimp only at h
                                                          refine wl_pure (v := .bool false) tt_ok rfl rfl ?_
                                                          refine wl_pure tt_ok rfl rfl ?_
                                                          replace h := bsome h; obtain ⟨v173, h, hg173⟩ := h
                                                          replace h := cf rfl h
                                                          refine wl_skip rfl rfl ?_
                                                          refine wl_skip rfl rfl ?_
                                                          refine wl_skip rfl rfl ?_
                                                          simp only [Option.some.injEq, Prod.mk.injEq] at h
                                                          obtain rfl := h
                                                          have h := hg173; clear hg173
                                                          refine wl_pure (v := .bool false) tt_ok rfl rfl ?_
                                                          refine wl_pure tt_ok rfl rfl ?_
                                                          replace h := bsome h; obtain ⟨v178, h, hg178⟩ := h
                                                          replace h := cf rfl h
                                                          refine wl_skip rfl rfl ?_
                                                          refine wl_skip rfl rfl ?_
                                                          refine wl_skip rfl rfl ?_
                                                          simp only [Option.some.injEq, Prod.mk.injEq] at h
                                                          obtain rfl := h
                                                          have h := hg178; clear hg178
                                                          refine wl_pure (v := .bool false) tt_ok rfl rfl ?_
                                                          refine wl_pure tt_ok rfl rfl ?_
                                                          replace h := bsome h; obtain ⟨v183, h, hg183⟩ := h
                                                          replace h := cf rfl h
                                                          refine wl_skip rfl rfl ?_
                                                          refine wl_skip rfl rfl ?_
                                                          refine wl_skip rfl rfl ?_
                                                          simp only [Option.some.injEq, Prod.mk.injEq] at h
                                                          obtain rfl := h
                                                          have h := hg183; clear hg183
                                                          refine wl_pure (v := .bool false) tt_ok rfl rfl ?_
                                                          refine wl_pure tt_ok rfl rfl ?_
                                                          replace h := bsome h; obtain ⟨v187, h, hg187⟩ := h
                                                          replace h := cf rfl h
                                                          refine wl_skip rfl rfl ?_
                                                          refine wl_skip rfl rfl ?_
                                                          simp only [Option.some.injEq, Prod.mk.injEq] at h
                                                          obtain rfl := h
                                                          have h := hg187; clear hg187
                                                          refine wl_pure (v := .bool false) tt_ok rfl rfl ?_
                                                          refine wl_pure tt_ok rfl rfl ?_
                                                          replace h := bsome h; obtain ⟨v192, h, hg192⟩ := h
                                                          replace h := cf rfl h
                                                          refine wl_skip rfl rfl ?_
                                                          refine wl_skip rfl rfl ?_
                                                          refine wl_skip rfl rfl ?_
                                                          simp only [Option.some.injEq, Prod.mk.injEq] at h
                                                          obtain rfl := h
                                                          have h := hg192; clear hg192
                                                          refine wl_pure (v := .bool false) tt_ok rfl rfl ?_
                                                          refine wl_pure tt_ok rfl rfl ?_
                                                          replace h := bsome h; obtain ⟨v197, h, hg197⟩ := h
                                                          replace h := cf rfl h
                                                          refine wl_skip rfl rfl ?_
                                                          refine wl_skip rfl rfl ?_
                                                          refine wl_skip rfl rfl ?_
                                                          simp only [Option.some.injEq, Prod.mk.injEq] at h
                                                          obtain rfl := h
                                                          have h := hg197; clear hg197
                                                          refine wl_pure (v := .bool false) tt_ok rfl rfl ?_
                                                          refine wl_pure tt_ok rfl rfl ?_
                                                          replace h := bsome h; obtain ⟨v202, h, hg202⟩ := h
                                                          replace h := cf rfl h
                                                          refine wl_skip rfl rfl ?_
                                                          refine wl_skip rfl rfl ?_
                                                          refine wl_skip rfl rfl ?_
                                                          simp only [Option.some.injEq, Prod.mk.injEq] at h
                                                          obtain rfl := h
                                                          have h := hg202; clear hg202
                                                          refine wl_pure (v := .bool false) tt_ok rfl rfl ?_
                                                          refine wl_pure tt_ok rfl rfl ?_
                                                          replace h := bsome h; obtain ⟨v205, h, hg205⟩ := h
                                                          replace h := cf rfl h
                                                          refine wl_skip rfl rfl ?_
                                                          simp only [Option.some.injEq, Prod.mk.injEq] at h
                                                          obtain rfl := h
                                                          have h := hg205; clear hg205
                                                          refine wl_pure (v := .bool false) tt_ok rfl rfl ?_
                                                          refine wl_pure tt_ok rfl rfl ?_
                                                          refine wl_nil ?_
                                                          refine wx_then ?_
                                                          refine wc_ret ?_
                                                          simp only [Option.some.injEq] at h
                                                          obtain rfl := h
                                                          exact wx_pf tt_ok (.inl rfl) Try.results6 (Res.tmp rfl Res.nil) rfl

end Go.Proofs.Ytfjmhnfaoifehaa
