/-
  Each function computes what its model says. Printed by a program of this claim's own.
-/
import Derived.Test.YtbbkblolaficdaaDoorTab
import Derived.Test.YtbbkblolaficdaaDoorMod
import Derived.Test.YtbbkblolaficdaaDoorWalk2
namespace Go.Proofs.YtbbkblolaficdaaDoor
open Go.Proofs.YtbbkblolaficdaaDoor.Eng
set_option linter.unusedVariables false
set_option linter.unusedSimpArgs false
set_option maxHeartbeats 4000000
set_option maxRecDepth 20000

theorem k_hindcastlaw25_awake {F : Nat} {r0 : Bool} (h : m_hindcastlaw25_awake F = some r0) :
    Pf Tryd.prog 7 [] (fun w => Rds w [] [] (some ⟨0, 0, none⟩) (flat (fun _ : Unit => gl_state_playerBounds) [()]) ∧ Rds w [] [] (some ⟨1, 0, none⟩) (flat (fun _ : Unit => gl_state_shotBounds) [()])) (.bool r0) := by
  unfold m_hindcastlaw25_awake at h
  refine pf_of_wc Tryd.func7 rfl Tryd.ntmps7 rfl rfl (fun w0 hR => ?_)
  obtain ⟨G0S, G1S⟩ := hR
  refine wc_seq (wc_region ?_)
  refine wl_pure tt_ok rfl rfl ?_
  refine wl_nil (wx_then (wc_seq (wc_region ?_)))
  replace h := bsome h; obtain ⟨v2, x2, h⟩ := h
  rcases v2 with _ | v2s
  · replace h := poN h
    refine wl_cs Tryd.call6 rfl rfl rfl (s_sp (k_ring_New_none x2) pNil (fun _ _ => trivial)) rfl ?_
    rintro _ _ ⟨_, ⟨rfl, rfl⟩, rfl⟩
    refine wl_pure tt_ok rfl rfl ?_
    refine wl_nil (wx_then (wc_seq (wc_region ?_)))
    refine wl_pure tt_ok rfl rfl ?_
    refine wl_pure (v := .bool false) tt_ok rfl rfl ?_
    refine wl_pure tt_ok rfl rfl ?_
    refine wl_skip rfl rfl ?_
    refine wl_skip rfl rfl ?_
    refine wl_skip rfl rfl ?_
    refine wl_pure (v := .bool false) tt_ok rfl rfl ?_
    refine wl_pure tt_ok rfl rfl ?_
    refine wl_skip rfl rfl ?_
    refine wl_skip rfl rfl ?_
    refine wl_skip rfl rfl ?_
    refine wl_pure (v := .bool false) tt_ok rfl rfl ?_
    refine wl_pure tt_ok rfl rfl ?_
    refine wl_skip rfl rfl ?_
    refine wl_skip rfl rfl ?_
    refine wl_skip rfl rfl ?_
    refine wl_pure (v := .bool false) tt_ok rfl rfl ?_
    refine wl_pure tt_ok rfl rfl ?_
    refine wl_skip rfl rfl ?_
    refine wl_skip rfl rfl ?_
    refine wl_skip rfl rfl ?_
    refine wl_pure (v := .bool false) tt_ok rfl rfl ?_
    refine wl_pure tt_ok rfl rfl ?_
    refine wl_skip rfl rfl ?_
    refine wl_skip rfl rfl ?_
    refine wl_skip rfl rfl ?_
    refine wl_skip rfl rfl ?_
    refine wl_pure (v := .bool false) tt_ok rfl rfl ?_
    refine wl_pure tt_ok rfl rfl ?_
    refine wl_skip rfl rfl ?_
    refine wl_skip rfl rfl ?_
    refine wl_skip rfl rfl ?_
    refine wl_pure (v := .bool false) tt_ok rfl rfl ?_
    refine wl_pure tt_ok rfl rfl ?_
    refine wl_skip rfl rfl ?_
    refine wl_skip rfl rfl ?_
    refine wl_skip rfl rfl ?_
    refine wl_pure (v := .bool false) tt_ok rfl rfl ?_
    refine wl_pure tt_ok rfl rfl ?_
    refine wl_nil (wx_then (wc_ret ?_))
    simp only [Option.some.injEq] at h
    obtain rfl := h
    exact wx_pf tt_ok (.inl rfl) Tryd.results7 (Res.tmp rfl Res.nil) rfl
  replace h := poS h
  refine wl_cs Tryd.call6 rfl rfl rfl (s_sp (k_ring_New x2) pNil (fun _ _ => trivial)) rfl ?_
  rintro _ _ ⟨_, ⟨b2_0, v2sg0, v2sP0, v2sG0, v2sA0, rfl, rfl⟩, rfl⟩
  refine wl_pure tt_ok rfl rfl ?_
  refine wl_nil (wx_then (wc_seq (wc_region ?_)))
  refine wl_pure tt_ok rfl rfl ?_
  refine wl_pure (v := .bool true) tt_ok rfl rfl ?_
  refine wl_pure tt_ok rfl rfl ?_
  refine wl_run rfl ?_
  refine wl_pure tt_ok rfl rfl ?_
  replace h := bsome h; obtain ⟨v7, x7, h⟩ := h
  refine wl_run rfl ?_
  refine wl_cs Tryd.call19 rfl rfl rfl (s_sp (k_hindcastlaw25_at x7) pNil (fun w hI => ⟨(Rds.call G0S pNil rsub_nil) w hI, (Rds.call G1S pNil rsub_nil) w hI⟩)) rfl ?_
  rintro _ _ ⟨_, ⟨v7a0, v7n0, v7c0, v7B0, v7N0, v7V0, rfl, rfl⟩, rfl⟩
  replace h := bsome h; obtain ⟨⟨o8_0, v8⟩, x8, h⟩ := h; try dsimp only at h
  refine wl_run rfl ?_
  refine wl_cs Tryd.call10 rfl rfl rfl (s_sp (k_ring_Ring_Put (p0 := v2s) (p1 := v7) v2sG0 v2sA0 v7N0 (vec_cap v7V0) (own_Z v7V0) x8) (pCons (Sel.sa Sel.hc) (pApp (Sel.sa Sel.ha) pNil)) (fun w hI => ⟨(Rds.call (Rds.of_vec v7V0) (pCons (Sel.sa Sel.hc) (pApp (Sel.sa Sel.ha) pNil)) ⟨_, Sel.ha⟩) w hI, (Rds.call G0S (pCons (Sel.sa Sel.hc) (pApp (Sel.sa Sel.ha) pNil)) rsub_nil) w hI, (Rds.call G1S (pCons (Sel.sa Sel.hc) (pApp (Sel.sa Sel.ha) pNil)) rsub_nil) w hI⟩)) rfl ?_
  rintro _ _ ⟨_, ⟨o8_0g0, o8_0P0, o8_0G0, o8_0A0, rfl, rfl⟩, rfl⟩
  refine wl_pure (v := .bool v8) tt_ok rfl rfl ?_
  refine wl_pure tt_ok rfl rfl ?_
  replace h := bsome h; obtain ⟨⟨v14, g14_n2_0_f0, g14_n2_0_f1⟩, h, hg14⟩ := h
  refine wl_split (t := 10) rfl (fun hc => ?_) (fun hc => ?_)
  · replace h := ct hc h
    refine wl_run rfl ?_
    refine wl_pure tt_ok rfl rfl ?_
    replace h := bsome h; obtain ⟨v12, x12, h⟩ := h
    refine wl_run rfl ?_
    refine wl_cs Tryd.call19 rfl rfl rfl (s_sp (k_hindcastlaw25_at x12) pNil (fun w hI => ⟨(Rds.call G0S pNil rsub_nil) w hI, (Rds.call G1S pNil rsub_nil) w hI⟩)) rfl ?_
    rintro _ _ ⟨_, ⟨v12a0, v12n0, v12c0, v12B0, v12N0, v12V0, rfl, rfl⟩, rfl⟩
    replace h := bsome h; obtain ⟨⟨o13_0, v13⟩, x13, h⟩ := h; try dsimp only at h
    refine wl_run rfl ?_
    refine wl_cs Tryd.call10 rfl rfl rfl (s_sp (k_ring_Ring_Put (p0 := o8_0) (p1 := v12) o8_0G0 o8_0A0 v12N0 (vec_cap v12V0) (own_Z v12V0) x13) (pCons (Sel.sa Sel.hc) (pApp (Sel.sa Sel.ha) pNil)) (fun w hI => ⟨(Rds.call (Rds.of_vec v12V0) (pCons (Sel.sa Sel.hc) (pApp (Sel.sa Sel.ha) pNil)) ⟨_, Sel.ha⟩) w hI, (Rds.call G0S (pCons (Sel.sa Sel.hc) (pApp (Sel.sa Sel.ha) pNil)) rsub_nil) w hI, (Rds.call G1S (pCons (Sel.sa Sel.hc) (pApp (Sel.sa Sel.ha) pNil)) rsub_nil) w hI⟩)) rfl ?_
    rintro _ _ ⟨_, ⟨o13_0g0, o13_0P0, o13_0G0, o13_0A0, rfl, rfl⟩, rfl⟩
    simp only [Option.some.injEq, Prod.mk.injEq] at h
    obtain ⟨rfl, rfl, rfl⟩ := h
    have h := hg14; clear hg14; try dsimp only at h
    refine wl_pure (v := .bool v13) tt_ok rfl rfl ?_
    refine wl_pure tt_ok rfl rfl ?_
    replace h := bsome h; obtain ⟨v19, h, hg19⟩ := h
    refine wl_split (t := 15) rfl (fun hc => ?_) (fun hc => ?_)
    · replace h := ct hc h
      refine wl_run rfl ?_
      refine wl_pure tt_ok rfl rfl ?_
      replace h := bsome h; obtain ⟨v17, x17, h⟩ := h
      refine wl_run rfl ?_
      refine wl_cs Tryd.call19 rfl rfl rfl (s_sp (k_hindcastlaw25_at x17) pNil (fun w hI => ⟨(Rds.call G0S pNil rsub_nil) w hI, (Rds.call G1S pNil rsub_nil) w hI⟩)) rfl ?_
      rintro _ _ ⟨_, ⟨v17a0, v17n0, v17c0, v17B0, v17N0, v17V0, rfl, rfl⟩, rfl⟩
      replace h := bsome h; obtain ⟨v18, x18, h⟩ := h
      refine wl_run rfl ?_
      refine wl_cq Tryd.call12 rfl rfl rfl (q_rd (k_hindcastlaw25_holds (p0 := o13_0) (p1 := v17) o13_0G0 o13_0A0 v17N0 (vec_cap v17V0) x18) (pCons (Sel.sa Sel.hc) (pApp (Sel.sa Sel.ha) pNil)) (Rds.call (Rds.of_vec v17V0) (pCons (Sel.sa Sel.hc) (pApp (Sel.sa Sel.ha) pNil)) ⟨_, Sel.ha⟩)) rfl ?_
      simp only [Option.some.injEq, Prod.mk.injEq] at h
      obtain rfl := h
      have h := hg19; clear hg19
      refine wl_pure (v := .bool v18) tt_ok rfl rfl ?_
      refine wl_pure tt_ok rfl rfl ?_
      replace h := bsome h; obtain ⟨⟨v24, g24_n2_0_f0, g24_n2_0_f1⟩, h, hg24⟩ := h
      refine wl_split (t := 20) rfl (fun hc => ?_) (fun hc => ?_)
      · replace h := ct hc h
        refine wl_run rfl ?_
        refine wl_pure tt_ok rfl rfl ?_
        replace h := bsome h; obtain ⟨v22, x22, h⟩ := h
        refine wl_run rfl ?_
        refine wl_cs Tryd.call19 rfl rfl rfl (s_sp (k_hindcastlaw25_at x22) pNil (fun w hI => ⟨(Rds.call G0S pNil rsub_nil) w hI, (Rds.call G1S pNil rsub_nil) w hI⟩)) rfl ?_
        rintro _ _ ⟨_, ⟨v22a0, v22n0, v22c0, v22B0, v22N0, v22V0, rfl, rfl⟩, rfl⟩
        replace h := bsome h; obtain ⟨⟨o23_0, v23⟩, x23, h⟩ := h; try dsimp only at h
        refine wl_run rfl ?_
        refine wl_cs Tryd.call10 rfl rfl rfl (s_sp (k_ring_Ring_Put (p0 := o13_0) (p1 := v22) o13_0G0 o13_0A0 v22N0 (vec_cap v22V0) (own_Z v22V0) x23) (pCons (Sel.sa (Sel.sa Sel.hc)) (pApp (Sel.sa (Sel.sa Sel.ha)) pNil)) (fun w hI => ⟨(Rds.call (Rds.of_vec v22V0) (pCons (Sel.sa (Sel.sa Sel.hc)) (pApp (Sel.sa (Sel.sa Sel.ha)) pNil)) ⟨_, Sel.ha⟩) w hI, (Rds.call G0S (pCons (Sel.sa (Sel.sa Sel.hc)) (pApp (Sel.sa (Sel.sa Sel.ha)) pNil)) rsub_nil) w hI, (Rds.call G1S (pCons (Sel.sa (Sel.sa Sel.hc)) (pApp (Sel.sa (Sel.sa Sel.ha)) pNil)) rsub_nil) w hI⟩)) rfl ?_
        rintro _ _ ⟨_, ⟨o23_0g0, o23_0P0, o23_0G0, o23_0A0, rfl, rfl⟩, rfl⟩
        simp only [Option.some.injEq, Prod.mk.injEq] at h
        obtain ⟨rfl, rfl, rfl⟩ := h
        have h := hg24; clear hg24; try dsimp only at h
        refine wl_pure (v := .bool v23) tt_ok rfl rfl ?_
        refine wl_pure tt_ok rfl rfl ?_
        replace h := bsome h; obtain ⟨v30, h, hg30⟩ := h
        refine wl_split (t := 25) rfl (fun hc => ?_) (fun hc => ?_)
        · replace h := ct hc h
          refine wl_run rfl ?_
          refine wl_pure tt_ok rfl rfl ?_
          replace h := bsome h; obtain ⟨v27, x27, h⟩ := h
          refine wl_run rfl ?_
          refine wl_cs Tryd.call19 rfl rfl rfl (s_sp (k_hindcastlaw25_at x27) pNil (fun w hI => ⟨(Rds.call G0S pNil rsub_nil) w hI, (Rds.call G1S pNil rsub_nil) w hI⟩)) rfl ?_
          rintro _ _ ⟨_, ⟨v27a0, v27n0, v27c0, v27B0, v27N0, v27V0, rfl, rfl⟩, rfl⟩
          replace h := bsome h; obtain ⟨v28, x28, h⟩ := h
          refine wl_run rfl ?_
          refine wl_cq Tryd.call12 rfl rfl rfl (q_rd (k_hindcastlaw25_holds (p0 := o23_0) (p1 := v27) o23_0G0 o23_0A0 v27N0 (vec_cap v27V0) x28) (pCons (Sel.sa Sel.hc) (pApp (Sel.sa Sel.ha) pNil)) (Rds.call (Rds.of_vec v27V0) (pCons (Sel.sa Sel.hc) (pApp (Sel.sa Sel.ha) pNil)) ⟨_, Sel.ha⟩)) rfl ?_
          refine wl_run rfl ?_
          refine wl_pure (v := .bool (!v28)) tt_ok rfl rfl ?_
          simp only [Option.some.injEq, Prod.mk.injEq] at h
          obtain rfl := h
          have h := hg30; clear hg30
          refine wl_pure (v := .bool (!v28)) tt_ok rfl rfl ?_
          refine wl_pure tt_ok rfl rfl ?_
          replace h := bsome h; obtain ⟨v35, h, hg35⟩ := h
          refine wl_split (t := 31) rfl (fun hc => ?_) (fun hc => ?_)
          · replace h := ct hc h
            refine wl_run rfl ?_
            refine wl_pure tt_ok rfl rfl ?_
            replace h := bsome h; obtain ⟨v33, x33, h⟩ := h
            refine wl_run rfl ?_
            refine wl_cs Tryd.call19 rfl rfl rfl (s_sp (k_hindcastlaw25_at x33) pNil (fun w hI => ⟨(Rds.call G0S pNil rsub_nil) w hI, (Rds.call G1S pNil rsub_nil) w hI⟩)) rfl ?_
            rintro _ _ ⟨_, ⟨v33a0, v33n0, v33c0, v33B0, v33N0, v33V0, rfl, rfl⟩, rfl⟩
            replace h := bsome h; obtain ⟨v34, x34, h⟩ := h
            refine wl_run rfl ?_
            refine wl_cq Tryd.call12 rfl rfl rfl (q_rd (k_hindcastlaw25_holds (p0 := o23_0) (p1 := v33) o23_0G0 o23_0A0 v33N0 (vec_cap v33V0) x34) (pCons (Sel.sa (Sel.sa Sel.hc)) (pApp (Sel.sa (Sel.sa Sel.ha)) pNil)) (Rds.call (Rds.of_vec v33V0) (pCons (Sel.sa (Sel.sa Sel.hc)) (pApp (Sel.sa (Sel.sa Sel.ha)) pNil)) ⟨_, Sel.ha⟩)) rfl ?_
            simp only [Option.some.injEq, Prod.mk.injEq] at h
            obtain rfl := h
            have h := hg35; clear hg35
            refine wl_pure (v := .bool v34) tt_ok rfl rfl ?_
            refine wl_pure tt_ok rfl rfl ?_
            replace h := bsome h; obtain ⟨v40, h, hg40⟩ := h
            refine wl_split (t := 36) rfl (fun hc => ?_) (fun hc => ?_)
            · replace h := ct hc h
              refine wl_run rfl ?_
              refine wl_pure tt_ok rfl rfl ?_
              replace h := bsome h; obtain ⟨v38, x38, h⟩ := h
              refine wl_run rfl ?_
              refine wl_cq Tryd.call15 rfl rfl rfl (q_rd (k_ring_Ring_Len (p0 := o23_0) o23_0G0 o23_0A0 x38) (pCons (Sel.sa (Sel.sa Sel.hc)) (pApp (Sel.sa (Sel.sa Sel.ha)) pNil)) (fun _ _ => trivial)) rfl ?_
              refine wl_run rfl ?_
              refine wl_pure (v := .bool (v38 == (2 : Int))) tt_ok rfl rfl ?_
              simp only [Option.some.injEq, Prod.mk.injEq] at h
              obtain rfl := h
              have h := hg40; clear hg40
              refine wl_pure (v := .bool (v38 == (2 : Int))) tt_ok rfl rfl ?_
              refine wl_pure tt_ok rfl rfl ?_
              refine wl_nil (wx_then (wc_ret ?_))
              simp only [Option.some.injEq] at h
              obtain rfl := h
              exact wx_pf tt_ok (.inl rfl) Tryd.results7 (Res.tmp rfl Res.nil) rfl
            replace h := cf hc h
            refine wl_skip rfl rfl ?_
            refine wl_skip rfl rfl ?_
            refine wl_skip rfl rfl ?_
            simp only [Option.some.injEq, Prod.mk.injEq] at h
            obtain rfl := h
            have h := hg40; clear hg40
            refine wl_pure (v := .bool false) tt_ok rfl rfl ?_
            refine wl_pure tt_ok rfl rfl ?_
            refine wl_nil (wx_then (wc_ret ?_))
            simp only [Option.some.injEq] at h
            obtain rfl := h
            exact wx_pf tt_ok (.inl rfl) Tryd.results7 (Res.tmp rfl Res.nil) rfl
          replace h := cf hc h
          refine wl_skip rfl rfl ?_
          refine wl_skip rfl rfl ?_
          refine wl_skip rfl rfl ?_
          simp only [Option.some.injEq, Prod.mk.injEq] at h
          obtain rfl := h
          have h := hg35; clear hg35
          refine wl_pure (v := .bool false) tt_ok rfl rfl ?_
          refine wl_pure tt_ok rfl rfl ?_
          replace h := bsome h; obtain ⟨v40, h, hg40⟩ := h
          replace h := cf rfl h
          refine wl_skip rfl rfl ?_
          refine wl_skip rfl rfl ?_
          refine wl_skip rfl rfl ?_
          simp only [Option.some.injEq, Prod.mk.injEq] at h
          obtain rfl := h
          have h := hg40; clear hg40
          refine wl_pure (v := .bool false) tt_ok rfl rfl ?_
          refine wl_pure tt_ok rfl rfl ?_
          refine wl_nil (wx_then (wc_ret ?_))
          simp only [Option.some.injEq] at h
          obtain rfl := h
          exact wx_pf tt_ok (.inl rfl) Tryd.results7 (Res.tmp rfl Res.nil) rfl
        replace h := cf hc h
        refine wl_skip rfl rfl ?_
        refine wl_skip rfl rfl ?_
        refine wl_skip rfl rfl ?_
        refine wl_skip rfl rfl ?_
        simp only [Option.some.injEq, Prod.mk.injEq] at h
        obtain rfl := h
        have h := hg30; clear hg30
        refine wl_pure (v := .bool false) tt_ok rfl rfl ?_
        refine wl_pure tt_ok rfl rfl ?_
        replace h := bsome h; obtain ⟨v35, h, hg35⟩ := h
        replace h := cf rfl h
        refine wl_skip rfl rfl ?_
        refine wl_skip rfl rfl ?_
        refine wl_skip rfl rfl ?_
        simp only [Option.some.injEq, Prod.mk.injEq] at h
        obtain rfl := h
        have h := hg35; clear hg35
        refine wl_pure (v := .bool false) tt_ok rfl rfl ?_
        refine wl_pure tt_ok rfl rfl ?_
        replace h := bsome h; obtain ⟨v40, h, hg40⟩ := h
        replace h := cf rfl h
        refine wl_skip rfl rfl ?_
        refine wl_skip rfl rfl ?_
        refine wl_skip rfl rfl ?_
        simp only [Option.some.injEq, Prod.mk.injEq] at h
        obtain rfl := h
        have h := hg40; clear hg40
        refine wl_pure (v := .bool false) tt_ok rfl rfl ?_
        refine wl_pure tt_ok rfl rfl ?_
        refine wl_nil (wx_then (wc_ret ?_))
        simp only [Option.some.injEq] at h
        obtain rfl := h
        exact wx_pf tt_ok (.inl rfl) Tryd.results7 (Res.tmp rfl Res.nil) rfl
      replace h := cf hc h
      refine wl_skip rfl rfl ?_
      refine wl_skip rfl rfl ?_
      refine wl_skip rfl rfl ?_
      simp only [Option.some.injEq, Prod.mk.injEq] at h
      obtain ⟨rfl, rfl, rfl⟩ := h
      have h := hg24; clear hg24; try dsimp only at h
      refine wl_pure (v := .bool false) tt_ok rfl rfl ?_
      refine wl_pure tt_ok rfl rfl ?_
      replace h := bsome h; obtain ⟨v30, h, hg30⟩ := h
      replace h := cf rfl h
      refine wl_skip rfl rfl ?_
      refine wl_skip rfl rfl ?_
      refine wl_skip rfl rfl ?_
      refine wl_skip rfl rfl ?_
      simp only [Option.some.injEq, Prod.mk.injEq] at h
      obtain rfl := h
      have h := hg30; clear hg30
      refine wl_pure (v := .bool false) tt_ok rfl rfl ?_
      refine wl_pure tt_ok rfl rfl ?_
      replace h := bsome h; obtain ⟨v35, h, hg35⟩ := h
      replace h := cf rfl h
      refine wl_skip rfl rfl ?_
      refine wl_skip rfl rfl ?_
      refine wl_skip rfl rfl ?_
      simp only [Option.some.injEq, Prod.mk.injEq] at h
      obtain rfl := h
      have h := hg35; clear hg35
      refine wl_pure (v := .bool false) tt_ok rfl rfl ?_
      refine wl_pure tt_ok rfl rfl ?_
      replace h := bsome h; obtain ⟨v40, h, hg40⟩ := h
      replace h := cf rfl h
      refine wl_skip rfl rfl ?_
      refine wl_skip rfl rfl ?_
      refine wl_skip rfl rfl ?_
      simp only [Option.some.injEq, Prod.mk.injEq] at h
      obtain rfl := h
      have h := hg40; clear hg40
      refine wl_pure (v := .bool false) tt_ok rfl rfl ?_
      refine wl_pure tt_ok rfl rfl ?_
      refine wl_nil (wx_then (wc_ret ?_))
      simp only [Option.some.injEq] at h
      obtain rfl := h
      exact wx_pf tt_ok (.inl rfl) Tryd.results7 (Res.tmp rfl Res.nil) rfl
    replace h := cf hc h
    refine wl_skip rfl rfl ?_
    refine wl_skip rfl rfl ?_
    refine wl_skip rfl rfl ?_
    simp only [Option.some.injEq, Prod.mk.injEq] at h
    obtain rfl := h
    have h := hg19; clear hg19
    refine wl_pure (v := .bool false) tt_ok rfl rfl ?_
    refine wl_pure tt_ok rfl rfl ?_
    replace h := bsome h; obtain ⟨⟨v24, g24_n2_0_f0, g24_n2_0_f1⟩, h, hg24⟩ := h
    replace h := cf rfl h
    refine wl_skip rfl rfl ?_
    refine wl_skip rfl rfl ?_
    refine wl_skip rfl rfl ?_
    simp only [Option.some.injEq, Prod.mk.injEq] at h
    obtain ⟨rfl, rfl, rfl⟩ := h
    have h := hg24; clear hg24; try dsimp only at h
    refine wl_pure (v := .bool false) tt_ok rfl rfl ?_
    refine wl_pure tt_ok rfl rfl ?_
    replace h := bsome h; obtain ⟨v30, h, hg30⟩ := h
    replace h := cf rfl h
    refine wl_skip rfl rfl ?_
    refine wl_skip rfl rfl ?_
    refine wl_skip rfl rfl ?_
    refine wl_skip rfl rfl ?_
    simp only [Option.some.injEq, Prod.mk.injEq] at h
    obtain rfl := h
    have h := hg30; clear hg30
    refine wl_pure (v := .bool false) tt_ok rfl rfl ?_
    refine wl_pure tt_ok rfl rfl ?_
    replace h := bsome h; obtain ⟨v35, h, hg35⟩ := h
    replace h := cf rfl h
    refine wl_skip rfl rfl ?_
    refine wl_skip rfl rfl ?_
    refine wl_skip rfl rfl ?_
    simp only [Option.some.injEq, Prod.mk.injEq] at h
    obtain rfl := h
    have h := hg35; clear hg35
    refine wl_pure (v := .bool false) tt_ok rfl rfl ?_
    refine wl_pure tt_ok rfl rfl ?_
    replace h := bsome h; obtain ⟨v40, h, hg40⟩ := h
    replace h := cf rfl h
    refine wl_skip rfl rfl ?_
    refine wl_skip rfl rfl ?_
    refine wl_skip rfl rfl ?_
    simp only [Option.some.injEq, Prod.mk.injEq] at h
    obtain rfl := h
    have h := hg40; clear hg40
    refine wl_pure (v := .bool false) tt_ok rfl rfl ?_
    refine wl_pure tt_ok rfl rfl ?_
    refine wl_nil (wx_then (wc_ret ?_))
    simp only [Option.some.injEq] at h
    obtain rfl := h
    exact wx_pf tt_ok (.inl rfl) Tryd.results7 (Res.tmp rfl Res.nil) rfl
  replace h := cf hc h
  refine wl_skip rfl rfl ?_
  refine wl_skip rfl rfl ?_
  refine wl_skip rfl rfl ?_
  simp only [Option.some.injEq, Prod.mk.injEq] at h
  obtain ⟨rfl, rfl, rfl⟩ := h
  have h := hg14; clear hg14; try dsimp only at h
  refine wl_pure (v := .bool false) tt_ok rfl rfl ?_
  refine wl_pure tt_ok rfl rfl ?_
  replace h := bsome h; obtain ⟨v19, h, hg19⟩ := h
  replace h := cf rfl h
  refine wl_skip rfl rfl ?_
  refine wl_skip rfl rfl ?_
  refine wl_skip rfl rfl ?_
  simp only [Option.some.injEq, Prod.mk.injEq] at h
  obtain rfl := h
  have h := hg19; clear hg19
  refine wl_pure (v := .bool false) tt_ok rfl rfl ?_
  refine wl_pure tt_ok rfl rfl ?_
  replace h := bsome h; obtain ⟨⟨v24, g24_n2_0_f0, g24_n2_0_f1⟩, h, hg24⟩ := h
  replace h := cf rfl h
  refine wl_skip rfl rfl ?_
  refine wl_skip rfl rfl ?_
  refine wl_skip rfl rfl ?_
  simp only [Option.some.injEq, Prod.mk.injEq] at h
  obtain ⟨rfl, rfl, rfl⟩ := h
  have h := hg24; clear hg24; try dsimp only at h
  refine wl_pure (v := .bool false) tt_ok rfl rfl ?_
  refine wl_pure tt_ok rfl rfl ?_
  replace h := bsome h; obtain ⟨v30, h, hg30⟩ := h
  replace h := cf rfl h
  refine wl_skip rfl rfl ?_
  refine wl_skip rfl rfl ?_
  refine wl_skip rfl rfl ?_
  refine wl_skip rfl rfl ?_
  simp only [Option.some.injEq, Prod.mk.injEq] at h
  obtain rfl := h
  have h := hg30; clear hg30
  refine wl_pure (v := .bool false) tt_ok rfl rfl ?_
  refine wl_pure tt_ok rfl rfl ?_
  replace h := bsome h; obtain ⟨v35, h, hg35⟩ := h
  replace h := cf rfl h
  refine wl_skip rfl rfl ?_
  refine wl_skip rfl rfl ?_
  refine wl_skip rfl rfl ?_
  simp only [Option.some.injEq, Prod.mk.injEq] at h
  obtain rfl := h
  have h := hg35; clear hg35
  refine wl_pure (v := .bool false) tt_ok rfl rfl ?_
  refine wl_pure tt_ok rfl rfl ?_
  replace h := bsome h; obtain ⟨v40, h, hg40⟩ := h
  replace h := cf rfl h
  refine wl_skip rfl rfl ?_
  refine wl_skip rfl rfl ?_
  refine wl_skip rfl rfl ?_
  simp only [Option.some.injEq, Prod.mk.injEq] at h
  obtain rfl := h
  have h := hg40; clear hg40
  refine wl_pure (v := .bool false) tt_ok rfl rfl ?_
  refine wl_pure tt_ok rfl rfl ?_
  refine wl_nil (wx_then (wc_ret ?_))
  simp only [Option.some.injEq] at h
  obtain rfl := h
  exact wx_pf tt_ok (.inl rfl) Tryd.results7 (Res.tmp rfl Res.nil) rfl

theorem k_ring_Ring_Newest {F : Nat} {p0 : T_ring_Ring} {p0b p0t : Nat} {p0g0 : List (T_ring_place × G)} {p0P0 : List Blk} {r0 : T_api_State} {r1 : Bool} (p0G0 : p0.places.1 = unG p0g0) (p0A0 : AllP sh_T_ring_place c_T_api_Shot p0P0 p0g0) (h : m_ring_Ring_Newest F p0 = some (r0, r1)) :
    SpD Tryd.prog 13 [.pointer (some ⟨p0b, 0, none⟩)] (⟨p0b, ([.int .i64 p0.size] ++ flat cg_T_ring_place p0g0), p0t, (0, 0)⟩ :: (p0P0 ++ [])) (fun w => True) (fun v D => ∃ (r0a0 : Option Addr) (r0n0 : Nat) (r0c0 : Nat) (r0B0 : List Blk), r0n0 = r0.Shots.length ∧ Own 76 6 r0a0 r0n0 r0c0 (flat c_T_api_Shot r0.Shots) r0B0 ∧ v = .tuple #[.agg #[.int .u64 r0.Frame, .int .u64 r0.Seed, .int .i32 r0.Players.1.X, .int .i32 r0.Players.1.Y, .int .i32 r0.Players.1.VX, .int .i32 r0.Players.1.VY, .int .u8 r0.Players.1.Health, .int .u8 r0.Players.1.Cool, .int .u8 r0.Players.1.Face, .int .i32 r0.Players.2.X, .int .i32 r0.Players.2.Y, .int .i32 r0.Players.2.VX, .int .i32 r0.Players.2.VY, .int .u8 r0.Players.2.Health, .int .u8 r0.Players.2.Cool, .int .u8 r0.Players.2.Face, .slice r0a0 r0n0 r0c0, .int .u16 r0.Score.1, .int .u16 r0.Score.2], .bool r1] ∧ D = fun F => (⟨p0b, ([.int .i64 p0.size] ++ flat cg_T_ring_place p0g0), p0t, (0, 0)⟩ :: (p0P0 ++ (r0B0 ++ F)))) := by
  unfold m_ring_Ring_Newest at h
  refine sp_of_wc Tryd.func13 rfl Tryd.ntmps13 rfl rfl (fun w0 hR => ?_)
  refine wc_seq (wc_region ?_)
  refine wl_alloc tt_ok rfl rfl (fun b2 => ?_)
  refine wl_pure tt_ok rfl rfl ?_
  refine wl_nil (wx_then (wc_seq (wc_region ?_)))
  refine wl_alloc tt_ok rfl rfl (fun b4 => ?_)
  refine wl_nil (wx_then (wc_seq (wc_seq (wc_region ?_))))
  refine wl_pure tt_ok rfl rfl ?_
  replace h := bsome h; obtain ⟨v8, x8, h⟩ := h
  refine wl_cq Tryd.call37 rfl rfl rfl (q_rd (k_ring_Ring_is (p0 := p0) p0G0 p0A0 x8) (pCons (Sel.sc (Sel.sc Sel.hc)) (pApp (Sel.sc (Sel.sc Sel.ha)) pNil)) (fun _ _ => trivial)) rfl ?_
  refine wl_nil (wx_then ?_)
  replace h := bsome h; obtain ⟨⟨j8_n4_f0_0, j8_n4_f0_1, j8_n4_f0_2, j8_n4_f0_3, j8_n4_f0_4, j8_n4_f1⟩, h, hj8⟩ := h; try dsimp only at hj8
  refine wc_join2 (fun E L => ∃ (j8_n4_f0_3a0 : Option Addr) (j8_n4_f0_3n0 : Nat) (j8_n4_f0_3c0 : Nat), j8_n4_f0_3n0 = j8_n4_f0_3.length ∧ j8_n4_f0_3n0 ≤ j8_n4_f0_3c0 ∧ Rds w0 (ids (⟨p0b, ([.int .i64 p0.size] ++ flat cg_T_ring_place p0g0), p0t, (0, 0)⟩ :: (p0P0 ++ []))) p0P0 j8_n4_f0_3a0 (flat c_T_api_Shot j8_n4_f0_3) ∧ (j8_n4_f0_3a0 = none → j8_n4_f0_3c0 = 0) ∧ E = [(2, .pointer (some ⟨b2, 0, none⟩)), (3, .bool false), (4, .pointer (some ⟨b4, 0, none⟩))] ∧ L = (⟨b2, [.int .u64 (0 : Int), .int .u64 (0 : Int), .int .i32 (0 : Int), .int .i32 (0 : Int), .int .i32 (0 : Int), .int .i32 (0 : Int), .int .u8 (0 : Int), .int .u8 (0 : Int), .int .u8 (0 : Int), .int .i32 (0 : Int), .int .i32 (0 : Int), .int .i32 (0 : Int), .int .i32 (0 : Int), .int .u8 (0 : Int), .int .u8 (0 : Int), .int .u8 (0 : Int), .slice none 0 0, .int .u16 (0 : Int), .int .u16 (0 : Int)], 30, (0, 0)⟩ :: (⟨b4, [.int .u64 j8_n4_f0_0, .int .u64 j8_n4_f0_1, .int .i32 j8_n4_f0_2.1.X, .int .i32 j8_n4_f0_2.1.Y, .int .i32 j8_n4_f0_2.1.VX, .int .i32 j8_n4_f0_2.1.VY, .int .u8 j8_n4_f0_2.1.Health, .int .u8 j8_n4_f0_2.1.Cool, .int .u8 j8_n4_f0_2.1.Face, .int .i32 j8_n4_f0_2.2.X, .int .i32 j8_n4_f0_2.2.Y, .int .i32 j8_n4_f0_2.2.VX, .int .i32 j8_n4_f0_2.2.VY, .int .u8 j8_n4_f0_2.2.Health, .int .u8 j8_n4_f0_2.2.Cool, .int .u8 j8_n4_f0_2.2.Face, .slice j8_n4_f0_3a0 j8_n4_f0_3n0 j8_n4_f0_3c0, .int .u16 j8_n4_f0_4.1, .int .u16 j8_n4_f0_4.2, .bool j8_n4_f1], 63, (0, 0)⟩ :: (⟨p0b, ([.int .i64 p0.size] ++ flat cg_T_ring_place p0g0), p0t, (0, 0)⟩ :: (p0P0 ++ []))))) ?_ ?_
  · refine wc_cond rfl (fun hc => ?_) (fun hc => ?_)
    · replace h := ct hc h
      refine wc_seq ?_
      refine wc_quiet (by kernel_rfl) (by kernel_rfl) ?_
      refine wq_pure tt_ok rfl rfl ?_
      refine wq_pure tt_ok rfl rfl ?_
      refine wq_pure (v := .pointer (some ⟨p0b, 1, none⟩)) tt_ok rfl rfl ?_
      refine wq_pure tt_ok rfl rfl ?_
      refine wq_pure tt_ok rfl rfl ?_
      refine wq_pure (v := .pointer (some ⟨p0b, 0, none⟩)) tt_ok rfl rfl ?_
      refine wq_val (v := .int .i64 p0.size) (val_load tt_ok rfl (List.Mem.tail _ (List.Mem.tail _ (List.Mem.head _))) rfl) rfl ?_
      replace h := bsome h; obtain ⟨v16, x16, h⟩ := h
      obtain ⟨g16, y16, hG16⟩ := cut_g p0G0 x16
      refine wq_val (v := .slice (some ⟨p0b, 1, none⟩) ((p0.size).toNat) 14) (val_slh (j := (p0.size).toNat) tt_ok rfl rfl rfl rfl (cut_v x16) (cut_len p0G0 y16 p0.places.2) rfl) rfl ?_
      refine wq_val (v := .int .i64 (v16.length : Int)) (val_len tt_ok rfl rfl (cut_n p0.places.1 x16)) rfl ?_
      refine wq_pure tt_ok rfl rfl ?_
      refine wq_nil ?_
      refine wx_then (wc_block ?_)
      replace h := bsome h; obtain ⟨⟨l12_n4_f0_0, l12_n4_f0_1, l12_n4_f0_2, l12_n4_f0_3, l12_n4_f0_4, l12_n4_f1⟩, h, hl12⟩ := h; try dsimp only at hl12
      refine wc_loop (fun m E L => ∃ (j12_18 : Int) (j12_n4_f0_0 : Int) (j12_n4_f0_1 : Int) (j12_n4_f0_2 : (T_api_Player × T_api_Player)) (j12_n4_f0_3 : (List T_api_Shot)) (j12_n4_f0_4 : (Int × Int)) (j12_n4_f1 : Bool) (j12_n4_f0_3a0 : Option Addr) (j12_n4_f0_3n0 : Nat) (j12_n4_f0_3c0 : Nat), m_ring_Ring_Newest_L11 F v16 m j12_18 j12_n4_f0_0 j12_n4_f0_1 j12_n4_f0_2 j12_n4_f0_3 j12_n4_f0_4 j12_n4_f1 = some (l12_n4_f0_0, l12_n4_f0_1, l12_n4_f0_2, l12_n4_f0_3, l12_n4_f0_4, l12_n4_f1) ∧ j12_n4_f0_3n0 = j12_n4_f0_3.length ∧ j12_n4_f0_3n0 ≤ j12_n4_f0_3c0 ∧ Rds w0 (ids (⟨p0b, ([.int .i64 p0.size] ++ flat cg_T_ring_place p0g0), p0t, (0, 0)⟩ :: (p0P0 ++ []))) p0P0 j12_n4_f0_3a0 (flat c_T_api_Shot j12_n4_f0_3) ∧ (j12_n4_f0_3a0 = none → j12_n4_f0_3c0 = 0) ∧ E = [(2, .pointer (some ⟨b2, 0, none⟩)), (3, .bool false), (4, .pointer (some ⟨b4, 0, none⟩)), (16, .slice (some ⟨p0b, 1, none⟩) ((p0.size).toNat) 14), (17, .int .i64 (v16.length : Int)), (18, .int .i64 j12_18)] ∧ L = (⟨b2, [.int .u64 (0 : Int), .int .u64 (0 : Int), .int .i32 (0 : Int), .int .i32 (0 : Int), .int .i32 (0 : Int), .int .i32 (0 : Int), .int .u8 (0 : Int), .int .u8 (0 : Int), .int .u8 (0 : Int), .int .i32 (0 : Int), .int .i32 (0 : Int), .int .i32 (0 : Int), .int .i32 (0 : Int), .int .u8 (0 : Int), .int .u8 (0 : Int), .int .u8 (0 : Int), .slice none 0 0, .int .u16 (0 : Int), .int .u16 (0 : Int)], 30, (0, 0)⟩ :: (⟨b4, [.int .u64 j12_n4_f0_0, .int .u64 j12_n4_f0_1, .int .i32 j12_n4_f0_2.1.X, .int .i32 j12_n4_f0_2.1.Y, .int .i32 j12_n4_f0_2.1.VX, .int .i32 j12_n4_f0_2.1.VY, .int .u8 j12_n4_f0_2.1.Health, .int .u8 j12_n4_f0_2.1.Cool, .int .u8 j12_n4_f0_2.1.Face, .int .i32 j12_n4_f0_2.2.X, .int .i32 j12_n4_f0_2.2.Y, .int .i32 j12_n4_f0_2.2.VX, .int .i32 j12_n4_f0_2.2.VY, .int .u8 j12_n4_f0_2.2.Health, .int .u8 j12_n4_f0_2.2.Cool, .int .u8 j12_n4_f0_2.2.Face, .slice j12_n4_f0_3a0 j12_n4_f0_3n0 j12_n4_f0_3c0, .int .u16 j12_n4_f0_4.1, .int .u16 j12_n4_f0_4.2, .bool j12_n4_f1], 63, (0, 0)⟩ :: (⟨p0b, ([.int .i64 p0.size] ++ flat cg_T_ring_place p0g0), p0t, (0, 0)⟩ :: (p0P0 ++ []))))) F ⟨(0 : Int), (0 : Int), (0 : Int), ((T_api_Player.mk (0 : Int) (0 : Int) (0 : Int) (0 : Int) (0 : Int) (0 : Int) (0 : Int)), (T_api_Player.mk (0 : Int) (0 : Int) (0 : Int) (0 : Int) (0 : Int) (0 : Int) (0 : Int))), ([] : List T_api_Shot), ((0 : Int), (0 : Int)), false, none, 0, 0, h, rfl, (Nat.le_refl _), Rds.nil, (fun _ => rfl), rfl, rfl⟩ (agree_cons rfl (agree_cons rfl (agree_cons rfl (agree_cons rfl (agree_cons rfl (agree_cons rfl agree_nil)))))) (pSub (pCons (Sel.sc Sel.hc) (pCons Sel.hc (pCons Sel.hc (pApp Sel.ha pNil))))) ?_
      clear h
      rintro m12 _ _ ⟨j12_18, j12_n4_f0_0, j12_n4_f0_1, j12_n4_f0_2, j12_n4_f0_3, j12_n4_f0_4, j12_n4_f1, j12_n4_f0_3a0, j12_n4_f0_3n0, j12_n4_f0_3c0, h, j12_n4_f0_3N0, j12_n4_f0_3H0, j12_n4_f0_3S0, j12_n4_f0_3Z0, rfl, rfl⟩
      rcases m12 with _ | m12
      · rw [m_ring_Ring_Newest_L11.eq_1] at h; cases h
      rw [m_ring_Ring_Newest_L11.eq_2] at h
      refine wc_seq (wc_region ?_)
      refine wl_pure (v := .bool (decide (j12_18 < (v16.length : Int)))) tt_ok rfl rfl ?_
      refine wl_nil (wx_then (wc_seq ?_))
      refine wc_cond rfl (fun hc => ?_) (fun hc => ?_)
      · replace h := ct hc h
        refine wc_skip (wx_then (wc_seq (wc_block (wc_seq (wc_region ?_)))))
        replace h := bsome h; obtain ⟨v20, x20, h⟩ := h
        obtain ⟨G20, y20⟩ := getI_g hG16 x20
        refine wl_val (v := .pointer (some ((adOf (some ⟨p0b, 1, none⟩)).add (j12_18.toNat * 20 + 0)))) (val_ix (enc := cg_T_ring_place) tt_ok rfl rfl rfl rfl (len_g (cut_n p0.places.1 x16) hG16) (rds_arr (t := p0t) (fz := (0, 0)) (pre := [.int .i64 p0.size]) (post := []) c_np rfl y16) cg_T_ring_place_len rfl y20) rfl ?_
        refine wl_val (v := .agg #[.int .u64 v20.s.Frame, .int .u64 v20.s.Seed, .int .i32 v20.s.Players.1.X, .int .i32 v20.s.Players.1.Y, .int .i32 v20.s.Players.1.VX, .int .i32 v20.s.Players.1.VY, .int .u8 v20.s.Players.1.Health, .int .u8 v20.s.Players.1.Cool, .int .u8 v20.s.Players.1.Face, .int .i32 v20.s.Players.2.X, .int .i32 v20.s.Players.2.Y, .int .i32 v20.s.Players.2.VX, .int .i32 v20.s.Players.2.VY, .int .u8 v20.s.Players.2.Health, .int .u8 v20.s.Players.2.Cool, .int .u8 v20.s.Players.2.Face, .slice G20.1 G20.2.1 G20.2.2, .int .u16 v20.s.Score.1, .int .u16 v20.s.Score.2, .bool v20.is_]) (val_le (enc := cg_T_ring_place) (xs := g16) tt_ok rfl (rds_arr (t := p0t) (fz := (0, 0)) (pre := [.int .i64 p0.size]) (post := []) c_np rfl y16) ⟨_, (Sel.sc (Sel.sc Sel.hc))⟩ cg_T_ring_place_len y20 rfl) rfl ?_
        refine wl_alloc tt_ok rfl rfl (fun b6 => ?_)
        apply wl_store tt_ok; rfl; exact Upd.here; rfl; rfl; rfl; rfl; rfl; rfl
        refine wl_nil (wx_then (wc_seq (wc_region ?_)))
        refine wl_pure (v := .pointer (some ⟨b6, 19, none⟩)) tt_ok rfl rfl ?_
        refine wl_val (v := .bool v20.is_) (val_load tt_ok rfl (List.Mem.head _) rfl) rfl ?_
        refine wl_pure tt_ok rfl rfl ?_
        replace h := bsome h; obtain ⟨v37, h, hg37⟩ := h
        refine wl_split (t := 24) rfl (fun hc => ?_) (fun hc => ?_)
        · replace h := ct hc h
          refine wl_run rfl ?_
          refine wl_pure (v := .pointer (some ⟨b4, 19, none⟩)) tt_ok rfl rfl ?_
          refine wl_run rfl ?_
          refine wl_val (v := .bool j12_n4_f1) (val_load tt_ok rfl (List.Mem.tail _ (List.Mem.tail _ (List.Mem.head _))) rfl) rfl ?_
          refine wl_run rfl ?_
          refine wl_pure (v := .bool (!j12_n4_f1)) tt_ok rfl rfl ?_
          refine wl_run rfl ?_
          refine wl_pure tt_ok rfl rfl ?_
          replace h := bsome h; obtain ⟨v36, h, hg36⟩ := h
          refine wl_split (t := 28) rfl (fun hc => ?_) (fun hc => ?_)
          · replace h := ct hc h
            refine wl_skip rfl rfl ?_
            refine wl_skip rfl rfl ?_
            refine wl_skip rfl rfl ?_
            refine wl_skip rfl rfl ?_
            refine wl_skip rfl rfl ?_
            refine wl_skip rfl rfl ?_
            refine wl_skip rfl rfl ?_
            simp only [Option.some.injEq, Prod.mk.injEq] at h
            obtain rfl := h
            have h := hg36; clear hg36
            refine wl_run rfl ?_
            refine wl_pure (v := .bool true) tt_ok rfl rfl ?_
            simp only [Option.some.injEq, Prod.mk.injEq] at h
            obtain rfl := h
            have h := hg37; clear hg37
            refine wl_pure (v := .bool true) tt_ok rfl rfl ?_
            refine wl_nil (wx_then ?_)
            replace h := ct rfl h
            refine wc_cond_true rfl ?_
            refine wc_region ?_
            refine wl_val (v := .agg #[.int .u64 v20.s.Frame, .int .u64 v20.s.Seed, .int .i32 v20.s.Players.1.X, .int .i32 v20.s.Players.1.Y, .int .i32 v20.s.Players.1.VX, .int .i32 v20.s.Players.1.VY, .int .u8 v20.s.Players.1.Health, .int .u8 v20.s.Players.1.Cool, .int .u8 v20.s.Players.1.Face, .int .i32 v20.s.Players.2.X, .int .i32 v20.s.Players.2.Y, .int .i32 v20.s.Players.2.VX, .int .i32 v20.s.Players.2.VY, .int .u8 v20.s.Players.2.Health, .int .u8 v20.s.Players.2.Cool, .int .u8 v20.s.Players.2.Face, .slice G20.1 G20.2.1 G20.2.2, .int .u16 v20.s.Score.1, .int .u16 v20.s.Score.2, .bool v20.is_]) (val_load tt_ok rfl (List.Mem.head _) rfl) rfl ?_
            apply wl_store tt_ok; rfl; exact (Upd.there (Upd.there Upd.here)); rfl; rfl; rfl; rfl; rfl; rfl
            refine wl_nil (wx_block (wx_then (wc_region ?_)))
            refine wl_pure (v := .int .i64 (IntKind.wrap .i64 (j12_18 + (1 : Int)))) tt_ok rfl rfl ?_
            refine wl_pure tt_ok rfl rfl ?_
            refine wl_nil ?_
            exact wx_round m12 (Nat.lt_succ_self m12) ⟨(IntKind.wrap .i64 (j12_18 + (1 : Int))), v20.s.Frame, v20.s.Seed, v20.s.Players, v20.s.Shots, v20.s.Score, v20.is_, G20.1, G20.2.1, G20.2.2, h, (allrd_get (allrd_cut (p0A0 w0 (ids (⟨p0b, ([.int .i64 p0.size] ++ flat cg_T_ring_place p0g0), p0t, (0, 0)⟩ :: (p0P0 ++ [])))) y16) y20).1, (allrd_get (allrd_cut (p0A0 w0 (ids (⟨p0b, ([.int .i64 p0.size] ++ flat cg_T_ring_place p0g0), p0t, (0, 0)⟩ :: (p0P0 ++ [])))) y16) y20).2.1, (allrd_get (allrd_cut (p0A0 w0 (ids (⟨p0b, ([.int .i64 p0.size] ++ flat cg_T_ring_place p0g0), p0t, (0, 0)⟩ :: (p0P0 ++ [])))) y16) y20).2.2.1, (allrd_get (allrd_cut (p0A0 w0 (ids (⟨p0b, ([.int .i64 p0.size] ++ flat cg_T_ring_place p0g0), p0t, (0, 0)⟩ :: (p0P0 ++ [])))) y16) y20).2.2.2, rfl, rfl⟩ (agree_cons rfl (agree_cons rfl (agree_cons rfl (agree_cons rfl (agree_cons rfl (agree_cons rfl agree_nil)))))) (pSub (pCons (Sel.sc Sel.hc) (pCons (Sel.sc Sel.hc) (pCons (Sel.sc Sel.hc) (pApp (Sel.sc Sel.ha) pNil)))))
          replace h := cf hc h
          refine wl_run rfl ?_
          refine wl_pure (v := .pointer (some ⟨b6, 0, none⟩)) tt_ok rfl rfl ?_
          refine wl_run rfl ?_
          refine wl_pure (v := .pointer (some ⟨b6, 0, none⟩)) tt_ok rfl rfl ?_
          refine wl_run rfl ?_
          refine wl_val (v := .int .u64 v20.s.Frame) (val_load tt_ok rfl (List.Mem.head _) rfl) rfl ?_
          refine wl_run rfl ?_
          refine wl_pure (v := .pointer (some ⟨b4, 0, none⟩)) tt_ok rfl rfl ?_
          refine wl_run rfl ?_
          refine wl_pure (v := .pointer (some ⟨b4, 0, none⟩)) tt_ok rfl rfl ?_
          refine wl_run rfl ?_
          refine wl_val (v := .int .u64 j12_n4_f0_0) (val_load tt_ok rfl (List.Mem.tail _ (List.Mem.tail _ (List.Mem.head _))) rfl) rfl ?_
          refine wl_run rfl ?_
          refine wl_pure (v := .bool (decide (j12_n4_f0_0 < v20.s.Frame))) tt_ok rfl rfl ?_
          simp only [Option.some.injEq, Prod.mk.injEq] at h
          obtain rfl := h
          have h := hg36; clear hg36
          refine wl_run rfl ?_
          refine wl_pure (v := .bool (decide (j12_n4_f0_0 < v20.s.Frame))) tt_ok rfl rfl ?_
          simp only [Option.some.injEq, Prod.mk.injEq] at h
          obtain rfl := h
          have h := hg37; clear hg37
          refine wl_pure (v := .bool (decide (j12_n4_f0_0 < v20.s.Frame))) tt_ok rfl rfl ?_
          refine wl_nil (wx_then ?_)
          refine wc_cond rfl (fun hc => ?_) (fun hc => ?_)
          · replace h := ct hc h
            refine wc_region ?_
            refine wl_val (v := .agg #[.int .u64 v20.s.Frame, .int .u64 v20.s.Seed, .int .i32 v20.s.Players.1.X, .int .i32 v20.s.Players.1.Y, .int .i32 v20.s.Players.1.VX, .int .i32 v20.s.Players.1.VY, .int .u8 v20.s.Players.1.Health, .int .u8 v20.s.Players.1.Cool, .int .u8 v20.s.Players.1.Face, .int .i32 v20.s.Players.2.X, .int .i32 v20.s.Players.2.Y, .int .i32 v20.s.Players.2.VX, .int .i32 v20.s.Players.2.VY, .int .u8 v20.s.Players.2.Health, .int .u8 v20.s.Players.2.Cool, .int .u8 v20.s.Players.2.Face, .slice G20.1 G20.2.1 G20.2.2, .int .u16 v20.s.Score.1, .int .u16 v20.s.Score.2, .bool v20.is_]) (val_load tt_ok rfl (List.Mem.head _) rfl) rfl ?_
            apply wl_store tt_ok; rfl; exact (Upd.there (Upd.there Upd.here)); rfl; rfl; rfl; rfl; rfl; rfl
            refine wl_nil (wx_block (wx_then (wc_region ?_)))
            refine wl_pure (v := .int .i64 (IntKind.wrap .i64 (j12_18 + (1 : Int)))) tt_ok rfl rfl ?_
            refine wl_pure tt_ok rfl rfl ?_
            refine wl_nil ?_
            exact wx_round m12 (Nat.lt_succ_self m12) ⟨(IntKind.wrap .i64 (j12_18 + (1 : Int))), v20.s.Frame, v20.s.Seed, v20.s.Players, v20.s.Shots, v20.s.Score, v20.is_, G20.1, G20.2.1, G20.2.2, h, (allrd_get (allrd_cut (p0A0 w0 (ids (⟨p0b, ([.int .i64 p0.size] ++ flat cg_T_ring_place p0g0), p0t, (0, 0)⟩ :: (p0P0 ++ [])))) y16) y20).1, (allrd_get (allrd_cut (p0A0 w0 (ids (⟨p0b, ([.int .i64 p0.size] ++ flat cg_T_ring_place p0g0), p0t, (0, 0)⟩ :: (p0P0 ++ [])))) y16) y20).2.1, (allrd_get (allrd_cut (p0A0 w0 (ids (⟨p0b, ([.int .i64 p0.size] ++ flat cg_T_ring_place p0g0), p0t, (0, 0)⟩ :: (p0P0 ++ [])))) y16) y20).2.2.1, (allrd_get (allrd_cut (p0A0 w0 (ids (⟨p0b, ([.int .i64 p0.size] ++ flat cg_T_ring_place p0g0), p0t, (0, 0)⟩ :: (p0P0 ++ [])))) y16) y20).2.2.2, rfl, rfl⟩ (agree_cons rfl (agree_cons rfl (agree_cons rfl (agree_cons rfl (agree_cons rfl (agree_cons rfl agree_nil)))))) (pSub (pCons (Sel.sc Sel.hc) (pCons (Sel.sc Sel.hc) (pCons (Sel.sc Sel.hc) (pApp (Sel.sc Sel.ha) pNil)))))
          replace h := cf hc h
          refine wc_skip (wx_block (wx_then (wc_region ?_)))
          refine wl_pure (v := .int .i64 (IntKind.wrap .i64 (j12_18 + (1 : Int)))) tt_ok rfl rfl ?_
          refine wl_pure tt_ok rfl rfl ?_
          refine wl_nil ?_
          exact wx_round m12 (Nat.lt_succ_self m12) ⟨(IntKind.wrap .i64 (j12_18 + (1 : Int))), j12_n4_f0_0, j12_n4_f0_1, j12_n4_f0_2, j12_n4_f0_3, j12_n4_f0_4, j12_n4_f1, j12_n4_f0_3a0, j12_n4_f0_3n0, j12_n4_f0_3c0, h, j12_n4_f0_3N0, j12_n4_f0_3H0, j12_n4_f0_3S0, j12_n4_f0_3Z0, rfl, rfl⟩ (agree_cons rfl (agree_cons rfl (agree_cons rfl (agree_cons rfl (agree_cons rfl (agree_cons rfl agree_nil)))))) (pSub (pCons (Sel.sc Sel.hc) (pCons (Sel.sc Sel.hc) (pCons (Sel.sc Sel.hc) (pApp (Sel.sc Sel.ha) pNil)))))
        replace h := cf hc h
        refine wl_skip rfl rfl ?_
        refine wl_skip rfl rfl ?_
        refine wl_skip rfl rfl ?_
        refine wl_skip rfl rfl ?_
        refine wl_skip rfl rfl ?_
        refine wl_skip rfl rfl ?_
        refine wl_skip rfl rfl ?_
        refine wl_skip rfl rfl ?_
        refine wl_skip rfl rfl ?_
        refine wl_skip rfl rfl ?_
        refine wl_skip rfl rfl ?_
        refine wl_skip rfl rfl ?_
        simp only [Option.some.injEq, Prod.mk.injEq] at h
        obtain rfl := h
        have h := hg37; clear hg37
        refine wl_pure (v := .bool false) tt_ok rfl rfl ?_
        refine wl_nil (wx_then ?_)
        replace h := cf rfl h
        refine wc_cond_false rfl ?_
        refine wc_skip (wx_block (wx_then (wc_region ?_)))
        refine wl_pure (v := .int .i64 (IntKind.wrap .i64 (j12_18 + (1 : Int)))) tt_ok rfl rfl ?_
        refine wl_pure tt_ok rfl rfl ?_
        refine wl_nil ?_
        exact wx_round m12 (Nat.lt_succ_self m12) ⟨(IntKind.wrap .i64 (j12_18 + (1 : Int))), j12_n4_f0_0, j12_n4_f0_1, j12_n4_f0_2, j12_n4_f0_3, j12_n4_f0_4, j12_n4_f1, j12_n4_f0_3a0, j12_n4_f0_3n0, j12_n4_f0_3c0, h, j12_n4_f0_3N0, j12_n4_f0_3H0, j12_n4_f0_3S0, j12_n4_f0_3Z0, rfl, rfl⟩ (agree_cons rfl (agree_cons rfl (agree_cons rfl (agree_cons rfl (agree_cons rfl (agree_cons rfl agree_nil)))))) (pSub (pCons (Sel.sc Sel.hc) (pCons (Sel.sc Sel.hc) (pCons (Sel.sc Sel.hc) (pApp (Sel.sc Sel.ha) pNil)))))
      replace h := cf hc h
      refine wc_exit (wx_then_exit ?_)
      simp only [Option.some.injEq, Prod.mk.injEq] at h
      obtain ⟨rfl, rfl, rfl, rfl, rfl, rfl⟩ := h
      have h := hl12; clear hl12; try dsimp only [orE_l, orE_r] at h
      refine wx_then_exit (wx_block_exit ?_)
      simp only [Option.some.injEq, Prod.mk.injEq] at h
      obtain ⟨rfl, rfl, rfl, rfl, rfl, rfl⟩ := h
      exact wx_join ⟨j12_n4_f0_3a0, j12_n4_f0_3n0, j12_n4_f0_3c0, j12_n4_f0_3N0, j12_n4_f0_3H0, j12_n4_f0_3S0, j12_n4_f0_3Z0, rfl, rfl⟩ (agree_cons rfl (agree_cons rfl (agree_cons rfl agree_nil))) (pSub (pCons Sel.hc (pCons Sel.hc (pCons Sel.hc (pApp Sel.ha pNil)))))
    replace h := cf hc h
    refine wc_skip ?_
    simp only [Option.some.injEq, Prod.mk.injEq] at h
    obtain ⟨rfl, rfl, rfl, rfl, rfl, rfl⟩ := h
    exact wx_join ⟨none, 0, 0, rfl, (Nat.le_refl _), Rds.nil, (fun _ => rfl), rfl, rfl⟩ (agree_cons rfl (agree_cons rfl (agree_cons rfl agree_nil))) (pSub (pCons (Sel.sc Sel.hc) (pCons Sel.hc (pCons Sel.hc (pApp Sel.ha pNil)))))
  rintro _ _ ⟨j8_n4_f0_3a0, j8_n4_f0_3n0, j8_n4_f0_3c0, j8_n4_f0_3N0, j8_n4_f0_3H0, j8_n4_f0_3S0, j8_n4_f0_3Z0, rfl, rfl⟩
  have h := hj8; clear hj8
  refine wc_seq ?_
  refine wc_k2 (Ls := (⟨b4, [.int .u64 j8_n4_f0_0, .int .u64 j8_n4_f0_1, .int .i32 j8_n4_f0_2.1.X, .int .i32 j8_n4_f0_2.1.Y, .int .i32 j8_n4_f0_2.1.VX, .int .i32 j8_n4_f0_2.1.VY, .int .u8 j8_n4_f0_2.1.Health, .int .u8 j8_n4_f0_2.1.Cool, .int .u8 j8_n4_f0_2.1.Face, .int .i32 j8_n4_f0_2.2.X, .int .i32 j8_n4_f0_2.2.Y, .int .i32 j8_n4_f0_2.2.VX, .int .i32 j8_n4_f0_2.2.VY, .int .u8 j8_n4_f0_2.2.Health, .int .u8 j8_n4_f0_2.2.Cool, .int .u8 j8_n4_f0_2.2.Face, .slice j8_n4_f0_3a0 j8_n4_f0_3n0 j8_n4_f0_3c0, .int .u16 j8_n4_f0_4.1, .int .u16 j8_n4_f0_4.2, .bool j8_n4_f1], 63, (0, 0)⟩ :: (⟨p0b, ([.int .i64 p0.size] ++ flat cg_T_ring_place p0g0), p0t, (0, 0)⟩ :: (p0P0 ++ [])))) [2, 5, 6] [6] [0, 1, 3, 0, 8, 7, 63] [0, 1, 3, 4, 2, 5, 6] (by kernel_rfl) (by kernel_rfl) (by kernel_rfl) ?_
  refine k_val (v := .pointer (some ⟨b4, 0, none⟩)) rfl rfl rfl (pSub (pCons (Sel.sc Sel.hc) (pCons (Sel.sc Sel.hc) (pApp (Sel.sc Sel.ha) pNil)))) (stepV_ok tt_ok rfl) rfl ?_
  refine k_val (v := .agg #[.int .u64 j8_n4_f0_0, .int .u64 j8_n4_f0_1, .int .i32 j8_n4_f0_2.1.X, .int .i32 j8_n4_f0_2.1.Y, .int .i32 j8_n4_f0_2.1.VX, .int .i32 j8_n4_f0_2.1.VY, .int .u8 j8_n4_f0_2.1.Health, .int .u8 j8_n4_f0_2.1.Cool, .int .u8 j8_n4_f0_2.1.Face, .int .i32 j8_n4_f0_2.2.X, .int .i32 j8_n4_f0_2.2.Y, .int .i32 j8_n4_f0_2.2.VX, .int .i32 j8_n4_f0_2.2.VY, .int .u8 j8_n4_f0_2.2.Health, .int .u8 j8_n4_f0_2.2.Cool, .int .u8 j8_n4_f0_2.2.Face, .slice j8_n4_f0_3a0 j8_n4_f0_3n0 j8_n4_f0_3c0, .int .u16 j8_n4_f0_4.1, .int .u16 j8_n4_f0_4.2]) rfl rfl rfl (pSub (pCons (Sel.sc Sel.hc) (pCons (Sel.sc Sel.hc) (pApp (Sel.sc Sel.ha) pNil)))) (val_load tt_ok rfl (List.Mem.head _) rfl) rfl ?_
  refine k_val (v := .pointer (some ⟨b4, 19, none⟩)) rfl rfl rfl (pSub (pCons (Sel.sc Sel.hc) (pCons (Sel.sc Sel.hc) (pApp (Sel.sc Sel.ha) pNil)))) (stepV_ok tt_ok rfl) rfl ?_
  refine k_val (v := .bool j8_n4_f1) rfl rfl rfl (pSub (pCons (Sel.sc Sel.hc) (pCons (Sel.sc Sel.hc) (pApp (Sel.sc Sel.ha) pNil)))) (val_load tt_ok rfl (List.Mem.head _) rfl) rfl ?_
  replace h := bsome h; obtain ⟨v42, x42, h⟩ := h
  refine k_cs rfl rfl rfl Tryd.call39 rfl rfl rfl (s_sp (k_ring_told (p0 := (T_api_State.mk j8_n4_f0_0 j8_n4_f0_1 j8_n4_f0_2 j8_n4_f0_3 j8_n4_f0_4)) j8_n4_f0_3N0 j8_n4_f0_3H0 j8_n4_f0_3Z0 x42) pNil (Rds.call j8_n4_f0_3S0 pNil ⟨_, (Sel.sc (Sel.sc (Sel.sc Sel.ha)))⟩)) rfl (.inr (by rintro _ _ ⟨_, ⟨_, _, _, _, _, _, rfl, rfl⟩, rfl⟩; exact ⟨_, (pCons (Sel.sa (Sel.sc Sel.hc)) (pCons (Sel.sa (Sel.sc Sel.hc)) (pApp (Sel.sa (Sel.sc Sel.ha)) pNil)))⟩)) ?_
  rintro _ _ ⟨_, ⟨v42a0, v42n0, v42c0, v42B0, v42N0, v42V0, rfl, rfl⟩, rfl⟩
  refine k_chg0 rfl rfl rfl (chg_store tt_ok rfl (Upd.right Upd.here) rfl rfl rfl rfl rfl rfl) (.inr (by rintro _ _ rfl; exact ⟨_, (pCons (Sel.sa (Sel.sc Sel.hc)) (pCons (Sel.sa (Sel.sc Sel.hc)) (pApp (Sel.sa (Sel.sc Sel.ha)) pNil)))⟩)) ?_
  rintro _ _ rfl
  refine k_chg rfl rfl rfl (Chg.of_val (stepV_ok tt_ok rfl)) rfl (.inl rfl) ?_
  rintro _ _ ⟨rfl, rfl⟩
  refine k_end (by kernel_rfl) ?_
  refine wx_then (wc_ret ?_)
  simp only [Option.some.injEq, Prod.mk.injEq] at h
  obtain ⟨rfl, rfl⟩ := h
  exact wx_spD tt_ok (.inl rfl) Tryd.results13 (Res.cell rfl (mR (List.Mem.head _)) rfl (Res.tmp rfl Res.nil)) ⟨v42a0, v42n0, v42c0, v42B0, v42N0, v42V0, rfl, rfl⟩ (fun F => by simp) (pSub (pCons (Sel.sa (Sel.sc (Sel.sc Sel.hc))) (pApp (Sel.sa (Sel.sc (Sel.sc Sel.ha))) (pApp Sel.ha pNil))))

theorem k_hindcastlaw25_RingHolds {F : Nat} {p0 : T_api_State} {p0a0 : Option Addr} {p0n0 p0c0 : Nat} {p1 : (List (Int × Int))} {p1a0 : Option Addr} {p1n0 p1c0 : Nat} {p2 : Int} {r0 : Bool} (p0N0 : p0n0 = p0.Shots.length) (p0H0 : p0n0 ≤ p0c0) (p0Z0 : p0a0 = none → p0c0 = 0) (p1N0 : p1n0 = p1.length) (p1H0 : p1n0 ≤ p1c0) (h : m_hindcastlaw25_RingHolds F p0 p1 p2 = some r0) :
    Pf Tryd.prog 3 [.agg #[.int .u64 p0.Frame, .int .u64 p0.Seed, .int .i32 p0.Players.1.X, .int .i32 p0.Players.1.Y, .int .i32 p0.Players.1.VX, .int .i32 p0.Players.1.VY, .int .u8 p0.Players.1.Health, .int .u8 p0.Players.1.Cool, .int .u8 p0.Players.1.Face, .int .i32 p0.Players.2.X, .int .i32 p0.Players.2.Y, .int .i32 p0.Players.2.VX, .int .i32 p0.Players.2.VY, .int .u8 p0.Players.2.Health, .int .u8 p0.Players.2.Cool, .int .u8 p0.Players.2.Face, .slice p0a0 p0n0 p0c0, .int .u16 p0.Score.1, .int .u16 p0.Score.2], .slice p1a0 p1n0 p1c0, .int .u8 p2] (fun w => Rds w [] [] p0a0 (flat c_T_api_Shot p0.Shots) ∧ Rds w [] [] p1a0 (flat (e2 .u8) p1) ∧ Rds w [] [] (some ⟨0, 0, none⟩) (flat (fun _ : Unit => gl_state_playerBounds) [()]) ∧ Rds w [] [] (some ⟨1, 0, none⟩) (flat (fun _ : Unit => gl_state_shotBounds) [()])) (.bool r0) := by
  unfold m_hindcastlaw25_RingHolds at h
  refine pf_of_wc Tryd.func3 rfl Tryd.ntmps3 rfl rfl (fun w0 hR => ?_)
  obtain ⟨p0S0, p1S0, G0S, G1S⟩ := hR
  refine wc_seq (wc_region ?_)
  refine wl_box rfl rfl rfl (fun b3 => ?_)
  refine wl_pure tt_ok rfl rfl ?_
  refine wl_nil (wx_then (wc_seq (wc_region ?_)))
  refine wl_pure tt_ok rfl rfl ?_
  refine wl_pure (v := .int .u8 (Int.tmod p2 14)) tt_ok rfl rfl ?_
  refine wl_pure (v := .int .i64 (IntKind.wrap .i64 (Int.tmod p2 14))) tt_ok rfl rfl ?_
  refine wl_pure (v := .int .i64 (IntKind.wrap .i64 ((1 : Int) + (IntKind.wrap .i64 (Int.tmod p2 14))))) tt_ok rfl rfl ?_
  refine wl_pure tt_ok rfl rfl ?_
  refine wl_nil (wx_then (wc_seq (wc_region ?_)))
  refine wl_pure tt_ok rfl rfl ?_
  replace h := bsome h; obtain ⟨v23, x23, h⟩ := h
  rcases v23 with _ | v23s
  · replace h := poN h
    refine wl_cs Tryd.call6 rfl rfl rfl (s_sp (k_ring_New_none x23) pNil (fun _ _ => trivial)) rfl ?_
    rintro _ _ ⟨_, ⟨rfl, rfl⟩, rfl⟩
    refine wl_pure tt_ok rfl rfl ?_
    refine wl_nil (wx_then (wc_seq (wc_seq (wc_region ?_))))
    refine wl_pure tt_ok rfl rfl ?_
    refine wl_pure (v := .bool true) tt_ok rfl rfl ?_
    refine wl_pure tt_ok rfl rfl ?_
    refine wl_skip rfl rfl ?_
    refine wl_skip rfl rfl ?_
    refine wl_skip rfl rfl ?_
    refine wl_skip rfl rfl ?_
    refine wl_pure (v := .bool true) tt_ok rfl rfl ?_
    refine wl_pure tt_ok rfl rfl ?_
    refine wl_skip rfl rfl ?_
    refine wl_skip rfl rfl ?_
    refine wl_skip rfl rfl ?_
    refine wl_pure (v := .bool true) tt_ok rfl rfl ?_
    refine wl_nil (wx_then ?_)
    refine wc_cond_true rfl ?_
    refine wc_seq (wc_region ?_)
    refine wl_pure tt_ok rfl rfl ?_
    refine wl_pure (v := .bool false) tt_ok rfl rfl ?_
    refine wl_pure tt_ok rfl rfl ?_
    refine wl_skip rfl rfl ?_
    refine wl_pure (v := .bool false) tt_ok rfl rfl ?_
    refine wl_pure tt_ok rfl rfl ?_
    refine wl_nil (wx_then (wc_ret (wx_then_ret ?_)))
    simp only [Option.some.injEq] at h
    obtain rfl := h
    exact wx_pf tt_ok (.inl rfl) Tryd.results3 (Res.tmp rfl Res.nil) rfl
  replace h := poS h
  refine wl_cs Tryd.call6 rfl rfl rfl (s_sp (k_ring_New x23) pNil (fun _ _ => trivial)) rfl ?_
  rintro _ _ ⟨_, ⟨b23_0, v23sg0, v23sP0, v23sG0, v23sA0, rfl, rfl⟩, rfl⟩
  refine wl_pure tt_ok rfl rfl ?_
  refine wl_nil (wx_then (wc_seq (wc_seq (wc_region ?_))))
  refine wl_pure tt_ok rfl rfl ?_
  refine wl_pure (v := .bool false) tt_ok rfl rfl ?_
  refine wl_pure tt_ok rfl rfl ?_
  refine wl_run rfl ?_
  refine wl_pure (v := .pointer (some ⟨b3, 16, none⟩)) tt_ok rfl rfl ?_
  refine wl_run rfl ?_
  refine wl_val (v := .slice p0a0 p0n0 p0c0) (val_load tt_ok rfl (List.Mem.tail _ (mR (List.Mem.head _))) rfl) rfl ?_
  refine wl_run rfl ?_
  refine wl_val (v := .int .i64 (p0.Shots.length : Int)) (val_len tt_ok rfl rfl p0N0) rfl ?_
  refine wl_run rfl ?_
  refine wl_pure (v := .bool (decide ((100 : Int) < (p0.Shots.length : Int)))) tt_ok rfl rfl ?_
  refine wl_pure (v := .bool (decide ((100 : Int) < (p0.Shots.length : Int)))) tt_ok rfl rfl ?_
  refine wl_pure tt_ok rfl rfl ?_
  replace h := bsome h; obtain ⟨v36, h, hg36⟩ := h
  refine wl_split (t := 32) rfl (fun hc => ?_) (fun hc => ?_)
  · replace h := ct hc h
    refine wl_skip rfl rfl ?_
    refine wl_skip rfl rfl ?_
    refine wl_skip rfl rfl ?_
    simp only [Option.some.injEq, Prod.mk.injEq] at h
    obtain rfl := h
    have h := hg36; clear hg36
    refine wl_pure (v := .bool true) tt_ok rfl rfl ?_
    refine wl_nil (wx_then ?_)
    replace h := ct rfl h
    refine wc_cond_true rfl ?_
    refine wc_seq (wc_region ?_)
    refine wl_pure tt_ok rfl rfl ?_
    refine wl_pure (v := .bool true) tt_ok rfl rfl ?_
    refine wl_pure tt_ok rfl rfl ?_
    replace h := bsome h; obtain ⟨v40, x40, h⟩ := h
    refine wl_run rfl ?_
    refine wl_cq Tryd.call7 rfl rfl rfl (q_pf (k_hindcastlaw25_awake x40) (fun w hI => ⟨(Rds.call G0S pNil rsub_nil) w hI, (Rds.call G1S pNil rsub_nil) w hI⟩)) rfl ?_
    refine wl_pure (v := .bool v40) tt_ok rfl rfl ?_
    refine wl_pure tt_ok rfl rfl ?_
    refine wl_nil (wx_then (wc_ret (wx_then_ret ?_)))
    simp only [Option.some.injEq] at h
    obtain rfl := h
    exact wx_pf tt_ok (.inl rfl) Tryd.results3 (Res.tmp rfl Res.nil) rfl
  replace h := cf hc h
  refine wl_run rfl ?_
  refine wl_pure tt_ok rfl rfl ?_
  refine wl_run rfl ?_
  refine wl_val (v := .int .i64 (p1.length : Int)) (val_len tt_ok rfl rfl p1N0) rfl ?_
  refine wl_run rfl ?_
  refine wl_pure (v := .bool (decide ((60 : Int) < (p1.length : Int)))) tt_ok rfl rfl ?_
  simp only [Option.some.injEq, Prod.mk.injEq] at h
  obtain rfl := h
  have h := hg36; clear hg36
  refine wl_pure (v := .bool (decide ((60 : Int) < (p1.length : Int)))) tt_ok rfl rfl ?_
  refine wl_nil (wx_then ?_)
  refine wc_cond rfl (fun hc => ?_) (fun hc => ?_)
  · replace h := ct hc h
    refine wc_seq (wc_region ?_)
    refine wl_pure tt_ok rfl rfl ?_
    refine wl_pure (v := .bool true) tt_ok rfl rfl ?_
    refine wl_pure tt_ok rfl rfl ?_
    replace h := bsome h; obtain ⟨v40, x40, h⟩ := h
    refine wl_run rfl ?_
    refine wl_cq Tryd.call7 rfl rfl rfl (q_pf (k_hindcastlaw25_awake x40) (fun w hI => ⟨(Rds.call G0S pNil rsub_nil) w hI, (Rds.call G1S pNil rsub_nil) w hI⟩)) rfl ?_
    refine wl_pure (v := .bool v40) tt_ok rfl rfl ?_
    refine wl_pure tt_ok rfl rfl ?_
    refine wl_nil (wx_then (wc_ret (wx_then_ret ?_)))
    simp only [Option.some.injEq] at h
    obtain rfl := h
    exact wx_pf tt_ok (.inl rfl) Tryd.results3 (Res.tmp rfl Res.nil) rfl
  replace h := cf hc h
  refine wc_skip (wx_then (wc_seq (wc_seq (wc_region ?_))))
  refine wl_val (v := .agg #[.int .u64 p0.Frame, .int .u64 p0.Seed, .int .i32 p0.Players.1.X, .int .i32 p0.Players.1.Y, .int .i32 p0.Players.1.VX, .int .i32 p0.Players.1.VY, .int .u8 p0.Players.1.Health, .int .u8 p0.Players.1.Cool, .int .u8 p0.Players.1.Face, .int .i32 p0.Players.2.X, .int .i32 p0.Players.2.Y, .int .i32 p0.Players.2.VX, .int .i32 p0.Players.2.VY, .int .u8 p0.Players.2.Health, .int .u8 p0.Players.2.Cool, .int .u8 p0.Players.2.Face, .slice p0a0 p0n0 p0c0, .int .u16 p0.Score.1, .int .u16 p0.Score.2]) (val_load tt_ok rfl (List.Mem.tail _ (mR (List.Mem.head _))) rfl) rfl ?_
  replace h := bsome h; obtain ⟨v43, x43, h⟩ := h
  refine wl_cq Tryd.call8 rfl rfl rfl (q_pf (k_state_Check (p0 := p0) p0N0 p0H0 x43) (fun w hI => ⟨(Rds.call p0S0 pNil rsub_nil) w hI, (Rds.call G0S pNil rsub_nil) w hI, (Rds.call G1S pNil rsub_nil) w hI⟩)) rfl ?_
  refine wl_pure (v := .bool (v43 != (0 : Int))) tt_ok rfl rfl ?_
  refine wl_pure tt_ok rfl rfl ?_
  replace h := bsome h; obtain ⟨v49, h, hg49⟩ := h
  refine wl_split (t := 45) rfl (fun hc => ?_) (fun hc => ?_)
  · replace h := ct hc h
    refine wl_skip rfl rfl ?_
    refine wl_skip rfl rfl ?_
    refine wl_skip rfl rfl ?_
    simp only [Option.some.injEq, Prod.mk.injEq] at h
    obtain rfl := h
    have h := hg49; clear hg49
    refine wl_pure (v := .bool true) tt_ok rfl rfl ?_
    refine wl_nil (wx_then ?_)
    replace h := ct rfl h
    refine wc_cond_true rfl ?_
    refine wc_seq (wc_region ?_)
    replace h := bsome h; obtain ⟨v50, x50, h⟩ := h
    refine wl_cq Tryd.call7 rfl rfl rfl (q_pf (k_hindcastlaw25_awake x50) (fun w hI => ⟨(Rds.call G0S pNil rsub_nil) w hI, (Rds.call G1S pNil rsub_nil) w hI⟩)) rfl ?_
    refine wl_pure tt_ok rfl rfl ?_
    refine wl_nil (wx_then (wc_ret (wx_then_ret ?_)))
    simp only [Option.some.injEq] at h
    obtain rfl := h
    exact wx_pf tt_ok (.inl rfl) Tryd.results3 (Res.tmp rfl Res.nil) rfl
  replace h := cf hc h
  refine wl_run rfl ?_
  refine wl_pure (v := .pointer (some ⟨b3, 0, none⟩)) tt_ok rfl rfl ?_
  refine wl_run rfl ?_
  refine wl_val (v := .int .u64 p0.Frame) (val_load tt_ok rfl (List.Mem.tail _ (mR (List.Mem.head _))) rfl) rfl ?_
  refine wl_run rfl ?_
  refine wl_pure (v := .bool (decide ((4611686018427387904 : Int) < p0.Frame))) tt_ok rfl rfl ?_
  simp only [Option.some.injEq, Prod.mk.injEq] at h
  obtain rfl := h
  have h := hg49; clear hg49
  refine wl_pure (v := .bool (decide ((4611686018427387904 : Int) < p0.Frame))) tt_ok rfl rfl ?_
  refine wl_nil (wx_then ?_)
  refine wc_cond rfl (fun hc => ?_) (fun hc => ?_)
  · replace h := ct hc h
    refine wc_seq (wc_region ?_)
    replace h := bsome h; obtain ⟨v50, x50, h⟩ := h
    refine wl_cq Tryd.call7 rfl rfl rfl (q_pf (k_hindcastlaw25_awake x50) (fun w hI => ⟨(Rds.call G0S pNil rsub_nil) w hI, (Rds.call G1S pNil rsub_nil) w hI⟩)) rfl ?_
    refine wl_pure tt_ok rfl rfl ?_
    refine wl_nil (wx_then (wc_ret (wx_then_ret ?_)))
    simp only [Option.some.injEq] at h
    obtain rfl := h
    exact wx_pf tt_ok (.inl rfl) Tryd.results3 (Res.tmp rfl Res.nil) rfl
  replace h := cf hc h
  refine wc_skip (wx_then (wc_seq (wc_region ?_)))
  refine wl_val (v := .agg #[.int .u64 p0.Frame, .int .u64 p0.Seed, .int .i32 p0.Players.1.X, .int .i32 p0.Players.1.Y, .int .i32 p0.Players.1.VX, .int .i32 p0.Players.1.VY, .int .u8 p0.Players.1.Health, .int .u8 p0.Players.1.Cool, .int .u8 p0.Players.1.Face, .int .i32 p0.Players.2.X, .int .i32 p0.Players.2.Y, .int .i32 p0.Players.2.VX, .int .i32 p0.Players.2.VY, .int .u8 p0.Players.2.Health, .int .u8 p0.Players.2.Cool, .int .u8 p0.Players.2.Face, .slice p0a0 p0n0 p0c0, .int .u16 p0.Score.1, .int .u16 p0.Score.2]) (val_load tt_ok rfl (List.Mem.tail _ (mR (List.Mem.head _))) rfl) rfl ?_
  refine wl_chg (chg_bsv (enc := cg_T_api_State) (xs := ([(p0, (p0a0, p0n0, p0c0))] : List (T_api_State × G))) tt_ok rfl rfl rfl rfl rfl rfl rfl rfl cg_T_api_State_len) rfl ?_
  rintro _ _ ⟨a52, n52_, c52, B52, rfl, N52, V52, rfl⟩
  refine wl_pure tt_ok rfl rfl ?_
  refine wl_nil (wx_then (wc_seq (wc_seq (wc_region ?_))))
  refine wl_pure tt_ok rfl rfl ?_
  refine wl_nil (wx_then (wc_block ?_))
  replace h := bsome h; obtain ⟨l29_9, h, hl29⟩ := h
  refine wc_loop (fun m E L => ∃ (j29_9 : (List T_api_State)) (j29_10 : Int) (j29_9a0 : Option Addr) (j29_9n0 : Nat) (j29_9c0 : Nat) (j29_9B0 : List Blk) (j29_9g0 : List (T_api_State × G)) (j29_9P0 : List Blk), m_hindcastlaw25_RingHolds_L28 F p1 m j29_9 j29_10 = some l29_9 ∧ j29_9n0 = j29_9.length ∧ Own 30 19 j29_9a0 j29_9n0 j29_9c0 (flat cg_T_api_State j29_9g0) j29_9B0 ∧ j29_9 = unG j29_9g0 ∧ AllRd sh_T_api_State c_T_api_Shot w0 [] j29_9P0 j29_9g0 ∧ E = [(1, .slice p1a0 p1n0 p1c0), (6, .bool false), (7, .int .i64 (IntKind.wrap .i64 ((1 : Int) + (IntKind.wrap .i64 (Int.tmod p2 14))))), (8, .pointer (some ⟨b23_0, 0, none⟩)), (9, .slice j29_9a0 j29_9n0 j29_9c0), (10, .int .i64 j29_10)] ∧ L = (⟨b23_0, ([.int .i64 v23s.size] ++ flat cg_T_ring_place v23sg0), 66, (0, 0)⟩ :: (v23sP0 ++ (j29_9B0 ++ (j29_9P0 ++ []))))) F ⟨([p0] : List T_api_State), (0 : Int), a52, n52_, c52, B52, ([(p0, (p0a0, p0n0, p0c0))] : List (T_api_State × G)), [], h, N52, V52, rfl, (allrd_one (sh := sh_T_api_State) (x := p0) (s := p0.Shots) rfl p0N0 p0H0 p0S0 p0Z0), rfl, rfl⟩ (agree_cons rfl (agree_cons rfl (agree_cons rfl (agree_cons rfl (agree_cons rfl (agree_cons rfl agree_nil)))))) (pSub (pCons (Sel.sa Sel.hc) (pApp (Sel.sa Sel.ha) (pApp Sel.ha (pNo pNil))))) ?_
  clear h
  rintro m29 _ _ ⟨j29_9, j29_10, j29_9a0, j29_9n0, j29_9c0, j29_9B0, j29_9g0, j29_9P0, h, j29_9N0, j29_9V0, j29_9G0, j29_9A0, rfl, rfl⟩
  rcases m29 with _ | m29
  · rw [m_hindcastlaw25_RingHolds_L28.eq_1] at h; cases h
  rw [m_hindcastlaw25_RingHolds_L28.eq_2] at h
  refine wc_seq (wc_seq (wc_region ?_))
  iterate 2 refine wl_pure tt_ok rfl rfl ?_
  refine wl_val (v := .int .i64 (p1.length : Int)) (val_len tt_ok rfl rfl p1N0) rfl ?_
  refine wl_pure (v := .bool (decide (j29_10 < (p1.length : Int)))) tt_ok rfl rfl ?_
  refine wl_nil (wx_then ?_)
  refine wc_cond rfl (fun hc => ?_) (fun hc => ?_)
  · replace h := ct hc h
    refine wc_skip (wx_then (wc_seq (wc_block (wc_seq (wc_region ?_)))))
    iterate 2 refine wl_pure tt_ok rfl rfl ?_
    replace h := bsome h; obtain ⟨v61, x61, h⟩ := h
    refine wl_val (v := .pointer (some ((adOf p1a0).add (j29_10.toNat * 2 + 0)))) (val_ix (enc := (e2 .u8)) tt_ok rfl rfl rfl rfl p1N0 p1S0 (e2_len _) rfl x61) rfl ?_
    refine wl_val (v := .pointer (some ((adOf p1a0).add (j29_10.toNat * 2 + 0)))) (val_fia (j := 0) tt_ok rfl rfl rfl rfl rfl rfl rfl) rfl ?_
    refine wl_val (v := .int .u8 v61.1) (val_le (enc := (e2 .u8)) (xs := p1) tt_ok rfl p1S0 rsub_nil (e2_len _) x61 rfl) rfl ?_
    refine wl_pure (v := .bool (decide (v61.1 < (64 : Int)))) tt_ok rfl rfl ?_
    refine wl_pure tt_ok rfl rfl ?_
    replace h := bsome h; obtain ⟨v72, h, hg72⟩ := h
    refine wl_split (t := 65) rfl (fun hc => ?_) (fun hc => ?_)
    · replace h := ct hc h
      refine wl_run rfl ?_
      refine wl_pure tt_ok rfl rfl ?_
      refine wl_run rfl ?_
      refine wl_pure tt_ok rfl rfl ?_
      replace h := bsome h; obtain ⟨v68, x68, h⟩ := h
      refine wl_run rfl ?_
      refine wl_val (v := .pointer (some ((adOf p1a0).add (j29_10.toNat * 2 + 0)))) (val_ix (enc := (e2 .u8)) tt_ok rfl rfl rfl rfl p1N0 p1S0 (e2_len _) rfl x68) rfl ?_
      refine wl_run rfl ?_
      refine wl_val (v := .pointer (some ((adOf p1a0).add (j29_10.toNat * 2 + 1)))) (val_fia (j := 1) tt_ok rfl rfl rfl rfl rfl rfl rfl) rfl ?_
      refine wl_run rfl ?_
      refine wl_val (v := .int .u8 v68.2) (val_le (enc := (e2 .u8)) (xs := p1) tt_ok rfl p1S0 rsub_nil (e2_len _) x68 rfl) rfl ?_
      refine wl_run rfl ?_
      refine wl_pure (v := .bool (decide (v68.2 < (64 : Int)))) tt_ok rfl rfl ?_
      simp only [Option.some.injEq, Prod.mk.injEq] at h
      obtain rfl := h
      have h := hg72; clear hg72
      refine wl_pure (v := .bool (decide (v68.2 < (64 : Int)))) tt_ok rfl rfl ?_
      refine wl_nil (wx_then ?_)
      refine wc_cond rfl (fun hc => ?_) (fun hc => ?_)
      · replace h := ct hc h
        refine wc_seq ?_
        replace h := bsome h; obtain ⟨v77, x77, h⟩ := h
        replace h := bsome h; obtain ⟨v81, x81, h⟩ := h
        replace h := bsome h; obtain ⟨v83, x83, h⟩ := h
        refine wc_join2 (fun E L => ∃ (b11 : Nat) (v83a0 : Option Addr) (v83n0 : Nat) (v83c0 : Nat) (v83B0 : List Blk), v83n0 = v83.Shots.length ∧ Own 76 6 v83a0 v83n0 v83c0 (flat c_T_api_Shot v83.Shots) v83B0 ∧ E = [(1, .slice p1a0 p1n0 p1c0), (6, .bool false), (7, .int .i64 (IntKind.wrap .i64 ((1 : Int) + (IntKind.wrap .i64 (Int.tmod p2 14))))), (8, .pointer (some ⟨b23_0, 0, none⟩)), (9, .slice j29_9a0 j29_9n0 j29_9c0), (10, .int .i64 j29_10), (11, .pointer (some ⟨b11, 0, none⟩))] ∧ L = (⟨b23_0, ([.int .i64 v23s.size] ++ flat cg_T_ring_place v23sg0), 66, (0, 0)⟩ :: (⟨b11, [.int .u64 v83.Frame, .int .u64 v83.Seed, .int .i32 v83.Players.1.X, .int .i32 v83.Players.1.Y, .int .i32 v83.Players.1.VX, .int .i32 v83.Players.1.VY, .int .u8 v83.Players.1.Health, .int .u8 v83.Players.1.Cool, .int .u8 v83.Players.1.Face, .int .i32 v83.Players.2.X, .int .i32 v83.Players.2.Y, .int .i32 v83.Players.2.VX, .int .i32 v83.Players.2.VY, .int .u8 v83.Players.2.Health, .int .u8 v83.Players.2.Cool, .int .u8 v83.Players.2.Face, .slice v83a0 v83n0 v83c0, .int .u16 v83.Score.1, .int .u16 v83.Score.2], 30, (0, 0)⟩ :: (v23sP0 ++ (j29_9B0 ++ (j29_9P0 ++ (v83B0 ++ []))))))) ?_ ?_
        · refine wc_k2 (Ls := (⟨b23_0, ([.int .i64 v23s.size] ++ flat cg_T_ring_place v23sg0), 66, (0, 0)⟩ :: (v23sP0 ++ (j29_9B0 ++ (j29_9P0 ++ []))))) [10, 11, 12] [10, 12] [0, 0, 2, 6, 15, 31, 0, 0, 192, 448, 1023, 0, 4095] [0, 1, 2, 3, 4, 5, 6, 7, 8, 9] (by kernel_rfl) (by kernel_rfl) (by kernel_rfl) ?_
          refine k_val rfl rfl rfl (pSub (pCons Sel.hc (pApp Sel.ha (pApp Sel.ha (pApp Sel.ha pNil))))) (stepV_ok tt_ok rfl) rfl ?_
          refine k_val rfl rfl rfl (pSub (pCons Sel.hc (pApp Sel.ha (pApp Sel.ha (pApp Sel.ha pNil))))) (stepV_ok tt_ok rfl) rfl ?_
          refine k_val (v := .int .i64 (j29_9.length : Int)) rfl rfl rfl (pSub (pCons Sel.hc (pApp Sel.ha (pApp Sel.ha (pApp Sel.ha pNil))))) (val_len tt_ok rfl rfl j29_9N0) rfl ?_
          refine k_val (v := .int .i64 (IntKind.wrap .i64 ((j29_9.length : Int) - (1 : Int)))) rfl rfl rfl (pSub (pCons Sel.hc (pApp Sel.ha (pApp Sel.ha (pApp Sel.ha pNil))))) (stepV_ok tt_ok rfl) rfl ?_
          obtain ⟨G77, y77⟩ := getI_g j29_9G0 x77
          refine k_val (v := .pointer (some ((adOf j29_9a0).add ((IntKind.wrap .i64 ((j29_9.length : Int) - (1 : Int))).toNat * 19 + 0)))) rfl rfl rfl (pSub (pCons Sel.hc (pApp Sel.ha (pApp Sel.ha (pApp Sel.ha pNil))))) (val_ix (enc := cg_T_api_State) tt_ok rfl rfl rfl rfl (len_g j29_9N0 j29_9G0) (Rds.of_vec j29_9V0) cg_T_api_State_len rfl y77) rfl ?_
          refine k_val (v := .agg #[.int .u64 v77.Frame, .int .u64 v77.Seed, .int .i32 v77.Players.1.X, .int .i32 v77.Players.1.Y, .int .i32 v77.Players.1.VX, .int .i32 v77.Players.1.VY, .int .u8 v77.Players.1.Health, .int .u8 v77.Players.1.Cool, .int .u8 v77.Players.1.Face, .int .i32 v77.Players.2.X, .int .i32 v77.Players.2.Y, .int .i32 v77.Players.2.VX, .int .i32 v77.Players.2.VY, .int .u8 v77.Players.2.Health, .int .u8 v77.Players.2.Cool, .int .u8 v77.Players.2.Face, .slice G77.1 G77.2.1 G77.2.2, .int .u16 v77.Score.1, .int .u16 v77.Score.2]) rfl rfl rfl (pSub (pCons Sel.hc (pApp Sel.ha (pApp Sel.ha (pApp Sel.ha pNil))))) (val_le (enc := cg_T_api_State) (xs := j29_9g0) tt_ok rfl (Rds.of_vec j29_9V0) ⟨_, (Sel.sc (Sel.sa Sel.ha))⟩ cg_T_api_State_len y77 rfl) rfl ?_
          refine k_val rfl rfl rfl (pSub (pCons Sel.hc (pApp Sel.ha (pApp Sel.ha (pApp Sel.ha pNil))))) (stepV_ok tt_ok rfl) rfl ?_
          refine k_val rfl rfl rfl (pSub (pCons Sel.hc (pApp Sel.ha (pApp Sel.ha (pApp Sel.ha pNil))))) (stepV_ok tt_ok rfl) rfl ?_
          refine k_val (v := .pointer (some ((adOf p1a0).add (j29_10.toNat * 2 + 0)))) rfl rfl rfl (pSub (pCons Sel.hc (pApp Sel.ha (pApp Sel.ha (pApp Sel.ha pNil))))) (val_ix (enc := (e2 .u8)) tt_ok rfl rfl rfl rfl p1N0 p1S0 (e2_len _) rfl x81) rfl ?_
          refine k_val (v := .agg #[.int .u8 v81.1, .int .u8 v81.2]) rfl rfl rfl (pSub (pCons Sel.hc (pApp Sel.ha (pApp Sel.ha (pApp Sel.ha pNil))))) (val_le (enc := (e2 .u8)) (xs := p1) tt_ok rfl p1S0 rsub_nil (e2_len _) x81 rfl) rfl ?_
          refine k_two (i := 10) (j := 11) (t1 := [11, 12]) (t2 := [10, 12]) (by kernel_rfl) (by kernel_rfl) (by kernel_rfl) (by kernel_rfl) ?_ ?_
          · refine k_csf rfl rfl Tryd.call9 rfl rfl rfl (s_sp (k_step_Step (p0 := v77) (allrd_get j29_9A0 y77).1 (allrd_get j29_9A0 y77).2.1 x83) pNil (fun w hI => ⟨(Rds.call (allrd_get j29_9A0 y77).2.2.1 pNil ⟨_, (Sel.sc (Sel.sa (Sel.sa Sel.ha)))⟩) w hI, (Rds.call G0S pNil rsub_nil) w hI, (Rds.call G1S pNil rsub_nil) w hI⟩)) rfl (.inl rfl) ?_
            rintro _ _ ⟨_, ⟨v83a0, v83n0, v83c0, v83B0, v83N0, v83V0, rfl, rfl⟩, rfl⟩
            refine k_chg rfl rfl rfl (chg_alloc tt_ok rfl) rfl (.inr (by rintro _ _ ⟨_, rfl, rfl⟩; exact ⟨_, (pCons (Sel.sc (Sel.sa Sel.hc)) (pApp (Sel.sc (Sel.sa Sel.ha)) (pApp (Sel.sc (Sel.sa Sel.ha)) (pApp (Sel.sc (Sel.sa Sel.ha)) pNil))))⟩)) ?_
            rintro _ _ ⟨b11, rfl, rfl⟩
            refine k_chg0 rfl rfl rfl (chg_store tt_ok rfl Upd.here rfl rfl rfl rfl rfl rfl) (.inl rfl) ?_
            rintro _ _ rfl
            refine k_end (by kernel_rfl) ?_
            exact wx_join ⟨b11, v83a0, v83n0, v83c0, v83B0, v83N0, v83V0, rfl, rfl⟩ (agree_cons rfl (agree_cons rfl (agree_cons rfl (agree_cons rfl (agree_cons rfl (agree_cons rfl (agree_cons rfl agree_nil))))))) (pSub (pCons (Sel.sc (Sel.sa Sel.hc)) (pCons Sel.hc (pApp (Sel.sa Sel.ha) (pApp (Sel.sa Sel.ha) (pApp (Sel.sa Sel.ha) (pApp Sel.ha pNil)))))))
          refine k_chgf rfl rfl (chg_alloc tt_ok rfl) rfl (.inr (by rintro _ _ ⟨_, rfl, rfl⟩; exact ⟨_, (pCons (Sel.sc Sel.hc) (pApp (Sel.sc Sel.ha) (pApp (Sel.sc Sel.ha) (pApp (Sel.sc Sel.ha) pNil))))⟩)) ?_
          rintro _ _ ⟨b11, rfl, rfl⟩
          refine k_cs rfl rfl rfl Tryd.call9 rfl rfl rfl (s_sp (k_step_Step (p0 := v77) (allrd_get j29_9A0 y77).1 (allrd_get j29_9A0 y77).2.1 x83) pNil (fun w hI => ⟨(Rds.call (allrd_get j29_9A0 y77).2.2.1 pNil ⟨_, (Sel.sc (Sel.sc (Sel.sa (Sel.sa Sel.ha))))⟩) w hI, (Rds.call G0S pNil rsub_nil) w hI, (Rds.call G1S pNil rsub_nil) w hI⟩)) rfl (.inl rfl) ?_
          rintro _ _ ⟨_, ⟨v83a0, v83n0, v83c0, v83B0, v83N0, v83V0, rfl, rfl⟩, rfl⟩
          refine k_chg0 rfl rfl rfl (chg_store tt_ok rfl (Upd.right Upd.here) rfl rfl rfl rfl rfl rfl) (.inl rfl) ?_
          rintro _ _ rfl
          refine k_end (by kernel_rfl) ?_
          exact wx_join ⟨b11, v83a0, v83n0, v83c0, v83B0, v83N0, v83V0, rfl, rfl⟩ (agree_cons rfl (agree_cons rfl (agree_cons rfl (agree_cons rfl (agree_cons rfl (agree_cons rfl (agree_cons rfl agree_nil))))))) (pSub (pCons (Sel.sa (Sel.sc Sel.hc)) (pCons (Sel.sa Sel.hc) (pApp (Sel.sa Sel.ha) (pApp (Sel.sa Sel.ha) (pApp (Sel.sa Sel.ha) (pApp Sel.ha pNil)))))))
        rintro _ _ ⟨b11, v83a0, v83n0, v83c0, v83B0, v83N0, v83V0, rfl, rfl⟩
        refine wc_region ?_
        refine wl_pure tt_ok rfl rfl ?_
        refine wl_val (v := .agg #[.int .u64 v83.Frame, .int .u64 v83.Seed, .int .i32 v83.Players.1.X, .int .i32 v83.Players.1.Y, .int .i32 v83.Players.1.VX, .int .i32 v83.Players.1.VY, .int .u8 v83.Players.1.Health, .int .u8 v83.Players.1.Cool, .int .u8 v83.Players.1.Face, .int .i32 v83.Players.2.X, .int .i32 v83.Players.2.Y, .int .i32 v83.Players.2.VX, .int .i32 v83.Players.2.VY, .int .u8 v83.Players.2.Health, .int .u8 v83.Players.2.Cool, .int .u8 v83.Players.2.Face, .slice v83a0 v83n0 v83c0, .int .u16 v83.Score.1, .int .u16 v83.Score.2]) (val_load tt_ok rfl (List.Mem.tail _ (List.Mem.head _)) rfl) rfl ?_
        refine wl_chg (chg_bsv (enc := cg_T_api_State) (xs := ([(v83, (v83a0, v83n0, v83c0))] : List (T_api_State × G))) tt_ok rfl rfl rfl rfl rfl rfl rfl rfl cg_T_api_State_len) rfl ?_
        rintro _ _ ⟨a86, n86_, c86, B86, rfl, N86, V86, rfl⟩
        refine wl_sub (L' := ((j29_9P0 ++ v83B0) ++ (B86 ++ (⟨b23_0, ([.int .i64 v23s.size] ++ flat cg_T_ring_place v23sg0), 66, (0, 0)⟩ :: (⟨b11, [.int .u64 v83.Frame, .int .u64 v83.Seed, .int .i32 v83.Players.1.X, .int .i32 v83.Players.1.Y, .int .i32 v83.Players.1.VX, .int .i32 v83.Players.1.VY, .int .u8 v83.Players.1.Health, .int .u8 v83.Players.1.Cool, .int .u8 v83.Players.1.Face, .int .i32 v83.Players.2.X, .int .i32 v83.Players.2.Y, .int .i32 v83.Players.2.VX, .int .i32 v83.Players.2.VY, .int .u8 v83.Players.2.Health, .int .u8 v83.Players.2.Cool, .int .u8 v83.Players.2.Face, .slice v83a0 v83n0 v83c0, .int .u16 v83.Score.1, .int .u16 v83.Score.2], 30, (0, 0)⟩ :: (v23sP0 ++ (j29_9B0 ++ []))))))) (pMerge (Sel.sa (Sel.sc (Sel.sc (Sel.sa (Sel.sa Sel.ha))))) (Sel.sa (Sel.sc (Sel.sc (Sel.sa (Sel.sa Sel.ha)))))) ?_
        replace h := bsome h; obtain ⟨v87, x87, h⟩ := h
        refine wl_chg (chg_app (enc := cg_T_api_State) (ys := ([(v83, (v83a0, v83n0, v83c0))] : List (T_api_State × G))) tt_ok rfl rfl rfl rfl rfl rfl (len_g j29_9N0 j29_9G0) (len_g N86 rfl) j29_9V0 (Sel.sa (Sel.sa (Sel.sc (Sel.sc (Sel.sa Sel.ha))))) (Rds.of_vec V86) ⟨_, (Sel.sa Sel.ha)⟩ cg_T_api_State_len (fun _ => rfl) rfl (app_g (l := j29_9g0) (m := ([(v83, (v83a0, v83n0, v83c0))] : List (T_api_State × G))) j29_9G0 rfl x87).1) rfl ?_
        rintro _ _ ⟨a87, n87_, c87, B87, rfl, N87, V87, rfl⟩
        refine wl_pure tt_ok rfl rfl ?_
        refine wl_nil (wx_block (wx_then (wc_region ?_)))
        refine wl_pure tt_ok rfl rfl ?_
        refine wl_pure (v := .int .i64 (IntKind.wrap .i64 (j29_10 + (1 : Int)))) tt_ok rfl rfl ?_
        refine wl_pure tt_ok rfl rfl ?_
        refine wl_nil ?_
        exact wx_round m29 (Nat.lt_succ_self m29) ⟨v87, (IntKind.wrap .i64 (j29_10 + (1 : Int))), a87, n87_, c87, B87, (j29_9g0 ++ ([(v83, (v83a0, v83n0, v83c0))] : List (T_api_State × G))), (j29_9P0 ++ v83B0), h, (appn_g (app_g (l := j29_9g0) (m := ([(v83, (v83a0, v83n0, v83c0))] : List (T_api_State × G))) j29_9G0 rfl x87).2 N87), V87, (app_g (l := j29_9g0) (m := ([(v83, (v83a0, v83n0, v83c0))] : List (T_api_State × G))) j29_9G0 rfl x87).2, (allrd_app (allrd_left j29_9A0) (allrd_right (allrd_one (sh := sh_T_api_State) (x := v83) (s := v83.Shots) rfl v83N0 (vec_cap v83V0) (Rds.of_vec v83V0) (own_Z v83V0)))), rfl, rfl⟩ (agree_cons rfl (agree_cons rfl (agree_cons rfl (agree_cons rfl (agree_cons rfl (agree_cons rfl agree_nil)))))) (pSub (pCons (Sel.sa (Sel.sa (Sel.sa Sel.hc))) (pApp (Sel.sa (Sel.sa (Sel.sa (Sel.sc Sel.ha)))) (pApp Sel.ha (pApp Sel.ha pNil)))))
      replace h := cf hc h
      refine wc_skip (wx_block (wx_then (wc_region ?_)))
      refine wl_pure tt_ok rfl rfl ?_
      refine wl_pure (v := .int .i64 (IntKind.wrap .i64 (j29_10 + (1 : Int)))) tt_ok rfl rfl ?_
      refine wl_pure tt_ok rfl rfl ?_
      refine wl_nil ?_
      exact wx_round m29 (Nat.lt_succ_self m29) ⟨j29_9, (IntKind.wrap .i64 (j29_10 + (1 : Int))), j29_9a0, j29_9n0, j29_9c0, j29_9B0, j29_9g0, j29_9P0, h, j29_9N0, j29_9V0, j29_9G0, j29_9A0, rfl, rfl⟩ (agree_cons rfl (agree_cons rfl (agree_cons rfl (agree_cons rfl (agree_cons rfl (agree_cons rfl agree_nil)))))) (pSub (pCons Sel.hc (pApp Sel.ha (pApp Sel.ha (pApp Sel.ha pNil)))))
    replace h := cf hc h
    refine wl_skip rfl rfl ?_
    refine wl_skip rfl rfl ?_
    refine wl_skip rfl rfl ?_
    refine wl_skip rfl rfl ?_
    refine wl_skip rfl rfl ?_
    refine wl_skip rfl rfl ?_
    simp only [Option.some.injEq, Prod.mk.injEq] at h
    obtain rfl := h
    have h := hg72; clear hg72
    refine wl_pure (v := .bool false) tt_ok rfl rfl ?_
    refine wl_nil (wx_then ?_)
    replace h := cf rfl h
    refine wc_cond_false rfl ?_
    refine wc_skip (wx_block (wx_then (wc_region ?_)))
    refine wl_pure tt_ok rfl rfl ?_
    refine wl_pure (v := .int .i64 (IntKind.wrap .i64 (j29_10 + (1 : Int)))) tt_ok rfl rfl ?_
    refine wl_pure tt_ok rfl rfl ?_
    refine wl_nil ?_
    exact wx_round m29 (Nat.lt_succ_self m29) ⟨j29_9, (IntKind.wrap .i64 (j29_10 + (1 : Int))), j29_9a0, j29_9n0, j29_9c0, j29_9B0, j29_9g0, j29_9P0, h, j29_9N0, j29_9V0, j29_9G0, j29_9A0, rfl, rfl⟩ (agree_cons rfl (agree_cons rfl (agree_cons rfl (agree_cons rfl (agree_cons rfl (agree_cons rfl agree_nil)))))) (pSub (pCons Sel.hc (pApp Sel.ha (pApp Sel.ha (pApp Sel.ha pNil)))))
  replace h := cf hc h
  refine wc_exit (wx_then_exit ?_)
  simp only [Option.some.injEq] at h
  obtain rfl := h
  have h := hl29; clear hl29; try dsimp only [orE_l, orE_r] at h
  refine wx_then_exit (wx_block_exit (wx_then (wc_seq (wc_seq (wc_region ?_)))))
  refine wl_pure tt_ok rfl rfl ?_
  refine wl_nil (wx_then (wc_block ?_))
  replace h := bsome h; obtain ⟨o50, h, hl50⟩ := h
  refine wc_loop (fun m E L => ∃ (j50_12 : Int) (j50_n23_0_f0 : Int) (j50_n23_0_f1 : (Arr T_ring_place 14)) (j50_n23_0_f1g0 : List (T_ring_place × G)) (j50_n23_0_f1P0 : List Blk), m_hindcastlaw25_RingHolds_L49 F j29_9 m j50_12 j50_n23_0_f0 j50_n23_0_f1 = some o50 ∧ j50_n23_0_f1.1 = unG j50_n23_0_f1g0 ∧ AllP sh_T_ring_place c_T_api_Shot j50_n23_0_f1P0 j50_n23_0_f1g0 ∧ E = [(6, .bool false), (7, .int .i64 (IntKind.wrap .i64 ((1 : Int) + (IntKind.wrap .i64 (Int.tmod p2 14))))), (8, .pointer (some ⟨b23_0, 0, none⟩)), (9, .slice j29_9a0 j29_9n0 j29_9c0), (12, .int .i64 j50_12)] ∧ L = (⟨b23_0, ([.int .i64 j50_n23_0_f0] ++ flat cg_T_ring_place j50_n23_0_f1g0), 66, (0, 0)⟩ :: (j50_n23_0_f1P0 ++ (j29_9B0 ++ (j29_9P0 ++ []))))) F ⟨(0 : Int), v23s.size, v23s.places, v23sg0, v23sP0, h, v23sG0, v23sA0, rfl, rfl⟩ (agree_cons rfl (agree_cons rfl (agree_cons rfl (agree_cons rfl (agree_cons rfl agree_nil))))) (pSub (pCons Sel.hc (pApp Sel.ha (pApp Sel.ha (pApp Sel.ha pNil))))) ?_
  clear h
  rintro m50 _ _ ⟨j50_12, j50_n23_0_f0, j50_n23_0_f1, j50_n23_0_f1g0, j50_n23_0_f1P0, h, j50_n23_0_f1G0, j50_n23_0_f1A0, rfl, rfl⟩
  rcases m50 with _ | m50
  · rw [m_hindcastlaw25_RingHolds_L49.eq_1] at h; cases h
  rw [m_hindcastlaw25_RingHolds_L49.eq_2] at h
  refine wc_seq (wc_seq (wc_region ?_))
  iterate 2 refine wl_pure tt_ok rfl rfl ?_
  refine wl_val (v := .int .i64 (j29_9.length : Int)) (val_len tt_ok rfl rfl j29_9N0) rfl ?_
  refine wl_pure (v := .bool (decide (j50_12 < (j29_9.length : Int)))) tt_ok rfl rfl ?_
  refine wl_nil (wx_then ?_)
  refine wc_cond rfl (fun hc => ?_) (fun hc => ?_)
  · replace h := ct hc h
    refine wc_skip (wx_then (wc_seq (wc_block (wc_seq (wc_region ?_)))))
    iterate 3 refine wl_pure tt_ok rfl rfl ?_
    replace h := bsome h; obtain ⟨v97, x97, h⟩ := h
    obtain ⟨G97, y97⟩ := getI_g j29_9G0 x97
    refine wl_val (v := .pointer (some ((adOf j29_9a0).add (j50_12.toNat * 19 + 0)))) (val_ix (enc := cg_T_api_State) tt_ok rfl rfl rfl rfl (len_g j29_9N0 j29_9G0) (Rds.of_vec j29_9V0) cg_T_api_State_len rfl y97) rfl ?_
    refine wl_val (v := .agg #[.int .u64 v97.Frame, .int .u64 v97.Seed, .int .i32 v97.Players.1.X, .int .i32 v97.Players.1.Y, .int .i32 v97.Players.1.VX, .int .i32 v97.Players.1.VY, .int .u8 v97.Players.1.Health, .int .u8 v97.Players.1.Cool, .int .u8 v97.Players.1.Face, .int .i32 v97.Players.2.X, .int .i32 v97.Players.2.Y, .int .i32 v97.Players.2.VX, .int .i32 v97.Players.2.VY, .int .u8 v97.Players.2.Health, .int .u8 v97.Players.2.Cool, .int .u8 v97.Players.2.Face, .slice G97.1 G97.2.1 G97.2.2, .int .u16 v97.Score.1, .int .u16 v97.Score.2]) (val_le (enc := cg_T_api_State) (xs := j29_9g0) tt_ok rfl (Rds.of_vec j29_9V0) ⟨_, (Sel.sc (Sel.sa Sel.ha))⟩ cg_T_api_State_len y97 rfl) rfl ?_
    replace h := bsome h; obtain ⟨⟨o99_0, v99⟩, x99, h⟩ := h; try dsimp only at h
    refine wl_cs Tryd.call10 rfl rfl rfl (s_sp (k_ring_Ring_Put (p0 := (T_ring_Ring.mk j50_n23_0_f0 j50_n23_0_f1)) (p1 := v97) j50_n23_0_f1G0 j50_n23_0_f1A0 (allrd_get j29_9A0 y97).1 (allrd_get j29_9A0 y97).2.1 (allrd_get j29_9A0 y97).2.2.2 x99) (pCons Sel.hc (pApp Sel.ha pNil)) (fun w hI => ⟨(Rds.call (allrd_get j29_9A0 y97).2.2.1 (pCons Sel.hc (pApp Sel.ha pNil)) ⟨_, (Sel.sa Sel.ha)⟩) w hI, (Rds.call G0S (pCons Sel.hc (pApp Sel.ha pNil)) rsub_nil) w hI, (Rds.call G1S (pCons Sel.hc (pApp Sel.ha pNil)) rsub_nil) w hI⟩)) rfl ?_
    rintro _ _ ⟨_, ⟨o99_0g0, o99_0P0, o99_0G0, o99_0A0, rfl, rfl⟩, rfl⟩
    refine wl_pure (v := .bool (!v99)) tt_ok rfl rfl ?_
    refine wl_nil (wx_then ?_)
    refine wc_cond rfl (fun hc => ?_) (fun hc => ?_)
    · replace h := ct hc h
      refine wc_seq (wc_region ?_)
      refine wl_pure tt_ok rfl rfl ?_
      refine wl_nil (wx_then (wc_ret (wx_block_ret (wx_then_ret ?_))))
      obtain rfl := Option.some.inj h
      have h := hl50; clear hl50; try dsimp only [orE_l, orE_r] at h
      refine wx_then_ret (wx_block_ret (wx_then_ret ?_))
      simp only [Option.some.injEq] at h
      obtain rfl := h
      exact wx_pf tt_ok (.inl rfl) Tryd.results3 (Res.tmp rfl Res.nil) rfl
    replace h := cf hc h
    refine wc_skip (wx_block (wx_then (wc_region ?_)))
    refine wl_pure tt_ok rfl rfl ?_
    refine wl_pure (v := .int .i64 (IntKind.wrap .i64 (j50_12 + (1 : Int)))) tt_ok rfl rfl ?_
    refine wl_pure tt_ok rfl rfl ?_
    refine wl_nil ?_
    exact wx_round m50 (Nat.lt_succ_self m50) ⟨(IntKind.wrap .i64 (j50_12 + (1 : Int))), o99_0.size, o99_0.places, o99_0g0, o99_0P0, h, o99_0G0, o99_0A0, rfl, rfl⟩ (agree_cons rfl (agree_cons rfl (agree_cons rfl (agree_cons rfl (agree_cons rfl agree_nil))))) (pSub (pCons Sel.hc (pApp Sel.ha (pApp Sel.ha (pApp Sel.ha pNil)))))
  replace h := cf hc h
  refine wc_exit (wx_then_exit ?_)
  obtain rfl := Option.some.inj h
  have h := hl50; clear hl50; try dsimp only [orE_l, orE_r] at h
  refine wx_then_exit (wx_block_exit (wx_then (wc_seq (wc_seq (wc_region ?_)))))
  refine wl_pure tt_ok rfl rfl ?_
  refine wl_nil (wx_then (wc_block ?_))
  replace h := bsome h; obtain ⟨o71, h, hl71⟩ := h
  refine wc_loop (fun m E L => ∃ (j71_13 : Int), m_hindcastlaw25_RingHolds_L70 F p2 j29_9 false j50_n23_0_f0 j50_n23_0_f1 m j71_13 = some o71 ∧ E = [(6, .bool false), (7, .int .i64 (IntKind.wrap .i64 ((1 : Int) + (IntKind.wrap .i64 (Int.tmod p2 14))))), (8, .pointer (some ⟨b23_0, 0, none⟩)), (9, .slice j29_9a0 j29_9n0 j29_9c0), (13, .int .i64 j71_13)] ∧ L = (⟨b23_0, ([.int .i64 j50_n23_0_f0] ++ flat cg_T_ring_place j50_n23_0_f1g0), 66, (0, 0)⟩ :: (j50_n23_0_f1P0 ++ (j29_9B0 ++ (j29_9P0 ++ []))))) F ⟨(0 : Int), h, rfl, rfl⟩ (agree_cons rfl (agree_cons rfl (agree_cons rfl (agree_cons rfl (agree_cons rfl agree_nil))))) (pSub (pCons Sel.hc (pApp Sel.ha (pApp Sel.ha (pApp Sel.ha pNil))))) ?_
  clear h
  rintro m71 _ _ ⟨j71_13, h, rfl, rfl⟩
  rcases m71 with _ | m71
  · rw [m_hindcastlaw25_RingHolds_L70.eq_1] at h; cases h
  rw [m_hindcastlaw25_RingHolds_L70.eq_2] at h
  refine wc_seq (wc_seq (wc_region ?_))
  iterate 2 refine wl_pure tt_ok rfl rfl ?_
  refine wl_val (v := .int .i64 (j29_9.length : Int)) (val_len tt_ok rfl rfl j29_9N0) rfl ?_
  refine wl_pure (v := .bool (decide (j71_13 < (j29_9.length : Int)))) tt_ok rfl rfl ?_
  refine wl_nil (wx_then ?_)
  refine wc_cond rfl (fun hc => ?_) (fun hc => ?_)
  · replace h := ct hc h
    refine wc_skip (wx_then (wc_seq (wc_block (wc_seq (wc_region ?_)))))
    iterate 3 refine wl_pure tt_ok rfl rfl ?_
    replace h := bsome h; obtain ⟨v111, x111, h⟩ := h
    obtain ⟨G111, y111⟩ := getI_g j29_9G0 x111
    refine wl_val (v := .pointer (some ((adOf j29_9a0).add (j71_13.toNat * 19 + 0)))) (val_ix (enc := cg_T_api_State) tt_ok rfl rfl rfl rfl (len_g j29_9N0 j29_9G0) (Rds.of_vec j29_9V0) cg_T_api_State_len rfl y111) rfl ?_
    refine wl_val (v := .pointer (some ((adOf j29_9a0).add (j71_13.toNat * 19 + 0)))) (val_fa (k := j71_13.toNat * 19 + 0) (off := 0) tt_ok rfl rfl rfl rfl rfl) rfl ?_
    refine wl_val (v := .int .u64 v111.Frame) (val_le (enc := cg_T_api_State) (xs := j29_9g0) tt_ok rfl (Rds.of_vec j29_9V0) ⟨_, (Sel.sc (Sel.sa Sel.ha))⟩ cg_T_api_State_len y111 rfl) rfl ?_
    replace h := bsome h; obtain ⟨⟨v114_0, v114_1⟩, x114, h⟩ := h; try dsimp only at h
    refine wl_cs Tryd.call11 rfl rfl rfl (s_sp (k_ring_Ring_At (p0 := (T_ring_Ring.mk j50_n23_0_f0 j50_n23_0_f1)) j50_n23_0_f1G0 j50_n23_0_f1A0 x114) (pCons Sel.hc (pApp Sel.ha pNil)) (fun _ _ => trivial)) rfl ?_
    rintro _ _ ⟨_, ⟨v114_0a0, v114_0n0, v114_0c0, v114_0B0, v114_0N0, v114_0V0, rfl, rfl⟩, rfl⟩
    iterate 3 refine wl_pure tt_ok rfl rfl ?_
    refine wl_alloc tt_ok rfl rfl (fun b14 => ?_)
    apply wl_store tt_ok; rfl; exact Upd.here; rfl; rfl; rfl; rfl; rfl; rfl
    refine wl_pure tt_ok rfl rfl ?_
    refine wl_nil (wx_then (wc_seq (wc_region ?_)))
    iterate 3 refine wl_pure tt_ok rfl rfl ?_
    refine wl_pure (v := .int .i64 (IntKind.wrap .i64 (j71_13 + (IntKind.wrap .i64 ((1 : Int) + (IntKind.wrap .i64 (Int.tmod p2 14))))))) tt_ok rfl rfl ?_
    refine wl_pure tt_ok rfl rfl ?_
    refine wl_val (v := .int .i64 (j29_9.length : Int)) (val_len tt_ok rfl rfl j29_9N0) rfl ?_
    refine wl_pure (v := .bool (decide ((j29_9.length : Int) ≤ (IntKind.wrap .i64 (j71_13 + (IntKind.wrap .i64 ((1 : Int) + (IntKind.wrap .i64 (Int.tmod p2 14))))))))) tt_ok rfl rfl ?_
    refine wl_pure (v := .bool (v114_1 != (decide ((j29_9.length : Int) ≤ (IntKind.wrap .i64 (j71_13 + (IntKind.wrap .i64 ((1 : Int) + (IntKind.wrap .i64 (Int.tmod p2 14)))))))))) tt_ok rfl rfl ?_
    refine wl_pure tt_ok rfl rfl ?_
    replace h := bsome h; obtain ⟨v136, h, hg136⟩ := h
    refine wl_split (t := 125) rfl (fun hc => ?_) (fun hc => ?_)
    · replace h := ct hc h
      refine wl_skip rfl rfl ?_
      refine wl_skip rfl rfl ?_
      refine wl_skip rfl rfl ?_
      refine wl_skip rfl rfl ?_
      refine wl_skip rfl rfl ?_
      refine wl_skip rfl rfl ?_
      refine wl_skip rfl rfl ?_
      refine wl_skip rfl rfl ?_
      refine wl_skip rfl rfl ?_
      refine wl_skip rfl rfl ?_
      simp only [Option.some.injEq, Prod.mk.injEq] at h
      obtain rfl := h
      have h := hg136; clear hg136
      refine wl_pure (v := .bool true) tt_ok rfl rfl ?_
      refine wl_nil (wx_then ?_)
      replace h := ct rfl h
      refine wc_cond_true rfl ?_
      refine wc_seq (wc_region ?_)
      refine wl_pure tt_ok rfl rfl ?_
      refine wl_nil (wx_then (wc_ret (wx_block_ret (wx_then_ret ?_))))
      obtain rfl := Option.some.inj h
      have h := hl71; clear hl71; try dsimp only [orE_l, orE_r] at h
      refine wx_then_ret (wx_block_ret (wx_then_ret ?_))
      simp only [Option.some.injEq] at h
      obtain rfl := h
      exact wx_pf tt_ok (.inl rfl) Tryd.results3 (Res.tmp rfl Res.nil) rfl
    replace h := cf hc h
    refine wl_run rfl ?_
    refine wl_pure tt_ok rfl rfl ?_
    refine wl_run rfl ?_
    refine wl_pure tt_ok rfl rfl ?_
    replace h := bsome h; obtain ⟨v135, h, hg135⟩ := h
    refine wl_split (t := 127) rfl (fun hc => ?_) (fun hc => ?_)
    · replace h := ct hc h
      refine wl_run rfl ?_
      refine wl_pure tt_ok rfl rfl ?_
      refine wl_run rfl ?_
      refine wl_pure tt_ok rfl rfl ?_
      refine wl_run rfl ?_
      refine wl_pure tt_ok rfl rfl ?_
      replace h := bsome h; obtain ⟨v131, x131, h⟩ := h
      obtain ⟨G131, y131⟩ := getI_g j29_9G0 x131
      refine wl_run rfl ?_
      refine wl_val (v := .pointer (some ((adOf j29_9a0).add (j71_13.toNat * 19 + 0)))) (val_ix (enc := cg_T_api_State) tt_ok rfl rfl rfl rfl (len_g j29_9N0 j29_9G0) (Rds.of_vec j29_9V0) cg_T_api_State_len rfl y131) rfl ?_
      refine wl_run rfl ?_
      refine wl_val (v := .agg #[.int .u64 v131.Frame, .int .u64 v131.Seed, .int .i32 v131.Players.1.X, .int .i32 v131.Players.1.Y, .int .i32 v131.Players.1.VX, .int .i32 v131.Players.1.VY, .int .u8 v131.Players.1.Health, .int .u8 v131.Players.1.Cool, .int .u8 v131.Players.1.Face, .int .i32 v131.Players.2.X, .int .i32 v131.Players.2.Y, .int .i32 v131.Players.2.VX, .int .i32 v131.Players.2.VY, .int .u8 v131.Players.2.Health, .int .u8 v131.Players.2.Cool, .int .u8 v131.Players.2.Face, .slice G131.1 G131.2.1 G131.2.2, .int .u16 v131.Score.1, .int .u16 v131.Score.2]) (val_le (enc := cg_T_api_State) (xs := j29_9g0) tt_ok rfl (Rds.of_vec j29_9V0) ⟨_, (Sel.sc (Sel.sc (Sel.sa (Sel.sa Sel.ha))))⟩ cg_T_api_State_len y131 rfl) rfl ?_
      replace h := bsome h; obtain ⟨v133, x133, h⟩ := h
      refine wl_run rfl ?_
      refine wl_cq Tryd.call12 rfl rfl rfl (q_rd (k_hindcastlaw25_holds (p0 := (T_ring_Ring.mk j50_n23_0_f0 j50_n23_0_f1)) (p1 := v131) j50_n23_0_f1G0 j50_n23_0_f1A0 (allrd_get j29_9A0 y131).1 (allrd_get j29_9A0 y131).2.1 x133) (pCons (Sel.sc Sel.hc) (pApp (Sel.sc Sel.ha) pNil)) (Rds.call (allrd_get j29_9A0 y131).2.2.1 (pCons (Sel.sc Sel.hc) (pApp (Sel.sc Sel.ha) pNil)) ⟨_, (Sel.sc (Sel.sa (Sel.sa Sel.ha)))⟩)) rfl ?_
      refine wl_run rfl ?_
      refine wl_pure (v := .bool (!v133)) tt_ok rfl rfl ?_
      simp only [Option.some.injEq, Prod.mk.injEq] at h
      obtain rfl := h
      have h := hg135; clear hg135
      refine wl_run rfl ?_
      refine wl_pure (v := .bool (!v133)) tt_ok rfl rfl ?_
      simp only [Option.some.injEq, Prod.mk.injEq] at h
      obtain rfl := h
      have h := hg136; clear hg136
      refine wl_pure (v := .bool (!v133)) tt_ok rfl rfl ?_
      refine wl_nil (wx_then ?_)
      refine wc_cond rfl (fun hc => ?_) (fun hc => ?_)
      · replace h := ct hc h
        refine wc_seq (wc_region ?_)
        refine wl_pure tt_ok rfl rfl ?_
        refine wl_nil (wx_then (wc_ret (wx_block_ret (wx_then_ret ?_))))
        obtain rfl := Option.some.inj h
        have h := hl71; clear hl71; try dsimp only [orE_l, orE_r] at h
        refine wx_then_ret (wx_block_ret (wx_then_ret ?_))
        simp only [Option.some.injEq] at h
        obtain rfl := h
        exact wx_pf tt_ok (.inl rfl) Tryd.results3 (Res.tmp rfl Res.nil) rfl
      replace h := cf hc h
      refine wc_skip (wx_block (wx_then (wc_region ?_)))
      refine wl_pure tt_ok rfl rfl ?_
      refine wl_pure (v := .int .i64 (IntKind.wrap .i64 (j71_13 + (1 : Int)))) tt_ok rfl rfl ?_
      refine wl_pure tt_ok rfl rfl ?_
      refine wl_nil ?_
      exact wx_round m71 (Nat.lt_succ_self m71) ⟨(IntKind.wrap .i64 (j71_13 + (1 : Int))), h, rfl, rfl⟩ (agree_cons rfl (agree_cons rfl (agree_cons rfl (agree_cons rfl (agree_cons rfl agree_nil))))) (pSub (pCons (Sel.sc Sel.hc) (pApp (Sel.sc Sel.ha) (pApp (Sel.sc (Sel.sa Sel.ha)) (pApp (Sel.sc (Sel.sa Sel.ha)) pNil)))))
    replace h := cf hc h
    refine wl_skip rfl rfl ?_
    refine wl_skip rfl rfl ?_
    refine wl_skip rfl rfl ?_
    refine wl_skip rfl rfl ?_
    refine wl_skip rfl rfl ?_
    refine wl_skip rfl rfl ?_
    refine wl_skip rfl rfl ?_
    simp only [Option.some.injEq, Prod.mk.injEq] at h
    obtain rfl := h
    have h := hg135; clear hg135
    refine wl_run rfl ?_
    refine wl_pure (v := .bool false) tt_ok rfl rfl ?_
    simp only [Option.some.injEq, Prod.mk.injEq] at h
    obtain rfl := h
    have h := hg136; clear hg136
    refine wl_pure (v := .bool false) tt_ok rfl rfl ?_
    refine wl_nil (wx_then ?_)
    replace h := cf rfl h
    refine wc_cond_false rfl ?_
    refine wc_skip (wx_block (wx_then (wc_region ?_)))
    refine wl_pure tt_ok rfl rfl ?_
    refine wl_pure (v := .int .i64 (IntKind.wrap .i64 (j71_13 + (1 : Int)))) tt_ok rfl rfl ?_
    refine wl_pure tt_ok rfl rfl ?_
    refine wl_nil ?_
    exact wx_round m71 (Nat.lt_succ_self m71) ⟨(IntKind.wrap .i64 (j71_13 + (1 : Int))), h, rfl, rfl⟩ (agree_cons rfl (agree_cons rfl (agree_cons rfl (agree_cons rfl (agree_cons rfl agree_nil))))) (pSub (pCons (Sel.sc Sel.hc) (pApp (Sel.sc Sel.ha) (pApp (Sel.sc (Sel.sa Sel.ha)) (pApp (Sel.sc (Sel.sa Sel.ha)) pNil)))))
  replace h := cf hc h
  refine wc_exit (wx_then_exit ?_)
  obtain rfl := Option.some.inj h
  have h := hl71; clear hl71; try dsimp only [orE_l, orE_r] at h
  refine wx_then_exit (wx_block_exit (wx_then (wc_seq (wc_region ?_))))
  refine wl_pure tt_ok rfl rfl ?_
  replace h := bsome h; obtain ⟨⟨v139_0, v139_1⟩, x139, h⟩ := h; try dsimp only at h
  refine wl_cs Tryd.call13 rfl rfl rfl (s_sp (k_ring_Ring_Newest (p0 := (T_ring_Ring.mk j50_n23_0_f0 j50_n23_0_f1)) j50_n23_0_f1G0 j50_n23_0_f1A0 x139) (pCons Sel.hc (pApp Sel.ha pNil)) (fun _ _ => trivial)) rfl ?_
  rintro _ _ ⟨_, ⟨v139_0a0, v139_0n0, v139_0c0, v139_0B0, v139_0N0, v139_0V0, rfl, rfl⟩, rfl⟩
  iterate 3 refine wl_pure tt_ok rfl rfl ?_
  refine wl_alloc tt_ok rfl rfl (fun b16 => ?_)
  apply wl_store tt_ok; rfl; exact Upd.here; rfl; rfl; rfl; rfl; rfl; rfl
  refine wl_pure tt_ok rfl rfl ?_
  refine wl_nil (wx_then (wc_seq ?_))
  refine wc_quiet (by kernel_rfl) (by kernel_rfl) ?_
  refine wq_pure tt_ok rfl rfl ?_
  refine wq_pure tt_ok rfl rfl ?_
  replace h := bsome h; obtain ⟨v152, h, hg152⟩ := h
  refine wq_split (t := 143) rfl (fun hc => ?_) (fun hc => ?_)
  · replace h := ct hc h
    refine wq_run rfl ?_
    refine wq_val (v := .agg #[.int .u64 v139_0.Frame, .int .u64 v139_0.Seed, .int .i32 v139_0.Players.1.X, .int .i32 v139_0.Players.1.Y, .int .i32 v139_0.Players.1.VX, .int .i32 v139_0.Players.1.VY, .int .u8 v139_0.Players.1.Health, .int .u8 v139_0.Players.1.Cool, .int .u8 v139_0.Players.1.Face, .int .i32 v139_0.Players.2.X, .int .i32 v139_0.Players.2.Y, .int .i32 v139_0.Players.2.VX, .int .i32 v139_0.Players.2.VY, .int .u8 v139_0.Players.2.Health, .int .u8 v139_0.Players.2.Cool, .int .u8 v139_0.Players.2.Face, .slice v139_0a0 v139_0n0 v139_0c0, .int .u16 v139_0.Score.1, .int .u16 v139_0.Score.2]) (val_load tt_ok rfl (List.Mem.head _) rfl) rfl ?_
    refine wq_run rfl ?_
    refine wq_pure tt_ok rfl rfl ?_
    refine wq_run rfl ?_
    refine wq_pure tt_ok rfl rfl ?_
    refine wq_run rfl ?_
    refine wq_val (v := .int .i64 (j29_9.length : Int)) (val_len tt_ok rfl rfl j29_9N0) rfl ?_
    refine wq_run rfl ?_
    refine wq_pure (v := .int .i64 (IntKind.wrap .i64 ((j29_9.length : Int) - (1 : Int)))) tt_ok rfl rfl ?_
    replace h := bsome h; obtain ⟨v149, x149, h⟩ := h
    obtain ⟨G149, y149⟩ := getI_g j29_9G0 x149
    refine wq_run rfl ?_
    refine wq_val (v := .pointer (some ((adOf j29_9a0).add ((IntKind.wrap .i64 ((j29_9.length : Int) - (1 : Int))).toNat * 19 + 0)))) (val_ix (enc := cg_T_api_State) tt_ok rfl rfl rfl rfl (len_g j29_9N0 j29_9G0) (Rds.of_vec j29_9V0) cg_T_api_State_len rfl y149) rfl ?_
    refine wq_run rfl ?_
    refine wq_val (v := .agg #[.int .u64 v149.Frame, .int .u64 v149.Seed, .int .i32 v149.Players.1.X, .int .i32 v149.Players.1.Y, .int .i32 v149.Players.1.VX, .int .i32 v149.Players.1.VY, .int .u8 v149.Players.1.Health, .int .u8 v149.Players.1.Cool, .int .u8 v149.Players.1.Face, .int .i32 v149.Players.2.X, .int .i32 v149.Players.2.Y, .int .i32 v149.Players.2.VX, .int .i32 v149.Players.2.VY, .int .u8 v149.Players.2.Health, .int .u8 v149.Players.2.Cool, .int .u8 v149.Players.2.Face, .slice G149.1 G149.2.1 G149.2.2, .int .u16 v149.Score.1, .int .u16 v149.Score.2]) (val_le (enc := cg_T_api_State) (xs := j29_9g0) tt_ok rfl (Rds.of_vec j29_9V0) ⟨_, (Sel.sc (Sel.sc (Sel.sa (Sel.sa Sel.ha))))⟩ cg_T_api_State_len y149 rfl) rfl ?_
    replace h := bsome h; obtain ⟨v151, x151, h⟩ := h
    refine wq_run rfl ?_
    refine wq_cq Tryd.call14 rfl rfl rfl (q_pf (k_state_Same (p0 := v139_0) (p1 := v149) v139_0N0 (vec_cap v139_0V0) (allrd_get j29_9A0 y149).1 (allrd_get j29_9A0 y149).2.1 x151) (fun w hI => ⟨(Rds.call (Rds.of_vec v139_0V0) pNil ⟨_, (Sel.sc (Sel.sc (Sel.sa Sel.ha)))⟩) w hI, (Rds.call (allrd_get j29_9A0 y149).2.2.1 pNil ⟨_, (Sel.sc (Sel.sc (Sel.sa (Sel.sa (Sel.sa Sel.ha)))))⟩) w hI⟩)) rfl ?_
    simp only [Option.some.injEq, Prod.mk.injEq] at h
    obtain rfl := h
    have h := hg152; clear hg152
    refine wq_pure (v := .bool v151) tt_ok rfl rfl ?_
    refine wq_pure tt_ok rfl rfl ?_
    replace h := bsome h; obtain ⟨v161, h, hg161⟩ := h
    refine wq_split (t := 153) rfl (fun hc => ?_) (fun hc => ?_)
    · replace h := ct hc h
      refine wq_run rfl ?_
      refine wq_pure tt_ok rfl rfl ?_
      replace h := bsome h; obtain ⟨v155, x155, h⟩ := h
      refine wq_run rfl ?_
      refine wq_cq Tryd.call15 rfl rfl rfl (q_rd (k_ring_Ring_Len (p0 := (T_ring_Ring.mk j50_n23_0_f0 j50_n23_0_f1)) j50_n23_0_f1G0 j50_n23_0_f1A0 x155) (pCons (Sel.sc Sel.hc) (pApp (Sel.sc Sel.ha) pNil)) (fun _ _ => trivial)) rfl ?_
      refine wq_run rfl ?_
      refine wq_pure tt_ok rfl rfl ?_
      refine wq_run rfl ?_
      refine wq_pure tt_ok rfl rfl ?_
      refine wq_run rfl ?_
      refine wq_val (v := .int .i64 (j29_9.length : Int)) (val_len tt_ok rfl rfl j29_9N0) rfl ?_
      refine wq_run rfl ?_
      refine wq_pure (v := .int .i64 (min (IntKind.wrap .i64 ((1 : Int) + (IntKind.wrap .i64 (Int.tmod p2 14)))) (j29_9.length : Int))) tt_ok rfl rfl ?_
      refine wq_run rfl ?_
      refine wq_pure (v := .bool (v155 == (min (IntKind.wrap .i64 ((1 : Int) + (IntKind.wrap .i64 (Int.tmod p2 14)))) (j29_9.length : Int)))) tt_ok rfl rfl ?_
      simp only [Option.some.injEq, Prod.mk.injEq] at h
      obtain rfl := h
      have h := hg161; clear hg161
      refine wq_pure (v := .bool (v155 == (min (IntKind.wrap .i64 ((1 : Int) + (IntKind.wrap .i64 (Int.tmod p2 14)))) (j29_9.length : Int)))) tt_ok rfl rfl ?_
      refine wq_pure tt_ok rfl rfl ?_
      replace h := bsome h; obtain ⟨v164, h, hg164⟩ := h
      refine wq_split (t := 162) rfl (fun hc => ?_) (fun hc => ?_)
      · replace h := ct hc h
        replace h := bsome h; obtain ⟨v163, x163, h⟩ := h
        refine wq_run rfl ?_
        refine wq_cq Tryd.call7 rfl rfl rfl (q_pf (k_hindcastlaw25_awake x163) (fun w hI => ⟨(Rds.call G0S pNil rsub_nil) w hI, (Rds.call G1S pNil rsub_nil) w hI⟩)) rfl ?_
        simp only [Option.some.injEq, Prod.mk.injEq] at h
        obtain rfl := h
        have h := hg164; clear hg164
        refine wq_pure (v := .bool v163) tt_ok rfl rfl ?_
        refine wq_pure tt_ok rfl rfl ?_
        refine wq_nil ?_
        refine wx_then (wc_ret ?_)
        simp only [Option.some.injEq] at h
        obtain rfl := h
        exact wx_pf tt_ok (.inl rfl) Tryd.results3 (Res.tmp rfl Res.nil) rfl
      replace h := cf hc h
      refine wq_skip rfl rfl ?_
      simp only [Option.some.injEq, Prod.mk.injEq] at h
      obtain rfl := h
      have h := hg164; clear hg164
      refine wq_pure (v := .bool false) tt_ok rfl rfl ?_
      refine wq_pure tt_ok rfl rfl ?_
      refine wq_nil ?_
      refine wx_then (wc_ret ?_)
      simp only [Option.some.injEq] at h
      obtain rfl := h
      exact wx_pf tt_ok (.inl rfl) Tryd.results3 (Res.tmp rfl Res.nil) rfl
    replace h := cf hc h
    refine wq_skip rfl rfl ?_
    refine wq_skip rfl rfl ?_
    refine wq_skip rfl rfl ?_
    refine wq_skip rfl rfl ?_
    refine wq_skip rfl rfl ?_
    refine wq_skip rfl rfl ?_
    refine wq_skip rfl rfl ?_
    simp only [Option.some.injEq, Prod.mk.injEq] at h
    obtain rfl := h
    have h := hg161; clear hg161
    refine wq_pure (v := .bool false) tt_ok rfl rfl ?_
    refine wq_pure tt_ok rfl rfl ?_
    replace h := bsome h; obtain ⟨v164, h, hg164⟩ := h
    replace h := cf rfl h
    refine wq_skip rfl rfl ?_
    simp only [Option.some.injEq, Prod.mk.injEq] at h
    obtain rfl := h
    have h := hg164; clear hg164
    refine wq_pure (v := .bool false) tt_ok rfl rfl ?_
    refine wq_pure tt_ok rfl rfl ?_
    refine wq_nil ?_
    refine wx_then (wc_ret ?_)
    simp only [Option.some.injEq] at h
    obtain rfl := h
    exact wx_pf tt_ok (.inl rfl) Tryd.results3 (Res.tmp rfl Res.nil) rfl
  replace h := cf hc h
  refine wq_skip rfl rfl ?_
  refine wq_skip rfl rfl ?_
  refine wq_skip rfl rfl ?_
  refine wq_skip rfl rfl ?_
  refine wq_skip rfl rfl ?_
  refine wq_skip rfl rfl ?_
  refine wq_skip rfl rfl ?_
  refine wq_skip rfl rfl ?_
  simp only [Option.some.injEq, Prod.mk.injEq] at h
  obtain rfl := h
  have h := hg152; clear hg152
  refine wq_pure (v := .bool false) tt_ok rfl rfl ?_
  refine wq_pure tt_ok rfl rfl ?_
  replace h := bsome h; obtain ⟨v161, h, hg161⟩ := h
  replace h := cf rfl h
  refine wq_skip rfl rfl ?_
  refine wq_skip rfl rfl ?_
  refine wq_skip rfl rfl ?_
  refine wq_skip rfl rfl ?_
  refine wq_skip rfl rfl ?_
  refine wq_skip rfl rfl ?_
  refine wq_skip rfl rfl ?_
  simp only [Option.some.injEq, Prod.mk.injEq] at h
  obtain rfl := h
  have h := hg161; clear hg161
  refine wq_pure (v := .bool false) tt_ok rfl rfl ?_
  refine wq_pure tt_ok rfl rfl ?_
  replace h := bsome h; obtain ⟨v164, h, hg164⟩ := h
  replace h := cf rfl h
  refine wq_skip rfl rfl ?_
  simp only [Option.some.injEq, Prod.mk.injEq] at h
  obtain rfl := h
  have h := hg164; clear hg164
  refine wq_pure (v := .bool false) tt_ok rfl rfl ?_
  refine wq_pure tt_ok rfl rfl ?_
  refine wq_nil ?_
  refine wx_then (wc_ret ?_)
  simp only [Option.some.injEq] at h
  obtain rfl := h
  exact wx_pf tt_ok (.inl rfl) Tryd.results3 (Res.tmp rfl Res.nil) rfl

end Go.Proofs.YtbbkblolaficdaaDoor
