/-
  Each function computes what its model says. Printed by a program of this claim's own.
-/
import Derived.Test.YtbbkblolaficdaaDoorTab
import Derived.Test.YtbbkblolaficdaaDoorMod
import Derived.Test.YtbbkblolaficdaaDoorWalk2
namespace Go.Proofs.YtbbkblolaficdaaDoor
open Go.Proofs.YtbbkblolaficdaaDoor.Eng
set_option linter.unusedVariables false
set_option linter.unusedSimpArgs false
set_option maxHeartbeats 4000000
set_option maxRecDepth 20000

theorem k_hindcastlaw25_awake {F : Nat} {r0 : Bool} (h : m_hindcastlaw25_awake F = some r0) :
    Pf Tryd.prog 7 [] (fun w => Rds w [] [] (some ⟨0, 0, none⟩) (flat (fun _ : Unit => gl_state_playerBounds) [()]) ∧ Rds w [] [] (some ⟨1, 0, none⟩) (flat (fun _ : Unit => gl_state_shotBounds) [()])) (.bool r0) := by
  unfold m_hindcastlaw25_awake at h
  refine pf_of_wc Tryd.func7 rfl Tryd.ntmps7 rfl rfl (fun w0 hR => ?_)
  obtain ⟨G0S, G1S⟩ := hR
  refine wc_seq (wc_region ?_)
  refine wl_pure tt_ok rfl rfl ?_
  refine wl_nil (wx_then (wc_seq (wc_region ?_)))
  replace h := bsome h; obtain ⟨v2, x2, h⟩ := h
  rcases v2 with _ | v2s
  · replace h := poN h
    refine wl_cs Tryd.call6 rfl rfl rfl (s_sp (k_ring_New_none x2) pNil (fun _ _ => trivial)) rfl ?_
    rintro _ _ ⟨_, ⟨rfl, rfl⟩, rfl⟩
    refine wl_pure tt_ok rfl rfl ?_
    refine wl_nil (wx_then (wc_seq (wc_region ?_)))
    refine wl_pure tt_ok rfl rfl ?_
    refine wl_pure (v := .bool false) tt_ok rfl rfl ?_
    refine wl_pure tt_ok rfl rfl ?_
    refine wl_skip rfl rfl ?_
    refine wl_skip rfl rfl ?_
    refine wl_skip rfl rfl ?_
    refine wl_pure (v := .bool false) tt_ok rfl rfl ?_
    refine wl_pure tt_ok rfl rfl ?_
    refine wl_skip rfl rfl ?_
    refine wl_skip rfl rfl ?_
    refine wl_skip rfl rfl ?_
    refine wl_pure (v := .bool false) tt_ok rfl rfl ?_
    refine wl_pure tt_ok rfl rfl ?_
    refine wl_skip rfl rfl ?_
    refine wl_skip rfl rfl ?_
    refine wl_skip rfl rfl ?_
    refine wl_pure (v := .bool false) tt_ok rfl rfl ?_
    refine wl_pure tt_ok rfl rfl ?_
    refine wl_skip rfl rfl ?_
    refine wl_skip rfl rfl ?_
    refine wl_skip rfl rfl ?_
    refine wl_pure (v := .bool false) tt_ok rfl rfl ?_
    refine wl_pure tt_ok rfl rfl ?_
    refine wl_skip rfl rfl ?_
    refine wl_skip rfl rfl ?_
    refine wl_skip rfl rfl ?_
    refine wl_skip rfl rfl ?_
    refine wl_pure (v := .bool false) tt_ok rfl rfl ?_
    refine wl_pure tt_ok rfl rfl ?_
    refine wl_skip rfl rfl ?_
    refine wl_skip rfl rfl ?_
    refine wl_skip rfl rfl ?_
    refine wl_pure (v := .bool false) tt_ok rfl rfl ?_
    refine wl_pure tt_ok rfl rfl ?_
    refine wl_skip rfl rfl ?_
    refine wl_skip rfl rfl ?_
    refine wl_skip rfl rfl ?_
    refine wl_pure (v := .bool false) tt_ok rfl rfl ?_
    refine wl_pure tt_ok rfl rfl ?_
    refine wl_nil (wx_then (wc_ret ?_))
    simp only [Option.some.injEq] at h
    obtain rfl := h
    exact wx_pf tt_ok (.inl rfl) Tryd.results7 (Res.tmp rfl Res.nil) rfl
  replace h := poS h
  refine wl_cs Tryd.call6 rfl rfl rfl (s_sp (k_ring_New x2) pNil (fun _ _ => trivial)) rfl ?_
  rintro _ _ ⟨_, ⟨b2_0, v2sg0, v2sP0, v2sG0, v2sA0, rfl, rfl⟩, rfl⟩
  refine wl_pure tt_ok rfl rfl ?_
  refine wl_nil (wx_then (wc_seq (wc_region ?_)))
  refine wl_pure tt_ok rfl rfl ?_
  refine wl_pure (v := .bool true) tt_ok rfl rfl ?_
  refine wl_pure tt_ok rfl rfl ?_
  refine wl_run rfl ?_
  refine wl_pure tt_ok rfl rfl ?_
  replace h := bsome h; obtain ⟨v7, x7, h⟩ := h
  refine wl_run rfl ?_
  refine wl_cs Tryd.call19 rfl rfl rfl (s_sp (k_hindcastlaw25_at x7) pNil (fun w hI => ⟨(Rds.call G0S pNil rsub_nil) w hI, (Rds.call G1S pNil rsub_nil) w hI⟩)) rfl ?_
  rintro _ _ ⟨_, ⟨v7a0, v7n0, v7c0, v7B0, v7N0, v7V0, rfl, rfl⟩, rfl⟩
  replace h := bsome h; obtain ⟨⟨o8_0, v8⟩, x8, h⟩ := h; try dsimp only at h
  refine wl_run rfl ?_
  refine wl_cs Tryd.call10 rfl rfl rfl (s_sp (k_ring_Ring_Put (p0 := v2s) (p1 := v7) v2sG0 v2sA0 v7N0 (vec_cap v7V0) (own_Z v7V0) x8) (pCons (Sel.sa Sel.hc) (pApp (Sel.sa Sel.ha) pNil)) (fun w hI => ⟨(Rds.call (Rds.of_vec v7V0) (pCons (Sel.sa Sel.hc) (pApp (Sel.sa Sel.ha) pNil)) ⟨_, Sel.ha⟩) w hI, (Rds.call G0S (pCons (Sel.sa Sel.hc) (pApp (Sel.sa Sel.ha) pNil)) rsub_nil) w hI, (Rds.call G1S (pCons (Sel.sa Sel.hc) (pApp (Sel.sa Sel.ha) pNil)) rsub_nil) w hI⟩)) rfl ?_
  rintro _ _ ⟨_, ⟨o8_0g0, o8_0P0, o8_0G0, o8_0A0, rfl, rfl⟩, rfl⟩
  refine wl_pure (v := .bool v8) tt_ok rfl rfl ?_
  refine wl_pure tt_ok rfl rfl ?_
  replace h := bsome h; obtain ⟨⟨v14, g14_n2_0_f0, g14_n2_0_f1⟩, h, hg14⟩ := h
  refine wl_split (t := 10) rfl (fun hc => ?_) (fun hc => ?_)
  · replace h := ct hc h
    refine wl_run rfl ?_
    refine wl_pure tt_ok rfl rfl ?_
    replace h := bsome h; obtain ⟨v12, x12, h⟩ := h
    refine wl_run rfl ?_
    refine wl_cs Tryd.call19 rfl rfl rfl (s_sp (k_hindcastlaw25_at x12) pNil (fun w hI => ⟨(Rds.call G0S pNil rsub_nil) w hI, (Rds.call G1S pNil rsub_nil) w hI⟩)) rfl ?_
    rintro _ _ ⟨_, ⟨v12a0, v12n0, v12c0, v12B0, v12N0, v12V0, rfl, rfl⟩, rfl⟩
    replace h := bsome h; obtain ⟨⟨o13_0, v13⟩, x13, h⟩ := h; try dsimp only at h
    refine wl_run rfl ?_
    refine wl_cs Tryd.call10 rfl rfl rfl (s_sp (k_ring_Ring_Put (p0 := o8_0) (p1 := v12) o8_0G0 o8_0A0 v12N0 (vec_cap v12V0) (own_Z v12V0) x13) (pCons (Sel.sa Sel.hc) (pApp (Sel.sa Sel.ha) pNil)) (fun w hI => ⟨(Rds.call (Rds.of_vec v12V0) (pCons (Sel.sa Sel.hc) (pApp (Sel.sa Sel.ha) pNil)) ⟨_, Sel.ha⟩) w hI, (Rds.call G0S (pCons (Sel.sa Sel.hc) (pApp (Sel.sa Sel.ha) pNil)) rsub_nil) w hI, (Rds.call G1S (pCons (Sel.sa Sel.hc) (pApp (Sel.sa Sel.ha) pNil)) rsub_nil) w hI⟩)) rfl ?_
    rintro _ _ ⟨_, ⟨o13_0g0, o13_0P0, o13_0G0, o13_0A0, rfl, rfl⟩, rfl⟩
    simp only [Option.some.injEq, Prod.mk.injEq] at h
    obtain ⟨rfl, rfl, rfl⟩ := h
    have h := hg14; clear hg14; try dsimp only at h
    refine wl_pure (v := .bool v13) tt_ok rfl rfl ?_
    refine wl_pure tt_ok rfl rfl ?_
    replace h := bsome h; obtain ⟨v19, h, hg19⟩ := h
    refine wl_split (t := 15) rfl (fun hc => ?_) (fun hc => ?_)
    · replace h := ct hc h
      refine wl_run rfl ?_
      refine wl_pure tt_ok rfl rfl ?_
      replace h := bsome h; obtain ⟨v17, x17, h⟩ := h
      refine wl_run rfl ?_
      refine wl_cs Tryd.call19 rfl rfl rfl (s_sp (k_hindcastlaw25_at x17) pNil (fun w hI => ⟨(Rds.call G0S pNil rsub_nil) w hI, (Rds.call G1S pNil rsub_nil) w hI⟩)) rfl ?_
      rintro _ _ ⟨_, ⟨v17a0, v17n0, v17c0, v17B0, v17N0, v17V0, rfl, rfl⟩, rfl⟩
      replace h := bsome h; obtain ⟨v18, x18, h⟩ := h
      refine wl_run rfl ?_
      refine wl_cq Tryd.call12 rfl rfl rfl (q_rd (k_hindcastlaw25_holds (p0 := o13_0) (p1 := v17) o13_0G0 o13_0A0 v17N0 (vec_cap v17V0) x18) (pCons (Sel.sa Sel.hc) (pApp (Sel.sa Sel.ha) pNil)) (Rds.call (Rds.of_vec v17V0) (pCons (Sel.sa Sel.hc) (pApp (Sel.sa Sel.ha) pNil)) ⟨_, Sel.ha⟩)) rfl ?_
      simp only [Option.some.injEq, Prod.mk.injEq] at h
      obtain rfl := h
      have h := hg19; clear hg19
      refine wl_pure (v := .bool v18) tt_ok rfl rfl ?_
      refine wl_pure tt_ok rfl rfl ?_
      replace h := bsome h; obtain ⟨⟨v24, g24_n2_0_f0, g24_n2_0_f1⟩, h, hg24⟩ := h
      refine wl_split (t := 20) rfl (fun hc => ?_) (fun hc => ?_)
      · replace h := ct hc h
        refine wl_run rfl ?_
        refine wl_pure tt_ok rfl rfl ?_
        replace h := bsome h; obtain ⟨v22, x22, h⟩ := h
        refine wl_run rfl ?_
        refine wl_cs Tryd.call19 rfl rfl rfl (s_sp (k_hindcastlaw25_at x22) pNil (fun w hI => ⟨(Rds.call G0S pNil rsub_nil) w hI, (Rds.call G1S pNil rsub_nil) w hI⟩)) rfl ?_
        rintro _ _ ⟨_, ⟨v22a0, v22n0, v22c0, v22B0, v22N0, v22V0, rfl, rfl⟩, rfl⟩
        replace h := bsome h; obtain ⟨⟨o23_0, v23⟩, x23, h⟩ := h; try dsimp only at h
        refine wl_run rfl ?_
        refine wl_cs Tryd.call10 rfl rfl rfl (s_sp (k_ring_Ring_Put (p0 := o13_0) (p1 := v22) o13_0G0 o13_0A0 v22N0 (vec_cap v22V0) (own_Z v22V0) x23) (pCons (Sel.sa (Sel.sa Sel.hc)) (pApp (Sel.sa (Sel.sa Sel.ha)) pNil)) (fun w hI => ⟨(Rds.call (Rds.of_vec v22V0) (pCons (Sel.sa (Sel.sa Sel.hc)) (pApp (Sel.sa (Sel.sa Sel.ha)) pNil)) ⟨_, Sel.ha⟩) w hI, (Rds.call G0S (pCons (Sel.sa (Sel.sa Sel.hc)) (pApp (Sel.sa (Sel.sa Sel.ha)) pNil)) rsub_nil) w hI, (Rds.call G1S (pCons (Sel.sa (Sel.sa Sel.hc)) (pApp (Sel.sa (Sel.sa Sel.ha)) pNil)) rsub_nil) w hI⟩)) rfl ?_
        rintro _ _ ⟨_, ⟨o23_0g0, o23_0P0, o23_0G0, o23_0A0, rfl, rfl⟩, rfl⟩
        simp only [Option.some.injEq, Prod.mk.injEq] at h
        obtain ⟨rfl, rfl, rfl⟩ := h
        have h := hg24; clear hg24; try dsimp only at h
        refine wl_pure (v := .bool v23) tt_ok rfl rfl ?_
        refine wl_pure tt_ok rfl rfl ?_
        replace h := bsome h; obtain ⟨v30, h, hg30⟩ := h
        refine wl_split (t := 25) rfl (fun hc => ?_) (fun hc => ?_)
        · replace h := ct hc h
          refine wl_run rfl ?_
          refine wl_pure tt_ok rfl rfl ?_
          replace h := bsome h; obtain ⟨v27, x27, h⟩ := h
          refine wl_run rfl ?_
          refine wl_cs Tryd.call19 rfl rfl rfl (s_sp (k_hindcastlaw25_at x27) pNil (fun w hI => ⟨(Rds.call G0S pNil rsub_nil) w hI, (Rds.call G1S pNil rsub_nil) w hI⟩)) rfl ?_
          rintro _ _ ⟨_, ⟨v27a0, v27n0, v27c0, v27B0, v27N0, v27V0, rfl, rfl⟩, rfl⟩
          replace h := bsome h; obtain ⟨v28, x28, h⟩ := h
          refine wl_run rfl ?_
          refine wl_cq Tryd.call12 rfl rfl rfl (q_rd (k_hindcastlaw25_holds (p0 := o23_0) (p1 := v27) o23_0G0 o23_0A0 v27N0 (vec_cap v27V0) x28) (pCons (Sel.sa Sel.hc) (pApp (Sel.sa Sel.ha) pNil)) (Rds.call (Rds.of_vec v27V0) (pCons (Sel.sa Sel.hc) (pApp (Sel.sa Sel.ha) pNil)) ⟨_, Sel.ha⟩)) rfl ?_
          refine wl_run rfl ?_
          refine wl_pure (v := .bool (!v28)) tt_ok rfl rfl ?_
          simp only [Option.some.injEq, Prod.mk.injEq] at h
          obtain rfl := h
          have h := hg30; clear hg30
          refine wl_pure (v := .bool (!v28)) tt_ok rfl rfl ?_
          refine wl_pure tt_ok rfl rfl ?_
          replace h := bsome h; obtain ⟨v35, h, hg35⟩ := h
          refine wl_split (t := 31) rfl (fun hc => ?_) (fun hc => ?_)
          · replace h := ct hc h
            refine wl_run rfl ?_
            refine wl_pure tt_ok rfl rfl ?_
            replace h := bsome h; obtain ⟨v33, x33, h⟩ := h
            refine wl_run rfl ?_
            refine wl_cs Tryd.call19 rfl rfl rfl (s_sp (k_hindcastlaw25_at x33) pNil (fun w hI => ⟨(Rds.call G0S pNil rsub_nil) w hI, (Rds.call G1S pNil rsub_nil) w hI⟩)) rfl ?_
            rintro _ _ ⟨_, ⟨v33a0, v33n0, v33c0, v33B0, v33N0, v33V0, rfl, rfl⟩, rfl⟩
            replace h := bsome h; obtain ⟨v34, x34, h⟩ := h
            refine wl_run rfl ?_
            refine wl_cq Tryd.call12 rfl rfl rfl (q_rd (k_hindcastlaw25_holds (p0 := o23_0) (p1 := v33) o23_0G0 o23_0A0 v33N0 (vec_cap v33V0) x34) (pCons (Sel.sa (Sel.sa Sel.hc)) (pApp (Sel.sa (Sel.sa Sel.ha)) pNil)) (Rds.call (Rds.of_vec v33V0) (pCons (Sel.sa (Sel.sa Sel.hc)) (pApp (Sel.sa (Sel.sa Sel.ha)) pNil)) ⟨_, Sel.ha⟩)) rfl ?_
            simp only [Option.some.injEq, Prod.mk.injEq] at h
            obtain rfl := h
            have h := hg35; clear hg35
            refine wl_pure (v := .bool v34) tt_ok rfl rfl ?_
            refine wl_pure tt_ok rfl rfl ?_
            replace h := bsome h; obtain ⟨v40, h, hg40⟩ := h
            refine wl_split (t := 36) rfl (fun hc => ?_) (fun hc => ?_)
            · replace h := ct hc h
              refine wl_run rfl ?_
              refine wl_pure tt_ok rfl rfl ?_
              replace h := bsome h; obtain ⟨v38, x38, h⟩ := h
              refine wl_run rfl ?_
              refine wl_cq Tryd.call15 rfl rfl rfl (q_rd (k_ring_Ring_Len (p0 := o23_0) o23_0G0 o23_0A0 x38) (pCons (Sel.sa (Sel.sa Sel.hc)) (pApp (Sel.sa (Sel.sa Sel.ha)) pNil)) (fun _ _ => trivial)) rfl ?_
              refine wl_run rfl ?_
              refine wl_pure (v := .bool (v38 == (2 : Int))) tt_ok rfl rfl ?_
              simp only [Option.some.injEq, Prod.mk.injEq] at h
              obtain rfl := h
              have h := hg40; clear hg40
              refine wl_pure (v := .bool (v38 == (2 : Int))) tt_ok rfl rfl ?_
              refine wl_pure tt_ok rfl rfl ?_
              refine wl_nil (wx_then (wc_ret ?_))
              simp only [Option.some.injEq] at h
              obtain rfl := h
              exact wx_pf tt_ok (.inl rfl) Tryd.results7 (Res.tmp rfl Res.nil) rfl
            replace h := cf hc h
            refine wl_skip rfl rfl ?_
            refine wl_skip rfl rfl ?_
            refine wl_skip rfl rfl ?_
            simp only [Option.some.injEq, Prod.mk.injEq] at h
            obtain rfl := h
            have h := hg40; clear hg40
            refine wl_pure (v := .bool false) tt_ok rfl rfl ?_
            refine wl_pure tt_ok rfl rfl ?_
            refine wl_nil (wx_then (wc_ret ?_))
            simp only [Option.some.injEq] at h
            obtain rfl := h
            exact wx_pf tt_ok (.inl rfl) Tryd.results7 (Res.tmp rfl Res.nil) rfl
          replace h := cf hc h
          refine wl_skip rfl rfl ?_
          refine wl_skip rfl rfl ?_
          refine wl_skip rfl rfl ?_
          simp only [Option.some.injEq, Prod.mk.injEq] at h
          obtain rfl := h
          have h := hg35; clear hg35
          refine wl_pure (v := .bool false) tt_ok rfl rfl ?_
          refine wl_pure tt_ok rfl rfl ?_
          replace h := bsome h; obtain ⟨v40, h, hg40⟩ := h
          replace h := cf rfl h
          refine wl_skip rfl rfl ?_
          refine wl_skip rfl rfl ?_
          refine wl_skip rfl rfl ?_
          simp only [Option.some.injEq, Prod.mk.injEq] at h
          obtain rfl := h
          have h := hg40; clear hg40
          refine wl_pure (v := .bool false) tt_ok rfl rfl ?_
          refine wl_pure tt_ok rfl rfl ?_
          refine wl_nil (wx_then (wc_ret ?_))
          simp only [Option.some.injEq] at h
          obtain rfl := h
          exact wx_pf tt_ok (.inl rfl) Tryd.results7 (Res.tmp rfl Res.nil) rfl
        replace h := cf hc h
        refine wl_skip rfl rfl ?_
        refine wl_skip rfl rfl ?_
        refine wl_skip rfl rfl ?_
        refine wl_skip rfl rfl ?_
        simp only [Option.some.injEq, Prod.mk.injEq] at h
        obtain rfl := h
        have h := hg30; clear hg30
        refine wl_pure (v := .bool false) tt_ok rfl rfl ?_
        refine wl_pure tt_ok rfl rfl ?_
        replace h := bsome h; obtain ⟨v35, h, hg35⟩ := h
        replace h := cf rfl h
        refine wl_skip rfl rfl ?_
        refine wl_skip rfl rfl ?_
        refine wl_skip rfl rfl ?_
        simp only [Option.some.injEq, Prod.mk.injEq] at h
        obtain rfl := h
        have h := hg35; clear hg35
        refine wl_pure (v := .bool false) tt_ok rfl rfl ?_
        refine wl_pure tt_ok rfl rfl ?_
        replace h := bsome h; obtain ⟨v40, h, hg40⟩ := h
        replace h := cf rfl h
        refine wl_skip rfl rfl ?_
        refine wl_skip rfl rfl ?_
        refine wl_skip rfl rfl ?_
        simp only [Option.some.injEq, Prod.mk.injEq] at h
        obtain rfl := h
        have h := hg40; clear hg40
        refine wl_pure (v := .bool false) tt_ok rfl rfl ?_
        refine wl_pure tt_ok rfl rfl ?_
        refine wl_nil (wx_then (wc_ret ?_))
        simp only [Option.some.injEq] at h
        obtain rfl := h
        exact wx_pf tt_ok (.inl rfl) Tryd.results7 (Res.tmp rfl Res.nil) rfl
      replace h := cf hc h
      refine wl_skip rfl rfl ?_
      refine wl_skip rfl rfl ?_
      refine wl_skip rfl rfl ?_
      simp only [Option.some.injEq, Prod.mk.injEq] at h
      obtain ⟨rfl, rfl, rfl⟩ := h
      have h := hg24; clear hg24; try dsimp only at h
      refine wl_pure (v := .bool false) tt_ok rfl rfl ?_
      refine wl_pure tt_ok rfl rfl ?_
      replace h := bsome h; obtain ⟨v30, h, hg30⟩ := h
      replace h := cf rfl h
      refine wl_skip rfl rfl ?_
      refine wl_skip rfl rfl ?_
      refine wl_skip rfl rfl ?_
      refine wl_skip rfl rfl ?_
      simp only [Option.some.injEq, Prod.mk.injEq] at h
      obtain rfl := h
      have h := hg30; clear hg30
      refine wl_pure (v := .bool false) tt_ok rfl rfl ?_
      refine wl_pure tt_ok rfl rfl ?_
      replace h := bsome h; obtain ⟨v35, h, hg35⟩ := h
      replace h := cf rfl h
      refine wl_skip rfl rfl ?_
      refine wl_skip rfl rfl ?_
      refine wl_skip rfl rfl ?_
      simp only [Option.some.injEq, Prod.mk.injEq] at h
      obtain rfl := h
      have h := hg35; clear hg35
      refine wl_pure (v := .bool false) tt_ok rfl rfl ?_
      refine wl_pure tt_ok rfl rfl ?_
      replace h := bsome h; obtain ⟨v40, h, hg40⟩ := h
      replace h := cf rfl h
      refine wl_skip rfl rfl ?_
      refine wl_skip rfl rfl ?_
      refine wl_skip rfl rfl ?_
      simp only [Option.some.injEq, Prod.mk.injEq] at h
      obtain rfl := h
      have h := hg40; clear hg40
      refine wl_pure (v := .bool false) tt_ok rfl rfl ?_
      refine wl_pure tt_ok rfl rfl ?_
      refine wl_nil (wx_then (wc_ret ?_))
      simp only [Option.some.injEq] at h
      obtain rfl := h
      exact wx_pf tt_ok (.inl rfl) Tryd.results7 (Res.tmp rfl Res.nil) rfl
    replace h := cf hc h
    refine wl_skip rfl rfl ?_
    refine wl_skip rfl rfl ?_
    refine wl_skip rfl rfl ?_
    simp only [Option.some.injEq, Prod.mk.injEq] at h
    obtain rfl := h
    have h := hg19; clear hg19
    refine wl_pure (v := .bool false) tt_ok rfl rfl ?_
    refine wl_pure tt_ok rfl rfl ?_
    replace h := bsome h; obtain ⟨⟨v24, g24_n2_0_f0, g24_n2_0_f1⟩, h, hg24⟩ := h
    replace h := cf rfl h
    refine wl_skip rfl rfl ?_
    refine wl_skip rfl rfl ?_
    refine wl_skip rfl rfl ?_
    simp only [Option.some.injEq, Prod.mk.injEq] at h
    obtain ⟨rfl, rfl, rfl⟩ := h
    have h := hg24; clear hg24; try dsimp only at h
    refine wl_pure (v := .bool false) tt_ok rfl rfl ?_
    refine wl_pure tt_ok rfl rfl ?_
    replace h := bsome h; obtain ⟨v30, h, hg30⟩ := h
    replace h := cf rfl h
    refine wl_skip rfl rfl ?_
    refine wl_skip rfl rfl ?_
    refine wl_skip rfl rfl ?_
    refine wl_skip rfl rfl ?_
    simp only [Option.some.injEq, Prod.mk.injEq] at h
    obtain rfl := h
    have h := hg30; clear hg30
    refine wl_pure (v := .bool false) tt_ok rfl rfl ?_
    refine wl_pure tt_ok rfl rfl ?_
    replace h := bsome h; obtain ⟨v35, h, hg35⟩ := h
    replace h := cf rfl h
    refine wl_skip rfl rfl ?_
    refine wl_skip rfl rfl ?_
    refine wl_skip rfl rfl ?_
    simp only [Option.some.injEq, Prod.mk.injEq] at h
    obtain rfl := h
    have h := hg35; clear hg35
    refine wl_pure (v := .bool false) tt_ok rfl rfl ?_
    refine wl_pure tt_ok rfl rfl ?_
    replace h := bsome h; obtain ⟨v40, h, hg40⟩ := h
    replace h := cf rfl h
    refine wl_skip rfl rfl ?_
    refine wl_skip rfl rfl ?_
    refine wl_skip rfl rfl ?_
    simp only [Option.some.injEq, Prod.mk.injEq] at h
    obtain rfl := h
    have h := hg40; clear hg40
    refine wl_pure (v := .bool false) tt_ok rfl rfl ?_
    refine wl_pure tt_ok rfl rfl ?_
    refine wl_nil (wx_then (wc_ret ?_))
    simp only [Option.some.injEq] at h
    obtain rfl := h
    exact wx_pf tt_ok (.inl rfl) Tryd.results7 (Res.tmp rfl Res.nil) rfl
  replace h := cf hc h
  refine wl_skip rfl rfl ?_
  refine wl_skip rfl rfl ?_
  refine wl_skip rfl rfl ?_
  simp only [Option.some.injEq, Prod.mk.injEq] at h
  obtain ⟨rfl, rfl, rfl⟩ := h
  have h := hg14; clear hg14; try dsimp only at h
  refine wl_pure (v := .bool false) tt_ok rfl rfl ?_
  refine wl_pure tt_ok rfl rfl ?_
  replace h := bsome h; obtain ⟨v19, h, hg19⟩ := h
  replace h := cf rfl h
  refine wl_skip rfl rfl ?_
  refine wl_skip rfl rfl ?_
  refine wl_skip rfl rfl ?_
  simp only [Option.some.injEq, Prod.mk.injEq] at h
  obtain rfl := h
  have h := hg19; clear hg19
  refine wl_pure (v := .bool false) tt_ok rfl rfl ?_
  refine wl_pure tt_ok rfl rfl ?_
  replace h := bsome h; obtain ⟨⟨v24, g24_n2_0_f0, g24_n2_0_f1⟩, h, hg24⟩ := h
  replace h := cf rfl h
  refine wl_skip rfl rfl ?_
  refine wl_skip rfl rfl ?_
  refine wl_skip rfl rfl ?_
  simp only [Option.some.injEq, Prod.mk.injEq] at h
  obtain ⟨rfl, rfl, rfl⟩ := h
  have h := hg24; clear hg24; try dsimp only at h
  refine wl_pure (v := .bool false) tt_ok rfl rfl ?_
  refine wl_pure tt_ok rfl rfl ?_
  replace h := bsome h; obtain ⟨v30, h, hg30⟩ := h
  replace h := cf rfl h
  refine wl_skip rfl rfl ?_
  refine wl_skip rfl rfl ?_
  refine wl_skip rfl rfl ?_
  refine wl_skip rfl rfl ?_
  simp only [Option.some.injEq, Prod.mk.injEq] at h
  obtain rfl := h
  have h := hg30; clear hg30
  refine wl_pure (v := .bool false) tt_ok rfl rfl ?_
  refine wl_pure tt_ok rfl rfl ?_
  replace h := bsome h; obtain ⟨v35, h, hg35⟩ := h
  replace h := cf rfl h
  refine wl_skip rfl rfl ?_
  refine wl_skip rfl rfl ?_
  refine wl_skip rfl rfl ?_
  simp only [Option.some.injEq, Prod.mk.injEq] at h
  obtain rfl := h
  have h := hg35; clear hg35
  refine wl_pure (v := .bool false) tt_ok rfl rfl ?_
  refine wl_pure tt_ok rfl rfl ?_
  replace h := bsome h; obtain ⟨v40, h, hg40⟩ := h
  replace h := cf rfl h
  refine wl_skip rfl rfl ?_
  refine wl_skip rfl rfl ?_
  refine wl_skip rfl rfl ?_
  simp only [Option.some.injEq, Prod.mk.injEq] at h
  obtain rfl := h
  have h := hg40; clear hg40
  refine wl_pure (v := .bool false) tt_ok rfl rfl ?_
  refine wl_pure tt_ok rfl rfl ?_
  refine wl_nil (wx_then (wc_ret ?_))
  simp only [Option.some.injEq] at h
  obtain rfl := h
  exact wx_pf tt_ok (.inl rfl) Tryd.results7 (Res.tmp rfl Res.nil) rfl

theorem k_hindcastlaw25_RingKnown {F : Nat} {r0 : Bool} (h : m_hindcastlaw25_RingKnown F = some r0) :
    Pf Tryd.prog 5 [] (fun w => Rds w [] [] (some ⟨0, 0, none⟩) (flat (fun _ : Unit => gl_state_playerBounds) [()]) ∧ Rds w [] [] (some ⟨1, 0, none⟩) (flat (fun _ : Unit => gl_state_shotBounds) [()])) (.bool r0) := by
  unfold m_hindcastlaw25_RingKnown at h
  refine pf_of_wc Tryd.func5 rfl Tryd.ntmps5 rfl rfl (fun w0 hR => ?_)
  obtain ⟨G0S, G1S⟩ := hR
  refine wc_seq (wc_region ?_)
  refine wl_pure tt_ok rfl rfl ?_
  refine wl_nil (wx_then (wc_seq (wc_region ?_)))
  replace h := bsome h; obtain ⟨v13, x13, h⟩ := h
  rcases v13 with _ | v13s
  · replace h := poN h
    refine wl_cs Tryd.call6 rfl rfl rfl (s_sp (k_ring_New_none x13) pNil (fun _ _ => trivial)) rfl ?_
    rintro _ _ ⟨_, ⟨rfl, rfl⟩, rfl⟩
    refine wl_pure tt_ok rfl rfl ?_
    refine wl_nil (wx_then (wc_seq (wc_seq (wc_region ?_))))
    refine wl_pure tt_ok rfl rfl ?_
    refine wl_pure (v := .bool true) tt_ok rfl rfl ?_
    refine wl_nil (wx_then ?_)
    refine wc_cond_true rfl ?_
    refine wc_seq (wc_region ?_)
    refine wl_pure tt_ok rfl rfl ?_
    refine wl_nil (wx_then (wc_ret (wx_then_ret ?_)))
    simp only [Option.some.injEq] at h
    obtain rfl := h
    exact wx_pf tt_ok (.inl rfl) Tryd.results5 (Res.tmp rfl Res.nil) rfl
  replace h := poS h
  refine wl_cs Tryd.call6 rfl rfl rfl (s_sp (k_ring_New x13) pNil (fun _ _ => trivial)) rfl ?_
  rintro _ _ ⟨_, ⟨b13_0, v13sg0, v13sP0, v13sG0, v13sA0, rfl, rfl⟩, rfl⟩
  refine wl_pure tt_ok rfl rfl ?_
  refine wl_nil (wx_then (wc_seq (wc_seq (wc_region ?_))))
  refine wl_pure tt_ok rfl rfl ?_
  refine wl_pure (v := .bool false) tt_ok rfl rfl ?_
  refine wl_nil (wx_then ?_)
  refine wc_cond_false rfl ?_
  refine wc_skip (wx_then (wc_seq (wc_region ?_)))
  refine wl_pure tt_ok rfl rfl ?_
  replace h := bsome h; obtain ⟨⟨v18_0, v18_1⟩, x18, h⟩ := h; try dsimp only at h
  refine wl_cs Tryd.call13 rfl rfl rfl (s_sp (k_ring_Ring_Newest (p0 := v13s) v13sG0 v13sA0 x18) (pCons Sel.hc (pApp Sel.ha pNil)) (fun _ _ => trivial)) rfl ?_
  rintro _ _ ⟨_, ⟨v18_0a0, v18_0n0, v18_0c0, v18_0B0, v18_0N0, v18_0V0, rfl, rfl⟩, rfl⟩
  iterate 3 refine wl_pure tt_ok rfl rfl ?_
  refine wl_alloc tt_ok rfl rfl (fun b2 => ?_)
  apply wl_store tt_ok; rfl; exact Upd.here; rfl; rfl; rfl; rfl; rfl; rfl
  refine wl_pure tt_ok rfl rfl ?_
  refine wl_nil (wx_then (wc_seq (wc_seq (wc_region ?_))))
  iterate 2 refine wl_pure tt_ok rfl rfl ?_
  replace h := bsome h; obtain ⟨⟨v27, g27_n13_0_f0, g27_n13_0_f1⟩, h, hg27⟩ := h
  refine wl_split (t := 22) rfl (fun hc => ?_) (fun hc => ?_)
  · replace h := ct hc h
    refine wl_skip rfl rfl ?_
    refine wl_skip rfl rfl ?_
    refine wl_skip rfl rfl ?_
    refine wl_skip rfl rfl ?_
    simp only [Option.some.injEq, Prod.mk.injEq] at h
    obtain ⟨rfl, rfl, rfl⟩ := h
    have h := hg27; clear hg27; try dsimp only at h
    refine wl_pure (v := .bool true) tt_ok rfl rfl ?_
    refine wl_pure tt_ok rfl rfl ?_
    replace h := bsome h; obtain ⟨⟨v33, g33_n13_0_f0, g33_n13_0_f1⟩, h, hg33⟩ := h
    replace h := ct rfl h
    refine wl_skip rfl rfl ?_
    refine wl_skip rfl rfl ?_
    refine wl_skip rfl rfl ?_
    refine wl_skip rfl rfl ?_
    simp only [Option.some.injEq, Prod.mk.injEq] at h
    obtain ⟨rfl, rfl, rfl⟩ := h
    have h := hg33; clear hg33; try dsimp only at h
    refine wl_pure (v := .bool true) tt_ok rfl rfl ?_
    refine wl_pure tt_ok rfl rfl ?_
    replace h := bsome h; obtain ⟨⟨v39, g39_n13_0_f0, g39_n13_0_f1⟩, h, hg39⟩ := h
    replace h := ct rfl h
    refine wl_skip rfl rfl ?_
    refine wl_skip rfl rfl ?_
    refine wl_skip rfl rfl ?_
    refine wl_skip rfl rfl ?_
    simp only [Option.some.injEq, Prod.mk.injEq] at h
    obtain ⟨rfl, rfl, rfl⟩ := h
    have h := hg39; clear hg39; try dsimp only at h
    refine wl_pure (v := .bool true) tt_ok rfl rfl ?_
    refine wl_pure tt_ok rfl rfl ?_
    replace h := bsome h; obtain ⟨⟨v44, g44_n13_0_f0, g44_n13_0_f1⟩, h, hg44⟩ := h
    replace h := ct rfl h
    refine wl_skip rfl rfl ?_
    refine wl_skip rfl rfl ?_
    refine wl_skip rfl rfl ?_
    simp only [Option.some.injEq, Prod.mk.injEq] at h
    obtain ⟨rfl, rfl, rfl⟩ := h
    have h := hg44; clear hg44; try dsimp only at h
    refine wl_pure (v := .bool true) tt_ok rfl rfl ?_
    refine wl_pure tt_ok rfl rfl ?_
    replace h := bsome h; obtain ⟨v49, h, hg49⟩ := h
    replace h := ct rfl h
    refine wl_skip rfl rfl ?_
    refine wl_skip rfl rfl ?_
    refine wl_skip rfl rfl ?_
    simp only [Option.some.injEq, Prod.mk.injEq] at h
    obtain rfl := h
    have h := hg49; clear hg49
    refine wl_pure (v := .bool true) tt_ok rfl rfl ?_
    refine wl_pure tt_ok rfl rfl ?_
    replace h := bsome h; obtain ⟨⟨v54, g54_n13_0_f0, g54_n13_0_f1⟩, h, hg54⟩ := h
    replace h := ct rfl h
    refine wl_skip rfl rfl ?_
    refine wl_skip rfl rfl ?_
    refine wl_skip rfl rfl ?_
    simp only [Option.some.injEq, Prod.mk.injEq] at h
    obtain ⟨rfl, rfl, rfl⟩ := h
    have h := hg54; clear hg54; try dsimp only at h
    refine wl_pure (v := .bool true) tt_ok rfl rfl ?_
    refine wl_pure tt_ok rfl rfl ?_
    replace h := bsome h; obtain ⟨v59, h, hg59⟩ := h
    replace h := ct rfl h
    refine wl_skip rfl rfl ?_
    refine wl_skip rfl rfl ?_
    refine wl_skip rfl rfl ?_
    simp only [Option.some.injEq, Prod.mk.injEq] at h
    obtain rfl := h
    have h := hg59; clear hg59
    refine wl_pure (v := .bool true) tt_ok rfl rfl ?_
    refine wl_nil (wx_then ?_)
    replace h := ct rfl h
    refine wc_cond_true rfl ?_
    refine wc_seq (wc_region ?_)
    refine wl_pure tt_ok rfl rfl ?_
    refine wl_nil (wx_then (wc_ret (wx_then_ret ?_)))
    simp only [Option.some.injEq] at h
    obtain rfl := h
    exact wx_pf tt_ok (.inl rfl) Tryd.results5 (Res.tmp rfl Res.nil) rfl
  replace h := cf hc h
  refine wl_run rfl ?_
  refine wl_pure tt_ok rfl rfl ?_
  replace h := bsome h; obtain ⟨v24, x24, h⟩ := h
  refine wl_run rfl ?_
  refine wl_cs Tryd.call19 rfl rfl rfl (s_sp (k_hindcastlaw25_at x24) pNil (fun w hI => ⟨(Rds.call G0S pNil rsub_nil) w hI, (Rds.call G1S pNil rsub_nil) w hI⟩)) rfl ?_
  rintro _ _ ⟨_, ⟨v24a0, v24n0, v24c0, v24B0, v24N0, v24V0, rfl, rfl⟩, rfl⟩
  replace h := bsome h; obtain ⟨⟨o25_0, v25⟩, x25, h⟩ := h; try dsimp only at h
  refine wl_run rfl ?_
  refine wl_cs Tryd.call10 rfl rfl rfl (s_sp (k_ring_Ring_Put (p0 := v13s) (p1 := v24) v13sG0 v13sA0 v24N0 (vec_cap v24V0) (own_Z v24V0) x25) (pCons (Sel.sa (Sel.sc Sel.hc)) (pApp (Sel.sa (Sel.sc Sel.ha)) pNil)) (fun w hI => ⟨(Rds.call (Rds.of_vec v24V0) (pCons (Sel.sa (Sel.sc Sel.hc)) (pApp (Sel.sa (Sel.sc Sel.ha)) pNil)) ⟨_, Sel.ha⟩) w hI, (Rds.call G0S (pCons (Sel.sa (Sel.sc Sel.hc)) (pApp (Sel.sa (Sel.sc Sel.ha)) pNil)) rsub_nil) w hI, (Rds.call G1S (pCons (Sel.sa (Sel.sc Sel.hc)) (pApp (Sel.sa (Sel.sc Sel.ha)) pNil)) rsub_nil) w hI⟩)) rfl ?_
  rintro _ _ ⟨_, ⟨o25_0g0, o25_0P0, o25_0G0, o25_0A0, rfl, rfl⟩, rfl⟩
  refine wl_run rfl ?_
  refine wl_pure (v := .bool (!v25)) tt_ok rfl rfl ?_
  simp only [Option.some.injEq, Prod.mk.injEq] at h
  obtain ⟨rfl, rfl, rfl⟩ := h
  have h := hg27; clear hg27; try dsimp only at h
  refine wl_pure (v := .bool (!v25)) tt_ok rfl rfl ?_
  refine wl_pure tt_ok rfl rfl ?_
  replace h := bsome h; obtain ⟨⟨v33, g33_n13_0_f0, g33_n13_0_f1⟩, h, hg33⟩ := h
  refine wl_split (t := 28) rfl (fun hc => ?_) (fun hc => ?_)
  · replace h := ct hc h
    refine wl_skip rfl rfl ?_
    refine wl_skip rfl rfl ?_
    refine wl_skip rfl rfl ?_
    refine wl_skip rfl rfl ?_
    simp only [Option.some.injEq, Prod.mk.injEq] at h
    obtain ⟨rfl, rfl, rfl⟩ := h
    have h := hg33; clear hg33; try dsimp only at h
    refine wl_pure (v := .bool true) tt_ok rfl rfl ?_
    refine wl_pure tt_ok rfl rfl ?_
    replace h := bsome h; obtain ⟨⟨v39, g39_n13_0_f0, g39_n13_0_f1⟩, h, hg39⟩ := h
    replace h := ct rfl h
    refine wl_skip rfl rfl ?_
    refine wl_skip rfl rfl ?_
    refine wl_skip rfl rfl ?_
    refine wl_skip rfl rfl ?_
    simp only [Option.some.injEq, Prod.mk.injEq] at h
    obtain ⟨rfl, rfl, rfl⟩ := h
    have h := hg39; clear hg39; try dsimp only at h
    refine wl_pure (v := .bool true) tt_ok rfl rfl ?_
    refine wl_pure tt_ok rfl rfl ?_
    replace h := bsome h; obtain ⟨⟨v44, g44_n13_0_f0, g44_n13_0_f1⟩, h, hg44⟩ := h
    replace h := ct rfl h
    refine wl_skip rfl rfl ?_
    refine wl_skip rfl rfl ?_
    refine wl_skip rfl rfl ?_
    simp only [Option.some.injEq, Prod.mk.injEq] at h
    obtain ⟨rfl, rfl, rfl⟩ := h
    have h := hg44; clear hg44; try dsimp only at h
    refine wl_pure (v := .bool true) tt_ok rfl rfl ?_
    refine wl_pure tt_ok rfl rfl ?_
    replace h := bsome h; obtain ⟨v49, h, hg49⟩ := h
    replace h := ct rfl h
    refine wl_skip rfl rfl ?_
    refine wl_skip rfl rfl ?_
    refine wl_skip rfl rfl ?_
    simp only [Option.some.injEq, Prod.mk.injEq] at h
    obtain rfl := h
    have h := hg49; clear hg49
    refine wl_pure (v := .bool true) tt_ok rfl rfl ?_
    refine wl_pure tt_ok rfl rfl ?_
    replace h := bsome h; obtain ⟨⟨v54, g54_n13_0_f0, g54_n13_0_f1⟩, h, hg54⟩ := h
    replace h := ct rfl h
    refine wl_skip rfl rfl ?_
    refine wl_skip rfl rfl ?_
    refine wl_skip rfl rfl ?_
    simp only [Option.some.injEq, Prod.mk.injEq] at h
    obtain ⟨rfl, rfl, rfl⟩ := h
    have h := hg54; clear hg54; try dsimp only at h
    refine wl_pure (v := .bool true) tt_ok rfl rfl ?_
    refine wl_pure tt_ok rfl rfl ?_
    replace h := bsome h; obtain ⟨v59, h, hg59⟩ := h
    replace h := ct rfl h
    refine wl_skip rfl rfl ?_
    refine wl_skip rfl rfl ?_
    refine wl_skip rfl rfl ?_
    simp only [Option.some.injEq, Prod.mk.injEq] at h
    obtain rfl := h
    have h := hg59; clear hg59
    refine wl_pure (v := .bool true) tt_ok rfl rfl ?_
    refine wl_nil (wx_then ?_)
    replace h := ct rfl h
    refine wc_cond_true rfl ?_
    refine wc_seq (wc_region ?_)
    refine wl_pure tt_ok rfl rfl ?_
    refine wl_nil (wx_then (wc_ret (wx_then_ret ?_)))
    simp only [Option.some.injEq] at h
    obtain rfl := h
    exact wx_pf tt_ok (.inl rfl) Tryd.results5 (Res.tmp rfl Res.nil) rfl
  replace h := cf hc h
  refine wl_run rfl ?_
  refine wl_pure tt_ok rfl rfl ?_
  replace h := bsome h; obtain ⟨v30, x30, h⟩ := h
  refine wl_run rfl ?_
  refine wl_cs Tryd.call19 rfl rfl rfl (s_sp (k_hindcastlaw25_at x30) pNil (fun w hI => ⟨(Rds.call G0S pNil rsub_nil) w hI, (Rds.call G1S pNil rsub_nil) w hI⟩)) rfl ?_
  rintro _ _ ⟨_, ⟨v30a0, v30n0, v30c0, v30B0, v30N0, v30V0, rfl, rfl⟩, rfl⟩
  replace h := bsome h; obtain ⟨⟨o31_0, v31⟩, x31, h⟩ := h; try dsimp only at h
  refine wl_run rfl ?_
  refine wl_cs Tryd.call10 rfl rfl rfl (s_sp (k_ring_Ring_Put (p0 := o25_0) (p1 := v30) o25_0G0 o25_0A0 v30N0 (vec_cap v30V0) (own_Z v30V0) x31) (pCons (Sel.sa Sel.hc) (pApp (Sel.sa Sel.ha) pNil)) (fun w hI => ⟨(Rds.call (Rds.of_vec v30V0) (pCons (Sel.sa Sel.hc) (pApp (Sel.sa Sel.ha) pNil)) ⟨_, Sel.ha⟩) w hI, (Rds.call G0S (pCons (Sel.sa Sel.hc) (pApp (Sel.sa Sel.ha) pNil)) rsub_nil) w hI, (Rds.call G1S (pCons (Sel.sa Sel.hc) (pApp (Sel.sa Sel.ha) pNil)) rsub_nil) w hI⟩)) rfl ?_
  rintro _ _ ⟨_, ⟨o31_0g0, o31_0P0, o31_0G0, o31_0A0, rfl, rfl⟩, rfl⟩
  refine wl_run rfl ?_
  refine wl_pure (v := .bool (!v31)) tt_ok rfl rfl ?_
  simp only [Option.some.injEq, Prod.mk.injEq] at h
  obtain ⟨rfl, rfl, rfl⟩ := h
  have h := hg33; clear hg33; try dsimp only at h
  refine wl_pure (v := .bool (!v31)) tt_ok rfl rfl ?_
  refine wl_pure tt_ok rfl rfl ?_
  replace h := bsome h; obtain ⟨⟨v39, g39_n13_0_f0, g39_n13_0_f1⟩, h, hg39⟩ := h
  refine wl_split (t := 34) rfl (fun hc => ?_) (fun hc => ?_)
  · replace h := ct hc h
    refine wl_skip rfl rfl ?_
    refine wl_skip rfl rfl ?_
    refine wl_skip rfl rfl ?_
    refine wl_skip rfl rfl ?_
    simp only [Option.some.injEq, Prod.mk.injEq] at h
    obtain ⟨rfl, rfl, rfl⟩ := h
    have h := hg39; clear hg39; try dsimp only at h
    refine wl_pure (v := .bool true) tt_ok rfl rfl ?_
    refine wl_pure tt_ok rfl rfl ?_
    replace h := bsome h; obtain ⟨⟨v44, g44_n13_0_f0, g44_n13_0_f1⟩, h, hg44⟩ := h
    replace h := ct rfl h
    refine wl_skip rfl rfl ?_
    refine wl_skip rfl rfl ?_
    refine wl_skip rfl rfl ?_
    simp only [Option.some.injEq, Prod.mk.injEq] at h
    obtain ⟨rfl, rfl, rfl⟩ := h
    have h := hg44; clear hg44; try dsimp only at h
    refine wl_pure (v := .bool true) tt_ok rfl rfl ?_
    refine wl_pure tt_ok rfl rfl ?_
    replace h := bsome h; obtain ⟨v49, h, hg49⟩ := h
    replace h := ct rfl h
    refine wl_skip rfl rfl ?_
    refine wl_skip rfl rfl ?_
    refine wl_skip rfl rfl ?_
    simp only [Option.some.injEq, Prod.mk.injEq] at h
    obtain rfl := h
    have h := hg49; clear hg49
    refine wl_pure (v := .bool true) tt_ok rfl rfl ?_
    refine wl_pure tt_ok rfl rfl ?_
    replace h := bsome h; obtain ⟨⟨v54, g54_n13_0_f0, g54_n13_0_f1⟩, h, hg54⟩ := h
    replace h := ct rfl h
    refine wl_skip rfl rfl ?_
    refine wl_skip rfl rfl ?_
    refine wl_skip rfl rfl ?_
    simp only [Option.some.injEq, Prod.mk.injEq] at h
    obtain ⟨rfl, rfl, rfl⟩ := h
    have h := hg54; clear hg54; try dsimp only at h
    refine wl_pure (v := .bool true) tt_ok rfl rfl ?_
    refine wl_pure tt_ok rfl rfl ?_
    replace h := bsome h; obtain ⟨v59, h, hg59⟩ := h
    replace h := ct rfl h
    refine wl_skip rfl rfl ?_
    refine wl_skip rfl rfl ?_
    refine wl_skip rfl rfl ?_
    simp only [Option.some.injEq, Prod.mk.injEq] at h
    obtain rfl := h
    have h := hg59; clear hg59
    refine wl_pure (v := .bool true) tt_ok rfl rfl ?_
    refine wl_nil (wx_then ?_)
    replace h := ct rfl h
    refine wc_cond_true rfl ?_
    refine wc_seq (wc_region ?_)
    refine wl_pure tt_ok rfl rfl ?_
    refine wl_nil (wx_then (wc_ret (wx_then_ret ?_)))
    simp only [Option.some.injEq] at h
    obtain rfl := h
    exact wx_pf tt_ok (.inl rfl) Tryd.results5 (Res.tmp rfl Res.nil) rfl
  replace h := cf hc h
  refine wl_run rfl ?_
  refine wl_pure tt_ok rfl rfl ?_
  replace h := bsome h; obtain ⟨v36, x36, h⟩ := h
  refine wl_run rfl ?_
  refine wl_cs Tryd.call19 rfl rfl rfl (s_sp (k_hindcastlaw25_at x36) pNil (fun w hI => ⟨(Rds.call G0S pNil rsub_nil) w hI, (Rds.call G1S pNil rsub_nil) w hI⟩)) rfl ?_
  rintro _ _ ⟨_, ⟨v36a0, v36n0, v36c0, v36B0, v36N0, v36V0, rfl, rfl⟩, rfl⟩
  replace h := bsome h; obtain ⟨⟨o37_0, v37⟩, x37, h⟩ := h; try dsimp only at h
  refine wl_run rfl ?_
  refine wl_cs Tryd.call10 rfl rfl rfl (s_sp (k_ring_Ring_Put (p0 := o31_0) (p1 := v36) o31_0G0 o31_0A0 v36N0 (vec_cap v36V0) (own_Z v36V0) x37) (pCons (Sel.sa Sel.hc) (pApp (Sel.sa Sel.ha) pNil)) (fun w hI => ⟨(Rds.call (Rds.of_vec v36V0) (pCons (Sel.sa Sel.hc) (pApp (Sel.sa Sel.ha) pNil)) ⟨_, Sel.ha⟩) w hI, (Rds.call G0S (pCons (Sel.sa Sel.hc) (pApp (Sel.sa Sel.ha) pNil)) rsub_nil) w hI, (Rds.call G1S (pCons (Sel.sa Sel.hc) (pApp (Sel.sa Sel.ha) pNil)) rsub_nil) w hI⟩)) rfl ?_
  rintro _ _ ⟨_, ⟨o37_0g0, o37_0P0, o37_0G0, o37_0A0, rfl, rfl⟩, rfl⟩
  refine wl_run rfl ?_
  refine wl_pure (v := .bool (!v37)) tt_ok rfl rfl ?_
  simp only [Option.some.injEq, Prod.mk.injEq] at h
  obtain ⟨rfl, rfl, rfl⟩ := h
  have h := hg39; clear hg39; try dsimp only at h
  refine wl_pure (v := .bool (!v37)) tt_ok rfl rfl ?_
  refine wl_pure tt_ok rfl rfl ?_
  replace h := bsome h; obtain ⟨⟨v44, g44_n13_0_f0, g44_n13_0_f1⟩, h, hg44⟩ := h
  refine wl_split (t := 40) rfl (fun hc => ?_) (fun hc => ?_)
  · replace h := ct hc h
    refine wl_skip rfl rfl ?_
    refine wl_skip rfl rfl ?_
    refine wl_skip rfl rfl ?_
    simp only [Option.some.injEq, Prod.mk.injEq] at h
    obtain ⟨rfl, rfl, rfl⟩ := h
    have h := hg44; clear hg44; try dsimp only at h
    refine wl_pure (v := .bool true) tt_ok rfl rfl ?_
    refine wl_pure tt_ok rfl rfl ?_
    replace h := bsome h; obtain ⟨v49, h, hg49⟩ := h
    replace h := ct rfl h
    refine wl_skip rfl rfl ?_
    refine wl_skip rfl rfl ?_
    refine wl_skip rfl rfl ?_
    simp only [Option.some.injEq, Prod.mk.injEq] at h
    obtain rfl := h
    have h := hg49; clear hg49
    refine wl_pure (v := .bool true) tt_ok rfl rfl ?_
    refine wl_pure tt_ok rfl rfl ?_
    replace h := bsome h; obtain ⟨⟨v54, g54_n13_0_f0, g54_n13_0_f1⟩, h, hg54⟩ := h
    replace h := ct rfl h
    refine wl_skip rfl rfl ?_
    refine wl_skip rfl rfl ?_
    refine wl_skip rfl rfl ?_
    simp only [Option.some.injEq, Prod.mk.injEq] at h
    obtain ⟨rfl, rfl, rfl⟩ := h
    have h := hg54; clear hg54; try dsimp only at h
    refine wl_pure (v := .bool true) tt_ok rfl rfl ?_
    refine wl_pure tt_ok rfl rfl ?_
    replace h := bsome h; obtain ⟨v59, h, hg59⟩ := h
    replace h := ct rfl h
    refine wl_skip rfl rfl ?_
    refine wl_skip rfl rfl ?_
    refine wl_skip rfl rfl ?_
    simp only [Option.some.injEq, Prod.mk.injEq] at h
    obtain rfl := h
    have h := hg59; clear hg59
    refine wl_pure (v := .bool true) tt_ok rfl rfl ?_
    refine wl_nil (wx_then ?_)
    replace h := ct rfl h
    refine wc_cond_true rfl ?_
    refine wc_seq (wc_region ?_)
    refine wl_pure tt_ok rfl rfl ?_
    refine wl_nil (wx_then (wc_ret (wx_then_ret ?_)))
    simp only [Option.some.injEq] at h
    obtain rfl := h
    exact wx_pf tt_ok (.inl rfl) Tryd.results5 (Res.tmp rfl Res.nil) rfl
  replace h := cf hc h
  refine wl_run rfl ?_
  refine wl_pure tt_ok rfl rfl ?_
  replace h := bsome h; obtain ⟨v42, x42, h⟩ := h
  refine wl_run rfl ?_
  refine wl_cs Tryd.call19 rfl rfl rfl (s_sp (k_hindcastlaw25_at x42) pNil (fun w hI => ⟨(Rds.call G0S pNil rsub_nil) w hI, (Rds.call G1S pNil rsub_nil) w hI⟩)) rfl ?_
  rintro _ _ ⟨_, ⟨v42a0, v42n0, v42c0, v42B0, v42N0, v42V0, rfl, rfl⟩, rfl⟩
  replace h := bsome h; obtain ⟨⟨o43_0, v43⟩, x43, h⟩ := h; try dsimp only at h
  refine wl_run rfl ?_
  refine wl_cs Tryd.call10 rfl rfl rfl (s_sp (k_ring_Ring_Put (p0 := o37_0) (p1 := v42) o37_0G0 o37_0A0 v42N0 (vec_cap v42V0) (own_Z v42V0) x43) (pCons (Sel.sa Sel.hc) (pApp (Sel.sa Sel.ha) pNil)) (fun w hI => ⟨(Rds.call (Rds.of_vec v42V0) (pCons (Sel.sa Sel.hc) (pApp (Sel.sa Sel.ha) pNil)) ⟨_, Sel.ha⟩) w hI, (Rds.call G0S (pCons (Sel.sa Sel.hc) (pApp (Sel.sa Sel.ha) pNil)) rsub_nil) w hI, (Rds.call G1S (pCons (Sel.sa Sel.hc) (pApp (Sel.sa Sel.ha) pNil)) rsub_nil) w hI⟩)) rfl ?_
  rintro _ _ ⟨_, ⟨o43_0g0, o43_0P0, o43_0G0, o43_0A0, rfl, rfl⟩, rfl⟩
  simp only [Option.some.injEq, Prod.mk.injEq] at h
  obtain ⟨rfl, rfl, rfl⟩ := h
  have h := hg44; clear hg44; try dsimp only at h
  refine wl_pure (v := .bool v43) tt_ok rfl rfl ?_
  refine wl_pure tt_ok rfl rfl ?_
  replace h := bsome h; obtain ⟨v49, h, hg49⟩ := h
  refine wl_split (t := 45) rfl (fun hc => ?_) (fun hc => ?_)
  · replace h := ct hc h
    refine wl_skip rfl rfl ?_
    refine wl_skip rfl rfl ?_
    refine wl_skip rfl rfl ?_
    simp only [Option.some.injEq, Prod.mk.injEq] at h
    obtain rfl := h
    have h := hg49; clear hg49
    refine wl_pure (v := .bool true) tt_ok rfl rfl ?_
    refine wl_pure tt_ok rfl rfl ?_
    replace h := bsome h; obtain ⟨⟨v54, g54_n13_0_f0, g54_n13_0_f1⟩, h, hg54⟩ := h
    replace h := ct rfl h
    refine wl_skip rfl rfl ?_
    refine wl_skip rfl rfl ?_
    refine wl_skip rfl rfl ?_
    simp only [Option.some.injEq, Prod.mk.injEq] at h
    obtain ⟨rfl, rfl, rfl⟩ := h
    have h := hg54; clear hg54; try dsimp only at h
    refine wl_pure (v := .bool true) tt_ok rfl rfl ?_
    refine wl_pure tt_ok rfl rfl ?_
    replace h := bsome h; obtain ⟨v59, h, hg59⟩ := h
    replace h := ct rfl h
    refine wl_skip rfl rfl ?_
    refine wl_skip rfl rfl ?_
    refine wl_skip rfl rfl ?_
    simp only [Option.some.injEq, Prod.mk.injEq] at h
    obtain rfl := h
    have h := hg59; clear hg59
    refine wl_pure (v := .bool true) tt_ok rfl rfl ?_
    refine wl_nil (wx_then ?_)
    replace h := ct rfl h
    refine wc_cond_true rfl ?_
    refine wc_seq (wc_region ?_)
    refine wl_pure tt_ok rfl rfl ?_
    refine wl_nil (wx_then (wc_ret (wx_then_ret ?_)))
    simp only [Option.some.injEq] at h
    obtain rfl := h
    exact wx_pf tt_ok (.inl rfl) Tryd.results5 (Res.tmp rfl Res.nil) rfl
  replace h := cf hc h
  refine wl_run rfl ?_
  refine wl_pure tt_ok rfl rfl ?_
  replace h := bsome h; obtain ⟨v47, x47, h⟩ := h
  refine wl_run rfl ?_
  refine wl_cq Tryd.call15 rfl rfl rfl (q_rd (k_ring_Ring_Len (p0 := o43_0) o43_0G0 o43_0A0 x47) (pCons Sel.hc (pApp Sel.ha pNil)) (fun _ _ => trivial)) rfl ?_
  refine wl_run rfl ?_
  refine wl_pure (v := .bool (v47 != (2 : Int))) tt_ok rfl rfl ?_
  simp only [Option.some.injEq, Prod.mk.injEq] at h
  obtain rfl := h
  have h := hg49; clear hg49
  refine wl_pure (v := .bool (v47 != (2 : Int))) tt_ok rfl rfl ?_
  refine wl_pure tt_ok rfl rfl ?_
  replace h := bsome h; obtain ⟨⟨v54, g54_n13_0_f0, g54_n13_0_f1⟩, h, hg54⟩ := h
  refine wl_split (t := 50) rfl (fun hc => ?_) (fun hc => ?_)
  · replace h := ct hc h
    refine wl_skip rfl rfl ?_
    refine wl_skip rfl rfl ?_
    refine wl_skip rfl rfl ?_
    simp only [Option.some.injEq, Prod.mk.injEq] at h
    obtain ⟨rfl, rfl, rfl⟩ := h
    have h := hg54; clear hg54; try dsimp only at h
    refine wl_pure (v := .bool true) tt_ok rfl rfl ?_
    refine wl_pure tt_ok rfl rfl ?_
    replace h := bsome h; obtain ⟨v59, h, hg59⟩ := h
    replace h := ct rfl h
    refine wl_skip rfl rfl ?_
    refine wl_skip rfl rfl ?_
    refine wl_skip rfl rfl ?_
    simp only [Option.some.injEq, Prod.mk.injEq] at h
    obtain rfl := h
    have h := hg59; clear hg59
    refine wl_pure (v := .bool true) tt_ok rfl rfl ?_
    refine wl_nil (wx_then ?_)
    replace h := ct rfl h
    refine wc_cond_true rfl ?_
    refine wc_seq (wc_region ?_)
    refine wl_pure tt_ok rfl rfl ?_
    refine wl_nil (wx_then (wc_ret (wx_then_ret ?_)))
    simp only [Option.some.injEq] at h
    obtain rfl := h
    exact wx_pf tt_ok (.inl rfl) Tryd.results5 (Res.tmp rfl Res.nil) rfl
  replace h := cf hc h
  refine wl_run rfl ?_
  refine wl_pure tt_ok rfl rfl ?_
  replace h := bsome h; obtain ⟨⟨o52_0, v52⟩, x52, h⟩ := h; try dsimp only at h
  refine wl_run rfl ?_
  refine wl_cs Tryd.call20 rfl rfl rfl (s_sp (k_ring_Ring_Cut (p0 := o43_0) o43_0G0 o43_0A0 x52) (pCons Sel.hc (pApp Sel.ha pNil)) (fun _ _ => trivial)) rfl ?_
  rintro _ _ ⟨_, ⟨o52_0g0, o52_0P0, o52_0G0, o52_0A0, rfl, rfl⟩, rfl⟩
  refine wl_run rfl ?_
  refine wl_pure (v := .bool (v52 != (1 : Int))) tt_ok rfl rfl ?_
  simp only [Option.some.injEq, Prod.mk.injEq] at h
  obtain ⟨rfl, rfl, rfl⟩ := h
  have h := hg54; clear hg54; try dsimp only at h
  refine wl_pure (v := .bool (v52 != (1 : Int))) tt_ok rfl rfl ?_
  refine wl_pure tt_ok rfl rfl ?_
  replace h := bsome h; obtain ⟨v59, h, hg59⟩ := h
  refine wl_split (t := 55) rfl (fun hc => ?_) (fun hc => ?_)
  · replace h := ct hc h
    refine wl_skip rfl rfl ?_
    refine wl_skip rfl rfl ?_
    refine wl_skip rfl rfl ?_
    simp only [Option.some.injEq, Prod.mk.injEq] at h
    obtain rfl := h
    have h := hg59; clear hg59
    refine wl_pure (v := .bool true) tt_ok rfl rfl ?_
    refine wl_nil (wx_then ?_)
    replace h := ct rfl h
    refine wc_cond_true rfl ?_
    refine wc_seq (wc_region ?_)
    refine wl_pure tt_ok rfl rfl ?_
    refine wl_nil (wx_then (wc_ret (wx_then_ret ?_)))
    simp only [Option.some.injEq] at h
    obtain rfl := h
    exact wx_pf tt_ok (.inl rfl) Tryd.results5 (Res.tmp rfl Res.nil) rfl
  replace h := cf hc h
  refine wl_run rfl ?_
  refine wl_pure tt_ok rfl rfl ?_
  replace h := bsome h; obtain ⟨v57, x57, h⟩ := h
  refine wl_run rfl ?_
  refine wl_cs Tryd.call19 rfl rfl rfl (s_sp (k_hindcastlaw25_at x57) pNil (fun w hI => ⟨(Rds.call G0S pNil rsub_nil) w hI, (Rds.call G1S pNil rsub_nil) w hI⟩)) rfl ?_
  rintro _ _ ⟨_, ⟨v57a0, v57n0, v57c0, v57B0, v57N0, v57V0, rfl, rfl⟩, rfl⟩
  replace h := bsome h; obtain ⟨v58, x58, h⟩ := h
  refine wl_run rfl ?_
  refine wl_cq Tryd.call12 rfl rfl rfl (q_rd (k_hindcastlaw25_holds (p0 := o52_0) (p1 := v57) o52_0G0 o52_0A0 v57N0 (vec_cap v57V0) x58) (pCons (Sel.sa Sel.hc) (pApp (Sel.sa Sel.ha) pNil)) (Rds.call (Rds.of_vec v57V0) (pCons (Sel.sa Sel.hc) (pApp (Sel.sa Sel.ha) pNil)) ⟨_, Sel.ha⟩)) rfl ?_
  simp only [Option.some.injEq, Prod.mk.injEq] at h
  obtain rfl := h
  have h := hg59; clear hg59
  refine wl_pure (v := .bool v58) tt_ok rfl rfl ?_
  refine wl_nil (wx_then ?_)
  refine wc_cond rfl (fun hc => ?_) (fun hc => ?_)
  · replace h := ct hc h
    refine wc_seq (wc_region ?_)
    refine wl_pure tt_ok rfl rfl ?_
    refine wl_nil (wx_then (wc_ret (wx_then_ret ?_)))
    simp only [Option.some.injEq] at h
    obtain rfl := h
    exact wx_pf tt_ok (.inl rfl) Tryd.results5 (Res.tmp rfl Res.nil) rfl
  replace h := cf hc h
  refine wc_skip (wx_then (wc_seq (wc_region ?_)))
  refine wl_pure tt_ok rfl rfl ?_
  replace h := bsome h; obtain ⟨⟨v62_0, v62_1⟩, x62, h⟩ := h; try dsimp only at h
  refine wl_cs Tryd.call13 rfl rfl rfl (s_sp (k_ring_Ring_Newest (p0 := o52_0) o52_0G0 o52_0A0 x62) (pCons (Sel.sa Sel.hc) (pApp (Sel.sa Sel.ha) pNil)) (fun _ _ => trivial)) rfl ?_
  rintro _ _ ⟨_, ⟨v62_0a0, v62_0n0, v62_0c0, v62_0B0, v62_0N0, v62_0V0, rfl, rfl⟩, rfl⟩
  iterate 3 refine wl_pure tt_ok rfl rfl ?_
  refine wl_alloc tt_ok rfl rfl (fun b4 => ?_)
  apply wl_store tt_ok; rfl; exact Upd.here; rfl; rfl; rfl; rfl; rfl; rfl
  refine wl_pure tt_ok rfl rfl ?_
  refine wl_nil (wx_then (wc_seq (wc_region ?_)))
  replace h := bsome h; obtain ⟨v65, x65, h⟩ := h
  refine wl_cs Tryd.call19 rfl rfl rfl (s_sp (k_hindcastlaw25_at x65) pNil (fun w hI => ⟨(Rds.call G0S pNil rsub_nil) w hI, (Rds.call G1S pNil rsub_nil) w hI⟩)) rfl ?_
  rintro _ _ ⟨_, ⟨v65a0, v65n0, v65c0, v65B0, v65N0, v65V0, rfl, rfl⟩, rfl⟩
  refine wl_alloc tt_ok rfl rfl (fun b6 => ?_)
  apply wl_store tt_ok; rfl; exact Upd.here; rfl; rfl; rfl; rfl; rfl; rfl
  refine wl_nil (wx_then (wc_seq (wc_region ?_)))
  refine wl_pure (v := .pointer (some ⟨b6, 2, none⟩)) tt_ok rfl rfl ?_
  refine wl_val (v := .pointer (some ⟨b6, 2, none⟩)) (val_ia (j := 0) tt_ok rfl rfl rfl rfl rfl rfl rfl) rfl ?_
  refine wl_pure (v := .pointer (some ⟨b6, 6, none⟩)) tt_ok rfl rfl ?_
  apply wl_store tt_ok; rfl; exact Upd.here; rfl; rfl; rfl; rfl; rfl; rfl
  refine wl_nil (wx_then (wc_seq (wc_seq ?_)))
  refine wc_k2 (Ls := (⟨b6, [.int .u64 v65.Frame, .int .u64 v65.Seed, .int .i32 v65.Players.1.X, .int .i32 v65.Players.1.Y, .int .i32 v65.Players.1.VX, .int .i32 v65.Players.1.VY, .int .u8 (0 : Int), .int .u8 v65.Players.1.Cool, .int .u8 v65.Players.1.Face, .int .i32 v65.Players.2.X, .int .i32 v65.Players.2.Y, .int .i32 v65.Players.2.VX, .int .i32 v65.Players.2.VY, .int .u8 v65.Players.2.Health, .int .u8 v65.Players.2.Cool, .int .u8 v65.Players.2.Face, .slice v65a0 v65n0 v65c0, .int .u16 v65.Score.1, .int .u16 v65.Score.2], 30, (0, 0)⟩ :: (v65B0 ++ (⟨b4, [.int .u64 v62_0.Frame, .int .u64 v62_0.Seed, .int .i32 v62_0.Players.1.X, .int .i32 v62_0.Players.1.Y, .int .i32 v62_0.Players.1.VX, .int .i32 v62_0.Players.1.VY, .int .u8 v62_0.Players.1.Health, .int .u8 v62_0.Players.1.Cool, .int .u8 v62_0.Players.1.Face, .int .i32 v62_0.Players.2.X, .int .i32 v62_0.Players.2.Y, .int .i32 v62_0.Players.2.VX, .int .i32 v62_0.Players.2.VY, .int .u8 v62_0.Players.2.Health, .int .u8 v62_0.Players.2.Cool, .int .u8 v62_0.Players.2.Face, .slice v62_0a0 v62_0n0 v62_0c0, .int .u16 v62_0.Score.1, .int .u16 v62_0.Score.2], 30, (0, 0)⟩ :: (v62_0B0 ++ (v57B0 ++ (v42B0 ++ (v36B0 ++ (v30B0 ++ (v24B0 ++ (⟨b2, [.int .u64 v18_0.Frame, .int .u64 v18_0.Seed, .int .i32 v18_0.Players.1.X, .int .i32 v18_0.Players.1.Y, .int .i32 v18_0.Players.1.VX, .int .i32 v18_0.Players.1.VY, .int .u8 v18_0.Players.1.Health, .int .u8 v18_0.Players.1.Cool, .int .u8 v18_0.Players.1.Face, .int .i32 v18_0.Players.2.X, .int .i32 v18_0.Players.2.Y, .int .i32 v18_0.Players.2.VX, .int .i32 v18_0.Players.2.VY, .int .u8 v18_0.Players.2.Health, .int .u8 v18_0.Players.2.Cool, .int .u8 v18_0.Players.2.Face, .slice v18_0a0 v18_0n0 v18_0c0, .int .u16 v18_0.Score.1, .int .u16 v18_0.Score.2], 30, (0, 0)⟩ :: (v18_0B0 ++ [])))))))))))) [4, 5, 10, 11, 16, 22, 26, 27] [] [0, 1, 3, 7, 7, 31, 63, 127, 255, 511, 511, 2047, 4095, 8191, 16383, 32767, 65535, 131071, 262143, 524287, 1048575, 1048575, 4194303, 8388607, 16777215, 33554431, 33554431, 134217727, 268435455, 536870911] [0, 1, 2, 3, 4, 5, 6, 7, 8, 9, 10, 11, 12, 13, 14, 15, 16, 17, 18, 19, 20, 21, 22, 23, 24, 25, 26, 27, 28, 29] (by kernel_rfl) (by kernel_rfl) (by kernel_rfl) ?_
  refine k_val rfl rfl rfl (pSub (pCons Sel.hc (pApp Sel.ha (pCons Sel.hc (pApp (Sel.sc (Sel.sa Sel.ha)) (pApp (Sel.sc (Sel.sa Sel.ha)) (pApp (Sel.sc (Sel.sa Sel.ha)) (pApp (Sel.sc (Sel.sa Sel.ha)) (pApp (Sel.sc (Sel.sa Sel.ha)) (pApp (Sel.sc (Sel.sa Sel.ha)) (pCons (Sel.sc (Sel.sa Sel.hc)) (pApp (Sel.sc (Sel.sa Sel.ha)) pNil)))))))))))) (stepV_ok tt_ok rfl) rfl ?_
  refine k_val (v := .bool (!v62_1)) rfl rfl rfl (pSub (pCons Sel.hc (pApp Sel.ha (pCons Sel.hc (pApp (Sel.sc (Sel.sa Sel.ha)) (pApp (Sel.sc (Sel.sa Sel.ha)) (pApp (Sel.sc (Sel.sa Sel.ha)) (pApp (Sel.sc (Sel.sa Sel.ha)) (pApp (Sel.sc (Sel.sa Sel.ha)) (pApp (Sel.sc (Sel.sa Sel.ha)) (pCons (Sel.sc (Sel.sa Sel.hc)) (pApp (Sel.sc (Sel.sa Sel.ha)) pNil)))))))))))) (stepV_ok tt_ok rfl) rfl ?_
  refine k_val rfl rfl rfl (pSub (pCons Sel.hc (pApp Sel.ha (pCons Sel.hc (pApp (Sel.sc (Sel.sa Sel.ha)) (pApp (Sel.sc (Sel.sa Sel.ha)) (pApp (Sel.sc (Sel.sa Sel.ha)) (pApp (Sel.sc (Sel.sa Sel.ha)) (pApp (Sel.sc (Sel.sa Sel.ha)) (pApp (Sel.sc (Sel.sa Sel.ha)) (pCons (Sel.sc (Sel.sa Sel.hc)) (pApp (Sel.sc (Sel.sa Sel.ha)) pNil)))))))))))) (stepV_ok tt_ok rfl) rfl ?_
  replace h := bsome h; obtain ⟨v76, h, hg76⟩ := h
  refine k_split (t := 71) rfl (fun hc => ?_) (fun hc => ?_)
  · replace h := ct hc h
    refine k_skip rfl rfl (pSub (pCons Sel.hc (pApp Sel.ha (pCons Sel.hc (pApp (Sel.sc (Sel.sa Sel.ha)) (pApp (Sel.sc (Sel.sa Sel.ha)) (pApp (Sel.sc (Sel.sa Sel.ha)) (pApp (Sel.sc (Sel.sa Sel.ha)) (pApp (Sel.sc (Sel.sa Sel.ha)) (pApp (Sel.sc (Sel.sa Sel.ha)) (pCons (Sel.sc (Sel.sa Sel.hc)) (pApp (Sel.sc (Sel.sa Sel.ha)) pNil)))))))))))) rfl ?_
    refine k_skip rfl rfl (pSub (pCons Sel.hc (pApp Sel.ha (pCons Sel.hc (pApp (Sel.sc (Sel.sa Sel.ha)) (pApp (Sel.sc (Sel.sa Sel.ha)) (pApp (Sel.sc (Sel.sa Sel.ha)) (pApp (Sel.sc (Sel.sa Sel.ha)) (pApp (Sel.sc (Sel.sa Sel.ha)) (pApp (Sel.sc (Sel.sa Sel.ha)) (pCons (Sel.sc (Sel.sa Sel.hc)) (pApp (Sel.sc (Sel.sa Sel.ha)) pNil)))))))))))) rfl ?_
    refine k_skip rfl rfl (pSub (pCons Sel.hc (pApp Sel.ha (pCons Sel.hc (pApp (Sel.sc (Sel.sa Sel.ha)) (pApp (Sel.sc (Sel.sa Sel.ha)) (pApp (Sel.sc (Sel.sa Sel.ha)) (pApp (Sel.sc (Sel.sa Sel.ha)) (pApp (Sel.sc (Sel.sa Sel.ha)) (pApp (Sel.sc (Sel.sa Sel.ha)) (pCons (Sel.sc (Sel.sa Sel.hc)) (pApp (Sel.sc (Sel.sa Sel.ha)) pNil)))))))))))) rfl ?_
    refine k_skip rfl rfl (pSub (pCons Sel.hc (pApp Sel.ha (pCons Sel.hc (pApp (Sel.sc (Sel.sa Sel.ha)) (pApp (Sel.sc (Sel.sa Sel.ha)) (pApp (Sel.sc (Sel.sa Sel.ha)) (pApp (Sel.sc (Sel.sa Sel.ha)) (pApp (Sel.sc (Sel.sa Sel.ha)) (pApp (Sel.sc (Sel.sa Sel.ha)) (pCons (Sel.sc (Sel.sa Sel.hc)) (pApp (Sel.sc (Sel.sa Sel.ha)) pNil)))))))))))) rfl ?_
    simp only [Option.some.injEq, Prod.mk.injEq] at h
    obtain rfl := h
    have h := hg76; clear hg76
    refine k_val (v := .bool true) rfl rfl rfl (pSub (pCons Sel.hc (pApp Sel.ha (pCons Sel.hc (pApp (Sel.sc (Sel.sa Sel.ha)) (pApp (Sel.sc (Sel.sa Sel.ha)) (pApp (Sel.sc (Sel.sa Sel.ha)) (pApp (Sel.sc (Sel.sa Sel.ha)) (pApp (Sel.sc (Sel.sa Sel.ha)) (pApp (Sel.sc (Sel.sa Sel.ha)) (pCons (Sel.sc (Sel.sa Sel.hc)) (pApp (Sel.sc (Sel.sa Sel.ha)) pNil)))))))))))) (stepV_ok tt_ok rfl) rfl ?_
    refine k_val rfl rfl rfl (pSub (pCons Sel.hc (pApp Sel.ha (pCons Sel.hc (pApp (Sel.sc (Sel.sa Sel.ha)) (pApp (Sel.sc (Sel.sa Sel.ha)) (pApp (Sel.sc (Sel.sa Sel.ha)) (pApp (Sel.sc (Sel.sa Sel.ha)) (pApp (Sel.sc (Sel.sa Sel.ha)) (pApp (Sel.sc (Sel.sa Sel.ha)) (pCons (Sel.sc (Sel.sa Sel.hc)) (pApp (Sel.sc (Sel.sa Sel.ha)) pNil)))))))))))) (stepV_ok tt_ok rfl) rfl ?_
    replace h := bsome h; obtain ⟨⟨v82, g82_n13_0_f0, g82_n13_0_f1⟩, h, hg82⟩ := h
    replace h := ct rfl h
    refine k_skip rfl rfl (pSub (pCons Sel.hc (pApp Sel.ha (pCons Sel.hc (pApp (Sel.sc (Sel.sa Sel.ha)) (pApp (Sel.sc (Sel.sa Sel.ha)) (pApp (Sel.sc (Sel.sa Sel.ha)) (pApp (Sel.sc (Sel.sa Sel.ha)) (pApp (Sel.sc (Sel.sa Sel.ha)) (pApp (Sel.sc (Sel.sa Sel.ha)) (pCons (Sel.sc (Sel.sa Sel.hc)) (pApp (Sel.sc (Sel.sa Sel.ha)) pNil)))))))))))) rfl ?_
    refine k_skip rfl rfl (pSub (pCons Sel.hc (pApp Sel.ha (pCons Sel.hc (pApp (Sel.sc (Sel.sa Sel.ha)) (pApp (Sel.sc (Sel.sa Sel.ha)) (pApp (Sel.sc (Sel.sa Sel.ha)) (pApp (Sel.sc (Sel.sa Sel.ha)) (pApp (Sel.sc (Sel.sa Sel.ha)) (pApp (Sel.sc (Sel.sa Sel.ha)) (pCons (Sel.sc (Sel.sa Sel.hc)) (pApp (Sel.sc (Sel.sa Sel.ha)) pNil)))))))))))) rfl ?_
    refine k_skip rfl rfl (pSub (pCons Sel.hc (pApp Sel.ha (pCons Sel.hc (pApp (Sel.sc (Sel.sa Sel.ha)) (pApp (Sel.sc (Sel.sa Sel.ha)) (pApp (Sel.sc (Sel.sa Sel.ha)) (pApp (Sel.sc (Sel.sa Sel.ha)) (pApp (Sel.sc (Sel.sa Sel.ha)) (pApp (Sel.sc (Sel.sa Sel.ha)) (pCons (Sel.sc (Sel.sa Sel.hc)) (pApp (Sel.sc (Sel.sa Sel.ha)) pNil)))))))))))) rfl ?_
    refine k_skip rfl rfl (pSub (pCons Sel.hc (pApp Sel.ha (pCons Sel.hc (pApp (Sel.sc (Sel.sa Sel.ha)) (pApp (Sel.sc (Sel.sa Sel.ha)) (pApp (Sel.sc (Sel.sa Sel.ha)) (pApp (Sel.sc (Sel.sa Sel.ha)) (pApp (Sel.sc (Sel.sa Sel.ha)) (pApp (Sel.sc (Sel.sa Sel.ha)) (pCons (Sel.sc (Sel.sa Sel.hc)) (pApp (Sel.sc (Sel.sa Sel.ha)) pNil)))))))))))) rfl ?_
    simp only [Option.some.injEq, Prod.mk.injEq] at h
    obtain ⟨rfl, rfl, rfl⟩ := h
    have h := hg82; clear hg82; try dsimp only at h
    refine k_val (v := .bool true) rfl rfl rfl (pSub (pCons Sel.hc (pApp Sel.ha (pCons Sel.hc (pApp (Sel.sc (Sel.sa Sel.ha)) (pApp (Sel.sc (Sel.sa Sel.ha)) (pApp (Sel.sc (Sel.sa Sel.ha)) (pApp (Sel.sc (Sel.sa Sel.ha)) (pApp (Sel.sc (Sel.sa Sel.ha)) (pApp (Sel.sc (Sel.sa Sel.ha)) (pCons (Sel.sc (Sel.sa Sel.hc)) (pApp (Sel.sc (Sel.sa Sel.ha)) pNil)))))))))))) (stepV_ok tt_ok rfl) rfl ?_
    refine k_val rfl rfl rfl (pSub (pCons Sel.hc (pApp Sel.ha (pCons Sel.hc (pApp (Sel.sc (Sel.sa Sel.ha)) (pApp (Sel.sc (Sel.sa Sel.ha)) (pApp (Sel.sc (Sel.sa Sel.ha)) (pApp (Sel.sc (Sel.sa Sel.ha)) (pApp (Sel.sc (Sel.sa Sel.ha)) (pApp (Sel.sc (Sel.sa Sel.ha)) (pCons (Sel.sc (Sel.sa Sel.hc)) (pApp (Sel.sc (Sel.sa Sel.ha)) pNil)))))))))))) (stepV_ok tt_ok rfl) rfl ?_
    replace h := bsome h; obtain ⟨v87, h, hg87⟩ := h
    replace h := ct rfl h
    refine k_skip rfl rfl (pSub (pCons Sel.hc (pApp Sel.ha (pCons Sel.hc (pApp (Sel.sc (Sel.sa Sel.ha)) (pApp (Sel.sc (Sel.sa Sel.ha)) (pApp (Sel.sc (Sel.sa Sel.ha)) (pApp (Sel.sc (Sel.sa Sel.ha)) (pApp (Sel.sc (Sel.sa Sel.ha)) (pApp (Sel.sc (Sel.sa Sel.ha)) (pCons (Sel.sc (Sel.sa Sel.hc)) (pApp (Sel.sc (Sel.sa Sel.ha)) pNil)))))))))))) rfl ?_
    refine k_skip rfl rfl (pSub (pCons Sel.hc (pApp Sel.ha (pCons Sel.hc (pApp (Sel.sc (Sel.sa Sel.ha)) (pApp (Sel.sc (Sel.sa Sel.ha)) (pApp (Sel.sc (Sel.sa Sel.ha)) (pApp (Sel.sc (Sel.sa Sel.ha)) (pApp (Sel.sc (Sel.sa Sel.ha)) (pApp (Sel.sc (Sel.sa Sel.ha)) (pCons (Sel.sc (Sel.sa Sel.hc)) (pApp (Sel.sc (Sel.sa Sel.ha)) pNil)))))))))))) rfl ?_
    refine k_skip rfl rfl (pSub (pCons Sel.hc (pApp Sel.ha (pCons Sel.hc (pApp (Sel.sc (Sel.sa Sel.ha)) (pApp (Sel.sc (Sel.sa Sel.ha)) (pApp (Sel.sc (Sel.sa Sel.ha)) (pApp (Sel.sc (Sel.sa Sel.ha)) (pApp (Sel.sc (Sel.sa Sel.ha)) (pApp (Sel.sc (Sel.sa Sel.ha)) (pCons (Sel.sc (Sel.sa Sel.hc)) (pApp (Sel.sc (Sel.sa Sel.ha)) pNil)))))))))))) rfl ?_
    simp only [Option.some.injEq, Prod.mk.injEq] at h
    obtain rfl := h
    have h := hg87; clear hg87
    refine k_val (v := .bool true) rfl rfl rfl (pSub (pCons Sel.hc (pApp Sel.ha (pCons Sel.hc (pApp (Sel.sc (Sel.sa Sel.ha)) (pApp (Sel.sc (Sel.sa Sel.ha)) (pApp (Sel.sc (Sel.sa Sel.ha)) (pApp (Sel.sc (Sel.sa Sel.ha)) (pApp (Sel.sc (Sel.sa Sel.ha)) (pApp (Sel.sc (Sel.sa Sel.ha)) (pCons (Sel.sc (Sel.sa Sel.hc)) (pApp (Sel.sc (Sel.sa Sel.ha)) pNil)))))))))))) (stepV_ok tt_ok rfl) rfl ?_
    refine k_val rfl rfl rfl (pSub (pCons Sel.hc (pApp Sel.ha (pCons Sel.hc (pApp (Sel.sc (Sel.sa Sel.ha)) (pApp (Sel.sc (Sel.sa Sel.ha)) (pApp (Sel.sc (Sel.sa Sel.ha)) (pApp (Sel.sc (Sel.sa Sel.ha)) (pApp (Sel.sc (Sel.sa Sel.ha)) (pApp (Sel.sc (Sel.sa Sel.ha)) (pCons (Sel.sc (Sel.sa Sel.hc)) (pApp (Sel.sc (Sel.sa Sel.ha)) pNil)))))))))))) (stepV_ok tt_ok rfl) rfl ?_
    replace h := bsome h; obtain ⟨⟨v92, g92_n13_0_f0, g92_n13_0_f1⟩, h, hg92⟩ := h
    replace h := ct rfl h
    refine k_skip rfl rfl (pSub (pCons Sel.hc (pApp Sel.ha (pCons Sel.hc (pApp (Sel.sc (Sel.sa Sel.ha)) (pApp (Sel.sc (Sel.sa Sel.ha)) (pApp (Sel.sc (Sel.sa Sel.ha)) (pApp (Sel.sc (Sel.sa Sel.ha)) (pApp (Sel.sc (Sel.sa Sel.ha)) (pApp (Sel.sc (Sel.sa Sel.ha)) (pCons (Sel.sc (Sel.sa Sel.hc)) (pApp (Sel.sc (Sel.sa Sel.ha)) pNil)))))))))))) rfl ?_
    refine k_skip rfl rfl (pSub (pCons Sel.hc (pApp Sel.ha (pCons Sel.hc (pApp (Sel.sc (Sel.sa Sel.ha)) (pApp (Sel.sc (Sel.sa Sel.ha)) (pApp (Sel.sc (Sel.sa Sel.ha)) (pApp (Sel.sc (Sel.sa Sel.ha)) (pApp (Sel.sc (Sel.sa Sel.ha)) (pApp (Sel.sc (Sel.sa Sel.ha)) (pCons (Sel.sc (Sel.sa Sel.hc)) (pApp (Sel.sc (Sel.sa Sel.ha)) pNil)))))))))))) rfl ?_
    refine k_skip rfl rfl (pSub (pCons Sel.hc (pApp Sel.ha (pCons Sel.hc (pApp (Sel.sc (Sel.sa Sel.ha)) (pApp (Sel.sc (Sel.sa Sel.ha)) (pApp (Sel.sc (Sel.sa Sel.ha)) (pApp (Sel.sc (Sel.sa Sel.ha)) (pApp (Sel.sc (Sel.sa Sel.ha)) (pApp (Sel.sc (Sel.sa Sel.ha)) (pCons (Sel.sc (Sel.sa Sel.hc)) (pApp (Sel.sc (Sel.sa Sel.ha)) pNil)))))))))))) rfl ?_
    simp only [Option.some.injEq, Prod.mk.injEq] at h
    obtain ⟨rfl, rfl, rfl⟩ := h
    have h := hg92; clear hg92; try dsimp only at h
    refine k_val (v := .bool true) rfl rfl rfl (pSub (pCons Sel.hc (pApp Sel.ha (pCons Sel.hc (pApp (Sel.sc (Sel.sa Sel.ha)) (pApp (Sel.sc (Sel.sa Sel.ha)) (pApp (Sel.sc (Sel.sa Sel.ha)) (pApp (Sel.sc (Sel.sa Sel.ha)) (pApp (Sel.sc (Sel.sa Sel.ha)) (pApp (Sel.sc (Sel.sa Sel.ha)) (pCons (Sel.sc (Sel.sa Sel.hc)) (pApp (Sel.sc (Sel.sa Sel.ha)) pNil)))))))))))) (stepV_ok tt_ok rfl) rfl ?_
    refine k_val rfl rfl rfl (pSub (pCons Sel.hc (pApp Sel.ha (pCons Sel.hc (pApp (Sel.sc (Sel.sa Sel.ha)) (pApp (Sel.sc (Sel.sa Sel.ha)) (pApp (Sel.sc (Sel.sa Sel.ha)) (pApp (Sel.sc (Sel.sa Sel.ha)) (pApp (Sel.sc (Sel.sa Sel.ha)) (pApp (Sel.sc (Sel.sa Sel.ha)) (pCons (Sel.sc (Sel.sa Sel.hc)) (pApp (Sel.sc (Sel.sa Sel.ha)) pNil)))))))))))) (stepV_ok tt_ok rfl) rfl ?_
    replace h := bsome h; obtain ⟨⟨v98, g98_n13_0_f0, g98_n13_0_f1⟩, h, hg98⟩ := h
    replace h := ct rfl h
    refine k_skip rfl rfl (pSub (pCons Sel.hc (pApp Sel.ha (pCons Sel.hc (pApp (Sel.sc (Sel.sa Sel.ha)) (pApp (Sel.sc (Sel.sa Sel.ha)) (pApp (Sel.sc (Sel.sa Sel.ha)) (pApp (Sel.sc (Sel.sa Sel.ha)) (pApp (Sel.sc (Sel.sa Sel.ha)) (pApp (Sel.sc (Sel.sa Sel.ha)) (pCons (Sel.sc (Sel.sa Sel.hc)) (pApp (Sel.sc (Sel.sa Sel.ha)) pNil)))))))))))) rfl ?_
    refine k_skip rfl rfl (pSub (pCons Sel.hc (pApp Sel.ha (pCons Sel.hc (pApp (Sel.sc (Sel.sa Sel.ha)) (pApp (Sel.sc (Sel.sa Sel.ha)) (pApp (Sel.sc (Sel.sa Sel.ha)) (pApp (Sel.sc (Sel.sa Sel.ha)) (pApp (Sel.sc (Sel.sa Sel.ha)) (pApp (Sel.sc (Sel.sa Sel.ha)) (pCons (Sel.sc (Sel.sa Sel.hc)) (pApp (Sel.sc (Sel.sa Sel.ha)) pNil)))))))))))) rfl ?_
    refine k_skip rfl rfl (pSub (pCons Sel.hc (pApp Sel.ha (pCons Sel.hc (pApp (Sel.sc (Sel.sa Sel.ha)) (pApp (Sel.sc (Sel.sa Sel.ha)) (pApp (Sel.sc (Sel.sa Sel.ha)) (pApp (Sel.sc (Sel.sa Sel.ha)) (pApp (Sel.sc (Sel.sa Sel.ha)) (pApp (Sel.sc (Sel.sa Sel.ha)) (pCons (Sel.sc (Sel.sa Sel.hc)) (pApp (Sel.sc (Sel.sa Sel.ha)) pNil)))))))))))) rfl ?_
    refine k_skip rfl rfl (pSub (pCons Sel.hc (pApp Sel.ha (pCons Sel.hc (pApp (Sel.sc (Sel.sa Sel.ha)) (pApp (Sel.sc (Sel.sa Sel.ha)) (pApp (Sel.sc (Sel.sa Sel.ha)) (pApp (Sel.sc (Sel.sa Sel.ha)) (pApp (Sel.sc (Sel.sa Sel.ha)) (pApp (Sel.sc (Sel.sa Sel.ha)) (pCons (Sel.sc (Sel.sa Sel.hc)) (pApp (Sel.sc (Sel.sa Sel.ha)) pNil)))))))))))) rfl ?_
    simp only [Option.some.injEq, Prod.mk.injEq] at h
    obtain ⟨rfl, rfl, rfl⟩ := h
    have h := hg98; clear hg98; try dsimp only at h
    refine k_val (v := .bool true) rfl rfl rfl (pSub (pCons Sel.hc (pApp Sel.ha (pCons Sel.hc (pApp (Sel.sc (Sel.sa Sel.ha)) (pApp (Sel.sc (Sel.sa Sel.ha)) (pApp (Sel.sc (Sel.sa Sel.ha)) (pApp (Sel.sc (Sel.sa Sel.ha)) (pApp (Sel.sc (Sel.sa Sel.ha)) (pApp (Sel.sc (Sel.sa Sel.ha)) (pCons (Sel.sc (Sel.sa Sel.hc)) (pApp (Sel.sc (Sel.sa Sel.ha)) pNil)))))))))))) (stepV_ok tt_ok rfl) rfl ?_
    refine k_end (by kernel_rfl) ?_
    refine wx_then ?_
    replace h := ct rfl h
    refine wc_cond_true rfl ?_
    refine wc_seq (wc_region ?_)
    refine wl_pure tt_ok rfl rfl ?_
    refine wl_nil (wx_then (wc_ret (wx_then_ret ?_)))
    simp only [Option.some.injEq] at h
    obtain rfl := h
    exact wx_pf tt_ok (.inl rfl) Tryd.results5 (Res.tmp rfl Res.nil) rfl
  replace h := cf hc h
  refine k_val (v := .agg #[.int .u64 v62_0.Frame, .int .u64 v62_0.Seed, .int .i32 v62_0.Players.1.X, .int .i32 v62_0.Players.1.Y, .int .i32 v62_0.Players.1.VX, .int .i32 v62_0.Players.1.VY, .int .u8 v62_0.Players.1.Health, .int .u8 v62_0.Players.1.Cool, .int .u8 v62_0.Players.1.Face, .int .i32 v62_0.Players.2.X, .int .i32 v62_0.Players.2.Y, .int .i32 v62_0.Players.2.VX, .int .i32 v62_0.Players.2.VY, .int .u8 v62_0.Players.2.Health, .int .u8 v62_0.Players.2.Cool, .int .u8 v62_0.Players.2.Face, .slice v62_0a0 v62_0n0 v62_0c0, .int .u16 v62_0.Score.1, .int .u16 v62_0.Score.2]) rfl rfl rfl (pSub (pCons Sel.hc (pApp Sel.ha (pCons Sel.hc (pApp (Sel.sc (Sel.sa Sel.ha)) (pApp (Sel.sc (Sel.sa Sel.ha)) (pApp (Sel.sc (Sel.sa Sel.ha)) (pApp (Sel.sc (Sel.sa Sel.ha)) (pApp (Sel.sc (Sel.sa Sel.ha)) (pApp (Sel.sc (Sel.sa Sel.ha)) (pCons (Sel.sc (Sel.sa Sel.hc)) (pApp (Sel.sc (Sel.sa Sel.ha)) pNil)))))))))))) (val_load tt_ok rfl (List.Mem.tail _ (mR (List.Mem.head _))) rfl) rfl ?_
  replace h := bsome h; obtain ⟨v73, x73, h⟩ := h
  refine k_cs rfl rfl rfl Tryd.call19 rfl rfl rfl (s_sp (k_hindcastlaw25_at x73) pNil (fun w hI => ⟨(Rds.call G0S pNil rsub_nil) w hI, (Rds.call G1S pNil rsub_nil) w hI⟩)) rfl (.inr (by rintro _ _ ⟨_, ⟨_, _, _, _, _, _, rfl, rfl⟩, rfl⟩; exact ⟨_, (pCons (Sel.sa Sel.hc) (pApp (Sel.sa Sel.ha) (pCons (Sel.sa Sel.hc) (pApp (Sel.sa (Sel.sc (Sel.sa Sel.ha))) (pApp (Sel.sa (Sel.sc (Sel.sa Sel.ha))) (pApp (Sel.sa (Sel.sc (Sel.sa Sel.ha))) (pApp (Sel.sa (Sel.sc (Sel.sa Sel.ha))) (pApp (Sel.sa (Sel.sc (Sel.sa Sel.ha))) (pApp (Sel.sa (Sel.sc (Sel.sa Sel.ha))) (pCons (Sel.sa (Sel.sc (Sel.sa Sel.hc))) (pApp (Sel.sa (Sel.sc (Sel.sa Sel.ha))) pNil)))))))))))⟩)) ?_
  rintro _ _ ⟨_, ⟨v73a0, v73n0, v73c0, v73B0, v73N0, v73V0, rfl, rfl⟩, rfl⟩
  replace h := bsome h; obtain ⟨v74, x74, h⟩ := h
  refine k_cq rfl rfl rfl Tryd.call14 rfl rfl rfl (q_pf (k_state_Same (p0 := v62_0) (p1 := v73) v62_0N0 (vec_cap v62_0V0) v73N0 (vec_cap v73V0) x74) (fun w hI => ⟨(Rds.call (Rds.of_vec v62_0V0) pNil ⟨_, (Sel.sa (Sel.sc (Sel.sa (Sel.sc (Sel.sc (Sel.sa Sel.ha))))))⟩) w hI, (Rds.call (Rds.of_vec v73V0) pNil ⟨_, Sel.ha⟩) w hI⟩)) rfl (pSub (pCons (Sel.sa Sel.hc) (pApp (Sel.sa Sel.ha) (pCons (Sel.sa Sel.hc) (pApp (Sel.sa (Sel.sc (Sel.sa Sel.ha))) (pApp (Sel.sa (Sel.sc (Sel.sa Sel.ha))) (pApp (Sel.sa (Sel.sc (Sel.sa Sel.ha))) (pApp (Sel.sa (Sel.sc (Sel.sa Sel.ha))) (pApp (Sel.sa (Sel.sc (Sel.sa Sel.ha))) (pApp (Sel.sa (Sel.sc (Sel.sa Sel.ha))) (pCons (Sel.sa (Sel.sc (Sel.sa Sel.hc))) (pApp (Sel.sa (Sel.sc (Sel.sa Sel.ha))) pNil)))))))))))) ?_
  refine k_val (v := .bool (!v74)) rfl rfl rfl (pSub (pCons (Sel.sa Sel.hc) (pApp (Sel.sa Sel.ha) (pCons (Sel.sa Sel.hc) (pApp (Sel.sa (Sel.sc (Sel.sa Sel.ha))) (pApp (Sel.sa (Sel.sc (Sel.sa Sel.ha))) (pApp (Sel.sa (Sel.sc (Sel.sa Sel.ha))) (pApp (Sel.sa (Sel.sc (Sel.sa Sel.ha))) (pApp (Sel.sa (Sel.sc (Sel.sa Sel.ha))) (pApp (Sel.sa (Sel.sc (Sel.sa Sel.ha))) (pCons (Sel.sa (Sel.sc (Sel.sa Sel.hc))) (pApp (Sel.sa (Sel.sc (Sel.sa Sel.ha))) pNil)))))))))))) (stepV_ok tt_ok rfl) rfl ?_
  simp only [Option.some.injEq, Prod.mk.injEq] at h
  obtain rfl := h
  have h := hg76; clear hg76
  refine k_val (v := .bool (!v74)) rfl rfl rfl (pSub (pCons (Sel.sa Sel.hc) (pApp (Sel.sa Sel.ha) (pCons (Sel.sa Sel.hc) (pApp (Sel.sa (Sel.sc (Sel.sa Sel.ha))) (pApp (Sel.sa (Sel.sc (Sel.sa Sel.ha))) (pApp (Sel.sa (Sel.sc (Sel.sa Sel.ha))) (pApp (Sel.sa (Sel.sc (Sel.sa Sel.ha))) (pApp (Sel.sa (Sel.sc (Sel.sa Sel.ha))) (pApp (Sel.sa (Sel.sc (Sel.sa Sel.ha))) (pCons (Sel.sa (Sel.sc (Sel.sa Sel.hc))) (pApp (Sel.sa (Sel.sc (Sel.sa Sel.ha))) pNil)))))))))))) (stepV_ok tt_ok rfl) rfl ?_
  refine k_val rfl rfl rfl (pSub (pCons (Sel.sa Sel.hc) (pApp (Sel.sa Sel.ha) (pCons (Sel.sa Sel.hc) (pApp (Sel.sa (Sel.sc (Sel.sa Sel.ha))) (pApp (Sel.sa (Sel.sc (Sel.sa Sel.ha))) (pApp (Sel.sa (Sel.sc (Sel.sa Sel.ha))) (pApp (Sel.sa (Sel.sc (Sel.sa Sel.ha))) (pApp (Sel.sa (Sel.sc (Sel.sa Sel.ha))) (pApp (Sel.sa (Sel.sc (Sel.sa Sel.ha))) (pCons (Sel.sa (Sel.sc (Sel.sa Sel.hc))) (pApp (Sel.sa (Sel.sc (Sel.sa Sel.ha))) pNil)))))))))))) (stepV_ok tt_ok rfl) rfl ?_
  replace h := bsome h; obtain ⟨⟨v82, g82_n13_0_f0, g82_n13_0_f1⟩, h, hg82⟩ := h
  refine k_split (t := 77) rfl (fun hc => ?_) (fun hc => ?_)
  · replace h := ct hc h
    refine k_skip rfl rfl (pSub (pCons (Sel.sa Sel.hc) (pApp (Sel.sa Sel.ha) (pCons (Sel.sa Sel.hc) (pApp (Sel.sa (Sel.sc (Sel.sa Sel.ha))) (pApp (Sel.sa (Sel.sc (Sel.sa Sel.ha))) (pApp (Sel.sa (Sel.sc (Sel.sa Sel.ha))) (pApp (Sel.sa (Sel.sc (Sel.sa Sel.ha))) (pApp (Sel.sa (Sel.sc (Sel.sa Sel.ha))) (pApp (Sel.sa (Sel.sc (Sel.sa Sel.ha))) (pCons (Sel.sa (Sel.sc (Sel.sa Sel.hc))) (pApp (Sel.sa (Sel.sc (Sel.sa Sel.ha))) pNil)))))))))))) rfl ?_
    refine k_skip rfl rfl (pSub (pCons (Sel.sa Sel.hc) (pApp (Sel.sa Sel.ha) (pCons (Sel.sa Sel.hc) (pApp (Sel.sa (Sel.sc (Sel.sa Sel.ha))) (pApp (Sel.sa (Sel.sc (Sel.sa Sel.ha))) (pApp (Sel.sa (Sel.sc (Sel.sa Sel.ha))) (pApp (Sel.sa (Sel.sc (Sel.sa Sel.ha))) (pApp (Sel.sa (Sel.sc (Sel.sa Sel.ha))) (pApp (Sel.sa (Sel.sc (Sel.sa Sel.ha))) (pCons (Sel.sa (Sel.sc (Sel.sa Sel.hc))) (pApp (Sel.sa (Sel.sc (Sel.sa Sel.ha))) pNil)))))))))))) rfl ?_
    refine k_skip rfl rfl (pSub (pCons (Sel.sa Sel.hc) (pApp (Sel.sa Sel.ha) (pCons (Sel.sa Sel.hc) (pApp (Sel.sa (Sel.sc (Sel.sa Sel.ha))) (pApp (Sel.sa (Sel.sc (Sel.sa Sel.ha))) (pApp (Sel.sa (Sel.sc (Sel.sa Sel.ha))) (pApp (Sel.sa (Sel.sc (Sel.sa Sel.ha))) (pApp (Sel.sa (Sel.sc (Sel.sa Sel.ha))) (pApp (Sel.sa (Sel.sc (Sel.sa Sel.ha))) (pCons (Sel.sa (Sel.sc (Sel.sa Sel.hc))) (pApp (Sel.sa (Sel.sc (Sel.sa Sel.ha))) pNil)))))))))))) rfl ?_
    refine k_skip rfl rfl (pSub (pCons (Sel.sa Sel.hc) (pApp (Sel.sa Sel.ha) (pCons (Sel.sa Sel.hc) (pApp (Sel.sa (Sel.sc (Sel.sa Sel.ha))) (pApp (Sel.sa (Sel.sc (Sel.sa Sel.ha))) (pApp (Sel.sa (Sel.sc (Sel.sa Sel.ha))) (pApp (Sel.sa (Sel.sc (Sel.sa Sel.ha))) (pApp (Sel.sa (Sel.sc (Sel.sa Sel.ha))) (pApp (Sel.sa (Sel.sc (Sel.sa Sel.ha))) (pCons (Sel.sa (Sel.sc (Sel.sa Sel.hc))) (pApp (Sel.sa (Sel.sc (Sel.sa Sel.ha))) pNil)))))))))))) rfl ?_
    simp only [Option.some.injEq, Prod.mk.injEq] at h
    obtain ⟨rfl, rfl, rfl⟩ := h
    have h := hg82; clear hg82; try dsimp only at h
    refine k_val (v := .bool true) rfl rfl rfl (pSub (pCons (Sel.sa Sel.hc) (pApp (Sel.sa Sel.ha) (pCons (Sel.sa Sel.hc) (pApp (Sel.sa (Sel.sc (Sel.sa Sel.ha))) (pApp (Sel.sa (Sel.sc (Sel.sa Sel.ha))) (pApp (Sel.sa (Sel.sc (Sel.sa Sel.ha))) (pApp (Sel.sa (Sel.sc (Sel.sa Sel.ha))) (pApp (Sel.sa (Sel.sc (Sel.sa Sel.ha))) (pApp (Sel.sa (Sel.sc (Sel.sa Sel.ha))) (pCons (Sel.sa (Sel.sc (Sel.sa Sel.hc))) (pApp (Sel.sa (Sel.sc (Sel.sa Sel.ha))) pNil)))))))))))) (stepV_ok tt_ok rfl) rfl ?_
    refine k_val rfl rfl rfl (pSub (pCons (Sel.sa Sel.hc) (pApp (Sel.sa Sel.ha) (pCons (Sel.sa Sel.hc) (pApp (Sel.sa (Sel.sc (Sel.sa Sel.ha))) (pApp (Sel.sa (Sel.sc (Sel.sa Sel.ha))) (pApp (Sel.sa (Sel.sc (Sel.sa Sel.ha))) (pApp (Sel.sa (Sel.sc (Sel.sa Sel.ha))) (pApp (Sel.sa (Sel.sc (Sel.sa Sel.ha))) (pApp (Sel.sa (Sel.sc (Sel.sa Sel.ha))) (pCons (Sel.sa (Sel.sc (Sel.sa Sel.hc))) (pApp (Sel.sa (Sel.sc (Sel.sa Sel.ha))) pNil)))))))))))) (stepV_ok tt_ok rfl) rfl ?_
    replace h := bsome h; obtain ⟨v87, h, hg87⟩ := h
    replace h := ct rfl h
    refine k_skip rfl rfl (pSub (pCons (Sel.sa Sel.hc) (pApp (Sel.sa Sel.ha) (pCons (Sel.sa Sel.hc) (pApp (Sel.sa (Sel.sc (Sel.sa Sel.ha))) (pApp (Sel.sa (Sel.sc (Sel.sa Sel.ha))) (pApp (Sel.sa (Sel.sc (Sel.sa Sel.ha))) (pApp (Sel.sa (Sel.sc (Sel.sa Sel.ha))) (pApp (Sel.sa (Sel.sc (Sel.sa Sel.ha))) (pApp (Sel.sa (Sel.sc (Sel.sa Sel.ha))) (pCons (Sel.sa (Sel.sc (Sel.sa Sel.hc))) (pApp (Sel.sa (Sel.sc (Sel.sa Sel.ha))) pNil)))))))))))) rfl ?_
    refine k_skip rfl rfl (pSub (pCons (Sel.sa Sel.hc) (pApp (Sel.sa Sel.ha) (pCons (Sel.sa Sel.hc) (pApp (Sel.sa (Sel.sc (Sel.sa Sel.ha))) (pApp (Sel.sa (Sel.sc (Sel.sa Sel.ha))) (pApp (Sel.sa (Sel.sc (Sel.sa Sel.ha))) (pApp (Sel.sa (Sel.sc (Sel.sa Sel.ha))) (pApp (Sel.sa (Sel.sc (Sel.sa Sel.ha))) (pApp (Sel.sa (Sel.sc (Sel.sa Sel.ha))) (pCons (Sel.sa (Sel.sc (Sel.sa Sel.hc))) (pApp (Sel.sa (Sel.sc (Sel.sa Sel.ha))) pNil)))))))))))) rfl ?_
    refine k_skip rfl rfl (pSub (pCons (Sel.sa Sel.hc) (pApp (Sel.sa Sel.ha) (pCons (Sel.sa Sel.hc) (pApp (Sel.sa (Sel.sc (Sel.sa Sel.ha))) (pApp (Sel.sa (Sel.sc (Sel.sa Sel.ha))) (pApp (Sel.sa (Sel.sc (Sel.sa Sel.ha))) (pApp (Sel.sa (Sel.sc (Sel.sa Sel.ha))) (pApp (Sel.sa (Sel.sc (Sel.sa Sel.ha))) (pApp (Sel.sa (Sel.sc (Sel.sa Sel.ha))) (pCons (Sel.sa (Sel.sc (Sel.sa Sel.hc))) (pApp (Sel.sa (Sel.sc (Sel.sa Sel.ha))) pNil)))))))))))) rfl ?_
    simp only [Option.some.injEq, Prod.mk.injEq] at h
    obtain rfl := h
    have h := hg87; clear hg87
    refine k_val (v := .bool true) rfl rfl rfl (pSub (pCons (Sel.sa Sel.hc) (pApp (Sel.sa Sel.ha) (pCons (Sel.sa Sel.hc) (pApp (Sel.sa (Sel.sc (Sel.sa Sel.ha))) (pApp (Sel.sa (Sel.sc (Sel.sa Sel.ha))) (pApp (Sel.sa (Sel.sc (Sel.sa Sel.ha))) (pApp (Sel.sa (Sel.sc (Sel.sa Sel.ha))) (pApp (Sel.sa (Sel.sc (Sel.sa Sel.ha))) (pApp (Sel.sa (Sel.sc (Sel.sa Sel.ha))) (pCons (Sel.sa (Sel.sc (Sel.sa Sel.hc))) (pApp (Sel.sa (Sel.sc (Sel.sa Sel.ha))) pNil)))))))))))) (stepV_ok tt_ok rfl) rfl ?_
    refine k_val rfl rfl rfl (pSub (pCons (Sel.sa Sel.hc) (pApp (Sel.sa Sel.ha) (pCons (Sel.sa Sel.hc) (pApp (Sel.sa (Sel.sc (Sel.sa Sel.ha))) (pApp (Sel.sa (Sel.sc (Sel.sa Sel.ha))) (pApp (Sel.sa (Sel.sc (Sel.sa Sel.ha))) (pApp (Sel.sa (Sel.sc (Sel.sa Sel.ha))) (pApp (Sel.sa (Sel.sc (Sel.sa Sel.ha))) (pApp (Sel.sa (Sel.sc (Sel.sa Sel.ha))) (pCons (Sel.sa (Sel.sc (Sel.sa Sel.hc))) (pApp (Sel.sa (Sel.sc (Sel.sa Sel.ha))) pNil)))))))))))) (stepV_ok tt_ok rfl) rfl ?_
    replace h := bsome h; obtain ⟨⟨v92, g92_n13_0_f0, g92_n13_0_f1⟩, h, hg92⟩ := h
    replace h := ct rfl h
    refine k_skip rfl rfl (pSub (pCons (Sel.sa Sel.hc) (pApp (Sel.sa Sel.ha) (pCons (Sel.sa Sel.hc) (pApp (Sel.sa (Sel.sc (Sel.sa Sel.ha))) (pApp (Sel.sa (Sel.sc (Sel.sa Sel.ha))) (pApp (Sel.sa (Sel.sc (Sel.sa Sel.ha))) (pApp (Sel.sa (Sel.sc (Sel.sa Sel.ha))) (pApp (Sel.sa (Sel.sc (Sel.sa Sel.ha))) (pApp (Sel.sa (Sel.sc (Sel.sa Sel.ha))) (pCons (Sel.sa (Sel.sc (Sel.sa Sel.hc))) (pApp (Sel.sa (Sel.sc (Sel.sa Sel.ha))) pNil)))))))))))) rfl ?_
    refine k_skip rfl rfl (pSub (pCons (Sel.sa Sel.hc) (pApp (Sel.sa Sel.ha) (pCons (Sel.sa Sel.hc) (pApp (Sel.sa (Sel.sc (Sel.sa Sel.ha))) (pApp (Sel.sa (Sel.sc (Sel.sa Sel.ha))) (pApp (Sel.sa (Sel.sc (Sel.sa Sel.ha))) (pApp (Sel.sa (Sel.sc (Sel.sa Sel.ha))) (pApp (Sel.sa (Sel.sc (Sel.sa Sel.ha))) (pApp (Sel.sa (Sel.sc (Sel.sa Sel.ha))) (pCons (Sel.sa (Sel.sc (Sel.sa Sel.hc))) (pApp (Sel.sa (Sel.sc (Sel.sa Sel.ha))) pNil)))))))))))) rfl ?_
    refine k_skip rfl rfl (pSub (pCons (Sel.sa Sel.hc) (pApp (Sel.sa Sel.ha) (pCons (Sel.sa Sel.hc) (pApp (Sel.sa (Sel.sc (Sel.sa Sel.ha))) (pApp (Sel.sa (Sel.sc (Sel.sa Sel.ha))) (pApp (Sel.sa (Sel.sc (Sel.sa Sel.ha))) (pApp (Sel.sa (Sel.sc (Sel.sa Sel.ha))) (pApp (Sel.sa (Sel.sc (Sel.sa Sel.ha))) (pApp (Sel.sa (Sel.sc (Sel.sa Sel.ha))) (pCons (Sel.sa (Sel.sc (Sel.sa Sel.hc))) (pApp (Sel.sa (Sel.sc (Sel.sa Sel.ha))) pNil)))))))))))) rfl ?_
    simp only [Option.some.injEq, Prod.mk.injEq] at h
    obtain ⟨rfl, rfl, rfl⟩ := h
    have h := hg92; clear hg92; try dsimp only at h
    refine k_val (v := .bool true) rfl rfl rfl (pSub (pCons (Sel.sa Sel.hc) (pApp (Sel.sa Sel.ha) (pCons (Sel.sa Sel.hc) (pApp (Sel.sa (Sel.sc (Sel.sa Sel.ha))) (pApp (Sel.sa (Sel.sc (Sel.sa Sel.ha))) (pApp (Sel.sa (Sel.sc (Sel.sa Sel.ha))) (pApp (Sel.sa (Sel.sc (Sel.sa Sel.ha))) (pApp (Sel.sa (Sel.sc (Sel.sa Sel.ha))) (pApp (Sel.sa (Sel.sc (Sel.sa Sel.ha))) (pCons (Sel.sa (Sel.sc (Sel.sa Sel.hc))) (pApp (Sel.sa (Sel.sc (Sel.sa Sel.ha))) pNil)))))))))))) (stepV_ok tt_ok rfl) rfl ?_
    refine k_val rfl rfl rfl (pSub (pCons (Sel.sa Sel.hc) (pApp (Sel.sa Sel.ha) (pCons (Sel.sa Sel.hc) (pApp (Sel.sa (Sel.sc (Sel.sa Sel.ha))) (pApp (Sel.sa (Sel.sc (Sel.sa Sel.ha))) (pApp (Sel.sa (Sel.sc (Sel.sa Sel.ha))) (pApp (Sel.sa (Sel.sc (Sel.sa Sel.ha))) (pApp (Sel.sa (Sel.sc (Sel.sa Sel.ha))) (pApp (Sel.sa (Sel.sc (Sel.sa Sel.ha))) (pCons (Sel.sa (Sel.sc (Sel.sa Sel.hc))) (pApp (Sel.sa (Sel.sc (Sel.sa Sel.ha))) pNil)))))))))))) (stepV_ok tt_ok rfl) rfl ?_
    replace h := bsome h; obtain ⟨⟨v98, g98_n13_0_f0, g98_n13_0_f1⟩, h, hg98⟩ := h
    replace h := ct rfl h
    refine k_skip rfl rfl (pSub (pCons (Sel.sa Sel.hc) (pApp (Sel.sa Sel.ha) (pCons (Sel.sa Sel.hc) (pApp (Sel.sa (Sel.sc (Sel.sa Sel.ha))) (pApp (Sel.sa (Sel.sc (Sel.sa Sel.ha))) (pApp (Sel.sa (Sel.sc (Sel.sa Sel.ha))) (pApp (Sel.sa (Sel.sc (Sel.sa Sel.ha))) (pApp (Sel.sa (Sel.sc (Sel.sa Sel.ha))) (pApp (Sel.sa (Sel.sc (Sel.sa Sel.ha))) (pCons (Sel.sa (Sel.sc (Sel.sa Sel.hc))) (pApp (Sel.sa (Sel.sc (Sel.sa Sel.ha))) pNil)))))))))))) rfl ?_
    refine k_skip rfl rfl (pSub (pCons (Sel.sa Sel.hc) (pApp (Sel.sa Sel.ha) (pCons (Sel.sa Sel.hc) (pApp (Sel.sa (Sel.sc (Sel.sa Sel.ha))) (pApp (Sel.sa (Sel.sc (Sel.sa Sel.ha))) (pApp (Sel.sa (Sel.sc (Sel.sa Sel.ha))) (pApp (Sel.sa (Sel.sc (Sel.sa Sel.ha))) (pApp (Sel.sa (Sel.sc (Sel.sa Sel.ha))) (pApp (Sel.sa (Sel.sc (Sel.sa Sel.ha))) (pCons (Sel.sa (Sel.sc (Sel.sa Sel.hc))) (pApp (Sel.sa (Sel.sc (Sel.sa Sel.ha))) pNil)))))))))))) rfl ?_
    refine k_skip rfl rfl (pSub (pCons (Sel.sa Sel.hc) (pApp (Sel.sa Sel.ha) (pCons (Sel.sa Sel.hc) (pApp (Sel.sa (Sel.sc (Sel.sa Sel.ha))) (pApp (Sel.sa (Sel.sc (Sel.sa Sel.ha))) (pApp (Sel.sa (Sel.sc (Sel.sa Sel.ha))) (pApp (Sel.sa (Sel.sc (Sel.sa Sel.ha))) (pApp (Sel.sa (Sel.sc (Sel.sa Sel.ha))) (pApp (Sel.sa (Sel.sc (Sel.sa Sel.ha))) (pCons (Sel.sa (Sel.sc (Sel.sa Sel.hc))) (pApp (Sel.sa (Sel.sc (Sel.sa Sel.ha))) pNil)))))))))))) rfl ?_
    refine k_skip rfl rfl (pSub (pCons (Sel.sa Sel.hc) (pApp (Sel.sa Sel.ha) (pCons (Sel.sa Sel.hc) (pApp (Sel.sa (Sel.sc (Sel.sa Sel.ha))) (pApp (Sel.sa (Sel.sc (Sel.sa Sel.ha))) (pApp (Sel.sa (Sel.sc (Sel.sa Sel.ha))) (pApp (Sel.sa (Sel.sc (Sel.sa Sel.ha))) (pApp (Sel.sa (Sel.sc (Sel.sa Sel.ha))) (pApp (Sel.sa (Sel.sc (Sel.sa Sel.ha))) (pCons (Sel.sa (Sel.sc (Sel.sa Sel.hc))) (pApp (Sel.sa (Sel.sc (Sel.sa Sel.ha))) pNil)))))))))))) rfl ?_
    simp only [Option.some.injEq, Prod.mk.injEq] at h
    obtain ⟨rfl, rfl, rfl⟩ := h
    have h := hg98; clear hg98; try dsimp only at h
    refine k_val (v := .bool true) rfl rfl rfl (pSub (pCons (Sel.sa Sel.hc) (pApp (Sel.sa Sel.ha) (pCons (Sel.sa Sel.hc) (pApp (Sel.sa (Sel.sc (Sel.sa Sel.ha))) (pApp (Sel.sa (Sel.sc (Sel.sa Sel.ha))) (pApp (Sel.sa (Sel.sc (Sel.sa Sel.ha))) (pApp (Sel.sa (Sel.sc (Sel.sa Sel.ha))) (pApp (Sel.sa (Sel.sc (Sel.sa Sel.ha))) (pApp (Sel.sa (Sel.sc (Sel.sa Sel.ha))) (pCons (Sel.sa (Sel.sc (Sel.sa Sel.hc))) (pApp (Sel.sa (Sel.sc (Sel.sa Sel.ha))) pNil)))))))))))) (stepV_ok tt_ok rfl) rfl ?_
    refine k_end (by kernel_rfl) ?_
    refine wx_then ?_
    replace h := ct rfl h
    refine wc_cond_true rfl ?_
    refine wc_seq (wc_region ?_)
    refine wl_pure tt_ok rfl rfl ?_
    refine wl_nil (wx_then (wc_ret (wx_then_ret ?_)))
    simp only [Option.some.injEq] at h
    obtain rfl := h
    exact wx_pf tt_ok (.inl rfl) Tryd.results5 (Res.tmp rfl Res.nil) rfl
  replace h := cf hc h
  refine k_val rfl rfl rfl (pSub (pCons (Sel.sa Sel.hc) (pApp (Sel.sa Sel.ha) (pCons (Sel.sa Sel.hc) (pApp (Sel.sa (Sel.sc (Sel.sa Sel.ha))) (pApp (Sel.sa (Sel.sc (Sel.sa Sel.ha))) (pApp (Sel.sa (Sel.sc (Sel.sa Sel.ha))) (pApp (Sel.sa (Sel.sc (Sel.sa Sel.ha))) (pApp (Sel.sa (Sel.sc (Sel.sa Sel.ha))) (pApp (Sel.sa (Sel.sc (Sel.sa Sel.ha))) (pCons (Sel.sa (Sel.sc (Sel.sa Sel.hc))) (pApp (Sel.sa (Sel.sc (Sel.sa Sel.ha))) pNil)))))))))))) (stepV_ok tt_ok rfl) rfl ?_
  replace h := bsome h; obtain ⟨v79, x79, h⟩ := h
  refine k_cs rfl rfl rfl Tryd.call19 rfl rfl rfl (s_sp (k_hindcastlaw25_at x79) pNil (fun w hI => ⟨(Rds.call G0S pNil rsub_nil) w hI, (Rds.call G1S pNil rsub_nil) w hI⟩)) rfl (.inr (by rintro _ _ ⟨_, ⟨_, _, _, _, _, _, rfl, rfl⟩, rfl⟩; exact ⟨_, (pCons (Sel.sa (Sel.sa Sel.hc)) (pApp (Sel.sa (Sel.sa Sel.ha)) (pCons (Sel.sa (Sel.sa Sel.hc)) (pApp (Sel.sa (Sel.sa (Sel.sc (Sel.sa Sel.ha)))) (pApp (Sel.sa (Sel.sa (Sel.sc (Sel.sa Sel.ha)))) (pApp (Sel.sa (Sel.sa (Sel.sc (Sel.sa Sel.ha)))) (pApp (Sel.sa (Sel.sa (Sel.sc (Sel.sa Sel.ha)))) (pApp (Sel.sa (Sel.sa (Sel.sc (Sel.sa Sel.ha)))) (pApp (Sel.sa (Sel.sa (Sel.sc (Sel.sa Sel.ha)))) (pCons (Sel.sa (Sel.sa (Sel.sc (Sel.sa Sel.hc)))) (pApp (Sel.sa (Sel.sa (Sel.sc (Sel.sa Sel.ha)))) pNil)))))))))))⟩)) ?_
  rintro _ _ ⟨_, ⟨v79a0, v79n0, v79c0, v79B0, v79N0, v79V0, rfl, rfl⟩, rfl⟩
  replace h := bsome h; obtain ⟨⟨o80_0, v80⟩, x80, h⟩ := h; try dsimp only at h
  refine k_cs rfl rfl rfl Tryd.call10 rfl rfl rfl (s_sp (k_ring_Ring_Put (p0 := o52_0) (p1 := v79) o52_0G0 o52_0A0 v79N0 (vec_cap v79V0) (own_Z v79V0) x80) (pCons (Sel.sa (Sel.sa (Sel.sc (Sel.sa (Sel.sc Sel.hc))))) (pApp (Sel.sa (Sel.sa (Sel.sc (Sel.sa (Sel.sc Sel.ha))))) pNil)) (fun w hI => ⟨(Rds.call (Rds.of_vec v79V0) (pCons (Sel.sa (Sel.sa (Sel.sc (Sel.sa (Sel.sc Sel.hc))))) (pApp (Sel.sa (Sel.sa (Sel.sc (Sel.sa (Sel.sc Sel.ha))))) pNil)) ⟨_, Sel.ha⟩) w hI, (Rds.call G0S (pCons (Sel.sa (Sel.sa (Sel.sc (Sel.sa (Sel.sc Sel.hc))))) (pApp (Sel.sa (Sel.sa (Sel.sc (Sel.sa (Sel.sc Sel.ha))))) pNil)) rsub_nil) w hI, (Rds.call G1S (pCons (Sel.sa (Sel.sa (Sel.sc (Sel.sa (Sel.sc Sel.hc))))) (pApp (Sel.sa (Sel.sa (Sel.sc (Sel.sa (Sel.sc Sel.ha))))) pNil)) rsub_nil) w hI⟩)) rfl (.inr (by rintro _ _ ⟨_, ⟨_, _, _, _, rfl, rfl⟩, rfl⟩; exact ⟨_, (pCons (Sel.sc (Sel.sa (Sel.sa (Sel.sa Sel.hc)))) (pApp (Sel.sc (Sel.sa (Sel.sa (Sel.sa Sel.ha)))) (pCons (Sel.sc (Sel.sa (Sel.sa (Sel.sa Sel.hc)))) (pApp (Sel.sc (Sel.sa (Sel.sa (Sel.sa Sel.ha)))) (pApp (Sel.sc (Sel.sa (Sel.sa (Sel.sa Sel.ha)))) (pApp (Sel.sc (Sel.sa (Sel.sa (Sel.sa Sel.ha)))) (pApp (Sel.sc (Sel.sa (Sel.sa (Sel.sa Sel.ha)))) (pApp (Sel.sc (Sel.sa (Sel.sa (Sel.sa Sel.ha)))) (pApp (Sel.sc (Sel.sa (Sel.sa (Sel.sa Sel.ha)))) (pCons (Sel.sc (Sel.sa (Sel.sa (Sel.sa Sel.hc)))) (pApp (Sel.sc (Sel.sa (Sel.sa (Sel.sa Sel.ha)))) pNil)))))))))))⟩)) ?_
  rintro _ _ ⟨_, ⟨o80_0g0, o80_0P0, o80_0G0, o80_0A0, rfl, rfl⟩, rfl⟩
  refine k_val (v := .bool (!v80)) rfl rfl rfl (pSub (pCons (Sel.sc (Sel.sa (Sel.sa (Sel.sa Sel.hc)))) (pApp (Sel.sc (Sel.sa (Sel.sa (Sel.sa Sel.ha)))) (pCons (Sel.sc (Sel.sa (Sel.sa (Sel.sa Sel.hc)))) (pApp (Sel.sc (Sel.sa (Sel.sa (Sel.sa Sel.ha)))) (pApp (Sel.sc (Sel.sa (Sel.sa (Sel.sa Sel.ha)))) (pApp (Sel.sc (Sel.sa (Sel.sa (Sel.sa Sel.ha)))) (pApp (Sel.sc (Sel.sa (Sel.sa (Sel.sa Sel.ha)))) (pApp (Sel.sc (Sel.sa (Sel.sa (Sel.sa Sel.ha)))) (pApp (Sel.sc (Sel.sa (Sel.sa (Sel.sa Sel.ha)))) (pCons (Sel.sc (Sel.sa (Sel.sa (Sel.sa Sel.hc)))) (pApp (Sel.sc (Sel.sa (Sel.sa (Sel.sa Sel.ha)))) pNil)))))))))))) (stepV_ok tt_ok rfl) rfl ?_
  simp only [Option.some.injEq, Prod.mk.injEq] at h
  obtain ⟨rfl, rfl, rfl⟩ := h
  have h := hg82; clear hg82; try dsimp only at h
  refine k_val (v := .bool (!v80)) rfl rfl rfl (pSub (pCons (Sel.sc (Sel.sa (Sel.sa (Sel.sa Sel.hc)))) (pApp (Sel.sc (Sel.sa (Sel.sa (Sel.sa Sel.ha)))) (pCons (Sel.sc (Sel.sa (Sel.sa (Sel.sa Sel.hc)))) (pApp (Sel.sc (Sel.sa (Sel.sa (Sel.sa Sel.ha)))) (pApp (Sel.sc (Sel.sa (Sel.sa (Sel.sa Sel.ha)))) (pApp (Sel.sc (Sel.sa (Sel.sa (Sel.sa Sel.ha)))) (pApp (Sel.sc (Sel.sa (Sel.sa (Sel.sa Sel.ha)))) (pApp (Sel.sc (Sel.sa (Sel.sa (Sel.sa Sel.ha)))) (pApp (Sel.sc (Sel.sa (Sel.sa (Sel.sa Sel.ha)))) (pCons (Sel.sc (Sel.sa (Sel.sa (Sel.sa Sel.hc)))) (pApp (Sel.sc (Sel.sa (Sel.sa (Sel.sa Sel.ha)))) pNil)))))))))))) (stepV_ok tt_ok rfl) rfl ?_
  refine k_val rfl rfl rfl (pSub (pCons (Sel.sc (Sel.sa (Sel.sa (Sel.sa Sel.hc)))) (pApp (Sel.sc (Sel.sa (Sel.sa (Sel.sa Sel.ha)))) (pCons (Sel.sc (Sel.sa (Sel.sa (Sel.sa Sel.hc)))) (pApp (Sel.sc (Sel.sa (Sel.sa (Sel.sa Sel.ha)))) (pApp (Sel.sc (Sel.sa (Sel.sa (Sel.sa Sel.ha)))) (pApp (Sel.sc (Sel.sa (Sel.sa (Sel.sa Sel.ha)))) (pApp (Sel.sc (Sel.sa (Sel.sa (Sel.sa Sel.ha)))) (pApp (Sel.sc (Sel.sa (Sel.sa (Sel.sa Sel.ha)))) (pApp (Sel.sc (Sel.sa (Sel.sa (Sel.sa Sel.ha)))) (pCons (Sel.sc (Sel.sa (Sel.sa (Sel.sa Sel.hc)))) (pApp (Sel.sc (Sel.sa (Sel.sa (Sel.sa Sel.ha)))) pNil)))))))))))) (stepV_ok tt_ok rfl) rfl ?_
  replace h := bsome h; obtain ⟨v87, h, hg87⟩ := h
  refine k_split (t := 83) rfl (fun hc => ?_) (fun hc => ?_)
  · replace h := ct hc h
    refine k_skip rfl rfl (pSub (pCons (Sel.sc (Sel.sa (Sel.sa (Sel.sa Sel.hc)))) (pApp (Sel.sc (Sel.sa (Sel.sa (Sel.sa Sel.ha)))) (pCons (Sel.sc (Sel.sa (Sel.sa (Sel.sa Sel.hc)))) (pApp (Sel.sc (Sel.sa (Sel.sa (Sel.sa Sel.ha)))) (pApp (Sel.sc (Sel.sa (Sel.sa (Sel.sa Sel.ha)))) (pApp (Sel.sc (Sel.sa (Sel.sa (Sel.sa Sel.ha)))) (pApp (Sel.sc (Sel.sa (Sel.sa (Sel.sa Sel.ha)))) (pApp (Sel.sc (Sel.sa (Sel.sa (Sel.sa Sel.ha)))) (pApp (Sel.sc (Sel.sa (Sel.sa (Sel.sa Sel.ha)))) (pCons (Sel.sc (Sel.sa (Sel.sa (Sel.sa Sel.hc)))) (pApp (Sel.sc (Sel.sa (Sel.sa (Sel.sa Sel.ha)))) pNil)))))))))))) rfl ?_
    refine k_skip rfl rfl (pSub (pCons (Sel.sc (Sel.sa (Sel.sa (Sel.sa Sel.hc)))) (pApp (Sel.sc (Sel.sa (Sel.sa (Sel.sa Sel.ha)))) (pCons (Sel.sc (Sel.sa (Sel.sa (Sel.sa Sel.hc)))) (pApp (Sel.sc (Sel.sa (Sel.sa (Sel.sa Sel.ha)))) (pApp (Sel.sc (Sel.sa (Sel.sa (Sel.sa Sel.ha)))) (pApp (Sel.sc (Sel.sa (Sel.sa (Sel.sa Sel.ha)))) (pApp (Sel.sc (Sel.sa (Sel.sa (Sel.sa Sel.ha)))) (pApp (Sel.sc (Sel.sa (Sel.sa (Sel.sa Sel.ha)))) (pApp (Sel.sc (Sel.sa (Sel.sa (Sel.sa Sel.ha)))) (pCons (Sel.sc (Sel.sa (Sel.sa (Sel.sa Sel.hc)))) (pApp (Sel.sc (Sel.sa (Sel.sa (Sel.sa Sel.ha)))) pNil)))))))))))) rfl ?_
    refine k_skip rfl rfl (pSub (pCons (Sel.sc (Sel.sa (Sel.sa (Sel.sa Sel.hc)))) (pApp (Sel.sc (Sel.sa (Sel.sa (Sel.sa Sel.ha)))) (pCons (Sel.sc (Sel.sa (Sel.sa (Sel.sa Sel.hc)))) (pApp (Sel.sc (Sel.sa (Sel.sa (Sel.sa Sel.ha)))) (pApp (Sel.sc (Sel.sa (Sel.sa (Sel.sa Sel.ha)))) (pApp (Sel.sc (Sel.sa (Sel.sa (Sel.sa Sel.ha)))) (pApp (Sel.sc (Sel.sa (Sel.sa (Sel.sa Sel.ha)))) (pApp (Sel.sc (Sel.sa (Sel.sa (Sel.sa Sel.ha)))) (pApp (Sel.sc (Sel.sa (Sel.sa (Sel.sa Sel.ha)))) (pCons (Sel.sc (Sel.sa (Sel.sa (Sel.sa Sel.hc)))) (pApp (Sel.sc (Sel.sa (Sel.sa (Sel.sa Sel.ha)))) pNil)))))))))))) rfl ?_
    simp only [Option.some.injEq, Prod.mk.injEq] at h
    obtain rfl := h
    have h := hg87; clear hg87
    refine k_val (v := .bool true) rfl rfl rfl (pSub (pCons (Sel.sc (Sel.sa (Sel.sa (Sel.sa Sel.hc)))) (pApp (Sel.sc (Sel.sa (Sel.sa (Sel.sa Sel.ha)))) (pCons (Sel.sc (Sel.sa (Sel.sa (Sel.sa Sel.hc)))) (pApp (Sel.sc (Sel.sa (Sel.sa (Sel.sa Sel.ha)))) (pApp (Sel.sc (Sel.sa (Sel.sa (Sel.sa Sel.ha)))) (pApp (Sel.sc (Sel.sa (Sel.sa (Sel.sa Sel.ha)))) (pApp (Sel.sc (Sel.sa (Sel.sa (Sel.sa Sel.ha)))) (pApp (Sel.sc (Sel.sa (Sel.sa (Sel.sa Sel.ha)))) (pApp (Sel.sc (Sel.sa (Sel.sa (Sel.sa Sel.ha)))) (pCons (Sel.sc (Sel.sa (Sel.sa (Sel.sa Sel.hc)))) (pApp (Sel.sc (Sel.sa (Sel.sa (Sel.sa Sel.ha)))) pNil)))))))))))) (stepV_ok tt_ok rfl) rfl ?_
    refine k_val rfl rfl rfl (pSub (pCons (Sel.sc (Sel.sa (Sel.sa (Sel.sa Sel.hc)))) (pApp (Sel.sc (Sel.sa (Sel.sa (Sel.sa Sel.ha)))) (pCons (Sel.sc (Sel.sa (Sel.sa (Sel.sa Sel.hc)))) (pApp (Sel.sc (Sel.sa (Sel.sa (Sel.sa Sel.ha)))) (pApp (Sel.sc (Sel.sa (Sel.sa (Sel.sa Sel.ha)))) (pApp (Sel.sc (Sel.sa (Sel.sa (Sel.sa Sel.ha)))) (pApp (Sel.sc (Sel.sa (Sel.sa (Sel.sa Sel.ha)))) (pApp (Sel.sc (Sel.sa (Sel.sa (Sel.sa Sel.ha)))) (pApp (Sel.sc (Sel.sa (Sel.sa (Sel.sa Sel.ha)))) (pCons (Sel.sc (Sel.sa (Sel.sa (Sel.sa Sel.hc)))) (pApp (Sel.sc (Sel.sa (Sel.sa (Sel.sa Sel.ha)))) pNil)))))))))))) (stepV_ok tt_ok rfl) rfl ?_
    replace h := bsome h; obtain ⟨⟨v92, g92_n13_0_f0, g92_n13_0_f1⟩, h, hg92⟩ := h
    replace h := ct rfl h
    refine k_skip rfl rfl (pSub (pCons (Sel.sc (Sel.sa (Sel.sa (Sel.sa Sel.hc)))) (pApp (Sel.sc (Sel.sa (Sel.sa (Sel.sa Sel.ha)))) (pCons (Sel.sc (Sel.sa (Sel.sa (Sel.sa Sel.hc)))) (pApp (Sel.sc (Sel.sa (Sel.sa (Sel.sa Sel.ha)))) (pApp (Sel.sc (Sel.sa (Sel.sa (Sel.sa Sel.ha)))) (pApp (Sel.sc (Sel.sa (Sel.sa (Sel.sa Sel.ha)))) (pApp (Sel.sc (Sel.sa (Sel.sa (Sel.sa Sel.ha)))) (pApp (Sel.sc (Sel.sa (Sel.sa (Sel.sa Sel.ha)))) (pApp (Sel.sc (Sel.sa (Sel.sa (Sel.sa Sel.ha)))) (pCons (Sel.sc (Sel.sa (Sel.sa (Sel.sa Sel.hc)))) (pApp (Sel.sc (Sel.sa (Sel.sa (Sel.sa Sel.ha)))) pNil)))))))))))) rfl ?_
    refine k_skip rfl rfl (pSub (pCons (Sel.sc (Sel.sa (Sel.sa (Sel.sa Sel.hc)))) (pApp (Sel.sc (Sel.sa (Sel.sa (Sel.sa Sel.ha)))) (pCons (Sel.sc (Sel.sa (Sel.sa (Sel.sa Sel.hc)))) (pApp (Sel.sc (Sel.sa (Sel.sa (Sel.sa Sel.ha)))) (pApp (Sel.sc (Sel.sa (Sel.sa (Sel.sa Sel.ha)))) (pApp (Sel.sc (Sel.sa (Sel.sa (Sel.sa Sel.ha)))) (pApp (Sel.sc (Sel.sa (Sel.sa (Sel.sa Sel.ha)))) (pApp (Sel.sc (Sel.sa (Sel.sa (Sel.sa Sel.ha)))) (pApp (Sel.sc (Sel.sa (Sel.sa (Sel.sa Sel.ha)))) (pCons (Sel.sc (Sel.sa (Sel.sa (Sel.sa Sel.hc)))) (pApp (Sel.sc (Sel.sa (Sel.sa (Sel.sa Sel.ha)))) pNil)))))))))))) rfl ?_
    refine k_skip rfl rfl (pSub (pCons (Sel.sc (Sel.sa (Sel.sa (Sel.sa Sel.hc)))) (pApp (Sel.sc (Sel.sa (Sel.sa (Sel.sa Sel.ha)))) (pCons (Sel.sc (Sel.sa (Sel.sa (Sel.sa Sel.hc)))) (pApp (Sel.sc (Sel.sa (Sel.sa (Sel.sa Sel.ha)))) (pApp (Sel.sc (Sel.sa (Sel.sa (Sel.sa Sel.ha)))) (pApp (Sel.sc (Sel.sa (Sel.sa (Sel.sa Sel.ha)))) (pApp (Sel.sc (Sel.sa (Sel.sa (Sel.sa Sel.ha)))) (pApp (Sel.sc (Sel.sa (Sel.sa (Sel.sa Sel.ha)))) (pApp (Sel.sc (Sel.sa (Sel.sa (Sel.sa Sel.ha)))) (pCons (Sel.sc (Sel.sa (Sel.sa (Sel.sa Sel.hc)))) (pApp (Sel.sc (Sel.sa (Sel.sa (Sel.sa Sel.ha)))) pNil)))))))))))) rfl ?_
    simp only [Option.some.injEq, Prod.mk.injEq] at h
    obtain ⟨rfl, rfl, rfl⟩ := h
    have h := hg92; clear hg92; try dsimp only at h
    refine k_val (v := .bool true) rfl rfl rfl (pSub (pCons (Sel.sc (Sel.sa (Sel.sa (Sel.sa Sel.hc)))) (pApp (Sel.sc (Sel.sa (Sel.sa (Sel.sa Sel.ha)))) (pCons (Sel.sc (Sel.sa (Sel.sa (Sel.sa Sel.hc)))) (pApp (Sel.sc (Sel.sa (Sel.sa (Sel.sa Sel.ha)))) (pApp (Sel.sc (Sel.sa (Sel.sa (Sel.sa Sel.ha)))) (pApp (Sel.sc (Sel.sa (Sel.sa (Sel.sa Sel.ha)))) (pApp (Sel.sc (Sel.sa (Sel.sa (Sel.sa Sel.ha)))) (pApp (Sel.sc (Sel.sa (Sel.sa (Sel.sa Sel.ha)))) (pApp (Sel.sc (Sel.sa (Sel.sa (Sel.sa Sel.ha)))) (pCons (Sel.sc (Sel.sa (Sel.sa (Sel.sa Sel.hc)))) (pApp (Sel.sc (Sel.sa (Sel.sa (Sel.sa Sel.ha)))) pNil)))))))))))) (stepV_ok tt_ok rfl) rfl ?_
    refine k_val rfl rfl rfl (pSub (pCons (Sel.sc (Sel.sa (Sel.sa (Sel.sa Sel.hc)))) (pApp (Sel.sc (Sel.sa (Sel.sa (Sel.sa Sel.ha)))) (pCons (Sel.sc (Sel.sa (Sel.sa (Sel.sa Sel.hc)))) (pApp (Sel.sc (Sel.sa (Sel.sa (Sel.sa Sel.ha)))) (pApp (Sel.sc (Sel.sa (Sel.sa (Sel.sa Sel.ha)))) (pApp (Sel.sc (Sel.sa (Sel.sa (Sel.sa Sel.ha)))) (pApp (Sel.sc (Sel.sa (Sel.sa (Sel.sa Sel.ha)))) (pApp (Sel.sc (Sel.sa (Sel.sa (Sel.sa Sel.ha)))) (pApp (Sel.sc (Sel.sa (Sel.sa (Sel.sa Sel.ha)))) (pCons (Sel.sc (Sel.sa (Sel.sa (Sel.sa Sel.hc)))) (pApp (Sel.sc (Sel.sa (Sel.sa (Sel.sa Sel.ha)))) pNil)))))))))))) (stepV_ok tt_ok rfl) rfl ?_
    replace h := bsome h; obtain ⟨⟨v98, g98_n13_0_f0, g98_n13_0_f1⟩, h, hg98⟩ := h
    replace h := ct rfl h
    refine k_skip rfl rfl (pSub (pCons (Sel.sc (Sel.sa (Sel.sa (Sel.sa Sel.hc)))) (pApp (Sel.sc (Sel.sa (Sel.sa (Sel.sa Sel.ha)))) (pCons (Sel.sc (Sel.sa (Sel.sa (Sel.sa Sel.hc)))) (pApp (Sel.sc (Sel.sa (Sel.sa (Sel.sa Sel.ha)))) (pApp (Sel.sc (Sel.sa (Sel.sa (Sel.sa Sel.ha)))) (pApp (Sel.sc (Sel.sa (Sel.sa (Sel.sa Sel.ha)))) (pApp (Sel.sc (Sel.sa (Sel.sa (Sel.sa Sel.ha)))) (pApp (Sel.sc (Sel.sa (Sel.sa (Sel.sa Sel.ha)))) (pApp (Sel.sc (Sel.sa (Sel.sa (Sel.sa Sel.ha)))) (pCons (Sel.sc (Sel.sa (Sel.sa (Sel.sa Sel.hc)))) (pApp (Sel.sc (Sel.sa (Sel.sa (Sel.sa Sel.ha)))) pNil)))))))))))) rfl ?_
    refine k_skip rfl rfl (pSub (pCons (Sel.sc (Sel.sa (Sel.sa (Sel.sa Sel.hc)))) (pApp (Sel.sc (Sel.sa (Sel.sa (Sel.sa Sel.ha)))) (pCons (Sel.sc (Sel.sa (Sel.sa (Sel.sa Sel.hc)))) (pApp (Sel.sc (Sel.sa (Sel.sa (Sel.sa Sel.ha)))) (pApp (Sel.sc (Sel.sa (Sel.sa (Sel.sa Sel.ha)))) (pApp (Sel.sc (Sel.sa (Sel.sa (Sel.sa Sel.ha)))) (pApp (Sel.sc (Sel.sa (Sel.sa (Sel.sa Sel.ha)))) (pApp (Sel.sc (Sel.sa (Sel.sa (Sel.sa Sel.ha)))) (pApp (Sel.sc (Sel.sa (Sel.sa (Sel.sa Sel.ha)))) (pCons (Sel.sc (Sel.sa (Sel.sa (Sel.sa Sel.hc)))) (pApp (Sel.sc (Sel.sa (Sel.sa (Sel.sa Sel.ha)))) pNil)))))))))))) rfl ?_
    refine k_skip rfl rfl (pSub (pCons (Sel.sc (Sel.sa (Sel.sa (Sel.sa Sel.hc)))) (pApp (Sel.sc (Sel.sa (Sel.sa (Sel.sa Sel.ha)))) (pCons (Sel.sc (Sel.sa (Sel.sa (Sel.sa Sel.hc)))) (pApp (Sel.sc (Sel.sa (Sel.sa (Sel.sa Sel.ha)))) (pApp (Sel.sc (Sel.sa (Sel.sa (Sel.sa Sel.ha)))) (pApp (Sel.sc (Sel.sa (Sel.sa (Sel.sa Sel.ha)))) (pApp (Sel.sc (Sel.sa (Sel.sa (Sel.sa Sel.ha)))) (pApp (Sel.sc (Sel.sa (Sel.sa (Sel.sa Sel.ha)))) (pApp (Sel.sc (Sel.sa (Sel.sa (Sel.sa Sel.ha)))) (pCons (Sel.sc (Sel.sa (Sel.sa (Sel.sa Sel.hc)))) (pApp (Sel.sc (Sel.sa (Sel.sa (Sel.sa Sel.ha)))) pNil)))))))))))) rfl ?_
    refine k_skip rfl rfl (pSub (pCons (Sel.sc (Sel.sa (Sel.sa (Sel.sa Sel.hc)))) (pApp (Sel.sc (Sel.sa (Sel.sa (Sel.sa Sel.ha)))) (pCons (Sel.sc (Sel.sa (Sel.sa (Sel.sa Sel.hc)))) (pApp (Sel.sc (Sel.sa (Sel.sa (Sel.sa Sel.ha)))) (pApp (Sel.sc (Sel.sa (Sel.sa (Sel.sa Sel.ha)))) (pApp (Sel.sc (Sel.sa (Sel.sa (Sel.sa Sel.ha)))) (pApp (Sel.sc (Sel.sa (Sel.sa (Sel.sa Sel.ha)))) (pApp (Sel.sc (Sel.sa (Sel.sa (Sel.sa Sel.ha)))) (pApp (Sel.sc (Sel.sa (Sel.sa (Sel.sa Sel.ha)))) (pCons (Sel.sc (Sel.sa (Sel.sa (Sel.sa Sel.hc)))) (pApp (Sel.sc (Sel.sa (Sel.sa (Sel.sa Sel.ha)))) pNil)))))))))))) rfl ?_
    simp only [Option.some.injEq, Prod.mk.injEq] at h
    obtain ⟨rfl, rfl, rfl⟩ := h
    have h := hg98; clear hg98; try dsimp only at h
    refine k_val (v := .bool true) rfl rfl rfl (pSub (pCons (Sel.sc (Sel.sa (Sel.sa (Sel.sa Sel.hc)))) (pApp (Sel.sc (Sel.sa (Sel.sa (Sel.sa Sel.ha)))) (pCons (Sel.sc (Sel.sa (Sel.sa (Sel.sa Sel.hc)))) (pApp (Sel.sc (Sel.sa (Sel.sa (Sel.sa Sel.ha)))) (pApp (Sel.sc (Sel.sa (Sel.sa (Sel.sa Sel.ha)))) (pApp (Sel.sc (Sel.sa (Sel.sa (Sel.sa Sel.ha)))) (pApp (Sel.sc (Sel.sa (Sel.sa (Sel.sa Sel.ha)))) (pApp (Sel.sc (Sel.sa (Sel.sa (Sel.sa Sel.ha)))) (pApp (Sel.sc (Sel.sa (Sel.sa (Sel.sa Sel.ha)))) (pCons (Sel.sc (Sel.sa (Sel.sa (Sel.sa Sel.hc)))) (pApp (Sel.sc (Sel.sa (Sel.sa (Sel.sa Sel.ha)))) pNil)))))))))))) (stepV_ok tt_ok rfl) rfl ?_
    refine k_end (by kernel_rfl) ?_
    refine wx_then ?_
    replace h := ct rfl h
    refine wc_cond_true rfl ?_
    refine wc_seq (wc_region ?_)
    refine wl_pure tt_ok rfl rfl ?_
    refine wl_nil (wx_then (wc_ret (wx_then_ret ?_)))
    simp only [Option.some.injEq] at h
    obtain rfl := h
    exact wx_pf tt_ok (.inl rfl) Tryd.results5 (Res.tmp rfl Res.nil) rfl
  replace h := cf hc h
  refine k_val rfl rfl rfl (pSub (pCons (Sel.sc (Sel.sa (Sel.sa (Sel.sa Sel.hc)))) (pApp (Sel.sc (Sel.sa (Sel.sa (Sel.sa Sel.ha)))) (pCons (Sel.sc (Sel.sa (Sel.sa (Sel.sa Sel.hc)))) (pApp (Sel.sc (Sel.sa (Sel.sa (Sel.sa Sel.ha)))) (pApp (Sel.sc (Sel.sa (Sel.sa (Sel.sa Sel.ha)))) (pApp (Sel.sc (Sel.sa (Sel.sa (Sel.sa Sel.ha)))) (pApp (Sel.sc (Sel.sa (Sel.sa (Sel.sa Sel.ha)))) (pApp (Sel.sc (Sel.sa (Sel.sa (Sel.sa Sel.ha)))) (pApp (Sel.sc (Sel.sa (Sel.sa (Sel.sa Sel.ha)))) (pCons (Sel.sc (Sel.sa (Sel.sa (Sel.sa Sel.hc)))) (pApp (Sel.sc (Sel.sa (Sel.sa (Sel.sa Sel.ha)))) pNil)))))))))))) (stepV_ok tt_ok rfl) rfl ?_
  replace h := bsome h; obtain ⟨v85, x85, h⟩ := h
  refine k_cq rfl rfl rfl Tryd.call15 rfl rfl rfl (q_rd (k_ring_Ring_Len (p0 := o80_0) o80_0G0 o80_0A0 x85) (pCons Sel.hc (pApp Sel.ha pNil)) (fun _ _ => trivial)) rfl (pSub (pCons (Sel.sc (Sel.sa (Sel.sa (Sel.sa Sel.hc)))) (pApp (Sel.sc (Sel.sa (Sel.sa (Sel.sa Sel.ha)))) (pCons (Sel.sc (Sel.sa (Sel.sa (Sel.sa Sel.hc)))) (pApp (Sel.sc (Sel.sa (Sel.sa (Sel.sa Sel.ha)))) (pApp (Sel.sc (Sel.sa (Sel.sa (Sel.sa Sel.ha)))) (pApp (Sel.sc (Sel.sa (Sel.sa (Sel.sa Sel.ha)))) (pApp (Sel.sc (Sel.sa (Sel.sa (Sel.sa Sel.ha)))) (pApp (Sel.sc (Sel.sa (Sel.sa (Sel.sa Sel.ha)))) (pApp (Sel.sc (Sel.sa (Sel.sa (Sel.sa Sel.ha)))) (pCons (Sel.sc (Sel.sa (Sel.sa (Sel.sa Sel.hc)))) (pApp (Sel.sc (Sel.sa (Sel.sa (Sel.sa Sel.ha)))) pNil)))))))))))) ?_
  refine k_val (v := .bool (v85 != (2 : Int))) rfl rfl rfl (pSub (pCons (Sel.sc (Sel.sa (Sel.sa (Sel.sa Sel.hc)))) (pApp (Sel.sc (Sel.sa (Sel.sa (Sel.sa Sel.ha)))) (pCons (Sel.sc (Sel.sa (Sel.sa (Sel.sa Sel.hc)))) (pApp (Sel.sc (Sel.sa (Sel.sa (Sel.sa Sel.ha)))) (pApp (Sel.sc (Sel.sa (Sel.sa (Sel.sa Sel.ha)))) (pApp (Sel.sc (Sel.sa (Sel.sa (Sel.sa Sel.ha)))) (pApp (Sel.sc (Sel.sa (Sel.sa (Sel.sa Sel.ha)))) (pApp (Sel.sc (Sel.sa (Sel.sa (Sel.sa Sel.ha)))) (pApp (Sel.sc (Sel.sa (Sel.sa (Sel.sa Sel.ha)))) (pCons (Sel.sc (Sel.sa (Sel.sa (Sel.sa Sel.hc)))) (pApp (Sel.sc (Sel.sa (Sel.sa (Sel.sa Sel.ha)))) pNil)))))))))))) (stepV_ok tt_ok rfl) rfl ?_
  simp only [Option.some.injEq, Prod.mk.injEq] at h
  obtain rfl := h
  have h := hg87; clear hg87
  refine k_val (v := .bool (v85 != (2 : Int))) rfl rfl rfl (pSub (pCons (Sel.sc (Sel.sa (Sel.sa (Sel.sa Sel.hc)))) (pApp (Sel.sc (Sel.sa (Sel.sa (Sel.sa Sel.ha)))) (pCons (Sel.sc (Sel.sa (Sel.sa (Sel.sa Sel.hc)))) (pApp (Sel.sc (Sel.sa (Sel.sa (Sel.sa Sel.ha)))) (pApp (Sel.sc (Sel.sa (Sel.sa (Sel.sa Sel.ha)))) (pApp (Sel.sc (Sel.sa (Sel.sa (Sel.sa Sel.ha)))) (pApp (Sel.sc (Sel.sa (Sel.sa (Sel.sa Sel.ha)))) (pApp (Sel.sc (Sel.sa (Sel.sa (Sel.sa Sel.ha)))) (pApp (Sel.sc (Sel.sa (Sel.sa (Sel.sa Sel.ha)))) (pCons (Sel.sc (Sel.sa (Sel.sa (Sel.sa Sel.hc)))) (pApp (Sel.sc (Sel.sa (Sel.sa (Sel.sa Sel.ha)))) pNil)))))))))))) (stepV_ok tt_ok rfl) rfl ?_
  refine k_val rfl rfl rfl (pSub (pCons (Sel.sc (Sel.sa (Sel.sa (Sel.sa Sel.hc)))) (pApp (Sel.sc (Sel.sa (Sel.sa (Sel.sa Sel.ha)))) (pCons (Sel.sc (Sel.sa (Sel.sa (Sel.sa Sel.hc)))) (pApp (Sel.sc (Sel.sa (Sel.sa (Sel.sa Sel.ha)))) (pApp (Sel.sc (Sel.sa (Sel.sa (Sel.sa Sel.ha)))) (pApp (Sel.sc (Sel.sa (Sel.sa (Sel.sa Sel.ha)))) (pApp (Sel.sc (Sel.sa (Sel.sa (Sel.sa Sel.ha)))) (pApp (Sel.sc (Sel.sa (Sel.sa (Sel.sa Sel.ha)))) (pApp (Sel.sc (Sel.sa (Sel.sa (Sel.sa Sel.ha)))) (pCons (Sel.sc (Sel.sa (Sel.sa (Sel.sa Sel.hc)))) (pApp (Sel.sc (Sel.sa (Sel.sa (Sel.sa Sel.ha)))) pNil)))))))))))) (stepV_ok tt_ok rfl) rfl ?_
  replace h := bsome h; obtain ⟨⟨v92, g92_n13_0_f0, g92_n13_0_f1⟩, h, hg92⟩ := h
  refine k_split (t := 88) rfl (fun hc => ?_) (fun hc => ?_)
  · replace h := ct hc h
    refine k_skip rfl rfl (pSub (pCons (Sel.sc (Sel.sa (Sel.sa (Sel.sa Sel.hc)))) (pApp (Sel.sc (Sel.sa (Sel.sa (Sel.sa Sel.ha)))) (pCons (Sel.sc (Sel.sa (Sel.sa (Sel.sa Sel.hc)))) (pApp (Sel.sc (Sel.sa (Sel.sa (Sel.sa Sel.ha)))) (pApp (Sel.sc (Sel.sa (Sel.sa (Sel.sa Sel.ha)))) (pApp (Sel.sc (Sel.sa (Sel.sa (Sel.sa Sel.ha)))) (pApp (Sel.sc (Sel.sa (Sel.sa (Sel.sa Sel.ha)))) (pApp (Sel.sc (Sel.sa (Sel.sa (Sel.sa Sel.ha)))) (pApp (Sel.sc (Sel.sa (Sel.sa (Sel.sa Sel.ha)))) (pCons (Sel.sc (Sel.sa (Sel.sa (Sel.sa Sel.hc)))) (pApp (Sel.sc (Sel.sa (Sel.sa (Sel.sa Sel.ha)))) pNil)))))))))))) rfl ?_
    refine k_skip rfl rfl (pSub (pCons (Sel.sc (Sel.sa (Sel.sa (Sel.sa Sel.hc)))) (pApp (Sel.sc (Sel.sa (Sel.sa (Sel.sa Sel.ha)))) (pCons (Sel.sc (Sel.sa (Sel.sa (Sel.sa Sel.hc)))) (pApp (Sel.sc (Sel.sa (Sel.sa (Sel.sa Sel.ha)))) (pApp (Sel.sc (Sel.sa (Sel.sa (Sel.sa Sel.ha)))) (pApp (Sel.sc (Sel.sa (Sel.sa (Sel.sa Sel.ha)))) (pApp (Sel.sc (Sel.sa (Sel.sa (Sel.sa Sel.ha)))) (pApp (Sel.sc (Sel.sa (Sel.sa (Sel.sa Sel.ha)))) (pApp (Sel.sc (Sel.sa (Sel.sa (Sel.sa Sel.ha)))) (pCons (Sel.sc (Sel.sa (Sel.sa (Sel.sa Sel.hc)))) (pApp (Sel.sc (Sel.sa (Sel.sa (Sel.sa Sel.ha)))) pNil)))))))))))) rfl ?_
    refine k_skip rfl rfl (pSub (pCons (Sel.sc (Sel.sa (Sel.sa (Sel.sa Sel.hc)))) (pApp (Sel.sc (Sel.sa (Sel.sa (Sel.sa Sel.ha)))) (pCons (Sel.sc (Sel.sa (Sel.sa (Sel.sa Sel.hc)))) (pApp (Sel.sc (Sel.sa (Sel.sa (Sel.sa Sel.ha)))) (pApp (Sel.sc (Sel.sa (Sel.sa (Sel.sa Sel.ha)))) (pApp (Sel.sc (Sel.sa (Sel.sa (Sel.sa Sel.ha)))) (pApp (Sel.sc (Sel.sa (Sel.sa (Sel.sa Sel.ha)))) (pApp (Sel.sc (Sel.sa (Sel.sa (Sel.sa Sel.ha)))) (pApp (Sel.sc (Sel.sa (Sel.sa (Sel.sa Sel.ha)))) (pCons (Sel.sc (Sel.sa (Sel.sa (Sel.sa Sel.hc)))) (pApp (Sel.sc (Sel.sa (Sel.sa (Sel.sa Sel.ha)))) pNil)))))))))))) rfl ?_
    simp only [Option.some.injEq, Prod.mk.injEq] at h
    obtain ⟨rfl, rfl, rfl⟩ := h
    have h := hg92; clear hg92; try dsimp only at h
    refine k_val (v := .bool true) rfl rfl rfl (pSub (pCons (Sel.sc (Sel.sa (Sel.sa (Sel.sa Sel.hc)))) (pApp (Sel.sc (Sel.sa (Sel.sa (Sel.sa Sel.ha)))) (pCons (Sel.sc (Sel.sa (Sel.sa (Sel.sa Sel.hc)))) (pApp (Sel.sc (Sel.sa (Sel.sa (Sel.sa Sel.ha)))) (pApp (Sel.sc (Sel.sa (Sel.sa (Sel.sa Sel.ha)))) (pApp (Sel.sc (Sel.sa (Sel.sa (Sel.sa Sel.ha)))) (pApp (Sel.sc (Sel.sa (Sel.sa (Sel.sa Sel.ha)))) (pApp (Sel.sc (Sel.sa (Sel.sa (Sel.sa Sel.ha)))) (pApp (Sel.sc (Sel.sa (Sel.sa (Sel.sa Sel.ha)))) (pCons (Sel.sc (Sel.sa (Sel.sa (Sel.sa Sel.hc)))) (pApp (Sel.sc (Sel.sa (Sel.sa (Sel.sa Sel.ha)))) pNil)))))))))))) (stepV_ok tt_ok rfl) rfl ?_
    refine k_val rfl rfl rfl (pSub (pCons (Sel.sc (Sel.sa (Sel.sa (Sel.sa Sel.hc)))) (pApp (Sel.sc (Sel.sa (Sel.sa (Sel.sa Sel.ha)))) (pCons (Sel.sc (Sel.sa (Sel.sa (Sel.sa Sel.hc)))) (pApp (Sel.sc (Sel.sa (Sel.sa (Sel.sa Sel.ha)))) (pApp (Sel.sc (Sel.sa (Sel.sa (Sel.sa Sel.ha)))) (pApp (Sel.sc (Sel.sa (Sel.sa (Sel.sa Sel.ha)))) (pApp (Sel.sc (Sel.sa (Sel.sa (Sel.sa Sel.ha)))) (pApp (Sel.sc (Sel.sa (Sel.sa (Sel.sa Sel.ha)))) (pApp (Sel.sc (Sel.sa (Sel.sa (Sel.sa Sel.ha)))) (pCons (Sel.sc (Sel.sa (Sel.sa (Sel.sa Sel.hc)))) (pApp (Sel.sc (Sel.sa (Sel.sa (Sel.sa Sel.ha)))) pNil)))))))))))) (stepV_ok tt_ok rfl) rfl ?_
    replace h := bsome h; obtain ⟨⟨v98, g98_n13_0_f0, g98_n13_0_f1⟩, h, hg98⟩ := h
    replace h := ct rfl h
    refine k_skip rfl rfl (pSub (pCons (Sel.sc (Sel.sa (Sel.sa (Sel.sa Sel.hc)))) (pApp (Sel.sc (Sel.sa (Sel.sa (Sel.sa Sel.ha)))) (pCons (Sel.sc (Sel.sa (Sel.sa (Sel.sa Sel.hc)))) (pApp (Sel.sc (Sel.sa (Sel.sa (Sel.sa Sel.ha)))) (pApp (Sel.sc (Sel.sa (Sel.sa (Sel.sa Sel.ha)))) (pApp (Sel.sc (Sel.sa (Sel.sa (Sel.sa Sel.ha)))) (pApp (Sel.sc (Sel.sa (Sel.sa (Sel.sa Sel.ha)))) (pApp (Sel.sc (Sel.sa (Sel.sa (Sel.sa Sel.ha)))) (pApp (Sel.sc (Sel.sa (Sel.sa (Sel.sa Sel.ha)))) (pCons (Sel.sc (Sel.sa (Sel.sa (Sel.sa Sel.hc)))) (pApp (Sel.sc (Sel.sa (Sel.sa (Sel.sa Sel.ha)))) pNil)))))))))))) rfl ?_
    refine k_skip rfl rfl (pSub (pCons (Sel.sc (Sel.sa (Sel.sa (Sel.sa Sel.hc)))) (pApp (Sel.sc (Sel.sa (Sel.sa (Sel.sa Sel.ha)))) (pCons (Sel.sc (Sel.sa (Sel.sa (Sel.sa Sel.hc)))) (pApp (Sel.sc (Sel.sa (Sel.sa (Sel.sa Sel.ha)))) (pApp (Sel.sc (Sel.sa (Sel.sa (Sel.sa Sel.ha)))) (pApp (Sel.sc (Sel.sa (Sel.sa (Sel.sa Sel.ha)))) (pApp (Sel.sc (Sel.sa (Sel.sa (Sel.sa Sel.ha)))) (pApp (Sel.sc (Sel.sa (Sel.sa (Sel.sa Sel.ha)))) (pApp (Sel.sc (Sel.sa (Sel.sa (Sel.sa Sel.ha)))) (pCons (Sel.sc (Sel.sa (Sel.sa (Sel.sa Sel.hc)))) (pApp (Sel.sc (Sel.sa (Sel.sa (Sel.sa Sel.ha)))) pNil)))))))))))) rfl ?_
    refine k_skip rfl rfl (pSub (pCons (Sel.sc (Sel.sa (Sel.sa (Sel.sa Sel.hc)))) (pApp (Sel.sc (Sel.sa (Sel.sa (Sel.sa Sel.ha)))) (pCons (Sel.sc (Sel.sa (Sel.sa (Sel.sa Sel.hc)))) (pApp (Sel.sc (Sel.sa (Sel.sa (Sel.sa Sel.ha)))) (pApp (Sel.sc (Sel.sa (Sel.sa (Sel.sa Sel.ha)))) (pApp (Sel.sc (Sel.sa (Sel.sa (Sel.sa Sel.ha)))) (pApp (Sel.sc (Sel.sa (Sel.sa (Sel.sa Sel.ha)))) (pApp (Sel.sc (Sel.sa (Sel.sa (Sel.sa Sel.ha)))) (pApp (Sel.sc (Sel.sa (Sel.sa (Sel.sa Sel.ha)))) (pCons (Sel.sc (Sel.sa (Sel.sa (Sel.sa Sel.hc)))) (pApp (Sel.sc (Sel.sa (Sel.sa (Sel.sa Sel.ha)))) pNil)))))))))))) rfl ?_
    refine k_skip rfl rfl (pSub (pCons (Sel.sc (Sel.sa (Sel.sa (Sel.sa Sel.hc)))) (pApp (Sel.sc (Sel.sa (Sel.sa (Sel.sa Sel.ha)))) (pCons (Sel.sc (Sel.sa (Sel.sa (Sel.sa Sel.hc)))) (pApp (Sel.sc (Sel.sa (Sel.sa (Sel.sa Sel.ha)))) (pApp (Sel.sc (Sel.sa (Sel.sa (Sel.sa Sel.ha)))) (pApp (Sel.sc (Sel.sa (Sel.sa (Sel.sa Sel.ha)))) (pApp (Sel.sc (Sel.sa (Sel.sa (Sel.sa Sel.ha)))) (pApp (Sel.sc (Sel.sa (Sel.sa (Sel.sa Sel.ha)))) (pApp (Sel.sc (Sel.sa (Sel.sa (Sel.sa Sel.ha)))) (pCons (Sel.sc (Sel.sa (Sel.sa (Sel.sa Sel.hc)))) (pApp (Sel.sc (Sel.sa (Sel.sa (Sel.sa Sel.ha)))) pNil)))))))))))) rfl ?_
    simp only [Option.some.injEq, Prod.mk.injEq] at h
    obtain ⟨rfl, rfl, rfl⟩ := h
    have h := hg98; clear hg98; try dsimp only at h
    refine k_val (v := .bool true) rfl rfl rfl (pSub (pCons (Sel.sc (Sel.sa (Sel.sa (Sel.sa Sel.hc)))) (pApp (Sel.sc (Sel.sa (Sel.sa (Sel.sa Sel.ha)))) (pCons (Sel.sc (Sel.sa (Sel.sa (Sel.sa Sel.hc)))) (pApp (Sel.sc (Sel.sa (Sel.sa (Sel.sa Sel.ha)))) (pApp (Sel.sc (Sel.sa (Sel.sa (Sel.sa Sel.ha)))) (pApp (Sel.sc (Sel.sa (Sel.sa (Sel.sa Sel.ha)))) (pApp (Sel.sc (Sel.sa (Sel.sa (Sel.sa Sel.ha)))) (pApp (Sel.sc (Sel.sa (Sel.sa (Sel.sa Sel.ha)))) (pApp (Sel.sc (Sel.sa (Sel.sa (Sel.sa Sel.ha)))) (pCons (Sel.sc (Sel.sa (Sel.sa (Sel.sa Sel.hc)))) (pApp (Sel.sc (Sel.sa (Sel.sa (Sel.sa Sel.ha)))) pNil)))))))))))) (stepV_ok tt_ok rfl) rfl ?_
    refine k_end (by kernel_rfl) ?_
    refine wx_then ?_
    replace h := ct rfl h
    refine wc_cond_true rfl ?_
    refine wc_seq (wc_region ?_)
    refine wl_pure tt_ok rfl rfl ?_
    refine wl_nil (wx_then (wc_ret (wx_then_ret ?_)))
    simp only [Option.some.injEq] at h
    obtain rfl := h
    exact wx_pf tt_ok (.inl rfl) Tryd.results5 (Res.tmp rfl Res.nil) rfl
  replace h := cf hc h
  refine k_val rfl rfl rfl (pSub (pCons (Sel.sc (Sel.sa (Sel.sa (Sel.sa Sel.hc)))) (pApp (Sel.sc (Sel.sa (Sel.sa (Sel.sa Sel.ha)))) (pCons (Sel.sc (Sel.sa (Sel.sa (Sel.sa Sel.hc)))) (pApp (Sel.sc (Sel.sa (Sel.sa (Sel.sa Sel.ha)))) (pApp (Sel.sc (Sel.sa (Sel.sa (Sel.sa Sel.ha)))) (pApp (Sel.sc (Sel.sa (Sel.sa (Sel.sa Sel.ha)))) (pApp (Sel.sc (Sel.sa (Sel.sa (Sel.sa Sel.ha)))) (pApp (Sel.sc (Sel.sa (Sel.sa (Sel.sa Sel.ha)))) (pApp (Sel.sc (Sel.sa (Sel.sa (Sel.sa Sel.ha)))) (pCons (Sel.sc (Sel.sa (Sel.sa (Sel.sa Sel.hc)))) (pApp (Sel.sc (Sel.sa (Sel.sa (Sel.sa Sel.ha)))) pNil)))))))))))) (stepV_ok tt_ok rfl) rfl ?_
  refine k_val (v := .agg #[.int .u64 v65.Frame, .int .u64 v65.Seed, .int .i32 v65.Players.1.X, .int .i32 v65.Players.1.Y, .int .i32 v65.Players.1.VX, .int .i32 v65.Players.1.VY, .int .u8 (0 : Int), .int .u8 v65.Players.1.Cool, .int .u8 v65.Players.1.Face, .int .i32 v65.Players.2.X, .int .i32 v65.Players.2.Y, .int .i32 v65.Players.2.VX, .int .i32 v65.Players.2.VY, .int .u8 v65.Players.2.Health, .int .u8 v65.Players.2.Cool, .int .u8 v65.Players.2.Face, .slice v65a0 v65n0 v65c0, .int .u16 v65.Score.1, .int .u16 v65.Score.2]) rfl rfl rfl (pSub (pCons (Sel.sc (Sel.sa (Sel.sa (Sel.sa Sel.hc)))) (pApp (Sel.sc (Sel.sa (Sel.sa (Sel.sa Sel.ha)))) (pCons (Sel.sc (Sel.sa (Sel.sa (Sel.sa Sel.hc)))) (pApp (Sel.sc (Sel.sa (Sel.sa (Sel.sa Sel.ha)))) (pApp (Sel.sc (Sel.sa (Sel.sa (Sel.sa Sel.ha)))) (pApp (Sel.sc (Sel.sa (Sel.sa (Sel.sa Sel.ha)))) (pApp (Sel.sc (Sel.sa (Sel.sa (Sel.sa Sel.ha)))) (pApp (Sel.sc (Sel.sa (Sel.sa (Sel.sa Sel.ha)))) (pApp (Sel.sc (Sel.sa (Sel.sa (Sel.sa Sel.ha)))) (pCons (Sel.sc (Sel.sa (Sel.sa (Sel.sa Sel.hc)))) (pApp (Sel.sc (Sel.sa (Sel.sa (Sel.sa Sel.ha)))) pNil)))))))))))) (val_load tt_ok rfl (List.Mem.head _) rfl) rfl ?_
  replace h := bsome h; obtain ⟨⟨o91_0, v91⟩, x91, h⟩ := h; try dsimp only at h
  refine k_cs rfl rfl rfl Tryd.call10 rfl rfl rfl (s_sp (k_ring_Ring_Put (p0 := o80_0) (p1 := (T_api_State.mk v65.Frame v65.Seed ((T_api_Player.mk v65.Players.1.X v65.Players.1.Y v65.Players.1.VX v65.Players.1.VY (0 : Int) v65.Players.1.Cool v65.Players.1.Face), v65.Players.2) v65.Shots v65.Score)) o80_0G0 o80_0A0 v65N0 (vec_cap v65V0) (own_Z v65V0) x91) (pCons Sel.hc (pApp Sel.ha pNil)) (fun w hI => ⟨(Rds.call (Rds.of_vec v65V0) (pCons Sel.hc (pApp Sel.ha pNil)) ⟨_, (Sel.sa (Sel.sa (Sel.sc Sel.ha)))⟩) w hI, (Rds.call G0S (pCons Sel.hc (pApp Sel.ha pNil)) rsub_nil) w hI, (Rds.call G1S (pCons Sel.hc (pApp Sel.ha pNil)) rsub_nil) w hI⟩)) rfl (.inr (by rintro _ _ ⟨_, ⟨_, _, _, _, rfl, rfl⟩, rfl⟩; exact ⟨_, (pCons (Sel.sc (Sel.sa (Sel.sa (Sel.sa Sel.hc)))) (pApp (Sel.sc (Sel.sa (Sel.sa (Sel.sa Sel.ha)))) (pCons (Sel.sc (Sel.sa (Sel.sa (Sel.sa Sel.hc)))) (pApp (Sel.sc (Sel.sa (Sel.sa (Sel.sa Sel.ha)))) (pApp (Sel.sc (Sel.sa (Sel.sa (Sel.sa Sel.ha)))) (pApp (Sel.sc (Sel.sa (Sel.sa (Sel.sa Sel.ha)))) (pApp (Sel.sc (Sel.sa (Sel.sa (Sel.sa Sel.ha)))) (pApp (Sel.sc (Sel.sa (Sel.sa (Sel.sa Sel.ha)))) (pApp (Sel.sc (Sel.sa (Sel.sa (Sel.sa Sel.ha)))) (pCons (Sel.sc (Sel.sa (Sel.sa (Sel.sa Sel.hc)))) (pApp (Sel.sc (Sel.sa (Sel.sa (Sel.sa Sel.ha)))) pNil)))))))))))⟩)) ?_
  rintro _ _ ⟨_, ⟨o91_0g0, o91_0P0, o91_0G0, o91_0A0, rfl, rfl⟩, rfl⟩
  simp only [Option.some.injEq, Prod.mk.injEq] at h
  obtain ⟨rfl, rfl, rfl⟩ := h
  have h := hg92; clear hg92; try dsimp only at h
  refine k_val (v := .bool v91) rfl rfl rfl (pSub (pCons (Sel.sc (Sel.sa (Sel.sa (Sel.sa Sel.hc)))) (pApp (Sel.sc (Sel.sa (Sel.sa (Sel.sa Sel.ha)))) (pCons (Sel.sc (Sel.sa (Sel.sa (Sel.sa Sel.hc)))) (pApp (Sel.sc (Sel.sa (Sel.sa (Sel.sa Sel.ha)))) (pApp (Sel.sc (Sel.sa (Sel.sa (Sel.sa Sel.ha)))) (pApp (Sel.sc (Sel.sa (Sel.sa (Sel.sa Sel.ha)))) (pApp (Sel.sc (Sel.sa (Sel.sa (Sel.sa Sel.ha)))) (pApp (Sel.sc (Sel.sa (Sel.sa (Sel.sa Sel.ha)))) (pApp (Sel.sc (Sel.sa (Sel.sa (Sel.sa Sel.ha)))) (pCons (Sel.sc (Sel.sa (Sel.sa (Sel.sa Sel.hc)))) (pApp (Sel.sc (Sel.sa (Sel.sa (Sel.sa Sel.ha)))) pNil)))))))))))) (stepV_ok tt_ok rfl) rfl ?_
  refine k_val rfl rfl rfl (pSub (pCons (Sel.sc (Sel.sa (Sel.sa (Sel.sa Sel.hc)))) (pApp (Sel.sc (Sel.sa (Sel.sa (Sel.sa Sel.ha)))) (pCons (Sel.sc (Sel.sa (Sel.sa (Sel.sa Sel.hc)))) (pApp (Sel.sc (Sel.sa (Sel.sa (Sel.sa Sel.ha)))) (pApp (Sel.sc (Sel.sa (Sel.sa (Sel.sa Sel.ha)))) (pApp (Sel.sc (Sel.sa (Sel.sa (Sel.sa Sel.ha)))) (pApp (Sel.sc (Sel.sa (Sel.sa (Sel.sa Sel.ha)))) (pApp (Sel.sc (Sel.sa (Sel.sa (Sel.sa Sel.ha)))) (pApp (Sel.sc (Sel.sa (Sel.sa (Sel.sa Sel.ha)))) (pCons (Sel.sc (Sel.sa (Sel.sa (Sel.sa Sel.hc)))) (pApp (Sel.sc (Sel.sa (Sel.sa (Sel.sa Sel.ha)))) pNil)))))))))))) (stepV_ok tt_ok rfl) rfl ?_
  replace h := bsome h; obtain ⟨⟨v98, g98_n13_0_f0, g98_n13_0_f1⟩, h, hg98⟩ := h
  refine k_split (t := 93) rfl (fun hc => ?_) (fun hc => ?_)
  · replace h := ct hc h
    refine k_skip rfl rfl (pSub (pCons (Sel.sc (Sel.sa (Sel.sa (Sel.sa Sel.hc)))) (pApp (Sel.sc (Sel.sa (Sel.sa (Sel.sa Sel.ha)))) (pCons (Sel.sc (Sel.sa (Sel.sa (Sel.sa Sel.hc)))) (pApp (Sel.sc (Sel.sa (Sel.sa (Sel.sa Sel.ha)))) (pApp (Sel.sc (Sel.sa (Sel.sa (Sel.sa Sel.ha)))) (pApp (Sel.sc (Sel.sa (Sel.sa (Sel.sa Sel.ha)))) (pApp (Sel.sc (Sel.sa (Sel.sa (Sel.sa Sel.ha)))) (pApp (Sel.sc (Sel.sa (Sel.sa (Sel.sa Sel.ha)))) (pApp (Sel.sc (Sel.sa (Sel.sa (Sel.sa Sel.ha)))) (pCons (Sel.sc (Sel.sa (Sel.sa (Sel.sa Sel.hc)))) (pApp (Sel.sc (Sel.sa (Sel.sa (Sel.sa Sel.ha)))) pNil)))))))))))) rfl ?_
    refine k_skip rfl rfl (pSub (pCons (Sel.sc (Sel.sa (Sel.sa (Sel.sa Sel.hc)))) (pApp (Sel.sc (Sel.sa (Sel.sa (Sel.sa Sel.ha)))) (pCons (Sel.sc (Sel.sa (Sel.sa (Sel.sa Sel.hc)))) (pApp (Sel.sc (Sel.sa (Sel.sa (Sel.sa Sel.ha)))) (pApp (Sel.sc (Sel.sa (Sel.sa (Sel.sa Sel.ha)))) (pApp (Sel.sc (Sel.sa (Sel.sa (Sel.sa Sel.ha)))) (pApp (Sel.sc (Sel.sa (Sel.sa (Sel.sa Sel.ha)))) (pApp (Sel.sc (Sel.sa (Sel.sa (Sel.sa Sel.ha)))) (pApp (Sel.sc (Sel.sa (Sel.sa (Sel.sa Sel.ha)))) (pCons (Sel.sc (Sel.sa (Sel.sa (Sel.sa Sel.hc)))) (pApp (Sel.sc (Sel.sa (Sel.sa (Sel.sa Sel.ha)))) pNil)))))))))))) rfl ?_
    refine k_skip rfl rfl (pSub (pCons (Sel.sc (Sel.sa (Sel.sa (Sel.sa Sel.hc)))) (pApp (Sel.sc (Sel.sa (Sel.sa (Sel.sa Sel.ha)))) (pCons (Sel.sc (Sel.sa (Sel.sa (Sel.sa Sel.hc)))) (pApp (Sel.sc (Sel.sa (Sel.sa (Sel.sa Sel.ha)))) (pApp (Sel.sc (Sel.sa (Sel.sa (Sel.sa Sel.ha)))) (pApp (Sel.sc (Sel.sa (Sel.sa (Sel.sa Sel.ha)))) (pApp (Sel.sc (Sel.sa (Sel.sa (Sel.sa Sel.ha)))) (pApp (Sel.sc (Sel.sa (Sel.sa (Sel.sa Sel.ha)))) (pApp (Sel.sc (Sel.sa (Sel.sa (Sel.sa Sel.ha)))) (pCons (Sel.sc (Sel.sa (Sel.sa (Sel.sa Sel.hc)))) (pApp (Sel.sc (Sel.sa (Sel.sa (Sel.sa Sel.ha)))) pNil)))))))))))) rfl ?_
    refine k_skip rfl rfl (pSub (pCons (Sel.sc (Sel.sa (Sel.sa (Sel.sa Sel.hc)))) (pApp (Sel.sc (Sel.sa (Sel.sa (Sel.sa Sel.ha)))) (pCons (Sel.sc (Sel.sa (Sel.sa (Sel.sa Sel.hc)))) (pApp (Sel.sc (Sel.sa (Sel.sa (Sel.sa Sel.ha)))) (pApp (Sel.sc (Sel.sa (Sel.sa (Sel.sa Sel.ha)))) (pApp (Sel.sc (Sel.sa (Sel.sa (Sel.sa Sel.ha)))) (pApp (Sel.sc (Sel.sa (Sel.sa (Sel.sa Sel.ha)))) (pApp (Sel.sc (Sel.sa (Sel.sa (Sel.sa Sel.ha)))) (pApp (Sel.sc (Sel.sa (Sel.sa (Sel.sa Sel.ha)))) (pCons (Sel.sc (Sel.sa (Sel.sa (Sel.sa Sel.hc)))) (pApp (Sel.sc (Sel.sa (Sel.sa (Sel.sa Sel.ha)))) pNil)))))))))))) rfl ?_
    simp only [Option.some.injEq, Prod.mk.injEq] at h
    obtain ⟨rfl, rfl, rfl⟩ := h
    have h := hg98; clear hg98; try dsimp only at h
    refine k_val (v := .bool true) rfl rfl rfl (pSub (pCons (Sel.sc (Sel.sa (Sel.sa (Sel.sa Sel.hc)))) (pApp (Sel.sc (Sel.sa (Sel.sa (Sel.sa Sel.ha)))) (pCons (Sel.sc (Sel.sa (Sel.sa (Sel.sa Sel.hc)))) (pApp (Sel.sc (Sel.sa (Sel.sa (Sel.sa Sel.ha)))) (pApp (Sel.sc (Sel.sa (Sel.sa (Sel.sa Sel.ha)))) (pApp (Sel.sc (Sel.sa (Sel.sa (Sel.sa Sel.ha)))) (pApp (Sel.sc (Sel.sa (Sel.sa (Sel.sa Sel.ha)))) (pApp (Sel.sc (Sel.sa (Sel.sa (Sel.sa Sel.ha)))) (pApp (Sel.sc (Sel.sa (Sel.sa (Sel.sa Sel.ha)))) (pCons (Sel.sc (Sel.sa (Sel.sa (Sel.sa Sel.hc)))) (pApp (Sel.sc (Sel.sa (Sel.sa (Sel.sa Sel.ha)))) pNil)))))))))))) (stepV_ok tt_ok rfl) rfl ?_
    refine k_end (by kernel_rfl) ?_
    refine wx_then ?_
    replace h := ct rfl h
    refine wc_cond_true rfl ?_
    refine wc_seq (wc_region ?_)
    refine wl_pure tt_ok rfl rfl ?_
    refine wl_nil (wx_then (wc_ret (wx_then_ret ?_)))
    simp only [Option.some.injEq] at h
    obtain rfl := h
    exact wx_pf tt_ok (.inl rfl) Tryd.results5 (Res.tmp rfl Res.nil) rfl
  replace h := cf hc h
  refine k_val rfl rfl rfl (pSub (pCons (Sel.sc (Sel.sa (Sel.sa (Sel.sa Sel.hc)))) (pApp (Sel.sc (Sel.sa (Sel.sa (Sel.sa Sel.ha)))) (pCons (Sel.sc (Sel.sa (Sel.sa (Sel.sa Sel.hc)))) (pApp (Sel.sc (Sel.sa (Sel.sa (Sel.sa Sel.ha)))) (pApp (Sel.sc (Sel.sa (Sel.sa (Sel.sa Sel.ha)))) (pApp (Sel.sc (Sel.sa (Sel.sa (Sel.sa Sel.ha)))) (pApp (Sel.sc (Sel.sa (Sel.sa (Sel.sa Sel.ha)))) (pApp (Sel.sc (Sel.sa (Sel.sa (Sel.sa Sel.ha)))) (pApp (Sel.sc (Sel.sa (Sel.sa (Sel.sa Sel.ha)))) (pCons (Sel.sc (Sel.sa (Sel.sa (Sel.sa Sel.hc)))) (pApp (Sel.sc (Sel.sa (Sel.sa (Sel.sa Sel.ha)))) pNil)))))))))))) (stepV_ok tt_ok rfl) rfl ?_
  replace h := bsome h; obtain ⟨v95, x95, h⟩ := h
  refine k_cs rfl rfl rfl Tryd.call19 rfl rfl rfl (s_sp (k_hindcastlaw25_at x95) pNil (fun w hI => ⟨(Rds.call G0S pNil rsub_nil) w hI, (Rds.call G1S pNil rsub_nil) w hI⟩)) rfl (.inr (by rintro _ _ ⟨_, ⟨_, _, _, _, _, _, rfl, rfl⟩, rfl⟩; exact ⟨_, (pCons (Sel.sa (Sel.sc (Sel.sa (Sel.sa (Sel.sa Sel.hc))))) (pApp (Sel.sa (Sel.sc (Sel.sa (Sel.sa (Sel.sa Sel.ha))))) (pCons (Sel.sa (Sel.sc (Sel.sa (Sel.sa (Sel.sa Sel.hc))))) (pApp (Sel.sa (Sel.sc (Sel.sa (Sel.sa (Sel.sa Sel.ha))))) (pApp (Sel.sa (Sel.sc (Sel.sa (Sel.sa (Sel.sa Sel.ha))))) (pApp (Sel.sa (Sel.sc (Sel.sa (Sel.sa (Sel.sa Sel.ha))))) (pApp (Sel.sa (Sel.sc (Sel.sa (Sel.sa (Sel.sa Sel.ha))))) (pApp (Sel.sa (Sel.sc (Sel.sa (Sel.sa (Sel.sa Sel.ha))))) (pApp (Sel.sa (Sel.sc (Sel.sa (Sel.sa (Sel.sa Sel.ha))))) (pCons (Sel.sa (Sel.sc (Sel.sa (Sel.sa (Sel.sa Sel.hc))))) (pApp (Sel.sa (Sel.sc (Sel.sa (Sel.sa (Sel.sa Sel.ha))))) pNil)))))))))))⟩)) ?_
  rintro _ _ ⟨_, ⟨v95a0, v95n0, v95c0, v95B0, v95N0, v95V0, rfl, rfl⟩, rfl⟩
  replace h := bsome h; obtain ⟨⟨o96_0, v96⟩, x96, h⟩ := h; try dsimp only at h
  refine k_cs rfl rfl rfl Tryd.call10 rfl rfl rfl (s_sp (k_ring_Ring_Put (p0 := o91_0) (p1 := v95) o91_0G0 o91_0A0 v95N0 (vec_cap v95V0) (own_Z v95V0) x96) (pCons (Sel.sa Sel.hc) (pApp (Sel.sa Sel.ha) pNil)) (fun w hI => ⟨(Rds.call (Rds.of_vec v95V0) (pCons (Sel.sa Sel.hc) (pApp (Sel.sa Sel.ha) pNil)) ⟨_, Sel.ha⟩) w hI, (Rds.call G0S (pCons (Sel.sa Sel.hc) (pApp (Sel.sa Sel.ha) pNil)) rsub_nil) w hI, (Rds.call G1S (pCons (Sel.sa Sel.hc) (pApp (Sel.sa Sel.ha) pNil)) rsub_nil) w hI⟩)) rfl (.inr (by rintro _ _ ⟨_, ⟨_, _, _, _, rfl, rfl⟩, rfl⟩; exact ⟨_, (pCons (Sel.sc (Sel.sa (Sel.sa (Sel.sa (Sel.sa Sel.hc))))) (pApp (Sel.sc (Sel.sa (Sel.sa (Sel.sa (Sel.sa Sel.ha))))) (pCons (Sel.sc (Sel.sa (Sel.sa (Sel.sa (Sel.sa Sel.hc))))) (pApp (Sel.sc (Sel.sa (Sel.sa (Sel.sa (Sel.sa Sel.ha))))) (pApp (Sel.sc (Sel.sa (Sel.sa (Sel.sa (Sel.sa Sel.ha))))) (pApp (Sel.sc (Sel.sa (Sel.sa (Sel.sa (Sel.sa Sel.ha))))) (pApp (Sel.sc (Sel.sa (Sel.sa (Sel.sa (Sel.sa Sel.ha))))) (pApp (Sel.sc (Sel.sa (Sel.sa (Sel.sa (Sel.sa Sel.ha))))) (pApp (Sel.sc (Sel.sa (Sel.sa (Sel.sa (Sel.sa Sel.ha))))) (pCons (Sel.sc (Sel.sa (Sel.sa (Sel.sa (Sel.sa Sel.hc))))) (pApp (Sel.sc (Sel.sa (Sel.sa (Sel.sa (Sel.sa Sel.ha))))) pNil)))))))))))⟩)) ?_
  rintro _ _ ⟨_, ⟨o96_0g0, o96_0P0, o96_0G0, o96_0A0, rfl, rfl⟩, rfl⟩
  refine k_val (v := .bool (!v96)) rfl rfl rfl (pSub (pCons (Sel.sc (Sel.sa (Sel.sa (Sel.sa (Sel.sa Sel.hc))))) (pApp (Sel.sc (Sel.sa (Sel.sa (Sel.sa (Sel.sa Sel.ha))))) (pCons (Sel.sc (Sel.sa (Sel.sa (Sel.sa (Sel.sa Sel.hc))))) (pApp (Sel.sc (Sel.sa (Sel.sa (Sel.sa (Sel.sa Sel.ha))))) (pApp (Sel.sc (Sel.sa (Sel.sa (Sel.sa (Sel.sa Sel.ha))))) (pApp (Sel.sc (Sel.sa (Sel.sa (Sel.sa (Sel.sa Sel.ha))))) (pApp (Sel.sc (Sel.sa (Sel.sa (Sel.sa (Sel.sa Sel.ha))))) (pApp (Sel.sc (Sel.sa (Sel.sa (Sel.sa (Sel.sa Sel.ha))))) (pApp (Sel.sc (Sel.sa (Sel.sa (Sel.sa (Sel.sa Sel.ha))))) (pCons (Sel.sc (Sel.sa (Sel.sa (Sel.sa (Sel.sa Sel.hc))))) (pApp (Sel.sc (Sel.sa (Sel.sa (Sel.sa (Sel.sa Sel.ha))))) pNil)))))))))))) (stepV_ok tt_ok rfl) rfl ?_
  simp only [Option.some.injEq, Prod.mk.injEq] at h
  obtain ⟨rfl, rfl, rfl⟩ := h
  have h := hg98; clear hg98; try dsimp only at h
  refine k_val (v := .bool (!v96)) rfl rfl rfl (pSub (pCons (Sel.sc (Sel.sa (Sel.sa (Sel.sa (Sel.sa Sel.hc))))) (pApp (Sel.sc (Sel.sa (Sel.sa (Sel.sa (Sel.sa Sel.ha))))) (pCons (Sel.sc (Sel.sa (Sel.sa (Sel.sa (Sel.sa Sel.hc))))) (pApp (Sel.sc (Sel.sa (Sel.sa (Sel.sa (Sel.sa Sel.ha))))) (pApp (Sel.sc (Sel.sa (Sel.sa (Sel.sa (Sel.sa Sel.ha))))) (pApp (Sel.sc (Sel.sa (Sel.sa (Sel.sa (Sel.sa Sel.ha))))) (pApp (Sel.sc (Sel.sa (Sel.sa (Sel.sa (Sel.sa Sel.ha))))) (pApp (Sel.sc (Sel.sa (Sel.sa (Sel.sa (Sel.sa Sel.ha))))) (pApp (Sel.sc (Sel.sa (Sel.sa (Sel.sa (Sel.sa Sel.ha))))) (pCons (Sel.sc (Sel.sa (Sel.sa (Sel.sa (Sel.sa Sel.hc))))) (pApp (Sel.sc (Sel.sa (Sel.sa (Sel.sa (Sel.sa Sel.ha))))) pNil)))))))))))) (stepV_ok tt_ok rfl) rfl ?_
  refine k_end (by kernel_rfl) ?_
  refine wx_then ?_
  refine wc_cond rfl (fun hc => ?_) (fun hc => ?_)
  · replace h := ct hc h
    refine wc_seq (wc_region ?_)
    refine wl_pure tt_ok rfl rfl ?_
    refine wl_nil (wx_then (wc_ret (wx_then_ret ?_)))
    simp only [Option.some.injEq] at h
    obtain rfl := h
    exact wx_pf tt_ok (.inl rfl) Tryd.results5 (Res.tmp rfl Res.nil) rfl
  replace h := cf hc h
  refine wc_skip (wx_then (wc_seq (wc_region ?_)))
  refine wl_pure tt_ok rfl rfl ?_
  refine wl_nil (wx_then (wc_seq (wc_region ?_)))
  refine wl_pure (v := .agg (([.int .i64 (0 : Int)] ++ flat cg_T_ring_place (List.replicate 14 ((T_ring_place.mk (T_api_State.mk (0 : Int) (0 : Int) ((T_api_Player.mk (0 : Int) (0 : Int) (0 : Int) (0 : Int) (0 : Int) (0 : Int) (0 : Int)), (T_api_Player.mk (0 : Int) (0 : Int) (0 : Int) (0 : Int) (0 : Int) (0 : Int) (0 : Int))) ([] : List T_api_Shot) ((0 : Int), (0 : Int))) false), ((none, 0, 0) : G)))) : List Value).toArray) tt_ok rfl rfl ?_
  refine wl_box rfl rfl rfl (fun b100 => ?_)
  refine wl_pure tt_ok rfl rfl ?_
  refine wl_nil (wx_then (wc_seq (wc_region ?_)))
  refine wl_pure tt_ok rfl rfl ?_
  replace h := bsome h; obtain ⟨⟨v103_0, v103_1⟩, x103, h⟩ := h; try dsimp only at h
  refine wl_cs Tryd.call11 rfl rfl rfl (s_sp (k_ring_Ring_At_nil0 x103) pNil (fun _ _ => trivial)) rfl ?_
  rintro _ _ ⟨_, ⟨v103_0a0, v103_0n0, v103_0c0, v103_0B0, v103_0N0, v103_0V0, rfl, rfl⟩, rfl⟩
  iterate 3 refine wl_pure tt_ok rfl rfl ?_
  refine wl_alloc tt_ok rfl rfl (fun b9 => ?_)
  apply wl_store tt_ok; rfl; exact Upd.here; rfl; rfl; rfl; rfl; rfl; rfl
  refine wl_pure tt_ok rfl rfl ?_
  refine wl_nil (wx_then (wc_seq (wc_region ?_)))
  refine wl_pure tt_ok rfl rfl ?_
  replace h := bsome h; obtain ⟨⟨v108_0, v108_1⟩, x108, h⟩ := h; try dsimp only at h
  refine wl_cs Tryd.call13 rfl rfl rfl (s_sp (k_ring_Ring_Newest (p0 := (T_ring_Ring.mk (0 : Int) (Arr.rep 14 (T_ring_place.mk (T_api_State.mk (0 : Int) (0 : Int) ((T_api_Player.mk (0 : Int) (0 : Int) (0 : Int) (0 : Int) (0 : Int) (0 : Int) (0 : Int)), (T_api_Player.mk (0 : Int) (0 : Int) (0 : Int) (0 : Int) (0 : Int) (0 : Int) (0 : Int))) ([] : List T_api_Shot) ((0 : Int), (0 : Int))) false)))) (unG_rep 14) (fun _ _ => allrd_rep 14 rfl) x108) (pCons (Sel.sc (Sel.sa Sel.hc)) (pNo pNil)) (fun _ _ => trivial)) rfl ?_
  rintro _ _ ⟨_, ⟨v108_0a0, v108_0n0, v108_0c0, v108_0B0, v108_0N0, v108_0V0, rfl, rfl⟩, rfl⟩
  iterate 3 refine wl_pure tt_ok rfl rfl ?_
  refine wl_alloc tt_ok rfl rfl (fun b11 => ?_)
  apply wl_store tt_ok; rfl; exact Upd.here; rfl; rfl; rfl; rfl; rfl; rfl
  refine wl_pure tt_ok rfl rfl ?_
  refine wl_nil (wx_then (wc_seq (wc_region ?_)))
  replace h := bsome h; obtain ⟨v111, x111, h⟩ := h
  rcases v111 with _ | v111s
  · replace h := poN h
    refine wl_cs Tryd.call6 rfl rfl rfl (s_sp (k_ring_New_none x111) pNil (fun _ _ => trivial)) rfl ?_
    rintro _ _ ⟨_, ⟨rfl, rfl⟩, rfl⟩
    refine wl_pure (v := .bool true) tt_ok rfl rfl ?_
    refine wl_pure tt_ok rfl rfl ?_
    replace h := bsome h; obtain ⟨v114, x114, h⟩ := h
    rcases v114 with _ | v114s
    · replace h := poN h
      refine wl_run rfl ?_
      refine wl_cs Tryd.call6 rfl rfl rfl (s_sp (k_ring_New_none x114) pNil (fun _ _ => trivial)) rfl ?_
      rintro _ _ ⟨_, ⟨rfl, rfl⟩, rfl⟩
      refine wl_run rfl ?_
      refine wl_pure (v := .bool true) tt_ok rfl rfl ?_
      refine wl_pure (v := .bool true) tt_ok rfl rfl ?_
      refine wl_pure tt_ok rfl rfl ?_
      replace h := bsome h; obtain ⟨v118, x118, h⟩ := h
      rcases v118 with _ | v118s
      · replace h := poN h
        refine wl_run rfl ?_
        refine wl_cs Tryd.call6 rfl rfl rfl (s_sp (k_ring_New_none x118) pNil (fun _ _ => trivial)) rfl ?_
        rintro _ _ ⟨_, ⟨rfl, rfl⟩, rfl⟩
        refine wl_run rfl ?_
        refine wl_pure (v := .bool false) tt_ok rfl rfl ?_
        refine wl_pure (v := .bool false) tt_ok rfl rfl ?_
        refine wl_pure tt_ok rfl rfl ?_
        refine wl_skip rfl rfl ?_
        refine wl_skip rfl rfl ?_
        refine wl_skip rfl rfl ?_
        refine wl_skip rfl rfl ?_
        refine wl_pure (v := .bool false) tt_ok rfl rfl ?_
        refine wl_pure tt_ok rfl rfl ?_
        refine wl_skip rfl rfl ?_
        refine wl_skip rfl rfl ?_
        refine wl_skip rfl rfl ?_
        refine wl_skip rfl rfl ?_
        refine wl_pure (v := .bool false) tt_ok rfl rfl ?_
        refine wl_pure tt_ok rfl rfl ?_
        refine wl_skip rfl rfl ?_
        refine wl_skip rfl rfl ?_
        refine wl_pure (v := .bool false) tt_ok rfl rfl ?_
        refine wl_pure tt_ok rfl rfl ?_
        refine wl_skip rfl rfl ?_
        refine wl_skip rfl rfl ?_
        refine wl_pure (v := .bool false) tt_ok rfl rfl ?_
        refine wl_pure tt_ok rfl rfl ?_
        refine wl_skip rfl rfl ?_
        refine wl_skip rfl rfl ?_
        refine wl_skip rfl rfl ?_
        refine wl_pure (v := .bool false) tt_ok rfl rfl ?_
        refine wl_pure tt_ok rfl rfl ?_
        refine wl_skip rfl rfl ?_
        refine wl_skip rfl rfl ?_
        refine wl_skip rfl rfl ?_
        refine wl_pure (v := .bool false) tt_ok rfl rfl ?_
        refine wl_pure tt_ok rfl rfl ?_
        refine wl_skip rfl rfl ?_
        refine wl_pure (v := .bool false) tt_ok rfl rfl ?_
        refine wl_pure tt_ok rfl rfl ?_
        refine wl_nil (wx_then (wc_ret ?_))
        simp only [Option.some.injEq] at h
        obtain rfl := h
        exact wx_pf tt_ok (.inl rfl) Tryd.results5 (Res.tmp rfl Res.nil) rfl
      replace h := poS h
      refine wl_run rfl ?_
      refine wl_cs Tryd.call6 rfl rfl rfl (s_sp (k_ring_New x118) pNil (fun _ _ => trivial)) rfl ?_
      rintro _ _ ⟨_, ⟨b118_0, v118sg0, v118sP0, v118sG0, v118sA0, rfl, rfl⟩, rfl⟩
      refine wl_run rfl ?_
      refine wl_pure (v := .bool true) tt_ok rfl rfl ?_
      refine wl_pure (v := .bool true) tt_ok rfl rfl ?_
      refine wl_pure tt_ok rfl rfl ?_
      refine wl_run rfl ?_
      refine wl_pure tt_ok rfl rfl ?_
      replace h := bsome h; obtain ⟨v123, x123, h⟩ := h
      refine wl_run rfl ?_
      refine wl_cs Tryd.call19 rfl rfl rfl (s_sp (k_hindcastlaw25_at x123) pNil (fun w hI => ⟨(Rds.call G0S pNil rsub_nil) w hI, (Rds.call G1S pNil rsub_nil) w hI⟩)) rfl ?_
      rintro _ _ ⟨_, ⟨v123a0, v123n0, v123c0, v123B0, v123N0, v123V0, rfl, rfl⟩, rfl⟩
      replace h := bsome h; obtain ⟨v124, x124, h⟩ := h
      refine wl_run rfl ?_
      refine wl_cq Tryd.call10 rfl rfl rfl (q_pf (k_ring_Ring_Put_nil0 (p1 := v123) v123N0 (vec_cap v123V0) x124) (fun w hI => ⟨(Rds.call (Rds.of_vec v123V0) pNil ⟨_, Sel.ha⟩) w hI, (Rds.call G0S pNil rsub_nil) w hI, (Rds.call G1S pNil rsub_nil) w hI⟩)) rfl ?_
      refine wl_run rfl ?_
      refine wl_pure (v := .bool (!v124)) tt_ok rfl rfl ?_
      refine wl_pure (v := .bool (!v124)) tt_ok rfl rfl ?_
      refine wl_pure tt_ok rfl rfl ?_
      replace h := bsome h; obtain ⟨⟨v132, g132_n100_f0, g132_n100_f1⟩, h, hg132⟩ := h
      refine wl_split (t := 127) rfl (fun hc => ?_) (fun hc => ?_)
      · replace h := ct hc h
        refine wl_run rfl ?_
        refine wl_pure tt_ok rfl rfl ?_
        replace h := bsome h; obtain ⟨v129, x129, h⟩ := h
        refine wl_run rfl ?_
        refine wl_cs Tryd.call19 rfl rfl rfl (s_sp (k_hindcastlaw25_at x129) pNil (fun w hI => ⟨(Rds.call G0S pNil rsub_nil) w hI, (Rds.call G1S pNil rsub_nil) w hI⟩)) rfl ?_
        rintro _ _ ⟨_, ⟨v129a0, v129n0, v129c0, v129B0, v129N0, v129V0, rfl, rfl⟩, rfl⟩
        replace h := bsome h; obtain ⟨⟨o130_0, v130⟩, x130, h⟩ := h; try dsimp only at h
        refine wl_run rfl ?_
        refine wl_cs Tryd.call10 rfl rfl rfl (s_sp (k_ring_Ring_Put (p0 := (T_ring_Ring.mk (0 : Int) (Arr.rep 14 (T_ring_place.mk (T_api_State.mk (0 : Int) (0 : Int) ((T_api_Player.mk (0 : Int) (0 : Int) (0 : Int) (0 : Int) (0 : Int) (0 : Int) (0 : Int)), (T_api_Player.mk (0 : Int) (0 : Int) (0 : Int) (0 : Int) (0 : Int) (0 : Int) (0 : Int))) ([] : List T_api_Shot) ((0 : Int), (0 : Int))) false)))) (p1 := v129) (unG_rep 14) (fun _ _ => allrd_rep 14 rfl) v129N0 (vec_cap v129V0) (own_Z v129V0) x130) (pCons (Sel.sa (Sel.sa (Sel.sc (Sel.sa (Sel.sc Sel.hc))))) (pNo pNil)) (fun w hI => ⟨(Rds.call (Rds.of_vec v129V0) (pCons (Sel.sa (Sel.sa (Sel.sc (Sel.sa (Sel.sc Sel.hc))))) (pNo pNil)) ⟨_, Sel.ha⟩) w hI, (Rds.call G0S (pCons (Sel.sa (Sel.sa (Sel.sc (Sel.sa (Sel.sc Sel.hc))))) (pNo pNil)) rsub_nil) w hI, (Rds.call G1S (pCons (Sel.sa (Sel.sa (Sel.sc (Sel.sa (Sel.sc Sel.hc))))) (pNo pNil)) rsub_nil) w hI⟩)) rfl ?_
        rintro _ _ ⟨_, ⟨o130_0g0, o130_0P0, o130_0G0, o130_0A0, rfl, rfl⟩, rfl⟩
        refine wl_run rfl ?_
        refine wl_pure (v := .bool (!v130)) tt_ok rfl rfl ?_
        simp only [Option.some.injEq, Prod.mk.injEq] at h
        obtain ⟨rfl, rfl, rfl⟩ := h
        have h := hg132; clear hg132; try dsimp only at h
        refine wl_pure (v := .bool (!v130)) tt_ok rfl rfl ?_
        refine wl_pure tt_ok rfl rfl ?_
        replace h := bsome h; obtain ⟨v136, h, hg136⟩ := h
        refine wl_split (t := 133) rfl (fun hc => ?_) (fun hc => ?_)
        · replace h := ct hc h
          refine wl_run rfl ?_
          refine wl_pure tt_ok rfl rfl ?_
          refine wl_run rfl ?_
          refine wl_pure (v := .bool (!v103_1)) tt_ok rfl rfl ?_
          simp only [Option.some.injEq, Prod.mk.injEq] at h
          obtain rfl := h
          have h := hg136; clear hg136
          refine wl_pure (v := .bool (!v103_1)) tt_ok rfl rfl ?_
          refine wl_pure tt_ok rfl rfl ?_
          replace h := bsome h; obtain ⟨v140, h, hg140⟩ := h
          refine wl_split (t := 137) rfl (fun hc => ?_) (fun hc => ?_)
          · replace h := ct hc h
            refine wl_run rfl ?_
            refine wl_pure tt_ok rfl rfl ?_
            refine wl_run rfl ?_
            refine wl_pure (v := .bool (!v108_1)) tt_ok rfl rfl ?_
            simp only [Option.some.injEq, Prod.mk.injEq] at h
            obtain rfl := h
            have h := hg140; clear hg140
            refine wl_pure (v := .bool (!v108_1)) tt_ok rfl rfl ?_
            refine wl_pure tt_ok rfl rfl ?_
            replace h := bsome h; obtain ⟨v145, h, hg145⟩ := h
            refine wl_split (t := 141) rfl (fun hc => ?_) (fun hc => ?_)
            · replace h := ct hc h
              refine wl_run rfl ?_
              refine wl_pure tt_ok rfl rfl ?_
              replace h := bsome h; obtain ⟨v143, x143, h⟩ := h
              refine wl_run rfl ?_
              refine wl_cq Tryd.call20 rfl rfl rfl (q_pf (k_ring_Ring_Cut_nil0 x143) (fun _ _ => trivial)) rfl ?_
              refine wl_run rfl ?_
              refine wl_pure (v := .bool (v143 == (0 : Int))) tt_ok rfl rfl ?_
              simp only [Option.some.injEq, Prod.mk.injEq] at h
              obtain rfl := h
              have h := hg145; clear hg145
              refine wl_pure (v := .bool (v143 == (0 : Int))) tt_ok rfl rfl ?_
              refine wl_pure tt_ok rfl rfl ?_
              replace h := bsome h; obtain ⟨v150, h, hg150⟩ := h
              refine wl_split (t := 146) rfl (fun hc => ?_) (fun hc => ?_)
              · replace h := ct hc h
                refine wl_run rfl ?_
                refine wl_pure tt_ok rfl rfl ?_
                replace h := bsome h; obtain ⟨v148, x148, h⟩ := h
                refine wl_run rfl ?_
                refine wl_cq Tryd.call15 rfl rfl rfl (q_rd (k_ring_Ring_Len (p0 := o130_0) o130_0G0 o130_0A0 x148) (pCons Sel.hc (pApp Sel.ha pNil)) (fun _ _ => trivial)) rfl ?_
                refine wl_run rfl ?_
                refine wl_pure (v := .bool (v148 == (0 : Int))) tt_ok rfl rfl ?_
                simp only [Option.some.injEq, Prod.mk.injEq] at h
                obtain rfl := h
                have h := hg150; clear hg150
                refine wl_pure (v := .bool (v148 == (0 : Int))) tt_ok rfl rfl ?_
                refine wl_pure tt_ok rfl rfl ?_
                replace h := bsome h; obtain ⟨v153, h, hg153⟩ := h
                refine wl_split (t := 151) rfl (fun hc => ?_) (fun hc => ?_)
                · replace h := ct hc h
                  replace h := bsome h; obtain ⟨v152, x152, h⟩ := h
                  refine wl_run rfl ?_
                  refine wl_cq Tryd.call7 rfl rfl rfl (q_pf (k_hindcastlaw25_awake x152) (fun w hI => ⟨(Rds.call G0S pNil rsub_nil) w hI, (Rds.call G1S pNil rsub_nil) w hI⟩)) rfl ?_
                  simp only [Option.some.injEq, Prod.mk.injEq] at h
                  obtain rfl := h
                  have h := hg153; clear hg153
                  refine wl_pure (v := .bool v152) tt_ok rfl rfl ?_
                  refine wl_pure tt_ok rfl rfl ?_
                  refine wl_nil (wx_then (wc_ret ?_))
                  simp only [Option.some.injEq] at h
                  obtain rfl := h
                  exact wx_pf tt_ok (.inl rfl) Tryd.results5 (Res.tmp rfl Res.nil) rfl
                replace h := cf hc h
                refine wl_skip rfl rfl ?_
                simp only [Option.some.injEq, Prod.mk.injEq] at h
                obtain rfl := h
                have h := hg153; clear hg153
                refine wl_pure (v := .bool false) tt_ok rfl rfl ?_
                refine wl_pure tt_ok rfl rfl ?_
                refine wl_nil (wx_then (wc_ret ?_))
                simp only [Option.some.injEq] at h
                obtain rfl := h
                exact wx_pf tt_ok (.inl rfl) Tryd.results5 (Res.tmp rfl Res.nil) rfl
              replace h := cf hc h
              refine wl_skip rfl rfl ?_
              refine wl_skip rfl rfl ?_
              refine wl_skip rfl rfl ?_
              simp only [Option.some.injEq, Prod.mk.injEq] at h
              obtain rfl := h
              have h := hg150; clear hg150
              refine wl_pure (v := .bool false) tt_ok rfl rfl ?_
              refine wl_pure tt_ok rfl rfl ?_
              replace h := bsome h; obtain ⟨v153, h, hg153⟩ := h
              replace h := cf rfl h
              refine wl_skip rfl rfl ?_
              simp only [Option.some.injEq, Prod.mk.injEq] at h
              obtain rfl := h
              have h := hg153; clear hg153
              refine wl_pure (v := .bool false) tt_ok rfl rfl ?_
              refine wl_pure tt_ok rfl rfl ?_
              refine wl_nil (wx_then (wc_ret ?_))
              simp only [Option.some.injEq] at h
              obtain rfl := h
              exact wx_pf tt_ok (.inl rfl) Tryd.results5 (Res.tmp rfl Res.nil) rfl
            replace h := cf hc h
            refine wl_skip rfl rfl ?_
            refine wl_skip rfl rfl ?_
            refine wl_skip rfl rfl ?_
            simp only [Option.some.injEq, Prod.mk.injEq] at h
            obtain rfl := h
            have h := hg145; clear hg145
            refine wl_pure (v := .bool false) tt_ok rfl rfl ?_
            refine wl_pure tt_ok rfl rfl ?_
            replace h := bsome h; obtain ⟨v150, h, hg150⟩ := h
            replace h := cf rfl h
            refine wl_skip rfl rfl ?_
            refine wl_skip rfl rfl ?_
            refine wl_skip rfl rfl ?_
            simp only [Option.some.injEq, Prod.mk.injEq] at h
            obtain rfl := h
            have h := hg150; clear hg150
            refine wl_pure (v := .bool false) tt_ok rfl rfl ?_
            refine wl_pure tt_ok rfl rfl ?_
            replace h := bsome h; obtain ⟨v153, h, hg153⟩ := h
            replace h := cf rfl h
            refine wl_skip rfl rfl ?_
            simp only [Option.some.injEq, Prod.mk.injEq] at h
            obtain rfl := h
            have h := hg153; clear hg153
            refine wl_pure (v := .bool false) tt_ok rfl rfl ?_
            refine wl_pure tt_ok rfl rfl ?_
            refine wl_nil (wx_then (wc_ret ?_))
            simp only [Option.some.injEq] at h
            obtain rfl := h
            exact wx_pf tt_ok (.inl rfl) Tryd.results5 (Res.tmp rfl Res.nil) rfl
          replace h := cf hc h
          refine wl_skip rfl rfl ?_
          refine wl_skip rfl rfl ?_
          simp only [Option.some.injEq, Prod.mk.injEq] at h
          obtain rfl := h
          have h := hg140; clear hg140
          refine wl_pure (v := .bool false) tt_ok rfl rfl ?_
          refine wl_pure tt_ok rfl rfl ?_
          replace h := bsome h; obtain ⟨v145, h, hg145⟩ := h
          replace h := cf rfl h
          refine wl_skip rfl rfl ?_
          refine wl_skip rfl rfl ?_
          refine wl_skip rfl rfl ?_
          simp only [Option.some.injEq, Prod.mk.injEq] at h
          obtain rfl := h
          have h := hg145; clear hg145
          refine wl_pure (v := .bool false) tt_ok rfl rfl ?_
          refine wl_pure tt_ok rfl rfl ?_
          replace h := bsome h; obtain ⟨v150, h, hg150⟩ := h
          replace h := cf rfl h
          refine wl_skip rfl rfl ?_
          refine wl_skip rfl rfl ?_
          refine wl_skip rfl rfl ?_
          simp only [Option.some.injEq, Prod.mk.injEq] at h
          obtain rfl := h
          have h := hg150; clear hg150
          refine wl_pure (v := .bool false) tt_ok rfl rfl ?_
          refine wl_pure tt_ok rfl rfl ?_
          replace h := bsome h; obtain ⟨v153, h, hg153⟩ := h
          replace h := cf rfl h
          refine wl_skip rfl rfl ?_
          simp only [Option.some.injEq, Prod.mk.injEq] at h
          obtain rfl := h
          have h := hg153; clear hg153
          refine wl_pure (v := .bool false) tt_ok rfl rfl ?_
          refine wl_pure tt_ok rfl rfl ?_
          refine wl_nil (wx_then (wc_ret ?_))
          simp only [Option.some.injEq] at h
          obtain rfl := h
          exact wx_pf tt_ok (.inl rfl) Tryd.results5 (Res.tmp rfl Res.nil) rfl
        replace h := cf hc h
        refine wl_skip rfl rfl ?_
        refine wl_skip rfl rfl ?_
        simp only [Option.some.injEq, Prod.mk.injEq] at h
        obtain rfl := h
        have h := hg136; clear hg136
        refine wl_pure (v := .bool false) tt_ok rfl rfl ?_
        refine wl_pure tt_ok rfl rfl ?_
        replace h := bsome h; obtain ⟨v140, h, hg140⟩ := h
        replace h := cf rfl h
        refine wl_skip rfl rfl ?_
        refine wl_skip rfl rfl ?_
        simp only [Option.some.injEq, Prod.mk.injEq] at h
        obtain rfl := h
        have h := hg140; clear hg140
        refine wl_pure (v := .bool false) tt_ok rfl rfl ?_
        refine wl_pure tt_ok rfl rfl ?_
        replace h := bsome h; obtain ⟨v145, h, hg145⟩ := h
        replace h := cf rfl h
        refine wl_skip rfl rfl ?_
        refine wl_skip rfl rfl ?_
        refine wl_skip rfl rfl ?_
        simp only [Option.some.injEq, Prod.mk.injEq] at h
        obtain rfl := h
        have h := hg145; clear hg145
        refine wl_pure (v := .bool false) tt_ok rfl rfl ?_
        refine wl_pure tt_ok rfl rfl ?_
        replace h := bsome h; obtain ⟨v150, h, hg150⟩ := h
        replace h := cf rfl h
        refine wl_skip rfl rfl ?_
        refine wl_skip rfl rfl ?_
        refine wl_skip rfl rfl ?_
        simp only [Option.some.injEq, Prod.mk.injEq] at h
        obtain rfl := h
        have h := hg150; clear hg150
        refine wl_pure (v := .bool false) tt_ok rfl rfl ?_
        refine wl_pure tt_ok rfl rfl ?_
        replace h := bsome h; obtain ⟨v153, h, hg153⟩ := h
        replace h := cf rfl h
        refine wl_skip rfl rfl ?_
        simp only [Option.some.injEq, Prod.mk.injEq] at h
        obtain rfl := h
        have h := hg153; clear hg153
        refine wl_pure (v := .bool false) tt_ok rfl rfl ?_
        refine wl_pure tt_ok rfl rfl ?_
        refine wl_nil (wx_then (wc_ret ?_))
        simp only [Option.some.injEq] at h
        obtain rfl := h
        exact wx_pf tt_ok (.inl rfl) Tryd.results5 (Res.tmp rfl Res.nil) rfl
      replace h := cf hc h
      refine wl_skip rfl rfl ?_
      refine wl_skip rfl rfl ?_
      refine wl_skip rfl rfl ?_
      refine wl_skip rfl rfl ?_
      simp only [Option.some.injEq, Prod.mk.injEq] at h
      obtain ⟨rfl, rfl, rfl⟩ := h
      have h := hg132; clear hg132; try dsimp only at h
      refine wl_pure (v := .bool false) tt_ok rfl rfl ?_
      refine wl_pure tt_ok rfl rfl ?_
      replace h := bsome h; obtain ⟨v136, h, hg136⟩ := h
      replace h := cf rfl h
      refine wl_skip rfl rfl ?_
      refine wl_skip rfl rfl ?_
      simp only [Option.some.injEq, Prod.mk.injEq] at h
      obtain rfl := h
      have h := hg136; clear hg136
      refine wl_pure (v := .bool false) tt_ok rfl rfl ?_
      refine wl_pure tt_ok rfl rfl ?_
      replace h := bsome h; obtain ⟨v140, h, hg140⟩ := h
      replace h := cf rfl h
      refine wl_skip rfl rfl ?_
      refine wl_skip rfl rfl ?_
      simp only [Option.some.injEq, Prod.mk.injEq] at h
      obtain rfl := h
      have h := hg140; clear hg140
      refine wl_pure (v := .bool false) tt_ok rfl rfl ?_
      refine wl_pure tt_ok rfl rfl ?_
      replace h := bsome h; obtain ⟨v145, h, hg145⟩ := h
      replace h := cf rfl h
      refine wl_skip rfl rfl ?_
      refine wl_skip rfl rfl ?_
      refine wl_skip rfl rfl ?_
      simp only [Option.some.injEq, Prod.mk.injEq] at h
      obtain rfl := h
      have h := hg145; clear hg145
      refine wl_pure (v := .bool false) tt_ok rfl rfl ?_
      refine wl_pure tt_ok rfl rfl ?_
      replace h := bsome h; obtain ⟨v150, h, hg150⟩ := h
      replace h := cf rfl h
      refine wl_skip rfl rfl ?_
      refine wl_skip rfl rfl ?_
      refine wl_skip rfl rfl ?_
      simp only [Option.some.injEq, Prod.mk.injEq] at h
      obtain rfl := h
      have h := hg150; clear hg150
      refine wl_pure (v := .bool false) tt_ok rfl rfl ?_
      refine wl_pure tt_ok rfl rfl ?_
      replace h := bsome h; obtain ⟨v153, h, hg153⟩ := h
      replace h := cf rfl h
      refine wl_skip rfl rfl ?_
      simp only [Option.some.injEq, Prod.mk.injEq] at h
      obtain rfl := h
      have h := hg153; clear hg153
      refine wl_pure (v := .bool false) tt_ok rfl rfl ?_
      refine wl_pure tt_ok rfl rfl ?_
      refine wl_nil (wx_then (wc_ret ?_))
      simp only [Option.some.injEq] at h
      obtain rfl := h
      exact wx_pf tt_ok (.inl rfl) Tryd.results5 (Res.tmp rfl Res.nil) rfl
    replace h := poS h
    refine wl_run rfl ?_
    refine wl_cs Tryd.call6 rfl rfl rfl (s_sp (k_ring_New x114) pNil (fun _ _ => trivial)) rfl ?_
    rintro _ _ ⟨_, ⟨b114_0, v114sg0, v114sP0, v114sG0, v114sA0, rfl, rfl⟩, rfl⟩
    refine wl_run rfl ?_
    refine wl_pure (v := .bool false) tt_ok rfl rfl ?_
    refine wl_pure (v := .bool false) tt_ok rfl rfl ?_
    refine wl_pure tt_ok rfl rfl ?_
    refine wl_skip rfl rfl ?_
    refine wl_skip rfl rfl ?_
    refine wl_pure (v := .bool false) tt_ok rfl rfl ?_
    refine wl_pure tt_ok rfl rfl ?_
    refine wl_skip rfl rfl ?_
    refine wl_skip rfl rfl ?_
    refine wl_skip rfl rfl ?_
    refine wl_skip rfl rfl ?_
    refine wl_pure (v := .bool false) tt_ok rfl rfl ?_
    refine wl_pure tt_ok rfl rfl ?_
    refine wl_skip rfl rfl ?_
    refine wl_skip rfl rfl ?_
    refine wl_skip rfl rfl ?_
    refine wl_skip rfl rfl ?_
    refine wl_pure (v := .bool false) tt_ok rfl rfl ?_
    refine wl_pure tt_ok rfl rfl ?_
    refine wl_skip rfl rfl ?_
    refine wl_skip rfl rfl ?_
    refine wl_pure (v := .bool false) tt_ok rfl rfl ?_
    refine wl_pure tt_ok rfl rfl ?_
    refine wl_skip rfl rfl ?_
    refine wl_skip rfl rfl ?_
    refine wl_pure (v := .bool false) tt_ok rfl rfl ?_
    refine wl_pure tt_ok rfl rfl ?_
    refine wl_skip rfl rfl ?_
    refine wl_skip rfl rfl ?_
    refine wl_skip rfl rfl ?_
    refine wl_pure (v := .bool false) tt_ok rfl rfl ?_
    refine wl_pure tt_ok rfl rfl ?_
    refine wl_skip rfl rfl ?_
    refine wl_skip rfl rfl ?_
    refine wl_skip rfl rfl ?_
    refine wl_pure (v := .bool false) tt_ok rfl rfl ?_
    refine wl_pure tt_ok rfl rfl ?_
    refine wl_skip rfl rfl ?_
    refine wl_pure (v := .bool false) tt_ok rfl rfl ?_
    refine wl_pure tt_ok rfl rfl ?_
    refine wl_nil (wx_then (wc_ret ?_))
    simp only [Option.some.injEq] at h
    obtain rfl := h
    exact wx_pf tt_ok (.inl rfl) Tryd.results5 (Res.tmp rfl Res.nil) rfl
  replace h := poS h
  refine wl_cs Tryd.call6 rfl rfl rfl (s_sp (k_ring_New x111) pNil (fun _ _ => trivial)) rfl ?_
  rintro _ _ ⟨_, ⟨b111_0, v111sg0, v111sP0, v111sG0, v111sA0, rfl, rfl⟩, rfl⟩
  refine wl_pure (v := .bool false) tt_ok rfl rfl ?_
  refine wl_pure tt_ok rfl rfl ?_
  refine wl_skip rfl rfl ?_
  refine wl_skip rfl rfl ?_
  refine wl_pure (v := .bool false) tt_ok rfl rfl ?_
  refine wl_pure tt_ok rfl rfl ?_
  refine wl_skip rfl rfl ?_
  refine wl_skip rfl rfl ?_
  refine wl_pure (v := .bool false) tt_ok rfl rfl ?_
  refine wl_pure tt_ok rfl rfl ?_
  refine wl_skip rfl rfl ?_
  refine wl_skip rfl rfl ?_
  refine wl_skip rfl rfl ?_
  refine wl_skip rfl rfl ?_
  refine wl_pure (v := .bool false) tt_ok rfl rfl ?_
  refine wl_pure tt_ok rfl rfl ?_
  refine wl_skip rfl rfl ?_
  refine wl_skip rfl rfl ?_
  refine wl_skip rfl rfl ?_
  refine wl_skip rfl rfl ?_
  refine wl_pure (v := .bool false) tt_ok rfl rfl ?_
  refine wl_pure tt_ok rfl rfl ?_
  refine wl_skip rfl rfl ?_
  refine wl_skip rfl rfl ?_
  refine wl_pure (v := .bool false) tt_ok rfl rfl ?_
  refine wl_pure tt_ok rfl rfl ?_
  refine wl_skip rfl rfl ?_
  refine wl_skip rfl rfl ?_
  refine wl_pure (v := .bool false) tt_ok rfl rfl ?_
  refine wl_pure tt_ok rfl rfl ?_
  refine wl_skip rfl rfl ?_
  refine wl_skip rfl rfl ?_
  refine wl_skip rfl rfl ?_
  refine wl_pure (v := .bool false) tt_ok rfl rfl ?_
  refine wl_pure tt_ok rfl rfl ?_
  refine wl_skip rfl rfl ?_
  refine wl_skip rfl rfl ?_
  refine wl_skip rfl rfl ?_
  refine wl_pure (v := .bool false) tt_ok rfl rfl ?_
  refine wl_pure tt_ok rfl rfl ?_
  refine wl_skip rfl rfl ?_
  refine wl_pure (v := .bool false) tt_ok rfl rfl ?_
  refine wl_pure tt_ok rfl rfl ?_
  refine wl_nil (wx_then (wc_ret ?_))
  simp only [Option.some.injEq] at h
  obtain rfl := h
  exact wx_pf tt_ok (.inl rfl) Tryd.results5 (Res.tmp rfl Res.nil) rfl

end Go.Proofs.YtbbkblolaficdaaDoor
