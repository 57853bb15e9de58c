/-
  Each function computes what its model says. Printed by a program of this claim's own.
-/
import Derived.Test.YtbbkblolaficdaaDoorTab
import Derived.Test.YtbbkblolaficdaaDoorMod
import Derived.Test.YtbbkblolaficdaaDoorWalk2
namespace Go.Proofs.YtbbkblolaficdaaDoor
open Go.Proofs.YtbbkblolaficdaaDoor.Eng
set_option linter.unusedVariables false
set_option linter.unusedSimpArgs false
set_option maxHeartbeats 4000000
set_option maxRecDepth 20000

theorem k_hindcastlaw25_awake {F : Nat} {r0 : Bool} (h : m_hindcastlaw25_awake F = some r0) :
    Pf Tryd.prog 7 [] (fun w => Rds w [] [] (some ⟨0, 0, none⟩) (flat (fun _ : Unit => gl_state_playerBounds) [()]) ∧ Rds w [] [] (some ⟨1, 0, none⟩) (flat (fun _ : Unit => gl_state_shotBounds) [()])) (.bool r0) := by
  unfold m_hindcastlaw25_awake at h
  refine pf_of_wc Tryd.func7 rfl Tryd.ntmps7 rfl rfl (fun w0 hR => ?_)
  obtain ⟨G0S, G1S⟩ := hR
  refine wc_seq (wc_region ?_)
  refine wl_pure tt_ok rfl rfl ?_
  refine wl_nil (wx_then (wc_seq (wc_region ?_)))
  replace h := bsome h; obtain ⟨v2, x2, h⟩ := h
  rcases v2 with _ | v2s
  · replace h := poN h
    refine wl_cs Tryd.call6 rfl rfl rfl (s_sp (k_ring_New_none x2) pNil (fun _ _ => trivial)) rfl ?_
    rintro _ _ ⟨_, ⟨rfl, rfl⟩, rfl⟩
    refine wl_pure tt_ok rfl rfl ?_
    refine wl_nil (wx_then (wc_seq (wc_region ?_)))
    refine wl_pure tt_ok rfl rfl ?_
    refine wl_pure (v := .bool false) tt_ok rfl rfl ?_
    refine wl_pure tt_ok rfl rfl ?_
    refine wl_skip rfl rfl ?_
    refine wl_skip rfl rfl ?_
    refine wl_skip rfl rfl ?_
    refine wl_pure (v := .bool false) tt_ok rfl rfl ?_
    refine wl_pure tt_ok rfl rfl ?_
    refine wl_skip rfl rfl ?_
    refine wl_skip rfl rfl ?_
    refine wl_skip rfl rfl ?_
    refine wl_pure (v := .bool false) tt_ok rfl rfl ?_
    refine wl_pure tt_ok rfl rfl ?_
    refine wl_skip rfl rfl ?_
    refine wl_skip rfl rfl ?_
    refine wl_skip rfl rfl ?_
    refine wl_pure (v := .bool false) tt_ok rfl rfl ?_
    refine wl_pure tt_ok rfl rfl ?_
    refine wl_skip rfl rfl ?_
    refine wl_skip rfl rfl ?_
    refine wl_skip rfl rfl ?_
    refine wl_pure (v := .bool false) tt_ok rfl rfl ?_
    refine wl_pure tt_ok rfl rfl ?_
    refine wl_skip rfl rfl ?_
    refine wl_skip rfl rfl ?_
    refine wl_skip rfl rfl ?_
    refine wl_skip rfl rfl ?_
    refine wl_pure (v := .bool false) tt_ok rfl rfl ?_
    refine wl_pure tt_ok rfl rfl ?_
    refine wl_skip rfl rfl ?_
    refine wl_skip rfl rfl ?_
    refine wl_skip rfl rfl ?_
    refine wl_pure (v := .bool false) tt_ok rfl rfl ?_
    refine wl_pure tt_ok rfl rfl ?_
    refine wl_skip rfl rfl ?_
    refine wl_skip rfl rfl ?_
    refine wl_skip rfl rfl ?_
    refine wl_pure (v := .bool false) tt_ok rfl rfl ?_
    refine wl_pure tt_ok rfl rfl ?_
    refine wl_nil (wx_then (wc_ret ?_))
    simp only [Option.some.injEq] at h
    obtain rfl := h
    exact wx_pf tt_ok (.inl rfl) Tryd.results7 (Res.tmp rfl Res.nil) rfl
  replace h := poS h
  refine wl_cs Tryd.call6 rfl rfl rfl (s_sp (k_ring_New x2) pNil (fun _ _ => trivial)) rfl ?_
  rintro _ _ ⟨_, ⟨b2_0, v2sg0, v2sP0, v2sG0, v2sA0, rfl, rfl⟩, rfl⟩
  refine wl_pure tt_ok rfl rfl ?_
  refine wl_nil (wx_then (wc_seq (wc_region ?_)))
  refine wl_pure tt_ok rfl rfl ?_
  refine wl_pure (v := .bool true) tt_ok rfl rfl ?_
  refine wl_pure tt_ok rfl rfl ?_
  refine wl_run rfl ?_
  refine wl_pure tt_ok rfl rfl ?_
  replace h := bsome h; obtain ⟨v7, x7, h⟩ := h
  refine wl_run rfl ?_
  refine wl_cs Tryd.call19 rfl rfl rfl (s_sp (k_hindcastlaw25_at x7) pNil (fun w hI => ⟨(Rds.call G0S pNil rsub_nil) w hI, (Rds.call G1S pNil rsub_nil) w hI⟩)) rfl ?_
  rintro _ _ ⟨_, ⟨v7a0, v7n0, v7c0, v7B0, v7N0, v7V0, rfl, rfl⟩, rfl⟩
  replace h := bsome h; obtain ⟨⟨o8_0, v8⟩, x8, h⟩ := h; try dsimp only at h
  refine wl_run rfl ?_
  refine wl_cs Tryd.call10 rfl rfl rfl (s_sp (k_ring_Ring_Put (p0 := v2s) (p1 := v7) v2sG0 v2sA0 v7N0 (vec_cap v7V0) (own_Z v7V0) x8) (pCons (Sel.sa Sel.hc) (pApp (Sel.sa Sel.ha) pNil)) (fun w hI => ⟨(Rds.call (Rds.of_vec v7V0) (pCons (Sel.sa Sel.hc) (pApp (Sel.sa Sel.ha) pNil)) ⟨_, Sel.ha⟩) w hI, (Rds.call G0S (pCons (Sel.sa Sel.hc) (pApp (Sel.sa Sel.ha) pNil)) rsub_nil) w hI, (Rds.call G1S (pCons (Sel.sa Sel.hc) (pApp (Sel.sa Sel.ha) pNil)) rsub_nil) w hI⟩)) rfl ?_
  rintro _ _ ⟨_, ⟨o8_0g0, o8_0P0, o8_0G0, o8_0A0, rfl, rfl⟩, rfl⟩
  refine wl_pure (v := .bool v8) tt_ok rfl rfl ?_
  refine wl_pure tt_ok rfl rfl ?_
  replace h := bsome h; obtain ⟨⟨v14, g14_n2_0_f0, g14_n2_0_f1⟩, h, hg14⟩ := h
  refine wl_split (t := 10) rfl (fun hc => ?_) (fun hc => ?_)
  · replace h := ct hc h
    refine wl_run rfl ?_
    refine wl_pure tt_ok rfl rfl ?_
    replace h := bsome h; obtain ⟨v12, x12, h⟩ := h
    refine wl_run rfl ?_
    refine wl_cs Tryd.call19 rfl rfl rfl (s_sp (k_hindcastlaw25_at x12) pNil (fun w hI => ⟨(Rds.call G0S pNil rsub_nil) w hI, (Rds.call G1S pNil rsub_nil) w hI⟩)) rfl ?_
    rintro _ _ ⟨_, ⟨v12a0, v12n0, v12c0, v12B0, v12N0, v12V0, rfl, rfl⟩, rfl⟩
    replace h := bsome h; obtain ⟨⟨o13_0, v13⟩, x13, h⟩ := h; try dsimp only at h
    refine wl_run rfl ?_
    refine wl_cs Tryd.call10 rfl rfl rfl (s_sp (k_ring_Ring_Put (p0 := o8_0) (p1 := v12) o8_0G0 o8_0A0 v12N0 (vec_cap v12V0) (own_Z v12V0) x13) (pCons (Sel.sa Sel.hc) (pApp (Sel.sa Sel.ha) pNil)) (fun w hI => ⟨(Rds.call (Rds.of_vec v12V0) (pCons (Sel.sa Sel.hc) (pApp (Sel.sa Sel.ha) pNil)) ⟨_, Sel.ha⟩) w hI, (Rds.call G0S (pCons (Sel.sa Sel.hc) (pApp (Sel.sa Sel.ha) pNil)) rsub_nil) w hI, (Rds.call G1S (pCons (Sel.sa Sel.hc) (pApp (Sel.sa Sel.ha) pNil)) rsub_nil) w hI⟩)) rfl ?_
    rintro _ _ ⟨_, ⟨o13_0g0, o13_0P0, o13_0G0, o13_0A0, rfl, rfl⟩, rfl⟩
    simp only [Option.some.injEq, Prod.mk.injEq] at h
    obtain ⟨rfl, rfl, rfl⟩ := h
    have h := hg14; clear hg14; try dsimp only at h
    refine wl_pure (v := .bool v13) tt_ok rfl rfl ?_
    refine wl_pure tt_ok rfl rfl ?_
    replace h := bsome h; obtain ⟨v19, h, hg19⟩ := h
    refine wl_split (t := 15) rfl (fun hc => ?_) (fun hc => ?_)
    · replace h := ct hc h
      refine wl_run rfl ?_
      refine wl_pure tt_ok rfl rfl ?_
      replace h := bsome h; obtain ⟨v17, x17, h⟩ := h
      refine wl_run rfl ?_
      refine wl_cs Tryd.call19 rfl rfl rfl (s_sp (k_hindcastlaw25_at x17) pNil (fun w hI => ⟨(Rds.call G0S pNil rsub_nil) w hI, (Rds.call G1S pNil rsub_nil) w hI⟩)) rfl ?_
      rintro _ _ ⟨_, ⟨v17a0, v17n0, v17c0, v17B0, v17N0, v17V0, rfl, rfl⟩, rfl⟩
      replace h := bsome h; obtain ⟨v18, x18, h⟩ := h
      refine wl_run rfl ?_
      refine wl_cq Tryd.call12 rfl rfl rfl (q_rd (k_hindcastlaw25_holds (p0 := o13_0) (p1 := v17) o13_0G0 o13_0A0 v17N0 (vec_cap v17V0) x18) (pCons (Sel.sa Sel.hc) (pApp (Sel.sa Sel.ha) pNil)) (Rds.call (Rds.of_vec v17V0) (pCons (Sel.sa Sel.hc) (pApp (Sel.sa Sel.ha) pNil)) ⟨_, Sel.ha⟩)) rfl ?_
      simp only [Option.some.injEq, Prod.mk.injEq] at h
      obtain rfl := h
      have h := hg19; clear hg19
      refine wl_pure (v := .bool v18) tt_ok rfl rfl ?_
      refine wl_pure tt_ok rfl rfl ?_
      replace h := bsome h; obtain ⟨⟨v24, g24_n2_0_f0, g24_n2_0_f1⟩, h, hg24⟩ := h
      refine wl_split (t := 20) rfl (fun hc => ?_) (fun hc => ?_)
      · replace h := ct hc h
        refine wl_run rfl ?_
        refine wl_pure tt_ok rfl rfl ?_
        replace h := bsome h; obtain ⟨v22, x22, h⟩ := h
        refine wl_run rfl ?_
        refine wl_cs Tryd.call19 rfl rfl rfl (s_sp (k_hindcastlaw25_at x22) pNil (fun w hI => ⟨(Rds.call G0S pNil rsub_nil) w hI, (Rds.call G1S pNil rsub_nil) w hI⟩)) rfl ?_
        rintro _ _ ⟨_, ⟨v22a0, v22n0, v22c0, v22B0, v22N0, v22V0, rfl, rfl⟩, rfl⟩
        replace h := bsome h; obtain ⟨⟨o23_0, v23⟩, x23, h⟩ := h; try dsimp only at h
        refine wl_run rfl ?_
        refine wl_cs Tryd.call10 rfl rfl rfl (s_sp (k_ring_Ring_Put (p0 := o13_0) (p1 := v22) o13_0G0 o13_0A0 v22N0 (vec_cap v22V0) (own_Z v22V0) x23) (pCons (Sel.sa (Sel.sa Sel.hc)) (pApp (Sel.sa (Sel.sa Sel.ha)) pNil)) (fun w hI => ⟨(Rds.call (Rds.of_vec v22V0) (pCons (Sel.sa (Sel.sa Sel.hc)) (pApp (Sel.sa (Sel.sa Sel.ha)) pNil)) ⟨_, Sel.ha⟩) w hI, (Rds.call G0S (pCons (Sel.sa (Sel.sa Sel.hc)) (pApp (Sel.sa (Sel.sa Sel.ha)) pNil)) rsub_nil) w hI, (Rds.call G1S (pCons (Sel.sa (Sel.sa Sel.hc)) (pApp (Sel.sa (Sel.sa Sel.ha)) pNil)) rsub_nil) w hI⟩)) rfl ?_
        rintro _ _ ⟨_, ⟨o23_0g0, o23_0P0, o23_0G0, o23_0A0, rfl, rfl⟩, rfl⟩
        simp only [Option.some.injEq, Prod.mk.injEq] at h
        obtain ⟨rfl, rfl, rfl⟩ := h
        have h := hg24; clear hg24; try dsimp only at h
        refine wl_pure (v := .bool v23) tt_ok rfl rfl ?_
        refine wl_pure tt_ok rfl rfl ?_
        replace h := bsome h; obtain ⟨v30, h, hg30⟩ := h
        refine wl_split (t := 25) rfl (fun hc => ?_) (fun hc => ?_)
        · replace h := ct hc h
          refine wl_run rfl ?_
          refine wl_pure tt_ok rfl rfl ?_
          replace h := bsome h; obtain ⟨v27, x27, h⟩ := h
          refine wl_run rfl ?_
          refine wl_cs Tryd.call19 rfl rfl rfl (s_sp (k_hindcastlaw25_at x27) pNil (fun w hI => ⟨(Rds.call G0S pNil rsub_nil) w hI, (Rds.call G1S pNil rsub_nil) w hI⟩)) rfl ?_
          rintro _ _ ⟨_, ⟨v27a0, v27n0, v27c0, v27B0, v27N0, v27V0, rfl, rfl⟩, rfl⟩
          replace h := bsome h; obtain ⟨v28, x28, h⟩ := h
          refine wl_run rfl ?_
          refine wl_cq Tryd.call12 rfl rfl rfl (q_rd (k_hindcastlaw25_holds (p0 := o23_0) (p1 := v27) o23_0G0 o23_0A0 v27N0 (vec_cap v27V0) x28) (pCons (Sel.sa Sel.hc) (pApp (Sel.sa Sel.ha) pNil)) (Rds.call (Rds.of_vec v27V0) (pCons (Sel.sa Sel.hc) (pApp (Sel.sa Sel.ha) pNil)) ⟨_, Sel.ha⟩)) rfl ?_
          refine wl_run rfl ?_
          refine wl_pure (v := .bool (!v28)) tt_ok rfl rfl ?_
          simp only [Option.some.injEq, Prod.mk.injEq] at h
          obtain rfl := h
          have h := hg30; clear hg30
          refine wl_pure (v := .bool (!v28)) tt_ok rfl rfl ?_
          refine wl_pure tt_ok rfl rfl ?_
          replace h := bsome h; obtain ⟨v35, h, hg35⟩ := h
          refine wl_split (t := 31) rfl (fun hc => ?_) (fun hc => ?_)
          · replace h := ct hc h
            refine wl_run rfl ?_
            refine wl_pure tt_ok rfl rfl ?_
            replace h := bsome h; obtain ⟨v33, x33, h⟩ := h
            refine wl_run rfl ?_
            refine wl_cs Tryd.call19 rfl rfl rfl (s_sp (k_hindcastlaw25_at x33) pNil (fun w hI => ⟨(Rds.call G0S pNil rsub_nil) w hI, (Rds.call G1S pNil rsub_nil) w hI⟩)) rfl ?_
            rintro _ _ ⟨_, ⟨v33a0, v33n0, v33c0, v33B0, v33N0, v33V0, rfl, rfl⟩, rfl⟩
            replace h := bsome h; obtain ⟨v34, x34, h⟩ := h
            refine wl_run rfl ?_
            refine wl_cq Tryd.call12 rfl rfl rfl (q_rd (k_hindcastlaw25_holds (p0 := o23_0) (p1 := v33) o23_0G0 o23_0A0 v33N0 (vec_cap v33V0) x34) (pCons (Sel.sa (Sel.sa Sel.hc)) (pApp (Sel.sa (Sel.sa Sel.ha)) pNil)) (Rds.call (Rds.of_vec v33V0) (pCons (Sel.sa (Sel.sa Sel.hc)) (pApp (Sel.sa (Sel.sa Sel.ha)) pNil)) ⟨_, Sel.ha⟩)) rfl ?_
            simp only [Option.some.injEq, Prod.mk.injEq] at h
            obtain rfl := h
            have h := hg35; clear hg35
            refine wl_pure (v := .bool v34) tt_ok rfl rfl ?_
            refine wl_pure tt_ok rfl rfl ?_
            replace h := bsome h; obtain ⟨v40, h, hg40⟩ := h
            refine wl_split (t := 36) rfl (fun hc => ?_) (fun hc => ?_)
            · replace h := ct hc h
              refine wl_run rfl ?_
              refine wl_pure tt_ok rfl rfl ?_
              replace h := bsome h; obtain ⟨v38, x38, h⟩ := h
              refine wl_run rfl ?_
              refine wl_cq Tryd.call15 rfl rfl rfl (q_rd (k_ring_Ring_Len (p0 := o23_0) o23_0G0 o23_0A0 x38) (pCons (Sel.sa (Sel.sa Sel.hc)) (pApp (Sel.sa (Sel.sa Sel.ha)) pNil)) (fun _ _ => trivial)) rfl ?_
              refine wl_run rfl ?_
              refine wl_pure (v := .bool (v38 == (2 : Int))) tt_ok rfl rfl ?_
              simp only [Option.some.injEq, Prod.mk.injEq] at h
              obtain rfl := h
              have h := hg40; clear hg40
              refine wl_pure (v := .bool (v38 == (2 : Int))) tt_ok rfl rfl ?_
              refine wl_pure tt_ok rfl rfl ?_
              refine wl_nil (wx_then (wc_ret ?_))
              simp only [Option.some.injEq] at h
              obtain rfl := h
              exact wx_pf tt_ok (.inl rfl) Tryd.results7 (Res.tmp rfl Res.nil) rfl
            replace h := cf hc h
            refine wl_skip rfl rfl ?_
            refine wl_skip rfl rfl ?_
            refine wl_skip rfl rfl ?_
            simp only [Option.some.injEq, Prod.mk.injEq] at h
            obtain rfl := h
            have h := hg40; clear hg40
            refine wl_pure (v := .bool false) tt_ok rfl rfl ?_
            refine wl_pure tt_ok rfl rfl ?_
            refine wl_nil (wx_then (wc_ret ?_))
            simp only [Option.some.injEq] at h
            obtain rfl := h
            exact wx_pf tt_ok (.inl rfl) Tryd.results7 (Res.tmp rfl Res.nil) rfl
          replace h := cf hc h
          refine wl_skip rfl rfl ?_
          refine wl_skip rfl rfl ?_
          refine wl_skip rfl rfl ?_
          simp only [Option.some.injEq, Prod.mk.injEq] at h
          obtain rfl := h
          have h := hg35; clear hg35
          refine wl_pure (v := .bool false) tt_ok rfl rfl ?_
          refine wl_pure tt_ok rfl rfl ?_
          replace h := bsome h; obtain ⟨v40, h, hg40⟩ := h
          replace h := cf rfl h
          refine wl_skip rfl rfl ?_
          refine wl_skip rfl rfl ?_
          refine wl_skip rfl rfl ?_
          simp only [Option.some.injEq, Prod.mk.injEq] at h
          obtain rfl := h
          have h := hg40; clear hg40
          refine wl_pure (v := .bool false) tt_ok rfl rfl ?_
          refine wl_pure tt_ok rfl rfl ?_
          refine wl_nil (wx_then (wc_ret ?_))
          simp only [Option.some.injEq] at h
          obtain rfl := h
          exact wx_pf tt_ok (.inl rfl) Tryd.results7 (Res.tmp rfl Res.nil) rfl
        replace h := cf hc h
        refine wl_skip rfl rfl ?_
        refine wl_skip rfl rfl ?_
        refine wl_skip rfl rfl ?_
        refine wl_skip rfl rfl ?_
        simp only [Option.some.injEq, Prod.mk.injEq] at h
        obtain rfl := h
        have h := hg30; clear hg30
        refine wl_pure (v := .bool false) tt_ok rfl rfl ?_
        refine wl_pure tt_ok rfl rfl ?_
        replace h := bsome h; obtain ⟨v35, h, hg35⟩ := h
        replace h := cf rfl h
        refine wl_skip rfl rfl ?_
        refine wl_skip rfl rfl ?_
        refine wl_skip rfl rfl ?_
        simp only [Option.some.injEq, Prod.mk.injEq] at h
        obtain rfl := h
        have h := hg35; clear hg35
        refine wl_pure (v := .bool false) tt_ok rfl rfl ?_
        refine wl_pure tt_ok rfl rfl ?_
        replace h := bsome h; obtain ⟨v40, h, hg40⟩ := h
        replace h := cf rfl h
        refine wl_skip rfl rfl ?_
        refine wl_skip rfl rfl ?_
        refine wl_skip rfl rfl ?_
        simp only [Option.some.injEq, Prod.mk.injEq] at h
        obtain rfl := h
        have h := hg40; clear hg40
        refine wl_pure (v := .bool false) tt_ok rfl rfl ?_
        refine wl_pure tt_ok rfl rfl ?_
        refine wl_nil (wx_then (wc_ret ?_))
        simp only [Option.some.injEq] at h
        obtain rfl := h
        exact wx_pf tt_ok (.inl rfl) Tryd.results7 (Res.tmp rfl Res.nil) rfl
      replace h := cf hc h
      refine wl_skip rfl rfl ?_
      refine wl_skip rfl rfl ?_
      refine wl_skip rfl rfl ?_
      simp only [Option.some.injEq, Prod.mk.injEq] at h
      obtain ⟨rfl, rfl, rfl⟩ := h
      have h := hg24; clear hg24; try dsimp only at h
      refine wl_pure (v := .bool false) tt_ok rfl rfl ?_
      refine wl_pure tt_ok rfl rfl ?_
      replace h := bsome h; obtain ⟨v30, h, hg30⟩ := h
      replace h := cf rfl h
      refine wl_skip rfl rfl ?_
      refine wl_skip rfl rfl ?_
      refine wl_skip rfl rfl ?_
      refine wl_skip rfl rfl ?_
      simp only [Option.some.injEq, Prod.mk.injEq] at h
      obtain rfl := h
      have h := hg30; clear hg30
      refine wl_pure (v := .bool false) tt_ok rfl rfl ?_
      refine wl_pure tt_ok rfl rfl ?_
      replace h := bsome h; obtain ⟨v35, h, hg35⟩ := h
      replace h := cf rfl h
      refine wl_skip rfl rfl ?_
      refine wl_skip rfl rfl ?_
      refine wl_skip rfl rfl ?_
      simp only [Option.some.injEq, Prod.mk.injEq] at h
      obtain rfl := h
      have h := hg35; clear hg35
      refine wl_pure (v := .bool false) tt_ok rfl rfl ?_
      refine wl_pure tt_ok rfl rfl ?_
      replace h := bsome h; obtain ⟨v40, h, hg40⟩ := h
      replace h := cf rfl h
      refine wl_skip rfl rfl ?_
      refine wl_skip rfl rfl ?_
      refine wl_skip rfl rfl ?_
      simp only [Option.some.injEq, Prod.mk.injEq] at h
      obtain rfl := h
      have h := hg40; clear hg40
      refine wl_pure (v := .bool false) tt_ok rfl rfl ?_
      refine wl_pure tt_ok rfl rfl ?_
      refine wl_nil (wx_then (wc_ret ?_))
      simp only [Option.some.injEq] at h
      obtain rfl := h
      exact wx_pf tt_ok (.inl rfl) Tryd.results7 (Res.tmp rfl Res.nil) rfl
    replace h := cf hc h
    refine wl_skip rfl rfl ?_
    refine wl_skip rfl rfl ?_
    refine wl_skip rfl rfl ?_
    simp only [Option.some.injEq, Prod.mk.injEq] at h
    obtain rfl := h
    have h := hg19; clear hg19
    refine wl_pure (v := .bool false) tt_ok rfl rfl ?_
    refine wl_pure tt_ok rfl rfl ?_
    replace h := bsome h; obtain ⟨⟨v24, g24_n2_0_f0, g24_n2_0_f1⟩, h, hg24⟩ := h
    replace h := cf rfl h
    refine wl_skip rfl rfl ?_
    refine wl_skip rfl rfl ?_
    refine wl_skip rfl rfl ?_
    simp only [Option.some.injEq, Prod.mk.injEq] at h
    obtain ⟨rfl, rfl, rfl⟩ := h
    have h := hg24; clear hg24; try dsimp only at h
    refine wl_pure (v := .bool false) tt_ok rfl rfl ?_
    refine wl_pure tt_ok rfl rfl ?_
    replace h := bsome h; obtain ⟨v30, h, hg30⟩ := h
    replace h := cf rfl h
    refine wl_skip rfl rfl ?_
    refine wl_skip rfl rfl ?_
    refine wl_skip rfl rfl ?_
    refine wl_skip rfl rfl ?_
    simp only [Option.some.injEq, Prod.mk.injEq] at h
    obtain rfl := h
    have h := hg30; clear hg30
    refine wl_pure (v := .bool false) tt_ok rfl rfl ?_
    refine wl_pure tt_ok rfl rfl ?_
    replace h := bsome h; obtain ⟨v35, h, hg35⟩ := h
    replace h := cf rfl h
    refine wl_skip rfl rfl ?_
    refine wl_skip rfl rfl ?_
    refine wl_skip rfl rfl ?_
    simp only [Option.some.injEq, Prod.mk.injEq] at h
    obtain rfl := h
    have h := hg35; clear hg35
    refine wl_pure (v := .bool false) tt_ok rfl rfl ?_
    refine wl_pure tt_ok rfl rfl ?_
    replace h := bsome h; obtain ⟨v40, h, hg40⟩ := h
    replace h := cf rfl h
    refine wl_skip rfl rfl ?_
    refine wl_skip rfl rfl ?_
    refine wl_skip rfl rfl ?_
    simp only [Option.some.injEq, Prod.mk.injEq] at h
    obtain rfl := h
    have h := hg40; clear hg40
    refine wl_pure (v := .bool false) tt_ok rfl rfl ?_
    refine wl_pure tt_ok rfl rfl ?_
    refine wl_nil (wx_then (wc_ret ?_))
    simp only [Option.some.injEq] at h
    obtain rfl := h
    exact wx_pf tt_ok (.inl rfl) Tryd.results7 (Res.tmp rfl Res.nil) rfl
  replace h := cf hc h
  refine wl_skip rfl rfl ?_
  refine wl_skip rfl rfl ?_
  refine wl_skip rfl rfl ?_
  simp only [Option.some.injEq, Prod.mk.injEq] at h
  obtain ⟨rfl, rfl, rfl⟩ := h
  have h := hg14; clear hg14; try dsimp only at h
  refine wl_pure (v := .bool false) tt_ok rfl rfl ?_
  refine wl_pure tt_ok rfl rfl ?_
  replace h := bsome h; obtain ⟨v19, h, hg19⟩ := h
  replace h := cf rfl h
  refine wl_skip rfl rfl ?_
  refine wl_skip rfl rfl ?_
  refine wl_skip rfl rfl ?_
  simp only [Option.some.injEq, Prod.mk.injEq] at h
  obtain rfl := h
  have h := hg19; clear hg19
  refine wl_pure (v := .bool false) tt_ok rfl rfl ?_
  refine wl_pure tt_ok rfl rfl ?_
  replace h := bsome h; obtain ⟨⟨v24, g24_n2_0_f0, g24_n2_0_f1⟩, h, hg24⟩ := h
  replace h := cf rfl h
  refine wl_skip rfl rfl ?_
  refine wl_skip rfl rfl ?_
  refine wl_skip rfl rfl ?_
  simp only [Option.some.injEq, Prod.mk.injEq] at h
  obtain ⟨rfl, rfl, rfl⟩ := h
  have h := hg24; clear hg24; try dsimp only at h
  refine wl_pure (v := .bool false) tt_ok rfl rfl ?_
  refine wl_pure tt_ok rfl rfl ?_
  replace h := bsome h; obtain ⟨v30, h, hg30⟩ := h
  replace h := cf rfl h
  refine wl_skip rfl rfl ?_
  refine wl_skip rfl rfl ?_
  refine wl_skip rfl rfl ?_
  refine wl_skip rfl rfl ?_
  simp only [Option.some.injEq, Prod.mk.injEq] at h
  obtain rfl := h
  have h := hg30; clear hg30
  refine wl_pure (v := .bool false) tt_ok rfl rfl ?_
  refine wl_pure tt_ok rfl rfl ?_
  replace h := bsome h; obtain ⟨v35, h, hg35⟩ := h
  replace h := cf rfl h
  refine wl_skip rfl rfl ?_
  refine wl_skip rfl rfl ?_
  refine wl_skip rfl rfl ?_
  simp only [Option.some.injEq, Prod.mk.injEq] at h
  obtain rfl := h
  have h := hg35; clear hg35
  refine wl_pure (v := .bool false) tt_ok rfl rfl ?_
  refine wl_pure tt_ok rfl rfl ?_
  replace h := bsome h; obtain ⟨v40, h, hg40⟩ := h
  replace h := cf rfl h
  refine wl_skip rfl rfl ?_
  refine wl_skip rfl rfl ?_
  refine wl_skip rfl rfl ?_
  simp only [Option.some.injEq, Prod.mk.injEq] at h
  obtain rfl := h
  have h := hg40; clear hg40
  refine wl_pure (v := .bool false) tt_ok rfl rfl ?_
  refine wl_pure tt_ok rfl rfl ?_
  refine wl_nil (wx_then (wc_ret ?_))
  simp only [Option.some.injEq] at h
  obtain rfl := h
  exact wx_pf tt_ok (.inl rfl) Tryd.results7 (Res.tmp rfl Res.nil) rfl

theorem k_hindcastlaw25_few {F : Nat} {p0 : (List T_hindcastlaw25_Act)} {p0a0 : Option Addr} {p0n0 p0c0 : Nat} {p0g0 : List (T_hindcastlaw25_Act × G)} {r0 : Bool} (p0N0 : p0n0 = p0.length) (p0H0 : p0n0 ≤ p0c0) (p0G0 : p0 = unG p0g0) (h : m_hindcastlaw25_few F p0 = some r0) :
    Pf Tryd.prog 17 [.slice p0a0 p0n0 p0c0] (fun w => Rds w [] [] p0a0 (flat cg_T_hindcastlaw25_Act p0g0) ∧ AllRd sh_T_hindcastlaw25_Act c_T_api_Shot w [] [] p0g0) (.bool r0) := by
  unfold m_hindcastlaw25_few at h
  refine pf_of_wc Tryd.func17 rfl Tryd.ntmps17 rfl rfl (fun w0 hR => ?_)
  obtain ⟨p0S0, p0A0⟩ := hR
  refine wc_seq (wc_region ?_)
  refine wl_pure tt_ok rfl rfl ?_
  refine wl_nil (wx_then (wc_seq (wc_seq (wc_region ?_))))
  refine wl_pure tt_ok rfl rfl ?_
  refine wl_nil (wx_then (wc_block ?_))
  replace h := bsome h; obtain ⟨o7, h, hl7⟩ := h
  refine wc_loop (fun m E L => ∃ (j7_3 : Int), m_hindcastlaw25_few_L6 F p0 m j7_3 = some o7 ∧ E = [(0, .slice p0a0 p0n0 p0c0), (2, .bool false), (3, .int .i64 j7_3)] ∧ L = []) F ⟨(0 : Int), h, rfl, rfl⟩ (agree_cons rfl (agree_cons rfl (agree_cons rfl agree_nil))) (pSub pNil) ?_
  clear h
  rintro m7 _ _ ⟨j7_3, h, rfl, rfl⟩
  rcases m7 with _ | m7
  · rw [m_hindcastlaw25_few_L6.eq_1] at h; cases h
  rw [m_hindcastlaw25_few_L6.eq_2] at h
  refine wc_seq (wc_seq (wc_region ?_))
  iterate 2 refine wl_pure tt_ok rfl rfl ?_
  refine wl_val (v := .int .i64 (p0.length : Int)) (val_len tt_ok rfl rfl p0N0) rfl ?_
  refine wl_pure (v := .bool (decide (j7_3 < (p0.length : Int)))) tt_ok rfl rfl ?_
  refine wl_pure tt_ok rfl rfl ?_
  replace h := bsome h; obtain ⟨v11, h, hg11⟩ := h
  refine wl_split (t := 8) rfl (fun hc => ?_) (fun hc => ?_)
  · replace h := ct hc h
    refine wl_run rfl ?_
    refine wl_pure tt_ok rfl rfl ?_
    refine wl_run rfl ?_
    refine wl_pure (v := .bool (decide (j7_3 < (90 : Int)))) tt_ok rfl rfl ?_
    simp only [Option.some.injEq, Prod.mk.injEq] at h
    obtain rfl := h
    have h := hg11; clear hg11
    refine wl_pure (v := .bool (decide (j7_3 < (90 : Int)))) tt_ok rfl rfl ?_
    refine wl_nil (wx_then ?_)
    refine wc_cond rfl (fun hc => ?_) (fun hc => ?_)
    · replace h := ct hc h
      refine wc_skip (wx_then (wc_seq (wc_block (wc_seq (wc_region ?_)))))
      iterate 2 refine wl_pure tt_ok rfl rfl ?_
      replace h := bsome h; obtain ⟨v16, x16, h⟩ := h
      obtain ⟨G16, y16⟩ := getI_g p0G0 x16
      refine wl_val (v := .pointer (some ((adOf p0a0).add (j7_3.toNat * 21 + 0)))) (val_ix (enc := cg_T_hindcastlaw25_Act) tt_ok rfl rfl rfl rfl (len_g p0N0 p0G0) p0S0 cg_T_hindcastlaw25_Act_len rfl y16) rfl ?_
      refine wl_val (v := .pointer (some ((adOf p0a0).add (j7_3.toNat * 21 + 1)))) (val_fa (k := j7_3.toNat * 21 + 0) (off := 1) tt_ok rfl rfl rfl rfl rfl) rfl ?_
      refine wl_val (v := .pointer (some ((adOf p0a0).add (j7_3.toNat * 21 + 17)))) (val_fa (k := j7_3.toNat * 21 + 1) (off := 16) tt_ok rfl rfl rfl rfl rfl) rfl ?_
      refine wl_val (v := .slice G16.1 G16.2.1 G16.2.2) (val_le (enc := cg_T_hindcastlaw25_Act) (xs := p0g0) tt_ok rfl p0S0 rsub_nil cg_T_hindcastlaw25_Act_len y16 rfl) rfl ?_
      refine wl_val (v := .int .i64 (v16.S.Shots.length : Int)) (val_len tt_ok rfl rfl (allrd_get p0A0 y16).1) rfl ?_
      refine wl_pure (v := .bool (decide ((100 : Int) < (v16.S.Shots.length : Int)))) tt_ok rfl rfl ?_
      refine wl_nil (wx_then ?_)
      refine wc_cond rfl (fun hc => ?_) (fun hc => ?_)
      · replace h := ct hc h
        refine wc_seq (wc_region ?_)
        refine wl_pure tt_ok rfl rfl ?_
        refine wl_nil (wx_then (wc_ret (wx_block_ret (wx_then_ret ?_))))
        obtain rfl := Option.some.inj h
        have h := hl7; clear hl7; try dsimp only [orE_l, orE_r] at h
        refine wx_then_ret (wx_block_ret (wx_then_ret ?_))
        simp only [Option.some.injEq] at h
        obtain rfl := h
        exact wx_pf tt_ok (.inl rfl) Tryd.results17 (Res.tmp rfl Res.nil) rfl
      replace h := cf hc h
      refine wc_skip (wx_block (wx_then (wc_region ?_)))
      refine wl_pure tt_ok rfl rfl ?_
      refine wl_pure (v := .int .i64 (IntKind.wrap .i64 (j7_3 + (1 : Int)))) tt_ok rfl rfl ?_
      refine wl_pure tt_ok rfl rfl ?_
      refine wl_nil ?_
      exact wx_round m7 (Nat.lt_succ_self m7) ⟨(IntKind.wrap .i64 (j7_3 + (1 : Int))), h, rfl, rfl⟩ (agree_cons rfl (agree_cons rfl (agree_cons rfl agree_nil))) (pSub pNil)
    replace h := cf hc h
    refine wc_exit (wx_then_exit ?_)
    obtain rfl := Option.some.inj h
    have h := hl7; clear hl7; try dsimp only [orE_l, orE_r] at h
    refine wx_then_exit (wx_block_exit (wx_then (wc_seq (wc_region ?_))))
    refine wl_pure tt_ok rfl rfl ?_
    refine wl_val (v := .int .i64 (p0.length : Int)) (val_len tt_ok rfl rfl p0N0) rfl ?_
    refine wl_pure (v := .bool (decide ((p0.length : Int) ≤ (80 : Int)))) tt_ok rfl rfl ?_
    refine wl_pure tt_ok rfl rfl ?_
    refine wl_nil (wx_then (wc_ret ?_))
    simp only [Option.some.injEq] at h
    obtain rfl := h
    exact wx_pf tt_ok (.inl rfl) Tryd.results17 (Res.tmp rfl Res.nil) rfl
  replace h := cf hc h
  refine wl_skip rfl rfl ?_
  refine wl_skip rfl rfl ?_
  simp only [Option.some.injEq, Prod.mk.injEq] at h
  obtain rfl := h
  have h := hg11; clear hg11
  refine wl_pure (v := .bool false) tt_ok rfl rfl ?_
  refine wl_nil (wx_then ?_)
  replace h := cf rfl h
  refine wc_cond_false rfl ?_
  refine wc_exit (wx_then_exit ?_)
  obtain rfl := Option.some.inj h
  have h := hl7; clear hl7; try dsimp only [orE_l, orE_r] at h
  refine wx_then_exit (wx_block_exit (wx_then (wc_seq (wc_region ?_))))
  refine wl_pure tt_ok rfl rfl ?_
  refine wl_val (v := .int .i64 (p0.length : Int)) (val_len tt_ok rfl rfl p0N0) rfl ?_
  refine wl_pure (v := .bool (decide ((p0.length : Int) ≤ (80 : Int)))) tt_ok rfl rfl ?_
  refine wl_pure tt_ok rfl rfl ?_
  refine wl_nil (wx_then (wc_ret ?_))
  simp only [Option.some.injEq] at h
  obtain rfl := h
  exact wx_pf tt_ok (.inl rfl) Tryd.results17 (Res.tmp rfl Res.nil) rfl

theorem k_hindcastref08_Copy {F : Nat} {p0 : T_api_State} {p0a0 : Option Addr} {p0n0 p0c0 : Nat} {r0 : T_api_State} (p0N0 : p0n0 = p0.Shots.length) (p0H0 : p0n0 ≤ p0c0) (h : m_hindcastref08_Copy F p0 = some r0) :
    SpD Tryd.prog 41 [.agg #[.int .u64 p0.Frame, .int .u64 p0.Seed, .int .i32 p0.Players.1.X, .int .i32 p0.Players.1.Y, .int .i32 p0.Players.1.VX, .int .i32 p0.Players.1.VY, .int .u8 p0.Players.1.Health, .int .u8 p0.Players.1.Cool, .int .u8 p0.Players.1.Face, .int .i32 p0.Players.2.X, .int .i32 p0.Players.2.Y, .int .i32 p0.Players.2.VX, .int .i32 p0.Players.2.VY, .int .u8 p0.Players.2.Health, .int .u8 p0.Players.2.Cool, .int .u8 p0.Players.2.Face, .slice p0a0 p0n0 p0c0, .int .u16 p0.Score.1, .int .u16 p0.Score.2]] [] (fun w => Rds w (ids []) [] p0a0 (flat c_T_api_Shot p0.Shots)) (fun v D => ∃ (r0a0 : Option Addr) (r0n0 : Nat) (r0c0 : Nat) (r0B0 : List Blk), r0n0 = r0.Shots.length ∧ Own 76 6 r0a0 r0n0 r0c0 (flat c_T_api_Shot r0.Shots) r0B0 ∧ v = .agg #[.int .u64 r0.Frame, .int .u64 r0.Seed, .int .i32 r0.Players.1.X, .int .i32 r0.Players.1.Y, .int .i32 r0.Players.1.VX, .int .i32 r0.Players.1.VY, .int .u8 r0.Players.1.Health, .int .u8 r0.Players.1.Cool, .int .u8 r0.Players.1.Face, .int .i32 r0.Players.2.X, .int .i32 r0.Players.2.Y, .int .i32 r0.Players.2.VX, .int .i32 r0.Players.2.VY, .int .u8 r0.Players.2.Health, .int .u8 r0.Players.2.Cool, .int .u8 r0.Players.2.Face, .slice r0a0 r0n0 r0c0, .int .u16 r0.Score.1, .int .u16 r0.Score.2] ∧ D = fun F => (r0B0 ++ F)) := by
  unfold m_hindcastref08_Copy at h
  refine sp_of_wc Tryd.func41 rfl Tryd.ntmps41 rfl rfl (fun w0 hR => ?_)
  have p0S0 := hR
  refine wc_seq (wc_region ?_)
  refine wl_box rfl rfl rfl (fun b1 => ?_)
  refine wl_alloc tt_ok rfl rfl (fun b2 => ?_)
  refine wl_nil (wx_then (wc_seq (wc_region ?_)))
  refine wl_val (v := .agg #[.int .u64 p0.Frame, .int .u64 p0.Seed, .int .i32 p0.Players.1.X, .int .i32 p0.Players.1.Y, .int .i32 p0.Players.1.VX, .int .i32 p0.Players.1.VY, .int .u8 p0.Players.1.Health, .int .u8 p0.Players.1.Cool, .int .u8 p0.Players.1.Face, .int .i32 p0.Players.2.X, .int .i32 p0.Players.2.Y, .int .i32 p0.Players.2.VX, .int .i32 p0.Players.2.VY, .int .u8 p0.Players.2.Health, .int .u8 p0.Players.2.Cool, .int .u8 p0.Players.2.Face, .slice p0a0 p0n0 p0c0, .int .u16 p0.Score.1, .int .u16 p0.Score.2]) (val_load tt_ok rfl (List.Mem.tail _ (List.Mem.head _)) rfl) rfl ?_
  refine wl_alloc tt_ok rfl rfl (fun b3 => ?_)
  apply wl_store tt_ok; rfl; exact Upd.here; rfl; rfl; rfl; rfl; rfl; rfl
  refine wl_nil (wx_then (wc_seq (wc_region ?_)))
  refine wl_pure (v := .pointer (some ⟨b3, 16, none⟩)) tt_ok rfl rfl ?_
  apply wl_store tt_ok; rfl; exact Upd.here; rfl; rfl; rfl; rfl; rfl; rfl
  refine wl_nil (wx_then (wc_seq (wc_region ?_)))
  refine wl_pure (v := .pointer (some ⟨b3, 16, none⟩)) tt_ok rfl rfl ?_
  refine wl_val (v := .slice none 0 0) (val_load tt_ok rfl (List.Mem.head _) rfl) rfl ?_
  refine wl_pure (v := .pointer (some ⟨b1, 16, none⟩)) tt_ok rfl rfl ?_
  refine wl_val (v := .slice p0a0 p0n0 p0c0) (val_load tt_ok rfl (List.Mem.tail _ (List.Mem.tail _ (List.Mem.head _))) rfl) rfl ?_
  replace h := bsome h; obtain ⟨v10, x10, h⟩ := h
  refine wl_chg (chg_app (enc := c_T_api_Shot) (ys := p0.Shots) tt_ok rfl rfl rfl rfl rfl rfl rfl p0N0 Own.zero pNil p0S0 rsub_nil c_T_api_Shot_len (fun _ => rfl) rfl x10) rfl ?_
  rintro _ _ ⟨a10, n10_, c10, B10, rfl, N10, V10, rfl⟩
  refine wl_pure (v := .pointer (some ⟨b3, 16, none⟩)) tt_ok rfl rfl ?_
  apply wl_store tt_ok; rfl; exact (Upd.right Upd.here); rfl; rfl; rfl; rfl; rfl; rfl
  refine wl_nil (wx_then (wc_seq (wc_region ?_)))
  refine wl_val (v := .agg #[.int .u64 p0.Frame, .int .u64 p0.Seed, .int .i32 p0.Players.1.X, .int .i32 p0.Players.1.Y, .int .i32 p0.Players.1.VX, .int .i32 p0.Players.1.VY, .int .u8 p0.Players.1.Health, .int .u8 p0.Players.1.Cool, .int .u8 p0.Players.1.Face, .int .i32 p0.Players.2.X, .int .i32 p0.Players.2.Y, .int .i32 p0.Players.2.VX, .int .i32 p0.Players.2.VY, .int .u8 p0.Players.2.Health, .int .u8 p0.Players.2.Cool, .int .u8 p0.Players.2.Face, .slice a10 n10_ c10, .int .u16 p0.Score.1, .int .u16 p0.Score.2]) (val_load tt_ok rfl (mR (List.Mem.head _)) rfl) rfl ?_
  apply wl_store tt_ok; rfl; exact (Upd.right (Upd.there Upd.here)); rfl; rfl; rfl; rfl; rfl; rfl
  refine wl_nil (wx_then (wc_ret ?_))
  simp only [Option.some.injEq] at h
  obtain rfl := h
  exact wx_spD tt_ok (.inl rfl) Tryd.results41 (Res.cell rfl (mR (List.Mem.tail _ (List.Mem.head _))) rfl Res.nil) ⟨a10, n10_, c10, B10, N10, V10, rfl, rfl⟩ (fun F => by simp) (pSub (pApp Sel.ha pNil))

theorem k_hindcastlaw25_spoil_o0 {F : Nat} {p0 : T_api_State} {p0a0 : Option Addr} {p0n0 : Nat} {p0c0 : Nat} {p0B0 : List Blk} (p0N0 : p0n0 = p0.Shots.length) (p0V0 : Own 76 6 p0a0 p0n0 p0c0 (flat c_T_api_Shot p0.Shots) p0B0) (h : m_hindcastlaw25_spoil_o0 F p0 = some ()) :
    SpD Tryd.prog 42 [.agg #[.int .u64 p0.Frame, .int .u64 p0.Seed, .int .i32 p0.Players.1.X, .int .i32 p0.Players.1.Y, .int .i32 p0.Players.1.VX, .int .i32 p0.Players.1.VY, .int .u8 p0.Players.1.Health, .int .u8 p0.Players.1.Cool, .int .u8 p0.Players.1.Face, .int .i32 p0.Players.2.X, .int .i32 p0.Players.2.Y, .int .i32 p0.Players.2.VX, .int .i32 p0.Players.2.VY, .int .u8 p0.Players.2.Health, .int .u8 p0.Players.2.Cool, .int .u8 p0.Players.2.Face, .slice p0a0 p0n0 p0c0, .int .u16 p0.Score.1, .int .u16 p0.Score.2]] (p0B0 ++ []) (fun w => True) (fun v D => v = .tuple #[] ∧ D = fun F => F) := by
  unfold m_hindcastlaw25_spoil_o0 at h
  refine sp_of_wc Tryd.func42 rfl Tryd.ntmps42 rfl rfl (fun w0 hR => ?_)
  refine wc_seq (wc_region ?_)
  refine wl_box rfl rfl rfl (fun b1 => ?_)
  refine wl_nil (wx_then (wc_seq (wc_region ?_)))
  refine wl_pure tt_ok rfl rfl ?_
  refine wl_nil (wx_then (wc_block ?_))
  replace h := bsome h; obtain ⟨l6_n1_f3, h, hl6⟩ := h
  refine wc_loop (fun m E L => ∃ (j6_2 : Int) (j6_n1_f3 : (List T_api_Shot)) (j6_n1_f3a0 : Option Addr) (j6_n1_f3n0 : Nat) (j6_n1_f3c0 : Nat) (j6_n1_f3B0 : List Blk), m_hindcastlaw25_spoil_o0_L5 F m j6_2 j6_n1_f3 = some l6_n1_f3 ∧ j6_n1_f3n0 = j6_n1_f3.length ∧ Own 76 6 j6_n1_f3a0 j6_n1_f3n0 j6_n1_f3c0 (flat c_T_api_Shot j6_n1_f3) j6_n1_f3B0 ∧ E = [(1, .pointer (some ⟨b1, 0, none⟩)), (2, .int .i64 j6_2)] ∧ L = (⟨b1, [.int .u64 p0.Frame, .int .u64 p0.Seed, .int .i32 p0.Players.1.X, .int .i32 p0.Players.1.Y, .int .i32 p0.Players.1.VX, .int .i32 p0.Players.1.VY, .int .u8 p0.Players.1.Health, .int .u8 p0.Players.1.Cool, .int .u8 p0.Players.1.Face, .int .i32 p0.Players.2.X, .int .i32 p0.Players.2.Y, .int .i32 p0.Players.2.VX, .int .i32 p0.Players.2.VY, .int .u8 p0.Players.2.Health, .int .u8 p0.Players.2.Cool, .int .u8 p0.Players.2.Face, .slice j6_n1_f3a0 j6_n1_f3n0 j6_n1_f3c0, .int .u16 p0.Score.1, .int .u16 p0.Score.2], 30, (0, 0)⟩ :: (j6_n1_f3B0 ++ []))) F ⟨(0 : Int), p0.Shots, p0a0, p0n0, p0c0, p0B0, h, p0N0, p0V0, rfl, rfl⟩ (agree_cons rfl (agree_cons rfl agree_nil)) (pSub (pCons Sel.hc (pApp Sel.ha pNil))) ?_
  clear h
  rintro m6 _ _ ⟨j6_2, j6_n1_f3, j6_n1_f3a0, j6_n1_f3n0, j6_n1_f3c0, j6_n1_f3B0, h, j6_n1_f3N0, j6_n1_f3V0, rfl, rfl⟩
  rcases m6 with _ | m6
  · rw [m_hindcastlaw25_spoil_o0_L5.eq_1] at h; cases h
  rw [m_hindcastlaw25_spoil_o0_L5.eq_2] at h
  refine wc_seq (wc_seq (wc_region ?_))
  refine wl_pure tt_ok rfl rfl ?_
  refine wl_pure (v := .pointer (some ⟨b1, 16, none⟩)) tt_ok rfl rfl ?_
  refine wl_val (v := .slice j6_n1_f3a0 j6_n1_f3n0 j6_n1_f3c0) (val_load tt_ok rfl (List.Mem.head _) rfl) rfl ?_
  refine wl_val (v := .int .i64 (j6_n1_f3.length : Int)) (val_len tt_ok rfl rfl j6_n1_f3N0) rfl ?_
  refine wl_pure (v := .bool (decide (j6_2 < (j6_n1_f3.length : Int)))) tt_ok rfl rfl ?_
  refine wl_nil (wx_then ?_)
  refine wc_cond rfl (fun hc => ?_) (fun hc => ?_)
  · replace h := ct hc h
    refine wc_skip (wx_then (wc_seq (wc_block (wc_region ?_))))
    refine wl_pure (v := .pointer (some ⟨b1, 16, none⟩)) tt_ok rfl rfl ?_
    refine wl_val (v := .slice j6_n1_f3a0 j6_n1_f3n0 j6_n1_f3c0) (val_load tt_ok rfl (List.Mem.head _) rfl) rfl ?_
    refine wl_pure tt_ok rfl rfl ?_
    refine wl_pure (v := .agg #[.int .i32 (-1 : Int), .int .i32 (0 : Int), .int .i32 (0 : Int), .int .i32 (0 : Int), .int .u8 (0 : Int), .int .u8 (0 : Int)]) tt_ok rfl rfl ?_
    replace h := bsome h; obtain ⟨v14, x14, h⟩ := h
    refine wl_val (v := .pointer (some ((adOf j6_n1_f3a0).add (j6_2.toNat * 6 + 0)))) (val_ix (enc := c_T_api_Shot) tt_ok rfl rfl rfl rfl j6_n1_f3N0 (Rds.of_vec j6_n1_f3V0) c_T_api_Shot_len rfl x14) rfl ?_
    refine wl_chg0 (chg_ste (enc := c_T_api_Shot) (y' := (T_api_Shot.mk (-1 : Int) (0 : Int) (0 : Int) (0 : Int) (0 : Int) (0 : Int))) tt_ok rfl rfl rfl rfl rfl rfl j6_n1_f3N0 j6_n1_f3V0 (Sel.sc Sel.ha) c_T_api_Shot_len x14 rfl (by intro h; cases h)) ?_
    rintro _ _ ⟨Bs15_5, Ns15_5, Vs15_5, rfl⟩
    refine wl_nil (wx_block (wx_then (wc_region ?_)))
    refine wl_pure tt_ok rfl rfl ?_
    refine wl_pure (v := .int .i64 (IntKind.wrap .i64 (j6_2 + (1 : Int)))) tt_ok rfl rfl ?_
    refine wl_pure tt_ok rfl rfl ?_
    refine wl_nil ?_
    exact wx_round m6 (Nat.lt_succ_self m6) ⟨(IntKind.wrap .i64 (j6_2 + (1 : Int))), (setI j6_n1_f3 j6_2 (T_api_Shot.mk (-1 : Int) (0 : Int) (0 : Int) (0 : Int) (0 : Int) (0 : Int))), j6_n1_f3a0, j6_n1_f3n0, j6_n1_f3c0, Bs15_5, h, Ns15_5, Vs15_5, rfl, rfl⟩ (agree_cons rfl (agree_cons rfl agree_nil)) (pSub (pCons (Sel.sa Sel.hc) (pApp Sel.ha pNil)))
  replace h := cf hc h
  refine wc_exit (wx_then_exit ?_)
  simp only [Option.some.injEq] at h
  obtain rfl := h
  have h := hl6; clear hl6; try dsimp only [orE_l, orE_r] at h
  refine wx_then_exit (wx_block_exit ?_)
  exact wx_spD tt_ok (.inr rfl) Tryd.results42 Res.nil ⟨rfl, rfl⟩ (fun F => by simp) (pSub pNil)

theorem k_hindcastref08_in {F : Nat} {p0 : Int} {p1 : Int} {p2 : Int} {r0 : Bool} (h : m_hindcastref08_in F p0 p1 p2 = some r0) :
    Pf Tryd.prog 71 [.int .i32 p0, .int .i32 p1, .int .i32 p2] (fun w => True) (.bool r0) := by
  unfold m_hindcastref08_in at h
  refine pf_of_wc Tryd.func71 rfl Tryd.ntmps71 rfl rfl (fun w0 hR => ?_)
  refine wc_seq (wc_region ?_)
  refine wl_pure tt_ok rfl rfl ?_
  refine wl_nil (wx_then (wc_seq (wc_region ?_)))
  iterate 2 refine wl_pure tt_ok rfl rfl ?_
  refine wl_pure (v := .bool (decide (p1 ≤ p0))) tt_ok rfl rfl ?_
  refine wl_pure tt_ok rfl rfl ?_
  replace h := bsome h; obtain ⟨v14, h, hg14⟩ := h
  refine wl_split (t := 10) rfl (fun hc => ?_) (fun hc => ?_)
  · replace h := ct hc h
    refine wl_run rfl ?_
    refine wl_pure tt_ok rfl rfl ?_
    refine wl_run rfl ?_
    refine wl_pure tt_ok rfl rfl ?_
    refine wl_run rfl ?_
    refine wl_pure (v := .bool (decide (p0 ≤ p2))) tt_ok rfl rfl ?_
    simp only [Option.some.injEq, Prod.mk.injEq] at h
    obtain rfl := h
    have h := hg14; clear hg14
    refine wl_pure (v := .bool (decide (p0 ≤ p2))) tt_ok rfl rfl ?_
    refine wl_pure tt_ok rfl rfl ?_
    refine wl_nil (wx_then (wc_ret ?_))
    simp only [Option.some.injEq] at h
    obtain rfl := h
    exact wx_pf tt_ok (.inl rfl) Tryd.results71 (Res.tmp rfl Res.nil) rfl
  replace h := cf hc h
  refine wl_skip rfl rfl ?_
  refine wl_skip rfl rfl ?_
  refine wl_skip rfl rfl ?_
  simp only [Option.some.injEq, Prod.mk.injEq] at h
  obtain rfl := h
  have h := hg14; clear hg14
  refine wl_pure (v := .bool false) tt_ok rfl rfl ?_
  refine wl_pure tt_ok rfl rfl ?_
  refine wl_nil (wx_then (wc_ret ?_))
  simp only [Option.some.injEq] at h
  obtain rfl := h
  exact wx_pf tt_ok (.inl rfl) Tryd.results71 (Res.tmp rfl Res.nil) rfl

theorem k_hindcastref08_Player {F : Nat} {p0 : T_api_Player} {r0 : Bool} (h : m_hindcastref08_Player F p0 = some r0) :
    Pf Tryd.prog 66 [.agg #[.int .i32 p0.X, .int .i32 p0.Y, .int .i32 p0.VX, .int .i32 p0.VY, .int .u8 p0.Health, .int .u8 p0.Cool, .int .u8 p0.Face]] (fun w => True) (.bool r0) := by
  unfold m_hindcastref08_Player at h
  refine pf_of_wc Tryd.func66 rfl Tryd.ntmps66 rfl rfl (fun w0 hR => ?_)
  refine wc_seq (wc_region ?_)
  refine wl_box rfl rfl rfl (fun b1 => ?_)
  refine wl_pure tt_ok rfl rfl ?_
  refine wl_nil (wx_then (wc_seq (wc_region ?_)))
  refine wl_pure (v := .pointer (some ⟨b1, 0, none⟩)) tt_ok rfl rfl ?_
  refine wl_val (v := .int .i32 p0.X) (val_load tt_ok rfl (List.Mem.head _) rfl) rfl ?_
  replace h := bsome h; obtain ⟨v5, x5, h⟩ := h
  refine wl_cq Tryd.call71 rfl rfl rfl (q_pf (k_hindcastref08_in x5) (fun _ _ => trivial)) rfl ?_
  refine wl_pure tt_ok rfl rfl ?_
  replace h := bsome h; obtain ⟨v10, h, hg10⟩ := h
  refine wl_split (t := 6) rfl (fun hc => ?_) (fun hc => ?_)
  · replace h := ct hc h
    refine wl_run rfl ?_
    refine wl_pure (v := .pointer (some ⟨b1, 1, none⟩)) tt_ok rfl rfl ?_
    refine wl_run rfl ?_
    refine wl_val (v := .int .i32 p0.Y) (val_load tt_ok rfl (List.Mem.head _) rfl) rfl ?_
    replace h := bsome h; obtain ⟨v9, x9, h⟩ := h
    refine wl_run rfl ?_
    refine wl_cq Tryd.call71 rfl rfl rfl (q_pf (k_hindcastref08_in x9) (fun _ _ => trivial)) rfl ?_
    simp only [Option.some.injEq, Prod.mk.injEq] at h
    obtain rfl := h
    have h := hg10; clear hg10
    refine wl_pure (v := .bool v9) tt_ok rfl rfl ?_
    refine wl_pure tt_ok rfl rfl ?_
    replace h := bsome h; obtain ⟨v15, h, hg15⟩ := h
    refine wl_split (t := 11) rfl (fun hc => ?_) (fun hc => ?_)
    · replace h := ct hc h
      refine wl_run rfl ?_
      refine wl_pure (v := .pointer (some ⟨b1, 2, none⟩)) tt_ok rfl rfl ?_
      refine wl_run rfl ?_
      refine wl_val (v := .int .i32 p0.VX) (val_load tt_ok rfl (List.Mem.head _) rfl) rfl ?_
      replace h := bsome h; obtain ⟨v14, x14, h⟩ := h
      refine wl_run rfl ?_
      refine wl_cq Tryd.call71 rfl rfl rfl (q_pf (k_hindcastref08_in x14) (fun _ _ => trivial)) rfl ?_
      simp only [Option.some.injEq, Prod.mk.injEq] at h
      obtain rfl := h
      have h := hg15; clear hg15
      refine wl_pure (v := .bool v14) tt_ok rfl rfl ?_
      refine wl_pure tt_ok rfl rfl ?_
      replace h := bsome h; obtain ⟨v20, h, hg20⟩ := h
      refine wl_split (t := 16) rfl (fun hc => ?_) (fun hc => ?_)
      · replace h := ct hc h
        refine wl_run rfl ?_
        refine wl_pure (v := .pointer (some ⟨b1, 3, none⟩)) tt_ok rfl rfl ?_
        refine wl_run rfl ?_
        refine wl_val (v := .int .i32 p0.VY) (val_load tt_ok rfl (List.Mem.head _) rfl) rfl ?_
        replace h := bsome h; obtain ⟨v19, x19, h⟩ := h
        refine wl_run rfl ?_
        refine wl_cq Tryd.call71 rfl rfl rfl (q_pf (k_hindcastref08_in x19) (fun _ _ => trivial)) rfl ?_
        simp only [Option.some.injEq, Prod.mk.injEq] at h
        obtain rfl := h
        have h := hg20; clear hg20
        refine wl_pure (v := .bool v19) tt_ok rfl rfl ?_
        refine wl_pure tt_ok rfl rfl ?_
        replace h := bsome h; obtain ⟨v25, h, hg25⟩ := h
        refine wl_split (t := 21) rfl (fun hc => ?_) (fun hc => ?_)
        · replace h := ct hc h
          refine wl_run rfl ?_
          refine wl_pure (v := .pointer (some ⟨b1, 4, none⟩)) tt_ok rfl rfl ?_
          refine wl_run rfl ?_
          refine wl_val (v := .int .u8 p0.Health) (val_load tt_ok rfl (List.Mem.head _) rfl) rfl ?_
          refine wl_run rfl ?_
          refine wl_pure (v := .bool (decide ((1 : Int) ≤ p0.Health))) tt_ok rfl rfl ?_
          simp only [Option.some.injEq, Prod.mk.injEq] at h
          obtain rfl := h
          have h := hg25; clear hg25
          refine wl_pure (v := .bool (decide ((1 : Int) ≤ p0.Health))) tt_ok rfl rfl ?_
          refine wl_pure tt_ok rfl rfl ?_
          replace h := bsome h; obtain ⟨v30, h, hg30⟩ := h
          refine wl_split (t := 26) rfl (fun hc => ?_) (fun hc => ?_)
          · replace h := ct hc h
            refine wl_run rfl ?_
            refine wl_pure (v := .pointer (some ⟨b1, 4, none⟩)) tt_ok rfl rfl ?_
            refine wl_run rfl ?_
            refine wl_val (v := .int .u8 p0.Health) (val_load tt_ok rfl (List.Mem.head _) rfl) rfl ?_
            refine wl_run rfl ?_
            refine wl_pure (v := .bool (decide (p0.Health ≤ (100 : Int)))) tt_ok rfl rfl ?_
            simp only [Option.some.injEq, Prod.mk.injEq] at h
            obtain rfl := h
            have h := hg30; clear hg30
            refine wl_pure (v := .bool (decide (p0.Health ≤ (100 : Int)))) tt_ok rfl rfl ?_
            refine wl_pure tt_ok rfl rfl ?_
            replace h := bsome h; obtain ⟨v35, h, hg35⟩ := h
            refine wl_split (t := 31) rfl (fun hc => ?_) (fun hc => ?_)
            · replace h := ct hc h
              refine wl_run rfl ?_
              refine wl_pure (v := .pointer (some ⟨b1, 5, none⟩)) tt_ok rfl rfl ?_
              refine wl_run rfl ?_
              refine wl_val (v := .int .u8 p0.Cool) (val_load tt_ok rfl (List.Mem.head _) rfl) rfl ?_
              refine wl_run rfl ?_
              refine wl_pure (v := .bool (decide (p0.Cool ≤ (30 : Int)))) tt_ok rfl rfl ?_
              simp only [Option.some.injEq, Prod.mk.injEq] at h
              obtain rfl := h
              have h := hg35; clear hg35
              refine wl_pure (v := .bool (decide (p0.Cool ≤ (30 : Int)))) tt_ok rfl rfl ?_
              refine wl_pure tt_ok rfl rfl ?_
              replace h := bsome h; obtain ⟨v40, h, hg40⟩ := h
              refine wl_split (t := 36) rfl (fun hc => ?_) (fun hc => ?_)
              · replace h := ct hc h
                refine wl_run rfl ?_
                refine wl_pure (v := .pointer (some ⟨b1, 6, none⟩)) tt_ok rfl rfl ?_
                refine wl_run rfl ?_
                refine wl_val (v := .int .u8 p0.Face) (val_load tt_ok rfl (List.Mem.head _) rfl) rfl ?_
                refine wl_run rfl ?_
                refine wl_pure (v := .bool (decide (p0.Face ≤ (3 : Int)))) tt_ok rfl rfl ?_
                simp only [Option.some.injEq, Prod.mk.injEq] at h
                obtain rfl := h
                have h := hg40; clear hg40
                refine wl_pure (v := .bool (decide (p0.Face ≤ (3 : Int)))) tt_ok rfl rfl ?_
                refine wl_pure tt_ok rfl rfl ?_
                refine wl_nil (wx_then (wc_ret ?_))
                simp only [Option.some.injEq] at h
                obtain rfl := h
                exact wx_pf tt_ok (.inl rfl) Tryd.results66 (Res.tmp rfl Res.nil) rfl
              replace h := cf hc h
              refine wl_skip rfl rfl ?_
              refine wl_skip rfl rfl ?_
              refine wl_skip rfl rfl ?_
              simp only [Option.some.injEq, Prod.mk.injEq] at h
              obtain rfl := h
              have h := hg40; clear hg40
              refine wl_pure (v := .bool false) tt_ok rfl rfl ?_
              refine wl_pure tt_ok rfl rfl ?_
              refine wl_nil (wx_then (wc_ret ?_))
              simp only [Option.some.injEq] at h
              obtain rfl := h
              exact wx_pf tt_ok (.inl rfl) Tryd.results66 (Res.tmp rfl Res.nil) rfl
            replace h := cf hc h
            refine wl_skip rfl rfl ?_
            refine wl_skip rfl rfl ?_
            refine wl_skip rfl rfl ?_
            simp only [Option.some.injEq, Prod.mk.injEq] at h
            obtain rfl := h
            have h := hg35; clear hg35
            refine wl_pure (v := .bool false) tt_ok rfl rfl ?_
            refine wl_pure tt_ok rfl rfl ?_
            replace h := bsome h; obtain ⟨v40, h, hg40⟩ := h
            replace h := cf rfl h
            refine wl_skip rfl rfl ?_
            refine wl_skip rfl rfl ?_
            refine wl_skip rfl rfl ?_
            simp only [Option.some.injEq, Prod.mk.injEq] at h
            obtain rfl := h
            have h := hg40; clear hg40
            refine wl_pure (v := .bool false) tt_ok rfl rfl ?_
            refine wl_pure tt_ok rfl rfl ?_
            refine wl_nil (wx_then (wc_ret ?_))
            simp only [Option.some.injEq] at h
            obtain rfl := h
            exact wx_pf tt_ok (.inl rfl) Tryd.results66 (Res.tmp rfl Res.nil) rfl
          replace h := cf hc h
          refine wl_skip rfl rfl ?_
          refine wl_skip rfl rfl ?_
          refine wl_skip rfl rfl ?_
          simp only [Option.some.injEq, Prod.mk.injEq] at h
          obtain rfl := h
          have h := hg30; clear hg30
          refine wl_pure (v := .bool false) tt_ok rfl rfl ?_
          refine wl_pure tt_ok rfl rfl ?_
          replace h := bsome h; obtain ⟨v35, h, hg35⟩ := h
          replace h := cf rfl h
          refine wl_skip rfl rfl ?_
          refine wl_skip rfl rfl ?_
          refine wl_skip rfl rfl ?_
          simp only [Option.some.injEq, Prod.mk.injEq] at h
          obtain rfl := h
          have h := hg35; clear hg35
          refine wl_pure (v := .bool false) tt_ok rfl rfl ?_
          refine wl_pure tt_ok rfl rfl ?_
          replace h := bsome h; obtain ⟨v40, h, hg40⟩ := h
          replace h := cf rfl h
          refine wl_skip rfl rfl ?_
          refine wl_skip rfl rfl ?_
          refine wl_skip rfl rfl ?_
          simp only [Option.some.injEq, Prod.mk.injEq] at h
          obtain rfl := h
          have h := hg40; clear hg40
          refine wl_pure (v := .bool false) tt_ok rfl rfl ?_
          refine wl_pure tt_ok rfl rfl ?_
          refine wl_nil (wx_then (wc_ret ?_))
          simp only [Option.some.injEq] at h
          obtain rfl := h
          exact wx_pf tt_ok (.inl rfl) Tryd.results66 (Res.tmp rfl Res.nil) rfl
        replace h := cf hc h
        refine wl_skip rfl rfl ?_
        refine wl_skip rfl rfl ?_
        refine wl_skip rfl rfl ?_
        simp only [Option.some.injEq, Prod.mk.injEq] at h
        obtain rfl := h
        have h := hg25; clear hg25
        refine wl_pure (v := .bool false) tt_ok rfl rfl ?_
        refine wl_pure tt_ok rfl rfl ?_
        replace h := bsome h; obtain ⟨v30, h, hg30⟩ := h
        replace h := cf rfl h
        refine wl_skip rfl rfl ?_
        refine wl_skip rfl rfl ?_
        refine wl_skip rfl rfl ?_
        simp only [Option.some.injEq, Prod.mk.injEq] at h
        obtain rfl := h
        have h := hg30; clear hg30
        refine wl_pure (v := .bool false) tt_ok rfl rfl ?_
        refine wl_pure tt_ok rfl rfl ?_
        replace h := bsome h; obtain ⟨v35, h, hg35⟩ := h
        replace h := cf rfl h
        refine wl_skip rfl rfl ?_
        refine wl_skip rfl rfl ?_
        refine wl_skip rfl rfl ?_
        simp only [Option.some.injEq, Prod.mk.injEq] at h
        obtain rfl := h
        have h := hg35; clear hg35
        refine wl_pure (v := .bool false) tt_ok rfl rfl ?_
        refine wl_pure tt_ok rfl rfl ?_
        replace h := bsome h; obtain ⟨v40, h, hg40⟩ := h
        replace h := cf rfl h
        refine wl_skip rfl rfl ?_
        refine wl_skip rfl rfl ?_
        refine wl_skip rfl rfl ?_
        simp only [Option.some.injEq, Prod.mk.injEq] at h
        obtain rfl := h
        have h := hg40; clear hg40
        refine wl_pure (v := .bool false) tt_ok rfl rfl ?_
        refine wl_pure tt_ok rfl rfl ?_
        refine wl_nil (wx_then (wc_ret ?_))
        simp only [Option.some.injEq] at h
        obtain rfl := h
        exact wx_pf tt_ok (.inl rfl) Tryd.results66 (Res.tmp rfl Res.nil) rfl
      replace h := cf hc h
      refine wl_skip rfl rfl ?_
      refine wl_skip rfl rfl ?_
      refine wl_skip rfl rfl ?_
      simp only [Option.some.injEq, Prod.mk.injEq] at h
      obtain rfl := h
      have h := hg20; clear hg20
      refine wl_pure (v := .bool false) tt_ok rfl rfl ?_
      refine wl_pure tt_ok rfl rfl ?_
      replace h := bsome h; obtain ⟨v25, h, hg25⟩ := h
      replace h := cf rfl h
      refine wl_skip rfl rfl ?_
      refine wl_skip rfl rfl ?_
      refine wl_skip rfl rfl ?_
      simp only [Option.some.injEq, Prod.mk.injEq] at h
      obtain rfl := h
      have h := hg25; clear hg25
      refine wl_pure (v := .bool false) tt_ok rfl rfl ?_
      refine wl_pure tt_ok rfl rfl ?_
      replace h := bsome h; obtain ⟨v30, h, hg30⟩ := h
      replace h := cf rfl h
      refine wl_skip rfl rfl ?_
      refine wl_skip rfl rfl ?_
      refine wl_skip rfl rfl ?_
      simp only [Option.some.injEq, Prod.mk.injEq] at h
      obtain rfl := h
      have h := hg30; clear hg30
      refine wl_pure (v := .bool false) tt_ok rfl rfl ?_
      refine wl_pure tt_ok rfl rfl ?_
      replace h := bsome h; obtain ⟨v35, h, hg35⟩ := h
      replace h := cf rfl h
      refine wl_skip rfl rfl ?_
      refine wl_skip rfl rfl ?_
      refine wl_skip rfl rfl ?_
      simp only [Option.some.injEq, Prod.mk.injEq] at h
      obtain rfl := h
      have h := hg35; clear hg35
      refine wl_pure (v := .bool false) tt_ok rfl rfl ?_
      refine wl_pure tt_ok rfl rfl ?_
      replace h := bsome h; obtain ⟨v40, h, hg40⟩ := h
      replace h := cf rfl h
      refine wl_skip rfl rfl ?_
      refine wl_skip rfl rfl ?_
      refine wl_skip rfl rfl ?_
      simp only [Option.some.injEq, Prod.mk.injEq] at h
      obtain rfl := h
      have h := hg40; clear hg40
      refine wl_pure (v := .bool false) tt_ok rfl rfl ?_
      refine wl_pure tt_ok rfl rfl ?_
      refine wl_nil (wx_then (wc_ret ?_))
      simp only [Option.some.injEq] at h
      obtain rfl := h
      exact wx_pf tt_ok (.inl rfl) Tryd.results66 (Res.tmp rfl Res.nil) rfl
    replace h := cf hc h
    refine wl_skip rfl rfl ?_
    refine wl_skip rfl rfl ?_
    refine wl_skip rfl rfl ?_
    simp only [Option.some.injEq, Prod.mk.injEq] at h
    obtain rfl := h
    have h := hg15; clear hg15
    refine wl_pure (v := .bool false) tt_ok rfl rfl ?_
    refine wl_pure tt_ok rfl rfl ?_
    replace h := bsome h; obtain ⟨v20, h, hg20⟩ := h
    replace h := cf rfl h
    refine wl_skip rfl rfl ?_
    refine wl_skip rfl rfl ?_
    refine wl_skip rfl rfl ?_
    simp only [Option.some.injEq, Prod.mk.injEq] at h
    obtain rfl := h
    have h := hg20; clear hg20
    refine wl_pure (v := .bool false) tt_ok rfl rfl ?_
    refine wl_pure tt_ok rfl rfl ?_
    replace h := bsome h; obtain ⟨v25, h, hg25⟩ := h
    replace h := cf rfl h
    refine wl_skip rfl rfl ?_
    refine wl_skip rfl rfl ?_
    refine wl_skip rfl rfl ?_
    simp only [Option.some.injEq, Prod.mk.injEq] at h
    obtain rfl := h
    have h := hg25; clear hg25
    refine wl_pure (v := .bool false) tt_ok rfl rfl ?_
    refine wl_pure tt_ok rfl rfl ?_
    replace h := bsome h; obtain ⟨v30, h, hg30⟩ := h
    replace h := cf rfl h
    refine wl_skip rfl rfl ?_
    refine wl_skip rfl rfl ?_
    refine wl_skip rfl rfl ?_
    simp only [Option.some.injEq, Prod.mk.injEq] at h
    obtain rfl := h
    have h := hg30; clear hg30
    refine wl_pure (v := .bool false) tt_ok rfl rfl ?_
    refine wl_pure tt_ok rfl rfl ?_
    replace h := bsome h; obtain ⟨v35, h, hg35⟩ := h
    replace h := cf rfl h
    refine wl_skip rfl rfl ?_
    refine wl_skip rfl rfl ?_
    refine wl_skip rfl rfl ?_
    simp only [Option.some.injEq, Prod.mk.injEq] at h
    obtain rfl := h
    have h := hg35; clear hg35
    refine wl_pure (v := .bool false) tt_ok rfl rfl ?_
    refine wl_pure tt_ok rfl rfl ?_
    replace h := bsome h; obtain ⟨v40, h, hg40⟩ := h
    replace h := cf rfl h
    refine wl_skip rfl rfl ?_
    refine wl_skip rfl rfl ?_
    refine wl_skip rfl rfl ?_
    simp only [Option.some.injEq, Prod.mk.injEq] at h
    obtain rfl := h
    have h := hg40; clear hg40
    refine wl_pure (v := .bool false) tt_ok rfl rfl ?_
    refine wl_pure tt_ok rfl rfl ?_
    refine wl_nil (wx_then (wc_ret ?_))
    simp only [Option.some.injEq] at h
    obtain rfl := h
    exact wx_pf tt_ok (.inl rfl) Tryd.results66 (Res.tmp rfl Res.nil) rfl
  replace h := cf hc h
  refine wl_skip rfl rfl ?_
  refine wl_skip rfl rfl ?_
  refine wl_skip rfl rfl ?_
  simp only [Option.some.injEq, Prod.mk.injEq] at h
  obtain rfl := h
  have h := hg10; clear hg10
  refine wl_pure (v := .bool false) tt_ok rfl rfl ?_
  refine wl_pure tt_ok rfl rfl ?_
  replace h := bsome h; obtain ⟨v15, h, hg15⟩ := h
  replace h := cf rfl h
  refine wl_skip rfl rfl ?_
  refine wl_skip rfl rfl ?_
  refine wl_skip rfl rfl ?_
  simp only [Option.some.injEq, Prod.mk.injEq] at h
  obtain rfl := h
  have h := hg15; clear hg15
  refine wl_pure (v := .bool false) tt_ok rfl rfl ?_
  refine wl_pure tt_ok rfl rfl ?_
  replace h := bsome h; obtain ⟨v20, h, hg20⟩ := h
  replace h := cf rfl h
  refine wl_skip rfl rfl ?_
  refine wl_skip rfl rfl ?_
  refine wl_skip rfl rfl ?_
  simp only [Option.some.injEq, Prod.mk.injEq] at h
  obtain rfl := h
  have h := hg20; clear hg20
  refine wl_pure (v := .bool false) tt_ok rfl rfl ?_
  refine wl_pure tt_ok rfl rfl ?_
  replace h := bsome h; obtain ⟨v25, h, hg25⟩ := h
  replace h := cf rfl h
  refine wl_skip rfl rfl ?_
  refine wl_skip rfl rfl ?_
  refine wl_skip rfl rfl ?_
  simp only [Option.some.injEq, Prod.mk.injEq] at h
  obtain rfl := h
  have h := hg25; clear hg25
  refine wl_pure (v := .bool false) tt_ok rfl rfl ?_
  refine wl_pure tt_ok rfl rfl ?_
  replace h := bsome h; obtain ⟨v30, h, hg30⟩ := h
  replace h := cf rfl h
  refine wl_skip rfl rfl ?_
  refine wl_skip rfl rfl ?_
  refine wl_skip rfl rfl ?_
  simp only [Option.some.injEq, Prod.mk.injEq] at h
  obtain rfl := h
  have h := hg30; clear hg30
  refine wl_pure (v := .bool false) tt_ok rfl rfl ?_
  refine wl_pure tt_ok rfl rfl ?_
  replace h := bsome h; obtain ⟨v35, h, hg35⟩ := h
  replace h := cf rfl h
  refine wl_skip rfl rfl ?_
  refine wl_skip rfl rfl ?_
  refine wl_skip rfl rfl ?_
  simp only [Option.some.injEq, Prod.mk.injEq] at h
  obtain rfl := h
  have h := hg35; clear hg35
  refine wl_pure (v := .bool false) tt_ok rfl rfl ?_
  refine wl_pure tt_ok rfl rfl ?_
  replace h := bsome h; obtain ⟨v40, h, hg40⟩ := h
  replace h := cf rfl h
  refine wl_skip rfl rfl ?_
  refine wl_skip rfl rfl ?_
  refine wl_skip rfl rfl ?_
  simp only [Option.some.injEq, Prod.mk.injEq] at h
  obtain rfl := h
  have h := hg40; clear hg40
  refine wl_pure (v := .bool false) tt_ok rfl rfl ?_
  refine wl_pure tt_ok rfl rfl ?_
  refine wl_nil (wx_then (wc_ret ?_))
  simp only [Option.some.injEq] at h
  obtain rfl := h
  exact wx_pf tt_ok (.inl rfl) Tryd.results66 (Res.tmp rfl Res.nil) rfl

theorem k_hindcastref08_Shot {F : Nat} {p0 : T_api_Shot} {r0 : Bool} (h : m_hindcastref08_Shot F p0 = some r0) :
    Pf Tryd.prog 67 [.agg #[.int .i32 p0.X, .int .i32 p0.Y, .int .i32 p0.VX, .int .i32 p0.VY, .int .u8 p0.Owner, .int .u8 p0.Life]] (fun w => True) (.bool r0) := by
  unfold m_hindcastref08_Shot at h
  refine pf_of_wc Tryd.func67 rfl Tryd.ntmps67 rfl rfl (fun w0 hR => ?_)
  refine wc_seq (wc_region ?_)
  refine wl_box rfl rfl rfl (fun b1 => ?_)
  refine wl_pure tt_ok rfl rfl ?_
  refine wl_nil (wx_then (wc_seq (wc_region ?_)))
  refine wl_pure (v := .pointer (some ⟨b1, 0, none⟩)) tt_ok rfl rfl ?_
  refine wl_val (v := .int .i32 p0.X) (val_load tt_ok rfl (List.Mem.head _) rfl) rfl ?_
  replace h := bsome h; obtain ⟨v5, x5, h⟩ := h
  refine wl_cq Tryd.call71 rfl rfl rfl (q_pf (k_hindcastref08_in x5) (fun _ _ => trivial)) rfl ?_
  refine wl_pure tt_ok rfl rfl ?_
  replace h := bsome h; obtain ⟨v10, h, hg10⟩ := h
  refine wl_split (t := 6) rfl (fun hc => ?_) (fun hc => ?_)
  · replace h := ct hc h
    refine wl_run rfl ?_
    refine wl_pure (v := .pointer (some ⟨b1, 1, none⟩)) tt_ok rfl rfl ?_
    refine wl_run rfl ?_
    refine wl_val (v := .int .i32 p0.Y) (val_load tt_ok rfl (List.Mem.head _) rfl) rfl ?_
    replace h := bsome h; obtain ⟨v9, x9, h⟩ := h
    refine wl_run rfl ?_
    refine wl_cq Tryd.call71 rfl rfl rfl (q_pf (k_hindcastref08_in x9) (fun _ _ => trivial)) rfl ?_
    simp only [Option.some.injEq, Prod.mk.injEq] at h
    obtain rfl := h
    have h := hg10; clear hg10
    refine wl_pure (v := .bool v9) tt_ok rfl rfl ?_
    refine wl_pure tt_ok rfl rfl ?_
    replace h := bsome h; obtain ⟨v15, h, hg15⟩ := h
    refine wl_split (t := 11) rfl (fun hc => ?_) (fun hc => ?_)
    · replace h := ct hc h
      refine wl_run rfl ?_
      refine wl_pure (v := .pointer (some ⟨b1, 2, none⟩)) tt_ok rfl rfl ?_
      refine wl_run rfl ?_
      refine wl_val (v := .int .i32 p0.VX) (val_load tt_ok rfl (List.Mem.head _) rfl) rfl ?_
      replace h := bsome h; obtain ⟨v14, x14, h⟩ := h
      refine wl_run rfl ?_
      refine wl_cq Tryd.call71 rfl rfl rfl (q_pf (k_hindcastref08_in x14) (fun _ _ => trivial)) rfl ?_
      simp only [Option.some.injEq, Prod.mk.injEq] at h
      obtain rfl := h
      have h := hg15; clear hg15
      refine wl_pure (v := .bool v14) tt_ok rfl rfl ?_
      refine wl_pure tt_ok rfl rfl ?_
      replace h := bsome h; obtain ⟨v20, h, hg20⟩ := h
      refine wl_split (t := 16) rfl (fun hc => ?_) (fun hc => ?_)
      · replace h := ct hc h
        refine wl_run rfl ?_
        refine wl_pure (v := .pointer (some ⟨b1, 3, none⟩)) tt_ok rfl rfl ?_
        refine wl_run rfl ?_
        refine wl_val (v := .int .i32 p0.VY) (val_load tt_ok rfl (List.Mem.head _) rfl) rfl ?_
        replace h := bsome h; obtain ⟨v19, x19, h⟩ := h
        refine wl_run rfl ?_
        refine wl_cq Tryd.call71 rfl rfl rfl (q_pf (k_hindcastref08_in x19) (fun _ _ => trivial)) rfl ?_
        simp only [Option.some.injEq, Prod.mk.injEq] at h
        obtain rfl := h
        have h := hg20; clear hg20
        refine wl_pure (v := .bool v19) tt_ok rfl rfl ?_
        refine wl_pure tt_ok rfl rfl ?_
        replace h := bsome h; obtain ⟨v25, h, hg25⟩ := h
        refine wl_split (t := 21) rfl (fun hc => ?_) (fun hc => ?_)
        · replace h := ct hc h
          refine wl_run rfl ?_
          refine wl_pure (v := .pointer (some ⟨b1, 4, none⟩)) tt_ok rfl rfl ?_
          refine wl_run rfl ?_
          refine wl_val (v := .int .u8 p0.Owner) (val_load tt_ok rfl (List.Mem.head _) rfl) rfl ?_
          refine wl_run rfl ?_
          refine wl_pure (v := .bool (decide (p0.Owner ≤ (1 : Int)))) tt_ok rfl rfl ?_
          simp only [Option.some.injEq, Prod.mk.injEq] at h
          obtain rfl := h
          have h := hg25; clear hg25
          refine wl_pure (v := .bool (decide (p0.Owner ≤ (1 : Int)))) tt_ok rfl rfl ?_
          refine wl_pure tt_ok rfl rfl ?_
          replace h := bsome h; obtain ⟨v30, h, hg30⟩ := h
          refine wl_split (t := 26) rfl (fun hc => ?_) (fun hc => ?_)
          · replace h := ct hc h
            refine wl_run rfl ?_
            refine wl_pure (v := .pointer (some ⟨b1, 5, none⟩)) tt_ok rfl rfl ?_
            refine wl_run rfl ?_
            refine wl_val (v := .int .u8 p0.Life) (val_load tt_ok rfl (List.Mem.head _) rfl) rfl ?_
            refine wl_run rfl ?_
            refine wl_pure (v := .bool (decide ((1 : Int) ≤ p0.Life))) tt_ok rfl rfl ?_
            simp only [Option.some.injEq, Prod.mk.injEq] at h
            obtain rfl := h
            have h := hg30; clear hg30
            refine wl_pure (v := .bool (decide ((1 : Int) ≤ p0.Life))) tt_ok rfl rfl ?_
            refine wl_pure tt_ok rfl rfl ?_
            replace h := bsome h; obtain ⟨v35, h, hg35⟩ := h
            refine wl_split (t := 31) rfl (fun hc => ?_) (fun hc => ?_)
            · replace h := ct hc h
              refine wl_run rfl ?_
              refine wl_pure (v := .pointer (some ⟨b1, 5, none⟩)) tt_ok rfl rfl ?_
              refine wl_run rfl ?_
              refine wl_val (v := .int .u8 p0.Life) (val_load tt_ok rfl (List.Mem.head _) rfl) rfl ?_
              refine wl_run rfl ?_
              refine wl_pure (v := .bool (decide (p0.Life ≤ (40 : Int)))) tt_ok rfl rfl ?_
              simp only [Option.some.injEq, Prod.mk.injEq] at h
              obtain rfl := h
              have h := hg35; clear hg35
              refine wl_pure (v := .bool (decide (p0.Life ≤ (40 : Int)))) tt_ok rfl rfl ?_
              refine wl_pure tt_ok rfl rfl ?_
              refine wl_nil (wx_then (wc_ret ?_))
              simp only [Option.some.injEq] at h
              obtain rfl := h
              exact wx_pf tt_ok (.inl rfl) Tryd.results67 (Res.tmp rfl Res.nil) rfl
            replace h := cf hc h
            refine wl_skip rfl rfl ?_
            refine wl_skip rfl rfl ?_
            refine wl_skip rfl rfl ?_
            simp only [Option.some.injEq, Prod.mk.injEq] at h
            obtain rfl := h
            have h := hg35; clear hg35
            refine wl_pure (v := .bool false) tt_ok rfl rfl ?_
            refine wl_pure tt_ok rfl rfl ?_
            refine wl_nil (wx_then (wc_ret ?_))
            simp only [Option.some.injEq] at h
            obtain rfl := h
            exact wx_pf tt_ok (.inl rfl) Tryd.results67 (Res.tmp rfl Res.nil) rfl
          replace h := cf hc h
          refine wl_skip rfl rfl ?_
          refine wl_skip rfl rfl ?_
          refine wl_skip rfl rfl ?_
          simp only [Option.some.injEq, Prod.mk.injEq] at h
          obtain rfl := h
          have h := hg30; clear hg30
          refine wl_pure (v := .bool false) tt_ok rfl rfl ?_
          refine wl_pure tt_ok rfl rfl ?_
          replace h := bsome h; obtain ⟨v35, h, hg35⟩ := h
          replace h := cf rfl h
          refine wl_skip rfl rfl ?_
          refine wl_skip rfl rfl ?_
          refine wl_skip rfl rfl ?_
          simp only [Option.some.injEq, Prod.mk.injEq] at h
          obtain rfl := h
          have h := hg35; clear hg35
          refine wl_pure (v := .bool false) tt_ok rfl rfl ?_
          refine wl_pure tt_ok rfl rfl ?_
          refine wl_nil (wx_then (wc_ret ?_))
          simp only [Option.some.injEq] at h
          obtain rfl := h
          exact wx_pf tt_ok (.inl rfl) Tryd.results67 (Res.tmp rfl Res.nil) rfl
        replace h := cf hc h
        refine wl_skip rfl rfl ?_
        refine wl_skip rfl rfl ?_
        refine wl_skip rfl rfl ?_
        simp only [Option.some.injEq, Prod.mk.injEq] at h
        obtain rfl := h
        have h := hg25; clear hg25
        refine wl_pure (v := .bool false) tt_ok rfl rfl ?_
        refine wl_pure tt_ok rfl rfl ?_
        replace h := bsome h; obtain ⟨v30, h, hg30⟩ := h
        replace h := cf rfl h
        refine wl_skip rfl rfl ?_
        refine wl_skip rfl rfl ?_
        refine wl_skip rfl rfl ?_
        simp only [Option.some.injEq, Prod.mk.injEq] at h
        obtain rfl := h
        have h := hg30; clear hg30
        refine wl_pure (v := .bool false) tt_ok rfl rfl ?_
        refine wl_pure tt_ok rfl rfl ?_
        replace h := bsome h; obtain ⟨v35, h, hg35⟩ := h
        replace h := cf rfl h
        refine wl_skip rfl rfl ?_
        refine wl_skip rfl rfl ?_
        refine wl_skip rfl rfl ?_
        simp only [Option.some.injEq, Prod.mk.injEq] at h
        obtain rfl := h
        have h := hg35; clear hg35
        refine wl_pure (v := .bool false) tt_ok rfl rfl ?_
        refine wl_pure tt_ok rfl rfl ?_
        refine wl_nil (wx_then (wc_ret ?_))
        simp only [Option.some.injEq] at h
        obtain rfl := h
        exact wx_pf tt_ok (.inl rfl) Tryd.results67 (Res.tmp rfl Res.nil) rfl
      replace h := cf hc h
      refine wl_skip rfl rfl ?_
      refine wl_skip rfl rfl ?_
      refine wl_skip rfl rfl ?_
      simp only [Option.some.injEq, Prod.mk.injEq] at h
      obtain rfl := h
      have h := hg20; clear hg20
      refine wl_pure (v := .bool false) tt_ok rfl rfl ?_
      refine wl_pure tt_ok rfl rfl ?_
      replace h := bsome h; obtain ⟨v25, h, hg25⟩ := h
      replace h := cf rfl h
      refine wl_skip rfl rfl ?_
      refine wl_skip rfl rfl ?_
      refine wl_skip rfl rfl ?_
      simp only [Option.some.injEq, Prod.mk.injEq] at h
      obtain rfl := h
      have h := hg25; clear hg25
      refine wl_pure (v := .bool false) tt_ok rfl rfl ?_
      refine wl_pure tt_ok rfl rfl ?_
      replace h := bsome h; obtain ⟨v30, h, hg30⟩ := h
      replace h := cf rfl h
      refine wl_skip rfl rfl ?_
      refine wl_skip rfl rfl ?_
      refine wl_skip rfl rfl ?_
      simp only [Option.some.injEq, Prod.mk.injEq] at h
      obtain rfl := h
      have h := hg30; clear hg30
      refine wl_pure (v := .bool false) tt_ok rfl rfl ?_
      refine wl_pure tt_ok rfl rfl ?_
      replace h := bsome h; obtain ⟨v35, h, hg35⟩ := h
      replace h := cf rfl h
      refine wl_skip rfl rfl ?_
      refine wl_skip rfl rfl ?_
      refine wl_skip rfl rfl ?_
      simp only [Option.some.injEq, Prod.mk.injEq] at h
      obtain rfl := h
      have h := hg35; clear hg35
      refine wl_pure (v := .bool false) tt_ok rfl rfl ?_
      refine wl_pure tt_ok rfl rfl ?_
      refine wl_nil (wx_then (wc_ret ?_))
      simp only [Option.some.injEq] at h
      obtain rfl := h
      exact wx_pf tt_ok (.inl rfl) Tryd.results67 (Res.tmp rfl Res.nil) rfl
    replace h := cf hc h
    refine wl_skip rfl rfl ?_
    refine wl_skip rfl rfl ?_
    refine wl_skip rfl rfl ?_
    simp only [Option.some.injEq, Prod.mk.injEq] at h
    obtain rfl := h
    have h := hg15; clear hg15
    refine wl_pure (v := .bool false) tt_ok rfl rfl ?_
    refine wl_pure tt_ok rfl rfl ?_
    replace h := bsome h; obtain ⟨v20, h, hg20⟩ := h
    replace h := cf rfl h
    refine wl_skip rfl rfl ?_
    refine wl_skip rfl rfl ?_
    refine wl_skip rfl rfl ?_
    simp only [Option.some.injEq, Prod.mk.injEq] at h
    obtain rfl := h
    have h := hg20; clear hg20
    refine wl_pure (v := .bool false) tt_ok rfl rfl ?_
    refine wl_pure tt_ok rfl rfl ?_
    replace h := bsome h; obtain ⟨v25, h, hg25⟩ := h
    replace h := cf rfl h
    refine wl_skip rfl rfl ?_
    refine wl_skip rfl rfl ?_
    refine wl_skip rfl rfl ?_
    simp only [Option.some.injEq, Prod.mk.injEq] at h
    obtain rfl := h
    have h := hg25; clear hg25
    refine wl_pure (v := .bool false) tt_ok rfl rfl ?_
    refine wl_pure tt_ok rfl rfl ?_
    replace h := bsome h; obtain ⟨v30, h, hg30⟩ := h
    replace h := cf rfl h
    refine wl_skip rfl rfl ?_
    refine wl_skip rfl rfl ?_
    refine wl_skip rfl rfl ?_
    simp only [Option.some.injEq, Prod.mk.injEq] at h
    obtain rfl := h
    have h := hg30; clear hg30
    refine wl_pure (v := .bool false) tt_ok rfl rfl ?_
    refine wl_pure tt_ok rfl rfl ?_
    replace h := bsome h; obtain ⟨v35, h, hg35⟩ := h
    replace h := cf rfl h
    refine wl_skip rfl rfl ?_
    refine wl_skip rfl rfl ?_
    refine wl_skip rfl rfl ?_
    simp only [Option.some.injEq, Prod.mk.injEq] at h
    obtain rfl := h
    have h := hg35; clear hg35
    refine wl_pure (v := .bool false) tt_ok rfl rfl ?_
    refine wl_pure tt_ok rfl rfl ?_
    refine wl_nil (wx_then (wc_ret ?_))
    simp only [Option.some.injEq] at h
    obtain rfl := h
    exact wx_pf tt_ok (.inl rfl) Tryd.results67 (Res.tmp rfl Res.nil) rfl
  replace h := cf hc h
  refine wl_skip rfl rfl ?_
  refine wl_skip rfl rfl ?_
  refine wl_skip rfl rfl ?_
  simp only [Option.some.injEq, Prod.mk.injEq] at h
  obtain rfl := h
  have h := hg10; clear hg10
  refine wl_pure (v := .bool false) tt_ok rfl rfl ?_
  refine wl_pure tt_ok rfl rfl ?_
  replace h := bsome h; obtain ⟨v15, h, hg15⟩ := h
  replace h := cf rfl h
  refine wl_skip rfl rfl ?_
  refine wl_skip rfl rfl ?_
  refine wl_skip rfl rfl ?_
  simp only [Option.some.injEq, Prod.mk.injEq] at h
  obtain rfl := h
  have h := hg15; clear hg15
  refine wl_pure (v := .bool false) tt_ok rfl rfl ?_
  refine wl_pure tt_ok rfl rfl ?_
  replace h := bsome h; obtain ⟨v20, h, hg20⟩ := h
  replace h := cf rfl h
  refine wl_skip rfl rfl ?_
  refine wl_skip rfl rfl ?_
  refine wl_skip rfl rfl ?_
  simp only [Option.some.injEq, Prod.mk.injEq] at h
  obtain rfl := h
  have h := hg20; clear hg20
  refine wl_pure (v := .bool false) tt_ok rfl rfl ?_
  refine wl_pure tt_ok rfl rfl ?_
  replace h := bsome h; obtain ⟨v25, h, hg25⟩ := h
  replace h := cf rfl h
  refine wl_skip rfl rfl ?_
  refine wl_skip rfl rfl ?_
  refine wl_skip rfl rfl ?_
  simp only [Option.some.injEq, Prod.mk.injEq] at h
  obtain rfl := h
  have h := hg25; clear hg25
  refine wl_pure (v := .bool false) tt_ok rfl rfl ?_
  refine wl_pure tt_ok rfl rfl ?_
  replace h := bsome h; obtain ⟨v30, h, hg30⟩ := h
  replace h := cf rfl h
  refine wl_skip rfl rfl ?_
  refine wl_skip rfl rfl ?_
  refine wl_skip rfl rfl ?_
  simp only [Option.some.injEq, Prod.mk.injEq] at h
  obtain rfl := h
  have h := hg30; clear hg30
  refine wl_pure (v := .bool false) tt_ok rfl rfl ?_
  refine wl_pure tt_ok rfl rfl ?_
  replace h := bsome h; obtain ⟨v35, h, hg35⟩ := h
  replace h := cf rfl h
  refine wl_skip rfl rfl ?_
  refine wl_skip rfl rfl ?_
  refine wl_skip rfl rfl ?_
  simp only [Option.some.injEq, Prod.mk.injEq] at h
  obtain rfl := h
  have h := hg35; clear hg35
  refine wl_pure (v := .bool false) tt_ok rfl rfl ?_
  refine wl_pure tt_ok rfl rfl ?_
  refine wl_nil (wx_then (wc_ret ?_))
  simp only [Option.some.injEq] at h
  obtain rfl := h
  exact wx_pf tt_ok (.inl rfl) Tryd.results67 (Res.tmp rfl Res.nil) rfl

theorem k_hindcastref08_Check {F : Nat} {p0 : T_api_State} {p0a0 : Option Addr} {p0n0 p0c0 : Nat} {r0 : Int} (p0N0 : p0n0 = p0.Shots.length) (p0H0 : p0n0 ≤ p0c0) (h : m_hindcastref08_Check F p0 = some r0) :
    Pf Tryd.prog 60 [.agg #[.int .u64 p0.Frame, .int .u64 p0.Seed, .int .i32 p0.Players.1.X, .int .i32 p0.Players.1.Y, .int .i32 p0.Players.1.VX, .int .i32 p0.Players.1.VY, .int .u8 p0.Players.1.Health, .int .u8 p0.Players.1.Cool, .int .u8 p0.Players.1.Face, .int .i32 p0.Players.2.X, .int .i32 p0.Players.2.Y, .int .i32 p0.Players.2.VX, .int .i32 p0.Players.2.VY, .int .u8 p0.Players.2.Health, .int .u8 p0.Players.2.Cool, .int .u8 p0.Players.2.Face, .slice p0a0 p0n0 p0c0, .int .u16 p0.Score.1, .int .u16 p0.Score.2]] (fun w => Rds w [] [] p0a0 (flat c_T_api_Shot p0.Shots)) (.int .i64 r0) := by
  unfold m_hindcastref08_Check at h
  refine pf_of_wc Tryd.func60 rfl Tryd.ntmps60 rfl rfl (fun w0 hR => ?_)
  have p0S0 := hR
  refine wc_seq (wc_region ?_)
  refine wl_box rfl rfl rfl (fun b1 => ?_)
  refine wl_pure tt_ok rfl rfl ?_
  refine wl_nil (wx_then (wc_seq (wc_seq (wc_region ?_))))
  refine wl_pure (v := .pointer (some ⟨b1, 16, none⟩)) tt_ok rfl rfl ?_
  refine wl_val (v := .slice p0a0 p0n0 p0c0) (val_load tt_ok rfl (List.Mem.head _) rfl) rfl ?_
  refine wl_val (v := .int .i64 (p0.Shots.length : Int)) (val_len tt_ok rfl rfl p0N0) rfl ?_
  refine wl_pure (v := .bool (decide ((8 : Int) < (p0.Shots.length : Int)))) tt_ok rfl rfl ?_
  refine wl_pure tt_ok rfl rfl ?_
  replace h := bsome h; obtain ⟨v14, h, hg14⟩ := h
  refine wl_split (t := 8) rfl (fun hc => ?_) (fun hc => ?_)
  · replace h := ct hc h
    refine wl_skip rfl rfl ?_
    refine wl_skip rfl rfl ?_
    refine wl_skip rfl rfl ?_
    refine wl_skip rfl rfl ?_
    refine wl_skip rfl rfl ?_
    simp only [Option.some.injEq, Prod.mk.injEq] at h
    obtain rfl := h
    have h := hg14; clear hg14
    refine wl_pure (v := .bool true) tt_ok rfl rfl ?_
    refine wl_pure tt_ok rfl rfl ?_
    replace h := bsome h; obtain ⟨v21, h, hg21⟩ := h
    replace h := ct rfl h
    refine wl_skip rfl rfl ?_
    refine wl_skip rfl rfl ?_
    refine wl_skip rfl rfl ?_
    refine wl_skip rfl rfl ?_
    refine wl_skip rfl rfl ?_
    simp only [Option.some.injEq, Prod.mk.injEq] at h
    obtain rfl := h
    have h := hg21; clear hg21
    refine wl_pure (v := .bool true) tt_ok rfl rfl ?_
    refine wl_nil (wx_then ?_)
    replace h := ct rfl h
    refine wc_cond_true rfl ?_
    refine wc_seq (wc_region ?_)
    refine wl_pure tt_ok rfl rfl ?_
    refine wl_nil (wx_then (wc_ret (wx_then_ret ?_)))
    simp only [Option.some.injEq] at h
    obtain rfl := h
    exact wx_pf tt_ok (.inl rfl) Tryd.results60 (Res.tmp rfl Res.nil) rfl
  replace h := cf hc h
  refine wl_run rfl ?_
  refine wl_pure (v := .pointer (some ⟨b1, 2, none⟩)) tt_ok rfl rfl ?_
  refine wl_run rfl ?_
  refine wl_val (v := .pointer (some ⟨b1, 2, none⟩)) (val_ia (j := 0) tt_ok rfl rfl rfl rfl rfl rfl rfl) rfl ?_
  refine wl_run rfl ?_
  refine wl_val (v := .agg #[.int .i32 p0.Players.1.X, .int .i32 p0.Players.1.Y, .int .i32 p0.Players.1.VX, .int .i32 p0.Players.1.VY, .int .u8 p0.Players.1.Health, .int .u8 p0.Players.1.Cool, .int .u8 p0.Players.1.Face]) (val_load tt_ok rfl (List.Mem.head _) rfl) rfl ?_
  replace h := bsome h; obtain ⟨v12, x12, h⟩ := h
  refine wl_run rfl ?_
  refine wl_cq Tryd.call66 rfl rfl rfl (q_pf (k_hindcastref08_Player x12) (fun _ _ => trivial)) rfl ?_
  refine wl_run rfl ?_
  refine wl_pure (v := .bool (!v12)) tt_ok rfl rfl ?_
  simp only [Option.some.injEq, Prod.mk.injEq] at h
  obtain rfl := h
  have h := hg14; clear hg14
  refine wl_pure (v := .bool (!v12)) tt_ok rfl rfl ?_
  refine wl_pure tt_ok rfl rfl ?_
  replace h := bsome h; obtain ⟨v21, h, hg21⟩ := h
  refine wl_split (t := 15) rfl (fun hc => ?_) (fun hc => ?_)
  · replace h := ct hc h
    refine wl_skip rfl rfl ?_
    refine wl_skip rfl rfl ?_
    refine wl_skip rfl rfl ?_
    refine wl_skip rfl rfl ?_
    refine wl_skip rfl rfl ?_
    simp only [Option.some.injEq, Prod.mk.injEq] at h
    obtain rfl := h
    have h := hg21; clear hg21
    refine wl_pure (v := .bool true) tt_ok rfl rfl ?_
    refine wl_nil (wx_then ?_)
    replace h := ct rfl h
    refine wc_cond_true rfl ?_
    refine wc_seq (wc_region ?_)
    refine wl_pure tt_ok rfl rfl ?_
    refine wl_nil (wx_then (wc_ret (wx_then_ret ?_)))
    simp only [Option.some.injEq] at h
    obtain rfl := h
    exact wx_pf tt_ok (.inl rfl) Tryd.results60 (Res.tmp rfl Res.nil) rfl
  replace h := cf hc h
  refine wl_run rfl ?_
  refine wl_pure (v := .pointer (some ⟨b1, 2, none⟩)) tt_ok rfl rfl ?_
  refine wl_run rfl ?_
  refine wl_val (v := .pointer (some ⟨b1, 9, none⟩)) (val_ia (j := 1) tt_ok rfl rfl rfl rfl rfl rfl rfl) rfl ?_
  refine wl_run rfl ?_
  refine wl_val (v := .agg #[.int .i32 p0.Players.2.X, .int .i32 p0.Players.2.Y, .int .i32 p0.Players.2.VX, .int .i32 p0.Players.2.VY, .int .u8 p0.Players.2.Health, .int .u8 p0.Players.2.Cool, .int .u8 p0.Players.2.Face]) (val_load tt_ok rfl (List.Mem.head _) rfl) rfl ?_
  replace h := bsome h; obtain ⟨v19, x19, h⟩ := h
  refine wl_run rfl ?_
  refine wl_cq Tryd.call66 rfl rfl rfl (q_pf (k_hindcastref08_Player x19) (fun _ _ => trivial)) rfl ?_
  refine wl_run rfl ?_
  refine wl_pure (v := .bool (!v19)) tt_ok rfl rfl ?_
  simp only [Option.some.injEq, Prod.mk.injEq] at h
  obtain rfl := h
  have h := hg21; clear hg21
  refine wl_pure (v := .bool (!v19)) tt_ok rfl rfl ?_
  refine wl_nil (wx_then ?_)
  refine wc_cond rfl (fun hc => ?_) (fun hc => ?_)
  · replace h := ct hc h
    refine wc_seq (wc_region ?_)
    refine wl_pure tt_ok rfl rfl ?_
    refine wl_nil (wx_then (wc_ret (wx_then_ret ?_)))
    simp only [Option.some.injEq] at h
    obtain rfl := h
    exact wx_pf tt_ok (.inl rfl) Tryd.results60 (Res.tmp rfl Res.nil) rfl
  replace h := cf hc h
  refine wc_skip (wx_then (wc_seq (wc_seq (wc_region ?_))))
  refine wl_pure tt_ok rfl rfl ?_
  refine wl_nil (wx_then (wc_block ?_))
  replace h := bsome h; obtain ⟨o15, h, hl15⟩ := h
  refine wc_loop (fun m E L => ∃ (j15_3 : Int), m_hindcastref08_Check_L14 F p0 m j15_3 = some o15 ∧ E = [(1, .pointer (some ⟨b1, 0, none⟩)), (2, .int .i64 (0 : Int)), (3, .int .i64 j15_3)] ∧ L = (⟨b1, [.int .u64 p0.Frame, .int .u64 p0.Seed, .int .i32 p0.Players.1.X, .int .i32 p0.Players.1.Y, .int .i32 p0.Players.1.VX, .int .i32 p0.Players.1.VY, .int .u8 p0.Players.1.Health, .int .u8 p0.Players.1.Cool, .int .u8 p0.Players.1.Face, .int .i32 p0.Players.2.X, .int .i32 p0.Players.2.Y, .int .i32 p0.Players.2.VX, .int .i32 p0.Players.2.VY, .int .u8 p0.Players.2.Health, .int .u8 p0.Players.2.Cool, .int .u8 p0.Players.2.Face, .slice p0a0 p0n0 p0c0, .int .u16 p0.Score.1, .int .u16 p0.Score.2], 30, (0, 0)⟩ :: [])) F ⟨(0 : Int), h, rfl, rfl⟩ (agree_cons rfl (agree_cons rfl (agree_cons rfl agree_nil))) (pSub (pCons Sel.hc pNil)) ?_
  clear h
  rintro m15 _ _ ⟨j15_3, h, rfl, rfl⟩
  rcases m15 with _ | m15
  · rw [m_hindcastref08_Check_L14.eq_1] at h; cases h
  rw [m_hindcastref08_Check_L14.eq_2] at h
  refine wc_seq (wc_seq (wc_region ?_))
  refine wl_pure tt_ok rfl rfl ?_
  refine wl_pure (v := .pointer (some ⟨b1, 16, none⟩)) tt_ok rfl rfl ?_
  refine wl_val (v := .slice p0a0 p0n0 p0c0) (val_load tt_ok rfl (List.Mem.head _) rfl) rfl ?_
  refine wl_val (v := .int .i64 (p0.Shots.length : Int)) (val_len tt_ok rfl rfl p0N0) rfl ?_
  refine wl_pure (v := .bool (decide (j15_3 < (p0.Shots.length : Int)))) tt_ok rfl rfl ?_
  refine wl_nil (wx_then ?_)
  refine wc_cond rfl (fun hc => ?_) (fun hc => ?_)
  · replace h := ct hc h
    refine wc_skip (wx_then (wc_seq (wc_block (wc_seq (wc_region ?_)))))
    refine wl_pure (v := .pointer (some ⟨b1, 16, none⟩)) tt_ok rfl rfl ?_
    refine wl_val (v := .slice p0a0 p0n0 p0c0) (val_load tt_ok rfl (List.Mem.head _) rfl) rfl ?_
    refine wl_pure tt_ok rfl rfl ?_
    replace h := bsome h; obtain ⟨v32, x32, h⟩ := h
    refine wl_val (v := .pointer (some ((adOf p0a0).add (j15_3.toNat * 6 + 0)))) (val_ix (enc := c_T_api_Shot) tt_ok rfl rfl rfl rfl p0N0 p0S0 c_T_api_Shot_len rfl x32) rfl ?_
    refine wl_val (v := .agg #[.int .i32 v32.X, .int .i32 v32.Y, .int .i32 v32.VX, .int .i32 v32.VY, .int .u8 v32.Owner, .int .u8 v32.Life]) (val_le (enc := c_T_api_Shot) (xs := p0.Shots) tt_ok rfl p0S0 rsub_nil c_T_api_Shot_len x32 rfl) rfl ?_
    replace h := bsome h; obtain ⟨v34, x34, h⟩ := h
    refine wl_cq Tryd.call67 rfl rfl rfl (q_pf (k_hindcastref08_Shot x34) (fun _ _ => trivial)) rfl ?_
    refine wl_pure (v := .bool (!v34)) tt_ok rfl rfl ?_
    refine wl_nil (wx_then ?_)
    refine wc_cond rfl (fun hc => ?_) (fun hc => ?_)
    · replace h := ct hc h
      refine wc_seq (wc_region ?_)
      refine wl_pure tt_ok rfl rfl ?_
      refine wl_nil (wx_then (wc_ret (wx_block_ret (wx_then_ret ?_))))
      obtain rfl := Option.some.inj h
      have h := hl15; clear hl15; try dsimp only [orE_l, orE_r] at h
      refine wx_then_ret (wx_block_ret (wx_then_ret ?_))
      simp only [Option.some.injEq] at h
      obtain rfl := h
      exact wx_pf tt_ok (.inl rfl) Tryd.results60 (Res.tmp rfl Res.nil) rfl
    replace h := cf hc h
    refine wc_skip (wx_block (wx_then (wc_region ?_)))
    refine wl_pure tt_ok rfl rfl ?_
    refine wl_pure (v := .int .i64 (IntKind.wrap .i64 (j15_3 + (1 : Int)))) tt_ok rfl rfl ?_
    refine wl_pure tt_ok rfl rfl ?_
    refine wl_nil ?_
    exact wx_round m15 (Nat.lt_succ_self m15) ⟨(IntKind.wrap .i64 (j15_3 + (1 : Int))), h, rfl, rfl⟩ (agree_cons rfl (agree_cons rfl (agree_cons rfl agree_nil))) (pSub (pCons Sel.hc pNil))
  replace h := cf hc h
  refine wc_exit (wx_then_exit ?_)
  obtain rfl := Option.some.inj h
  have h := hl15; clear hl15; try dsimp only [orE_l, orE_r] at h
  refine wx_then_exit (wx_block_exit (wx_then (wc_seq (wc_region ?_))))
  refine wl_pure tt_ok rfl rfl ?_
  refine wl_nil (wx_then (wc_ret ?_))
  simp only [Option.some.injEq] at h
  obtain rfl := h
  exact wx_pf tt_ok (.inl rfl) Tryd.results60 (Res.tmp rfl Res.nil) rfl

theorem k_hindcastref25_Ring_place {F : Nat} {p0 : T_hindcastref25_Ring} {p0b p0t : Nat} {p0a0 : Option Addr} {p0n0 : Nat} {p0c0 : Nat} {p0B0 : List Blk} {p0g0 : List (T_api_State × G)} {p0P0 : List Blk} {p1 : Int} {r0 : Int} (p0N0 : p0n0 = p0.L.length) (p0V0 : Own 30 19 p0a0 p0n0 p0c0 (flat cg_T_api_State p0g0) p0B0) (p0G0 : p0.L = unG p0g0) (p0A0 : AllP sh_T_api_State c_T_api_Shot p0P0 p0g0) (h : m_hindcastref25_Ring_place F p0 p1 = some r0) :
    Rd2 Tryd.prog 61 [.pointer (some ⟨p0b, 0, none⟩), .int .u64 p1] (⟨p0b, [.int .i64 p0.Size, .slice p0a0 p0n0 p0c0], p0t, (0, 0)⟩ :: (p0B0 ++ (p0P0 ++ []))) (fun w => True) (.int .u64 r0) := by
  unfold m_hindcastref25_Ring_place at h
  refine sp_of_wc Tryd.func61 rfl Tryd.ntmps61 rfl rfl (fun w0 hR => ?_)
  refine wc_seq (wc_region ?_)
  refine wl_pure tt_ok rfl rfl ?_
  refine wl_nil (wx_then (wc_seq (wc_region ?_)))
  iterate 3 refine wl_pure tt_ok rfl rfl ?_
  refine wl_pure (v := .pointer (some ⟨p0b, 0, none⟩)) tt_ok rfl rfl ?_
  refine wl_val (v := .int .i64 p0.Size) (val_load tt_ok rfl (List.Mem.head _) rfl) rfl ?_
  refine wl_pure (v := .int .u64 (IntKind.wrap .u64 p0.Size)) tt_ok rfl rfl ?_
  replace h := bsome h; obtain ⟨v11, x11, h⟩ := h
  refine wl_val (v := .int .u64 v11) (val_rem rfl rfl x11) rfl ?_
  refine wl_pure tt_ok rfl rfl ?_
  refine wl_nil (wx_then (wc_ret ?_))
  simp only [Option.some.injEq] at h
  obtain rfl := h
  exact wx_rd tt_ok (.inl rfl) Tryd.results61 (Res.tmp rfl Res.nil) (pSub (pCons Sel.hc (pApp Sel.ha (pApp Sel.ha pNil)))) rfl

theorem k_hindcastref25_Ring_Put {F : Nat} {p0 : T_hindcastref25_Ring} {p0b p0t : Nat} {p0a0 : Option Addr} {p0n0 : Nat} {p0c0 : Nat} {p0B0 : List Blk} {p0g0 : List (T_api_State × G)} {p0P0 : List Blk} {p1 : T_api_State} {p1a0 : Option Addr} {p1n0 p1c0 : Nat} {r0 : T_hindcastref25_Ring} {r1 : Bool} (p0N0 : p0n0 = p0.L.length) (p0V0 : Own 30 19 p0a0 p0n0 p0c0 (flat cg_T_api_State p0g0) p0B0) (p0G0 : p0.L = unG p0g0) (p0A0 : AllP sh_T_api_State c_T_api_Shot p0P0 p0g0) (p1N0 : p1n0 = p1.Shots.length) (p1H0 : p1n0 ≤ p1c0) (h : m_hindcastref25_Ring_Put F p0 p1 = some (r0, r1)) :
    SpD Tryd.prog 43 [.pointer (some ⟨p0b, 0, none⟩), .agg #[.int .u64 p1.Frame, .int .u64 p1.Seed, .int .i32 p1.Players.1.X, .int .i32 p1.Players.1.Y, .int .i32 p1.Players.1.VX, .int .i32 p1.Players.1.VY, .int .u8 p1.Players.1.Health, .int .u8 p1.Players.1.Cool, .int .u8 p1.Players.1.Face, .int .i32 p1.Players.2.X, .int .i32 p1.Players.2.Y, .int .i32 p1.Players.2.VX, .int .i32 p1.Players.2.VY, .int .u8 p1.Players.2.Health, .int .u8 p1.Players.2.Cool, .int .u8 p1.Players.2.Face, .slice p1a0 p1n0 p1c0, .int .u16 p1.Score.1, .int .u16 p1.Score.2]] (⟨p0b, [.int .i64 p0.Size, .slice p0a0 p0n0 p0c0], p0t, (0, 0)⟩ :: (p0B0 ++ (p0P0 ++ []))) (fun w => Rds w (ids (⟨p0b, [.int .i64 p0.Size, .slice p0a0 p0n0 p0c0], p0t, (0, 0)⟩ :: (p0B0 ++ (p0P0 ++ [])))) [] p1a0 (flat c_T_api_Shot p1.Shots)) (fun v D => ∃ (r0a0 : Option Addr) (r0n0 : Nat) (r0c0 : Nat) (r0B0 : List Blk) (r0g0 : List (T_api_State × G)) (r0P0 : List Blk), r0n0 = r0.L.length ∧ Own 30 19 r0a0 r0n0 r0c0 (flat cg_T_api_State r0g0) r0B0 ∧ r0.L = unG r0g0 ∧ AllP sh_T_api_State c_T_api_Shot r0P0 r0g0 ∧ v = .bool r1 ∧ D = fun F => (⟨p0b, [.int .i64 r0.Size, .slice r0a0 r0n0 r0c0], p0t, (0, 0)⟩ :: (r0B0 ++ (r0P0 ++ F)))) := by
  unfold m_hindcastref25_Ring_Put at h
  refine sp_of_wc Tryd.func43 rfl Tryd.ntmps43 rfl rfl (fun w0 hR => ?_)
  have p1S0 := hR
  refine wc_seq (wc_region ?_)
  refine wl_box rfl rfl rfl (fun b3 => ?_)
  refine wl_pure tt_ok rfl rfl ?_
  refine wl_nil (wx_then (wc_seq (wc_seq (wc_region ?_))))
  refine wl_val (v := .agg #[.int .u64 p1.Frame, .int .u64 p1.Seed, .int .i32 p1.Players.1.X, .int .i32 p1.Players.1.Y, .int .i32 p1.Players.1.VX, .int .i32 p1.Players.1.VY, .int .u8 p1.Players.1.Health, .int .u8 p1.Players.1.Cool, .int .u8 p1.Players.1.Face, .int .i32 p1.Players.2.X, .int .i32 p1.Players.2.Y, .int .i32 p1.Players.2.VX, .int .i32 p1.Players.2.VY, .int .u8 p1.Players.2.Health, .int .u8 p1.Players.2.Cool, .int .u8 p1.Players.2.Face, .slice p1a0 p1n0 p1c0, .int .u16 p1.Score.1, .int .u16 p1.Score.2]) (val_load tt_ok rfl (List.Mem.head _) rfl) rfl ?_
  replace h := bsome h; obtain ⟨v9, x9, h⟩ := h
  refine wl_cq Tryd.call60 rfl rfl rfl (q_pf (k_hindcastref08_Check (p0 := p1) p1N0 p1H0 x9) (Rds.call p1S0 pNil rsub_nil)) rfl ?_
  refine wl_pure (v := .bool (v9 != (0 : Int))) tt_ok rfl rfl ?_
  refine wl_nil (wx_then ?_)
  refine wc_cond rfl (fun hc => ?_) (fun hc => ?_)
  · replace h := ct hc h
    refine wc_seq (wc_region ?_)
    refine wl_pure tt_ok rfl rfl ?_
    refine wl_nil (wx_then (wc_ret (wx_then_ret ?_)))
    simp only [Option.some.injEq, Prod.mk.injEq] at h
    obtain ⟨rfl, rfl⟩ := h
    exact wx_spD tt_ok (.inl rfl) Tryd.results43 (Res.tmp rfl Res.nil) ⟨p0a0, p0n0, p0c0, p0B0, p0g0, p0P0, p0N0, p0V0, p0G0, p0A0, rfl, rfl⟩ (fun F => by simp) (pSub (pCons (Sel.sc Sel.hc) (pApp (Sel.sc Sel.ha) (pApp (Sel.sc Sel.ha) pNil))))
  replace h := cf hc h
  refine wc_skip (wx_then (wc_seq (wc_region ?_)))
  refine wl_pure tt_ok rfl rfl ?_
  refine wl_nil (wx_then (wc_seq (wc_seq (wc_region ?_))))
  refine wl_pure tt_ok rfl rfl ?_
  refine wl_nil (wx_then (wc_block ?_))
  replace h := bsome h; obtain ⟨o17, h, hl17⟩ := h
  refine wc_loop (fun m E L => ∃ (j17_5 : (List T_api_State)) (j17_6 : Int) (j17_5a0 : Option Addr) (j17_5n0 : Nat) (j17_5c0 : Nat) (j17_5B0 : List Blk) (j17_5g0 : List (T_api_State × G)), m_hindcastref25_Ring_Put_L16 F p0 p1 m j17_5 j17_6 = some o17 ∧ j17_5n0 = j17_5.length ∧ Own 30 19 j17_5a0 j17_5n0 j17_5c0 (flat cg_T_api_State j17_5g0) j17_5B0 ∧ j17_5 = unG j17_5g0 ∧ AllP sh_T_api_State c_T_api_Shot p0P0 j17_5g0 ∧ E = [(0, .pointer (some ⟨p0b, 0, none⟩)), (3, .pointer (some ⟨b3, 0, none⟩)), (4, .bool false), (5, .slice j17_5a0 j17_5n0 j17_5c0), (6, .int .i64 j17_6)] ∧ L = (⟨p0b, [.int .i64 p0.Size, .slice p0a0 p0n0 p0c0], p0t, (0, 0)⟩ :: (⟨b3, [.int .u64 p1.Frame, .int .u64 p1.Seed, .int .i32 p1.Players.1.X, .int .i32 p1.Players.1.Y, .int .i32 p1.Players.1.VX, .int .i32 p1.Players.1.VY, .int .u8 p1.Players.1.Health, .int .u8 p1.Players.1.Cool, .int .u8 p1.Players.1.Face, .int .i32 p1.Players.2.X, .int .i32 p1.Players.2.Y, .int .i32 p1.Players.2.VX, .int .i32 p1.Players.2.VY, .int .u8 p1.Players.2.Health, .int .u8 p1.Players.2.Cool, .int .u8 p1.Players.2.Face, .slice p1a0 p1n0 p1c0, .int .u16 p1.Score.1, .int .u16 p1.Score.2], 30, (0, 0)⟩ :: (p0B0 ++ (p0P0 ++ (j17_5B0 ++ [])))))) F ⟨([] : List T_api_State), (0 : Int), none, 0, 0, [], ([] : List (T_api_State × G)), h, rfl, Own.zero, rfl, (fun w A => allrd_weak allrd_nil), rfl, rfl⟩ (agree_cons rfl (agree_cons rfl (agree_cons rfl (agree_cons rfl (agree_cons rfl agree_nil))))) (pSub (pCons (Sel.sc Sel.hc) (pCons Sel.hc (pApp Sel.ha (pApp Sel.ha (pNo pNil)))))) ?_
  clear h
  rintro m17 _ _ ⟨j17_5, j17_6, j17_5a0, j17_5n0, j17_5c0, j17_5B0, j17_5g0, h, j17_5N0, j17_5V0, j17_5G0, j17_5A0, rfl, rfl⟩
  rcases m17 with _ | m17
  · rw [m_hindcastref25_Ring_Put_L16.eq_1] at h; cases h
  rw [m_hindcastref25_Ring_Put_L16.eq_2] at h
  refine wc_seq (wc_seq (wc_region ?_))
  iterate 3 refine wl_pure tt_ok rfl rfl ?_
  refine wl_pure (v := .pointer (some ⟨p0b, 1, none⟩)) tt_ok rfl rfl ?_
  refine wl_val (v := .slice p0a0 p0n0 p0c0) (val_load tt_ok rfl (List.Mem.head _) rfl) rfl ?_
  refine wl_val (v := .int .i64 (p0.L.length : Int)) (val_len tt_ok rfl rfl p0N0) rfl ?_
  refine wl_pure (v := .bool (decide (j17_6 < (p0.L.length : Int)))) tt_ok rfl rfl ?_
  refine wl_nil (wx_then ?_)
  refine wc_cond rfl (fun hc => ?_) (fun hc => ?_)
  · replace h := ct hc h
    refine wc_skip (wx_then (wc_seq (wc_block (wc_seq ?_))))
    refine wc_quiet (by kernel_rfl) (by kernel_rfl) ?_
    refine wq_pure tt_ok rfl rfl ?_
    refine wq_pure tt_ok rfl rfl ?_
    refine wq_pure tt_ok rfl rfl ?_
    refine wq_pure (v := .pointer (some ⟨p0b, 1, none⟩)) tt_ok rfl rfl ?_
    refine wq_val (v := .slice p0a0 p0n0 p0c0) (val_load tt_ok rfl (List.Mem.head _) rfl) rfl ?_
    refine wq_pure tt_ok rfl rfl ?_
    replace h := bsome h; obtain ⟨v26, x26, h⟩ := h
    obtain ⟨G26, y26⟩ := getI_g p0G0 x26
    refine wq_val (v := .pointer (some ((adOf p0a0).add (j17_6.toNat * 19 + 0)))) (val_ix (enc := cg_T_api_State) tt_ok rfl rfl rfl rfl (len_g p0N0 p0G0) (Rds.of_vec p0V0) cg_T_api_State_len rfl y26) rfl ?_
    refine wq_val (v := .pointer (some ((adOf p0a0).add (j17_6.toNat * 19 + 0)))) (val_fa (k := j17_6.toNat * 19 + 0) (off := 0) tt_ok rfl rfl rfl rfl rfl) rfl ?_
    refine wq_val (v := .int .u64 v26.Frame) (val_le (enc := cg_T_api_State) (xs := p0g0) tt_ok rfl (Rds.of_vec p0V0) ⟨_, (Sel.sc (Sel.sc Sel.ha))⟩ cg_T_api_State_len y26 rfl) rfl ?_
    replace h := bsome h; obtain ⟨v29, x29, h⟩ := h
    refine wq_cq Tryd.call61 rfl rfl rfl (q_rd (k_hindcastref25_Ring_place (p0 := p0) p0N0 p0V0 p0G0 p0A0 x29) (pCons Sel.hc (pApp (Sel.sc Sel.ha) (pApp (Sel.sc Sel.ha) pNil))) (fun _ _ => trivial)) rfl ?_
    refine wq_pure tt_ok rfl rfl ?_
    refine wq_pure (v := .pointer (some ⟨b3, 0, none⟩)) tt_ok rfl rfl ?_
    refine wq_val (v := .int .u64 p1.Frame) (val_load tt_ok rfl (List.Mem.tail _ (List.Mem.head _)) rfl) rfl ?_
    replace h := bsome h; obtain ⟨v33, x33, h⟩ := h
    refine wq_cq Tryd.call61 rfl rfl rfl (q_rd (k_hindcastref25_Ring_place (p0 := p0) p0N0 p0V0 p0G0 p0A0 x33) (pCons Sel.hc (pApp (Sel.sc Sel.ha) (pApp (Sel.sc Sel.ha) pNil))) (fun _ _ => trivial)) rfl ?_
    refine wq_pure (v := .bool (v29 != v33)) tt_ok rfl rfl ?_
    refine wq_nil ?_
    refine wx_then ?_
    refine wc_cond rfl (fun hc => ?_) (fun hc => ?_)
    · replace h := ct hc h
      refine wc_region ?_
      iterate 3 refine wl_pure tt_ok rfl rfl ?_
      refine wl_pure (v := .pointer (some ⟨p0b, 1, none⟩)) tt_ok rfl rfl ?_
      refine wl_val (v := .slice p0a0 p0n0 p0c0) (val_load tt_ok rfl (List.Mem.head _) rfl) rfl ?_
      refine wl_pure tt_ok rfl rfl ?_
      replace h := bsome h; obtain ⟨v41, x41, h⟩ := h
      obtain ⟨G41, y41⟩ := getI_g p0G0 x41
      refine wl_val (v := .pointer (some ((adOf p0a0).add (j17_6.toNat * 19 + 0)))) (val_ix (enc := cg_T_api_State) tt_ok rfl rfl rfl rfl (len_g p0N0 p0G0) (Rds.of_vec p0V0) cg_T_api_State_len rfl y41) rfl ?_
      refine wl_val (v := .agg #[.int .u64 v41.Frame, .int .u64 v41.Seed, .int .i32 v41.Players.1.X, .int .i32 v41.Players.1.Y, .int .i32 v41.Players.1.VX, .int .i32 v41.Players.1.VY, .int .u8 v41.Players.1.Health, .int .u8 v41.Players.1.Cool, .int .u8 v41.Players.1.Face, .int .i32 v41.Players.2.X, .int .i32 v41.Players.2.Y, .int .i32 v41.Players.2.VX, .int .i32 v41.Players.2.VY, .int .u8 v41.Players.2.Health, .int .u8 v41.Players.2.Cool, .int .u8 v41.Players.2.Face, .slice G41.1 G41.2.1 G41.2.2, .int .u16 v41.Score.1, .int .u16 v41.Score.2]) (val_le (enc := cg_T_api_State) (xs := p0g0) tt_ok rfl (Rds.of_vec p0V0) ⟨_, (Sel.sc (Sel.sc Sel.ha))⟩ cg_T_api_State_len y41 rfl) rfl ?_
      refine wl_chg (chg_bsv (enc := cg_T_api_State) (xs := ([(v41, (G41.1, G41.2.1, G41.2.2))] : List (T_api_State × G))) tt_ok rfl rfl rfl rfl rfl rfl rfl rfl cg_T_api_State_len) rfl ?_
      rintro _ _ ⟨a43, n43_, c43, B43, rfl, N43, V43, rfl⟩
      replace h := bsome h; obtain ⟨v44, x44, h⟩ := h
      refine wl_chg (chg_app (enc := cg_T_api_State) (ys := ([(v41, (G41.1, G41.2.1, G41.2.2))] : List (T_api_State × G))) tt_ok rfl rfl rfl rfl rfl rfl (len_g j17_5N0 j17_5G0) (len_g N43 rfl) j17_5V0 (Sel.sa (Sel.sc (Sel.sc (Sel.sa (Sel.sa Sel.ha))))) (Rds.of_vec V43) ⟨_, Sel.ha⟩ cg_T_api_State_len (fun _ => rfl) rfl (app_g (l := j17_5g0) (m := ([(v41, (G41.1, G41.2.1, G41.2.2))] : List (T_api_State × G))) j17_5G0 rfl x44).1) rfl ?_
      rintro _ _ ⟨a44, n44_, c44, B44, rfl, N44, V44, rfl⟩
      refine wl_pure tt_ok rfl rfl ?_
      refine wl_nil (wx_block (wx_then (wc_region ?_)))
      refine wl_pure tt_ok rfl rfl ?_
      refine wl_pure (v := .int .i64 (IntKind.wrap .i64 (j17_6 + (1 : Int)))) tt_ok rfl rfl ?_
      refine wl_pure tt_ok rfl rfl ?_
      refine wl_nil ?_
      exact wx_round m17 (Nat.lt_succ_self m17) ⟨v44, (IntKind.wrap .i64 (j17_6 + (1 : Int))), a44, n44_, c44, B44, (j17_5g0 ++ ([(v41, (G41.1, G41.2.1, G41.2.2))] : List (T_api_State × G))), h, (appn_g (app_g (l := j17_5g0) (m := ([(v41, (G41.1, G41.2.1, G41.2.2))] : List (T_api_State × G))) j17_5G0 rfl x44).2 N44), V44, (app_g (l := j17_5g0) (m := ([(v41, (G41.1, G41.2.1, G41.2.2))] : List (T_api_State × G))) j17_5G0 rfl x44).2, (fun w A => (allrd_app (j17_5A0 w A) (allrd_one (sh := sh_T_api_State) (x := v41) (s := v41.Shots) rfl (allrd_get (p0A0 w0 (ids (⟨p0b, [.int .i64 p0.Size, .slice p0a0 p0n0 p0c0], p0t, (0, 0)⟩ :: (p0B0 ++ (p0P0 ++ []))))) y41).1 (allrd_get (p0A0 w0 (ids (⟨p0b, [.int .i64 p0.Size, .slice p0a0 p0n0 p0c0], p0t, (0, 0)⟩ :: (p0B0 ++ (p0P0 ++ []))))) y41).2.1 ((allrd_get (p0A0 w A) y41).2.2.1) (allrd_get (p0A0 w0 (ids (⟨p0b, [.int .i64 p0.Size, .slice p0a0 p0n0 p0c0], p0t, (0, 0)⟩ :: (p0B0 ++ (p0P0 ++ []))))) y41).2.2.2))), rfl, rfl⟩ (agree_cons rfl (agree_cons rfl (agree_cons rfl (agree_cons rfl (agree_cons rfl agree_nil))))) (pSub (pCons (Sel.sa (Sel.sa Sel.hc)) (pCons (Sel.sa (Sel.sa Sel.hc)) (pApp (Sel.sa (Sel.sa Sel.ha)) (pApp (Sel.sa (Sel.sa Sel.ha)) (pApp Sel.ha pNil))))))
    replace h := cf hc h
    refine wc_seq ?_
    refine wc_quiet (by kernel_rfl) (by kernel_rfl) ?_
    refine wq_pure tt_ok rfl rfl ?_
    refine wq_pure tt_ok rfl rfl ?_
    refine wq_pure (v := .pointer (some ⟨p0b, 1, none⟩)) tt_ok rfl rfl ?_
    refine wq_val (v := .slice p0a0 p0n0 p0c0) (val_load tt_ok rfl (List.Mem.head _) rfl) rfl ?_
    refine wq_pure tt_ok rfl rfl ?_
    replace h := bsome h; obtain ⟨v50, x50, h⟩ := h
    obtain ⟨G50, y50⟩ := getI_g p0G0 x50
    refine wq_val (v := .pointer (some ((adOf p0a0).add (j17_6.toNat * 19 + 0)))) (val_ix (enc := cg_T_api_State) tt_ok rfl rfl rfl rfl (len_g p0N0 p0G0) (Rds.of_vec p0V0) cg_T_api_State_len rfl y50) rfl ?_
    refine wq_val (v := .pointer (some ((adOf p0a0).add (j17_6.toNat * 19 + 0)))) (val_fa (k := j17_6.toNat * 19 + 0) (off := 0) tt_ok rfl rfl rfl rfl rfl) rfl ?_
    refine wq_val (v := .int .u64 v50.Frame) (val_le (enc := cg_T_api_State) (xs := p0g0) tt_ok rfl (Rds.of_vec p0V0) ⟨_, (Sel.sc (Sel.sc Sel.ha))⟩ cg_T_api_State_len y50 rfl) rfl ?_
    refine wq_pure (v := .pointer (some ⟨b3, 0, none⟩)) tt_ok rfl rfl ?_
    refine wq_val (v := .int .u64 p1.Frame) (val_load tt_ok rfl (List.Mem.tail _ (List.Mem.head _)) rfl) rfl ?_
    refine wq_pure (v := .bool (decide (p1.Frame < v50.Frame))) tt_ok rfl rfl ?_
    refine wq_nil ?_
    refine wx_then ?_
    refine wc_cond rfl (fun hc => ?_) (fun hc => ?_)
    · replace h := ct hc h
      refine wc_seq (wc_region ?_)
      refine wl_pure tt_ok rfl rfl ?_
      refine wl_nil (wx_then (wc_ret (wx_block_ret (wx_then_ret ?_))))
      obtain rfl := Option.some.inj h
      have h := hl17; clear hl17; try dsimp only [orE_l, orE_r] at h
      refine wx_then_ret (wx_block_ret (wx_then_ret ?_))
      simp only [Option.some.injEq, Prod.mk.injEq] at h
      obtain ⟨rfl, rfl⟩ := h
      exact wx_spD tt_ok (.inl rfl) Tryd.results43 (Res.tmp rfl Res.nil) ⟨p0a0, p0n0, p0c0, p0B0, p0g0, p0P0, p0N0, p0V0, p0G0, p0A0, rfl, rfl⟩ (fun F => by simp) (pSub (pCons Sel.hc (pApp (Sel.sc Sel.ha) (pApp (Sel.sc Sel.ha) pNil))))
    replace h := cf hc h
    refine wc_skip (wx_block (wx_then (wc_region ?_)))
    refine wl_pure tt_ok rfl rfl ?_
    refine wl_pure (v := .int .i64 (IntKind.wrap .i64 (j17_6 + (1 : Int)))) tt_ok rfl rfl ?_
    refine wl_pure tt_ok rfl rfl ?_
    refine wl_nil ?_
    exact wx_round m17 (Nat.lt_succ_self m17) ⟨j17_5, (IntKind.wrap .i64 (j17_6 + (1 : Int))), j17_5a0, j17_5n0, j17_5c0, j17_5B0, j17_5g0, h, j17_5N0, j17_5V0, j17_5G0, j17_5A0, rfl, rfl⟩ (agree_cons rfl (agree_cons rfl (agree_cons rfl (agree_cons rfl (agree_cons rfl agree_nil))))) (pSub (pCons Sel.hc (pCons Sel.hc (pApp Sel.ha (pApp Sel.ha (pApp Sel.ha pNil))))))
  replace h := cf hc h
  refine wc_exit (wx_then_exit ?_)
  obtain rfl := Option.some.inj h
  have h := hl17; clear hl17; try dsimp only [orE_l, orE_r] at h
  refine wx_then_exit (wx_block_exit (wx_then (wc_seq (wc_region ?_))))
  refine wl_val (v := .agg #[.int .u64 p1.Frame, .int .u64 p1.Seed, .int .i32 p1.Players.1.X, .int .i32 p1.Players.1.Y, .int .i32 p1.Players.1.VX, .int .i32 p1.Players.1.VY, .int .u8 p1.Players.1.Health, .int .u8 p1.Players.1.Cool, .int .u8 p1.Players.1.Face, .int .i32 p1.Players.2.X, .int .i32 p1.Players.2.Y, .int .i32 p1.Players.2.VX, .int .i32 p1.Players.2.VY, .int .u8 p1.Players.2.Health, .int .u8 p1.Players.2.Cool, .int .u8 p1.Players.2.Face, .slice p1a0 p1n0 p1c0, .int .u16 p1.Score.1, .int .u16 p1.Score.2]) (val_load tt_ok rfl (List.Mem.tail _ (List.Mem.head _)) rfl) rfl ?_
  replace h := bsome h; obtain ⟨v57, x57, h⟩ := h
  refine wl_cs Tryd.call41 rfl rfl rfl (s_sp (k_hindcastref08_Copy (p0 := p1) p1N0 p1H0 x57) pNil (Rds.call p1S0 pNil rsub_nil)) rfl ?_
  rintro _ _ ⟨_, ⟨v57a0, v57n0, v57c0, v57B0, v57N0, v57V0, rfl, rfl⟩, rfl⟩
  refine wl_alloc tt_ok rfl rfl (fun b7 => ?_)
  apply wl_store tt_ok; rfl; exact Upd.here; rfl; rfl; rfl; rfl; rfl; rfl
  refine wl_nil (wx_then (wc_seq (wc_region ?_)))
  iterate 2 refine wl_pure tt_ok rfl rfl ?_
  refine wl_val (v := .agg #[.int .u64 v57.Frame, .int .u64 v57.Seed, .int .i32 v57.Players.1.X, .int .i32 v57.Players.1.Y, .int .i32 v57.Players.1.VX, .int .i32 v57.Players.1.VY, .int .u8 v57.Players.1.Health, .int .u8 v57.Players.1.Cool, .int .u8 v57.Players.1.Face, .int .i32 v57.Players.2.X, .int .i32 v57.Players.2.Y, .int .i32 v57.Players.2.VX, .int .i32 v57.Players.2.VY, .int .u8 v57.Players.2.Health, .int .u8 v57.Players.2.Cool, .int .u8 v57.Players.2.Face, .slice v57a0 v57n0 v57c0, .int .u16 v57.Score.1, .int .u16 v57.Score.2]) (val_load tt_ok rfl (List.Mem.head _) rfl) rfl ?_
  refine wl_chg (chg_bsv (enc := cg_T_api_State) (xs := ([(v57, (v57a0, v57n0, v57c0))] : List (T_api_State × G))) tt_ok rfl rfl rfl rfl rfl rfl rfl rfl cg_T_api_State_len) rfl ?_
  rintro _ _ ⟨a61, n61_, c61, B61, rfl, N61, V61, rfl⟩
  refine wl_sub (L' := ((p0P0 ++ v57B0) ++ (B61 ++ (⟨b7, [.int .u64 v57.Frame, .int .u64 v57.Seed, .int .i32 v57.Players.1.X, .int .i32 v57.Players.1.Y, .int .i32 v57.Players.1.VX, .int .i32 v57.Players.1.VY, .int .u8 v57.Players.1.Health, .int .u8 v57.Players.1.Cool, .int .u8 v57.Players.1.Face, .int .i32 v57.Players.2.X, .int .i32 v57.Players.2.Y, .int .i32 v57.Players.2.VX, .int .i32 v57.Players.2.VY, .int .u8 v57.Players.2.Health, .int .u8 v57.Players.2.Cool, .int .u8 v57.Players.2.Face, .slice v57a0 v57n0 v57c0, .int .u16 v57.Score.1, .int .u16 v57.Score.2], 30, (0, 0)⟩ :: (⟨p0b, [.int .i64 p0.Size, .slice p0a0 p0n0 p0c0], p0t, (0, 0)⟩ :: (⟨b3, [.int .u64 p1.Frame, .int .u64 p1.Seed, .int .i32 p1.Players.1.X, .int .i32 p1.Players.1.Y, .int .i32 p1.Players.1.VX, .int .i32 p1.Players.1.VY, .int .u8 p1.Players.1.Health, .int .u8 p1.Players.1.Cool, .int .u8 p1.Players.1.Face, .int .i32 p1.Players.2.X, .int .i32 p1.Players.2.Y, .int .i32 p1.Players.2.VX, .int .i32 p1.Players.2.VY, .int .u8 p1.Players.2.Health, .int .u8 p1.Players.2.Cool, .int .u8 p1.Players.2.Face, .slice p1a0 p1n0 p1c0, .int .u16 p1.Score.1, .int .u16 p1.Score.2], 30, (0, 0)⟩ :: (p0B0 ++ (j17_5B0 ++ [])))))))) (pMerge (Sel.sa (Sel.sc (Sel.sa (Sel.sc (Sel.sc (Sel.sa Sel.ha)))))) (Sel.sa (Sel.sc Sel.ha))) ?_
  replace h := bsome h; obtain ⟨v62, x62, h⟩ := h
  refine wl_chg (chg_app (enc := cg_T_api_State) (ys := ([(v57, (v57a0, v57n0, v57c0))] : List (T_api_State × G))) tt_ok rfl rfl rfl rfl rfl rfl (len_g j17_5N0 j17_5G0) (len_g N61 rfl) j17_5V0 (Sel.sa (Sel.sa (Sel.sc (Sel.sc (Sel.sc (Sel.sa Sel.ha)))))) (Rds.of_vec V61) ⟨_, (Sel.sa Sel.ha)⟩ cg_T_api_State_len (fun _ => rfl) rfl (app_g (l := j17_5g0) (m := ([(v57, (v57a0, v57n0, v57c0))] : List (T_api_State × G))) j17_5G0 rfl x62).1) rfl ?_
  rintro _ _ ⟨a62, n62_, c62, B62, rfl, N62, V62, rfl⟩
  refine wl_pure tt_ok rfl rfl ?_
  refine wl_pure (v := .pointer (some ⟨p0b, 1, none⟩)) tt_ok rfl rfl ?_
  apply wl_store tt_ok; rfl; exact (Upd.right (Upd.right (Upd.right (Upd.there Upd.here)))); rfl; rfl; rfl; rfl; rfl; rfl
  refine wl_nil (wx_then (wc_seq (wc_region ?_)))
  refine wl_pure tt_ok rfl rfl ?_
  refine wl_nil (wx_then (wc_ret ?_))
  simp only [Option.some.injEq, Prod.mk.injEq] at h
  obtain ⟨rfl, rfl⟩ := h
  exact wx_spD tt_ok (.inl rfl) Tryd.results43 (Res.tmp rfl Res.nil) ⟨a62, n62_, c62, B62, (j17_5g0 ++ ([(v57, (v57a0, v57n0, v57c0))] : List (T_api_State × G))), (p0P0 ++ v57B0), (appn_g (app_g (l := j17_5g0) (m := ([(v57, (v57a0, v57n0, v57c0))] : List (T_api_State × G))) j17_5G0 rfl x62).2 N62), V62, (app_g (l := j17_5g0) (m := ([(v57, (v57a0, v57n0, v57c0))] : List (T_api_State × G))) j17_5G0 rfl x62).2, (fun w A => (allrd_app (allrd_left (j17_5A0 w A)) (allrd_right (allrd_one (sh := sh_T_api_State) (x := v57) (s := v57.Shots) rfl v57N0 (vec_cap v57V0) (Rds.of_vec v57V0) (own_Z v57V0))))), rfl, rfl⟩ (fun F => by simp) (pSub (pCons (Sel.sa (Sel.sa (Sel.sa (Sel.sc Sel.hc)))) (pApp Sel.ha (pApp Sel.ha pNil))))

theorem k_hindcastref08_Same {F : Nat} {p0 : T_api_State} {p0a0 : Option Addr} {p0n0 p0c0 : Nat} {p1 : T_api_State} {p1a0 : Option Addr} {p1n0 p1c0 : Nat} {r0 : Bool} (p0N0 : p0n0 = p0.Shots.length) (p0H0 : p0n0 ≤ p0c0) (p1N0 : p1n0 = p1.Shots.length) (p1H0 : p1n0 ≤ p1c0) (h : m_hindcastref08_Same F p0 p1 = some r0) :
    Pf Tryd.prog 45 [.agg #[.int .u64 p0.Frame, .int .u64 p0.Seed, .int .i32 p0.Players.1.X, .int .i32 p0.Players.1.Y, .int .i32 p0.Players.1.VX, .int .i32 p0.Players.1.VY, .int .u8 p0.Players.1.Health, .int .u8 p0.Players.1.Cool, .int .u8 p0.Players.1.Face, .int .i32 p0.Players.2.X, .int .i32 p0.Players.2.Y, .int .i32 p0.Players.2.VX, .int .i32 p0.Players.2.VY, .int .u8 p0.Players.2.Health, .int .u8 p0.Players.2.Cool, .int .u8 p0.Players.2.Face, .slice p0a0 p0n0 p0c0, .int .u16 p0.Score.1, .int .u16 p0.Score.2], .agg #[.int .u64 p1.Frame, .int .u64 p1.Seed, .int .i32 p1.Players.1.X, .int .i32 p1.Players.1.Y, .int .i32 p1.Players.1.VX, .int .i32 p1.Players.1.VY, .int .u8 p1.Players.1.Health, .int .u8 p1.Players.1.Cool, .int .u8 p1.Players.1.Face, .int .i32 p1.Players.2.X, .int .i32 p1.Players.2.Y, .int .i32 p1.Players.2.VX, .int .i32 p1.Players.2.VY, .int .u8 p1.Players.2.Health, .int .u8 p1.Players.2.Cool, .int .u8 p1.Players.2.Face, .slice p1a0 p1n0 p1c0, .int .u16 p1.Score.1, .int .u16 p1.Score.2]] (fun w => Rds w [] [] p0a0 (flat c_T_api_Shot p0.Shots) ∧ Rds w [] [] p1a0 (flat c_T_api_Shot p1.Shots)) (.bool r0) := by
  unfold m_hindcastref08_Same at h
  refine pf_of_wc Tryd.func45 rfl Tryd.ntmps45 rfl rfl (fun w0 hR => ?_)
  obtain ⟨p0S0, p1S0⟩ := hR
  refine wc_seq (wc_region ?_)
  refine wl_box rfl rfl rfl (fun b2 => ?_)
  refine wl_box rfl rfl rfl (fun b3 => ?_)
  refine wl_pure tt_ok rfl rfl ?_
  refine wl_nil (wx_then (wc_seq (wc_seq (wc_region ?_))))
  refine wl_pure (v := .pointer (some ⟨b2, 0, none⟩)) tt_ok rfl rfl ?_
  refine wl_val (v := .int .u64 p0.Frame) (val_load tt_ok rfl (List.Mem.tail _ (List.Mem.head _)) rfl) rfl ?_
  refine wl_pure (v := .pointer (some ⟨b3, 0, none⟩)) tt_ok rfl rfl ?_
  refine wl_val (v := .int .u64 p1.Frame) (val_load tt_ok rfl (List.Mem.head _) rfl) rfl ?_
  refine wl_pure (v := .bool (p0.Frame != p1.Frame)) tt_ok rfl rfl ?_
  refine wl_pure tt_ok rfl rfl ?_
  replace h := bsome h; obtain ⟨v17, h, hg17⟩ := h
  refine wl_split (t := 11) rfl (fun hc => ?_) (fun hc => ?_)
  · replace h := ct hc h
    refine wl_skip rfl rfl ?_
    refine wl_skip rfl rfl ?_
    refine wl_skip rfl rfl ?_
    refine wl_skip rfl rfl ?_
    refine wl_skip rfl rfl ?_
    simp only [Option.some.injEq, Prod.mk.injEq] at h
    obtain rfl := h
    have h := hg17; clear hg17
    refine wl_pure (v := .bool true) tt_ok rfl rfl ?_
    refine wl_pure tt_ok rfl rfl ?_
    replace h := bsome h; obtain ⟨v26, h, hg26⟩ := h
    replace h := ct rfl h
    refine wl_skip rfl rfl ?_
    refine wl_skip rfl rfl ?_
    refine wl_skip rfl rfl ?_
    refine wl_skip rfl rfl ?_
    refine wl_skip rfl rfl ?_
    refine wl_skip rfl rfl ?_
    refine wl_skip rfl rfl ?_
    simp only [Option.some.injEq, Prod.mk.injEq] at h
    obtain rfl := h
    have h := hg26; clear hg26
    refine wl_pure (v := .bool true) tt_ok rfl rfl ?_
    refine wl_pure tt_ok rfl rfl ?_
    replace h := bsome h; obtain ⟨v35, h, hg35⟩ := h
    replace h := ct rfl h
    refine wl_skip rfl rfl ?_
    refine wl_skip rfl rfl ?_
    refine wl_skip rfl rfl ?_
    refine wl_skip rfl rfl ?_
    refine wl_skip rfl rfl ?_
    refine wl_skip rfl rfl ?_
    refine wl_skip rfl rfl ?_
    simp only [Option.some.injEq, Prod.mk.injEq] at h
    obtain rfl := h
    have h := hg35; clear hg35
    refine wl_pure (v := .bool true) tt_ok rfl rfl ?_
    refine wl_pure tt_ok rfl rfl ?_
    replace h := bsome h; obtain ⟨v42, h, hg42⟩ := h
    replace h := ct rfl h
    refine wl_skip rfl rfl ?_
    refine wl_skip rfl rfl ?_
    refine wl_skip rfl rfl ?_
    refine wl_skip rfl rfl ?_
    refine wl_skip rfl rfl ?_
    simp only [Option.some.injEq, Prod.mk.injEq] at h
    obtain rfl := h
    have h := hg42; clear hg42
    refine wl_pure (v := .bool true) tt_ok rfl rfl ?_
    refine wl_pure tt_ok rfl rfl ?_
    replace h := bsome h; obtain ⟨v51, h, hg51⟩ := h
    replace h := ct rfl h
    refine wl_skip rfl rfl ?_
    refine wl_skip rfl rfl ?_
    refine wl_skip rfl rfl ?_
    refine wl_skip rfl rfl ?_
    refine wl_skip rfl rfl ?_
    refine wl_skip rfl rfl ?_
    refine wl_skip rfl rfl ?_
    simp only [Option.some.injEq, Prod.mk.injEq] at h
    obtain rfl := h
    have h := hg51; clear hg51
    refine wl_pure (v := .bool true) tt_ok rfl rfl ?_
    refine wl_nil (wx_then ?_)
    replace h := ct rfl h
    refine wc_cond_true rfl ?_
    refine wc_seq (wc_region ?_)
    refine wl_pure tt_ok rfl rfl ?_
    refine wl_nil (wx_then (wc_ret (wx_then_ret ?_)))
    simp only [Option.some.injEq] at h
    obtain rfl := h
    exact wx_pf tt_ok (.inl rfl) Tryd.results45 (Res.tmp rfl Res.nil) rfl
  replace h := cf hc h
  refine wl_run rfl ?_
  refine wl_pure (v := .pointer (some ⟨b2, 1, none⟩)) tt_ok rfl rfl ?_
  refine wl_run rfl ?_
  refine wl_val (v := .int .u64 p0.Seed) (val_load tt_ok rfl (List.Mem.tail _ (List.Mem.head _)) rfl) rfl ?_
  refine wl_run rfl ?_
  refine wl_pure (v := .pointer (some ⟨b3, 1, none⟩)) tt_ok rfl rfl ?_
  refine wl_run rfl ?_
  refine wl_val (v := .int .u64 p1.Seed) (val_load tt_ok rfl (List.Mem.head _) rfl) rfl ?_
  refine wl_run rfl ?_
  refine wl_pure (v := .bool (p0.Seed != p1.Seed)) tt_ok rfl rfl ?_
  simp only [Option.some.injEq, Prod.mk.injEq] at h
  obtain rfl := h
  have h := hg17; clear hg17
  refine wl_pure (v := .bool (p0.Seed != p1.Seed)) tt_ok rfl rfl ?_
  refine wl_pure tt_ok rfl rfl ?_
  replace h := bsome h; obtain ⟨v26, h, hg26⟩ := h
  refine wl_split (t := 18) rfl (fun hc => ?_) (fun hc => ?_)
  · replace h := ct hc h
    refine wl_skip rfl rfl ?_
    refine wl_skip rfl rfl ?_
    refine wl_skip rfl rfl ?_
    refine wl_skip rfl rfl ?_
    refine wl_skip rfl rfl ?_
    refine wl_skip rfl rfl ?_
    refine wl_skip rfl rfl ?_
    simp only [Option.some.injEq, Prod.mk.injEq] at h
    obtain rfl := h
    have h := hg26; clear hg26
    refine wl_pure (v := .bool true) tt_ok rfl rfl ?_
    refine wl_pure tt_ok rfl rfl ?_
    replace h := bsome h; obtain ⟨v35, h, hg35⟩ := h
    replace h := ct rfl h
    refine wl_skip rfl rfl ?_
    refine wl_skip rfl rfl ?_
    refine wl_skip rfl rfl ?_
    refine wl_skip rfl rfl ?_
    refine wl_skip rfl rfl ?_
    refine wl_skip rfl rfl ?_
    refine wl_skip rfl rfl ?_
    simp only [Option.some.injEq, Prod.mk.injEq] at h
    obtain rfl := h
    have h := hg35; clear hg35
    refine wl_pure (v := .bool true) tt_ok rfl rfl ?_
    refine wl_pure tt_ok rfl rfl ?_
    replace h := bsome h; obtain ⟨v42, h, hg42⟩ := h
    replace h := ct rfl h
    refine wl_skip rfl rfl ?_
    refine wl_skip rfl rfl ?_
    refine wl_skip rfl rfl ?_
    refine wl_skip rfl rfl ?_
    refine wl_skip rfl rfl ?_
    simp only [Option.some.injEq, Prod.mk.injEq] at h
    obtain rfl := h
    have h := hg42; clear hg42
    refine wl_pure (v := .bool true) tt_ok rfl rfl ?_
    refine wl_pure tt_ok rfl rfl ?_
    replace h := bsome h; obtain ⟨v51, h, hg51⟩ := h
    replace h := ct rfl h
    refine wl_skip rfl rfl ?_
    refine wl_skip rfl rfl ?_
    refine wl_skip rfl rfl ?_
    refine wl_skip rfl rfl ?_
    refine wl_skip rfl rfl ?_
    refine wl_skip rfl rfl ?_
    refine wl_skip rfl rfl ?_
    simp only [Option.some.injEq, Prod.mk.injEq] at h
    obtain rfl := h
    have h := hg51; clear hg51
    refine wl_pure (v := .bool true) tt_ok rfl rfl ?_
    refine wl_nil (wx_then ?_)
    replace h := ct rfl h
    refine wc_cond_true rfl ?_
    refine wc_seq (wc_region ?_)
    refine wl_pure tt_ok rfl rfl ?_
    refine wl_nil (wx_then (wc_ret (wx_then_ret ?_)))
    simp only [Option.some.injEq] at h
    obtain rfl := h
    exact wx_pf tt_ok (.inl rfl) Tryd.results45 (Res.tmp rfl Res.nil) rfl
  replace h := cf hc h
  refine wl_run rfl ?_
  refine wl_pure (v := .pointer (some ⟨b2, 2, none⟩)) tt_ok rfl rfl ?_
  refine wl_run rfl ?_
  refine wl_val (v := .pointer (some ⟨b2, 2, none⟩)) (val_ia (j := 0) tt_ok rfl rfl rfl rfl rfl rfl rfl) rfl ?_
  refine wl_run rfl ?_
  refine wl_val (v := .agg #[.int .i32 p0.Players.1.X, .int .i32 p0.Players.1.Y, .int .i32 p0.Players.1.VX, .int .i32 p0.Players.1.VY, .int .u8 p0.Players.1.Health, .int .u8 p0.Players.1.Cool, .int .u8 p0.Players.1.Face]) (val_load tt_ok rfl (List.Mem.tail _ (List.Mem.head _)) rfl) rfl ?_
  refine wl_run rfl ?_
  refine wl_pure (v := .pointer (some ⟨b3, 2, none⟩)) tt_ok rfl rfl ?_
  refine wl_run rfl ?_
  refine wl_val (v := .pointer (some ⟨b3, 2, none⟩)) (val_ia (j := 0) tt_ok rfl rfl rfl rfl rfl rfl rfl) rfl ?_
  refine wl_run rfl ?_
  refine wl_val (v := .agg #[.int .i32 p1.Players.1.X, .int .i32 p1.Players.1.Y, .int .i32 p1.Players.1.VX, .int .i32 p1.Players.1.VY, .int .u8 p1.Players.1.Health, .int .u8 p1.Players.1.Cool, .int .u8 p1.Players.1.Face]) (val_load tt_ok rfl (List.Mem.head _) rfl) rfl ?_
  refine wl_run rfl ?_
  refine wl_val (v := .bool (!((p0.Players.1.X == p1.Players.1.X) && ((p0.Players.1.Y == p1.Players.1.Y) && ((p0.Players.1.VX == p1.Players.1.VX) && ((p0.Players.1.VY == p1.Players.1.VY) && ((p0.Players.1.Health == p1.Players.1.Health) && ((p0.Players.1.Cool == p1.Players.1.Cool) && (p0.Players.1.Face == p1.Players.1.Face))))))))) (val_nes tt_ok tt_eq tt_one Tryd.eqGuardType24 rfl rfl rfl rfl rfl) rfl ?_
  simp only [Option.some.injEq, Prod.mk.injEq] at h
  obtain rfl := h
  have h := hg26; clear hg26
  refine wl_pure (v := .bool (!((p0.Players.1.X == p1.Players.1.X) && ((p0.Players.1.Y == p1.Players.1.Y) && ((p0.Players.1.VX == p1.Players.1.VX) && ((p0.Players.1.VY == p1.Players.1.VY) && ((p0.Players.1.Health == p1.Players.1.Health) && ((p0.Players.1.Cool == p1.Players.1.Cool) && (p0.Players.1.Face == p1.Players.1.Face))))))))) tt_ok rfl rfl ?_
  refine wl_pure tt_ok rfl rfl ?_
  replace h := bsome h; obtain ⟨v35, h, hg35⟩ := h
  refine wl_split (t := 27) rfl (fun hc => ?_) (fun hc => ?_)
  · replace h := ct hc h
    refine wl_skip rfl rfl ?_
    refine wl_skip rfl rfl ?_
    refine wl_skip rfl rfl ?_
    refine wl_skip rfl rfl ?_
    refine wl_skip rfl rfl ?_
    refine wl_skip rfl rfl ?_
    refine wl_skip rfl rfl ?_
    simp only [Option.some.injEq, Prod.mk.injEq] at h
    obtain rfl := h
    have h := hg35; clear hg35
    refine wl_pure (v := .bool true) tt_ok rfl rfl ?_
    refine wl_pure tt_ok rfl rfl ?_
    replace h := bsome h; obtain ⟨v42, h, hg42⟩ := h
    replace h := ct rfl h
    refine wl_skip rfl rfl ?_
    refine wl_skip rfl rfl ?_
    refine wl_skip rfl rfl ?_
    refine wl_skip rfl rfl ?_
    refine wl_skip rfl rfl ?_
    simp only [Option.some.injEq, Prod.mk.injEq] at h
    obtain rfl := h
    have h := hg42; clear hg42
    refine wl_pure (v := .bool true) tt_ok rfl rfl ?_
    refine wl_pure tt_ok rfl rfl ?_
    replace h := bsome h; obtain ⟨v51, h, hg51⟩ := h
    replace h := ct rfl h
    refine wl_skip rfl rfl ?_
    refine wl_skip rfl rfl ?_
    refine wl_skip rfl rfl ?_
    refine wl_skip rfl rfl ?_
    refine wl_skip rfl rfl ?_
    refine wl_skip rfl rfl ?_
    refine wl_skip rfl rfl ?_
    simp only [Option.some.injEq, Prod.mk.injEq] at h
    obtain rfl := h
    have h := hg51; clear hg51
    refine wl_pure (v := .bool true) tt_ok rfl rfl ?_
    refine wl_nil (wx_then ?_)
    replace h := ct rfl h
    refine wc_cond_true rfl ?_
    refine wc_seq (wc_region ?_)
    refine wl_pure tt_ok rfl rfl ?_
    refine wl_nil (wx_then (wc_ret (wx_then_ret ?_)))
    simp only [Option.some.injEq] at h
    obtain rfl := h
    exact wx_pf tt_ok (.inl rfl) Tryd.results45 (Res.tmp rfl Res.nil) rfl
  replace h := cf hc h
  refine wl_run rfl ?_
  refine wl_pure (v := .pointer (some ⟨b2, 2, none⟩)) tt_ok rfl rfl ?_
  refine wl_run rfl ?_
  refine wl_val (v := .pointer (some ⟨b2, 9, none⟩)) (val_ia (j := 1) tt_ok rfl rfl rfl rfl rfl rfl rfl) rfl ?_
  refine wl_run rfl ?_
  refine wl_val (v := .agg #[.int .i32 p0.Players.2.X, .int .i32 p0.Players.2.Y, .int .i32 p0.Players.2.VX, .int .i32 p0.Players.2.VY, .int .u8 p0.Players.2.Health, .int .u8 p0.Players.2.Cool, .int .u8 p0.Players.2.Face]) (val_load tt_ok rfl (List.Mem.tail _ (List.Mem.head _)) rfl) rfl ?_
  refine wl_run rfl ?_
  refine wl_pure (v := .pointer (some ⟨b3, 2, none⟩)) tt_ok rfl rfl ?_
  refine wl_run rfl ?_
  refine wl_val (v := .pointer (some ⟨b3, 9, none⟩)) (val_ia (j := 1) tt_ok rfl rfl rfl rfl rfl rfl rfl) rfl ?_
  refine wl_run rfl ?_
  refine wl_val (v := .agg #[.int .i32 p1.Players.2.X, .int .i32 p1.Players.2.Y, .int .i32 p1.Players.2.VX, .int .i32 p1.Players.2.VY, .int .u8 p1.Players.2.Health, .int .u8 p1.Players.2.Cool, .int .u8 p1.Players.2.Face]) (val_load tt_ok rfl (List.Mem.head _) rfl) rfl ?_
  refine wl_run rfl ?_
  refine wl_val (v := .bool (!((p0.Players.2.X == p1.Players.2.X) && ((p0.Players.2.Y == p1.Players.2.Y) && ((p0.Players.2.VX == p1.Players.2.VX) && ((p0.Players.2.VY == p1.Players.2.VY) && ((p0.Players.2.Health == p1.Players.2.Health) && ((p0.Players.2.Cool == p1.Players.2.Cool) && (p0.Players.2.Face == p1.Players.2.Face))))))))) (val_nes tt_ok tt_eq tt_one Tryd.eqGuardType24 rfl rfl rfl rfl rfl) rfl ?_
  simp only [Option.some.injEq, Prod.mk.injEq] at h
  obtain rfl := h
  have h := hg35; clear hg35
  refine wl_pure (v := .bool (!((p0.Players.2.X == p1.Players.2.X) && ((p0.Players.2.Y == p1.Players.2.Y) && ((p0.Players.2.VX == p1.Players.2.VX) && ((p0.Players.2.VY == p1.Players.2.VY) && ((p0.Players.2.Health == p1.Players.2.Health) && ((p0.Players.2.Cool == p1.Players.2.Cool) && (p0.Players.2.Face == p1.Players.2.Face))))))))) tt_ok rfl rfl ?_
  refine wl_pure tt_ok rfl rfl ?_
  replace h := bsome h; obtain ⟨v42, h, hg42⟩ := h
  refine wl_split (t := 36) rfl (fun hc => ?_) (fun hc => ?_)
  · replace h := ct hc h
    refine wl_skip rfl rfl ?_
    refine wl_skip rfl rfl ?_
    refine wl_skip rfl rfl ?_
    refine wl_skip rfl rfl ?_
    refine wl_skip rfl rfl ?_
    simp only [Option.some.injEq, Prod.mk.injEq] at h
    obtain rfl := h
    have h := hg42; clear hg42
    refine wl_pure (v := .bool true) tt_ok rfl rfl ?_
    refine wl_pure tt_ok rfl rfl ?_
    replace h := bsome h; obtain ⟨v51, h, hg51⟩ := h
    replace h := ct rfl h
    refine wl_skip rfl rfl ?_
    refine wl_skip rfl rfl ?_
    refine wl_skip rfl rfl ?_
    refine wl_skip rfl rfl ?_
    refine wl_skip rfl rfl ?_
    refine wl_skip rfl rfl ?_
    refine wl_skip rfl rfl ?_
    simp only [Option.some.injEq, Prod.mk.injEq] at h
    obtain rfl := h
    have h := hg51; clear hg51
    refine wl_pure (v := .bool true) tt_ok rfl rfl ?_
    refine wl_nil (wx_then ?_)
    replace h := ct rfl h
    refine wc_cond_true rfl ?_
    refine wc_seq (wc_region ?_)
    refine wl_pure tt_ok rfl rfl ?_
    refine wl_nil (wx_then (wc_ret (wx_then_ret ?_)))
    simp only [Option.some.injEq] at h
    obtain rfl := h
    exact wx_pf tt_ok (.inl rfl) Tryd.results45 (Res.tmp rfl Res.nil) rfl
  replace h := cf hc h
  refine wl_run rfl ?_
  refine wl_pure (v := .pointer (some ⟨b2, 17, none⟩)) tt_ok rfl rfl ?_
  refine wl_run rfl ?_
  refine wl_val (v := .agg #[.int .u16 p0.Score.1, .int .u16 p0.Score.2]) (val_load tt_ok rfl (List.Mem.tail _ (List.Mem.head _)) rfl) rfl ?_
  refine wl_run rfl ?_
  refine wl_pure (v := .pointer (some ⟨b3, 17, none⟩)) tt_ok rfl rfl ?_
  refine wl_run rfl ?_
  refine wl_val (v := .agg #[.int .u16 p1.Score.1, .int .u16 p1.Score.2]) (val_load tt_ok rfl (List.Mem.head _) rfl) rfl ?_
  refine wl_run rfl ?_
  refine wl_val (v := .bool (!((p0.Score.1 == p1.Score.1) && (p0.Score.2 == p1.Score.2)))) (val_nes tt_ok tt_eq tt_one Tryd.eqGuardType28 rfl rfl rfl rfl rfl) rfl ?_
  simp only [Option.some.injEq, Prod.mk.injEq] at h
  obtain rfl := h
  have h := hg42; clear hg42
  refine wl_pure (v := .bool (!((p0.Score.1 == p1.Score.1) && (p0.Score.2 == p1.Score.2)))) tt_ok rfl rfl ?_
  refine wl_pure tt_ok rfl rfl ?_
  replace h := bsome h; obtain ⟨v51, h, hg51⟩ := h
  refine wl_split (t := 43) rfl (fun hc => ?_) (fun hc => ?_)
  · replace h := ct hc h
    refine wl_skip rfl rfl ?_
    refine wl_skip rfl rfl ?_
    refine wl_skip rfl rfl ?_
    refine wl_skip rfl rfl ?_
    refine wl_skip rfl rfl ?_
    refine wl_skip rfl rfl ?_
    refine wl_skip rfl rfl ?_
    simp only [Option.some.injEq, Prod.mk.injEq] at h
    obtain rfl := h
    have h := hg51; clear hg51
    refine wl_pure (v := .bool true) tt_ok rfl rfl ?_
    refine wl_nil (wx_then ?_)
    replace h := ct rfl h
    refine wc_cond_true rfl ?_
    refine wc_seq (wc_region ?_)
    refine wl_pure tt_ok rfl rfl ?_
    refine wl_nil (wx_then (wc_ret (wx_then_ret ?_)))
    simp only [Option.some.injEq] at h
    obtain rfl := h
    exact wx_pf tt_ok (.inl rfl) Tryd.results45 (Res.tmp rfl Res.nil) rfl
  replace h := cf hc h
  refine wl_run rfl ?_
  refine wl_pure (v := .pointer (some ⟨b2, 16, none⟩)) tt_ok rfl rfl ?_
  refine wl_run rfl ?_
  refine wl_val (v := .slice p0a0 p0n0 p0c0) (val_load tt_ok rfl (List.Mem.tail _ (List.Mem.head _)) rfl) rfl ?_
  refine wl_run rfl ?_
  refine wl_val (v := .int .i64 (p0.Shots.length : Int)) (val_len tt_ok rfl rfl p0N0) rfl ?_
  refine wl_run rfl ?_
  refine wl_pure (v := .pointer (some ⟨b3, 16, none⟩)) tt_ok rfl rfl ?_
  refine wl_run rfl ?_
  refine wl_val (v := .slice p1a0 p1n0 p1c0) (val_load tt_ok rfl (List.Mem.head _) rfl) rfl ?_
  refine wl_run rfl ?_
  refine wl_val (v := .int .i64 (p1.Shots.length : Int)) (val_len tt_ok rfl rfl p1N0) rfl ?_
  refine wl_run rfl ?_
  refine wl_pure (v := .bool ((p0.Shots.length : Int) != (p1.Shots.length : Int))) tt_ok rfl rfl ?_
  simp only [Option.some.injEq, Prod.mk.injEq] at h
  obtain rfl := h
  have h := hg51; clear hg51
  refine wl_pure (v := .bool ((p0.Shots.length : Int) != (p1.Shots.length : Int))) tt_ok rfl rfl ?_
  refine wl_nil (wx_then ?_)
  refine wc_cond rfl (fun hc => ?_) (fun hc => ?_)
  · replace h := ct hc h
    refine wc_seq (wc_region ?_)
    refine wl_pure tt_ok rfl rfl ?_
    refine wl_nil (wx_then (wc_ret (wx_then_ret ?_)))
    simp only [Option.some.injEq] at h
    obtain rfl := h
    exact wx_pf tt_ok (.inl rfl) Tryd.results45 (Res.tmp rfl Res.nil) rfl
  replace h := cf hc h
  refine wc_skip (wx_then (wc_seq (wc_seq (wc_region ?_))))
  refine wl_pure tt_ok rfl rfl ?_
  refine wl_nil (wx_then (wc_block ?_))
  replace h := bsome h; obtain ⟨o15, h, hl15⟩ := h
  refine wc_loop (fun m E L => ∃ (j15_5 : Int), m_hindcastref08_Same_L14 F p0 p1 m j15_5 = some o15 ∧ E = [(2, .pointer (some ⟨b2, 0, none⟩)), (3, .pointer (some ⟨b3, 0, none⟩)), (4, .bool false), (5, .int .i64 j15_5)] ∧ L = (⟨b2, [.int .u64 p0.Frame, .int .u64 p0.Seed, .int .i32 p0.Players.1.X, .int .i32 p0.Players.1.Y, .int .i32 p0.Players.1.VX, .int .i32 p0.Players.1.VY, .int .u8 p0.Players.1.Health, .int .u8 p0.Players.1.Cool, .int .u8 p0.Players.1.Face, .int .i32 p0.Players.2.X, .int .i32 p0.Players.2.Y, .int .i32 p0.Players.2.VX, .int .i32 p0.Players.2.VY, .int .u8 p0.Players.2.Health, .int .u8 p0.Players.2.Cool, .int .u8 p0.Players.2.Face, .slice p0a0 p0n0 p0c0, .int .u16 p0.Score.1, .int .u16 p0.Score.2], 30, (0, 0)⟩ :: (⟨b3, [.int .u64 p1.Frame, .int .u64 p1.Seed, .int .i32 p1.Players.1.X, .int .i32 p1.Players.1.Y, .int .i32 p1.Players.1.VX, .int .i32 p1.Players.1.VY, .int .u8 p1.Players.1.Health, .int .u8 p1.Players.1.Cool, .int .u8 p1.Players.1.Face, .int .i32 p1.Players.2.X, .int .i32 p1.Players.2.Y, .int .i32 p1.Players.2.VX, .int .i32 p1.Players.2.VY, .int .u8 p1.Players.2.Health, .int .u8 p1.Players.2.Cool, .int .u8 p1.Players.2.Face, .slice p1a0 p1n0 p1c0, .int .u16 p1.Score.1, .int .u16 p1.Score.2], 30, (0, 0)⟩ :: []))) F ⟨(0 : Int), h, rfl, rfl⟩ (agree_cons rfl (agree_cons rfl (agree_cons rfl (agree_cons rfl agree_nil)))) (pSub (pCons (Sel.sc Sel.hc) (pCons Sel.hc pNil))) ?_
  clear h
  rintro m15 _ _ ⟨j15_5, h, rfl, rfl⟩
  rcases m15 with _ | m15
  · rw [m_hindcastref08_Same_L14.eq_1] at h; cases h
  rw [m_hindcastref08_Same_L14.eq_2] at h
  refine wc_seq (wc_seq (wc_region ?_))
  refine wl_pure tt_ok rfl rfl ?_
  refine wl_pure (v := .pointer (some ⟨b2, 16, none⟩)) tt_ok rfl rfl ?_
  refine wl_val (v := .slice p0a0 p0n0 p0c0) (val_load tt_ok rfl (List.Mem.head _) rfl) rfl ?_
  refine wl_val (v := .int .i64 (p0.Shots.length : Int)) (val_len tt_ok rfl rfl p0N0) rfl ?_
  refine wl_pure (v := .bool (decide (j15_5 < (p0.Shots.length : Int)))) tt_ok rfl rfl ?_
  refine wl_nil (wx_then ?_)
  refine wc_cond rfl (fun hc => ?_) (fun hc => ?_)
  · replace h := ct hc h
    refine wc_skip (wx_then (wc_seq (wc_block (wc_seq ?_))))
    refine wc_quiet (by kernel_rfl) (by kernel_rfl) ?_
    refine wq_pure (v := .pointer (some ⟨b2, 16, none⟩)) tt_ok rfl rfl ?_
    refine wq_val (v := .slice p0a0 p0n0 p0c0) (val_load tt_ok rfl (List.Mem.head _) rfl) rfl ?_
    refine wq_pure tt_ok rfl rfl ?_
    replace h := bsome h; obtain ⟨v62, x62, h⟩ := h
    refine wq_val (v := .pointer (some ((adOf p0a0).add (j15_5.toNat * 6 + 0)))) (val_ix (enc := c_T_api_Shot) tt_ok rfl rfl rfl rfl p0N0 p0S0 c_T_api_Shot_len rfl x62) rfl ?_
    refine wq_val (v := .agg #[.int .i32 v62.X, .int .i32 v62.Y, .int .i32 v62.VX, .int .i32 v62.VY, .int .u8 v62.Owner, .int .u8 v62.Life]) (val_le (enc := c_T_api_Shot) (xs := p0.Shots) tt_ok rfl p0S0 rsub_nil c_T_api_Shot_len x62 rfl) rfl ?_
    refine wq_pure (v := .pointer (some ⟨b3, 16, none⟩)) tt_ok rfl rfl ?_
    refine wq_val (v := .slice p1a0 p1n0 p1c0) (val_load tt_ok rfl (List.Mem.tail _ (List.Mem.head _)) rfl) rfl ?_
    refine wq_pure tt_ok rfl rfl ?_
    replace h := bsome h; obtain ⟨v67, x67, h⟩ := h
    refine wq_val (v := .pointer (some ((adOf p1a0).add (j15_5.toNat * 6 + 0)))) (val_ix (enc := c_T_api_Shot) tt_ok rfl rfl rfl rfl p1N0 p1S0 c_T_api_Shot_len rfl x67) rfl ?_
    refine wq_val (v := .agg #[.int .i32 v67.X, .int .i32 v67.Y, .int .i32 v67.VX, .int .i32 v67.VY, .int .u8 v67.Owner, .int .u8 v67.Life]) (val_le (enc := c_T_api_Shot) (xs := p1.Shots) tt_ok rfl p1S0 rsub_nil c_T_api_Shot_len x67 rfl) rfl ?_
    refine wq_val (v := .bool (!((v62.X == v67.X) && ((v62.Y == v67.Y) && ((v62.VX == v67.VX) && ((v62.VY == v67.VY) && ((v62.Owner == v67.Owner) && (v62.Life == v67.Life)))))))) (val_nes tt_ok tt_eq tt_one Tryd.eqGuardType76 rfl rfl rfl rfl rfl) rfl ?_
    refine wq_nil ?_
    refine wx_then ?_
    refine wc_cond rfl (fun hc => ?_) (fun hc => ?_)
    · replace h := ct hc h
      refine wc_seq (wc_region ?_)
      refine wl_pure tt_ok rfl rfl ?_
      refine wl_nil (wx_then (wc_ret (wx_block_ret (wx_then_ret ?_))))
      obtain rfl := Option.some.inj h
      have h := hl15; clear hl15; try dsimp only [orE_l, orE_r] at h
      refine wx_then_ret (wx_block_ret (wx_then_ret ?_))
      simp only [Option.some.injEq] at h
      obtain rfl := h
      exact wx_pf tt_ok (.inl rfl) Tryd.results45 (Res.tmp rfl Res.nil) rfl
    replace h := cf hc h
    refine wc_skip (wx_block (wx_then (wc_region ?_)))
    refine wl_pure tt_ok rfl rfl ?_
    refine wl_pure (v := .int .i64 (IntKind.wrap .i64 (j15_5 + (1 : Int)))) tt_ok rfl rfl ?_
    refine wl_pure tt_ok rfl rfl ?_
    refine wl_nil ?_
    exact wx_round m15 (Nat.lt_succ_self m15) ⟨(IntKind.wrap .i64 (j15_5 + (1 : Int))), h, rfl, rfl⟩ (agree_cons rfl (agree_cons rfl (agree_cons rfl (agree_cons rfl agree_nil)))) (pSub (pCons Sel.hc (pCons Sel.hc pNil)))
  replace h := cf hc h
  refine wc_exit (wx_then_exit ?_)
  obtain rfl := Option.some.inj h
  have h := hl15; clear hl15; try dsimp only [orE_l, orE_r] at h
  refine wx_then_exit (wx_block_exit (wx_then (wc_seq (wc_region ?_))))
  refine wl_pure tt_ok rfl rfl ?_
  refine wl_nil (wx_then (wc_ret ?_))
  simp only [Option.some.injEq] at h
  obtain rfl := h
  exact wx_pf tt_ok (.inl rfl) Tryd.results45 (Res.tmp rfl Res.nil) rfl

theorem k_ring_Ring_Newest {F : Nat} {p0 : T_ring_Ring} {p0b p0t : Nat} {p0g0 : List (T_ring_place × G)} {p0P0 : List Blk} {r0 : T_api_State} {r1 : Bool} (p0G0 : p0.places.1 = unG p0g0) (p0A0 : AllP sh_T_ring_place c_T_api_Shot p0P0 p0g0) (h : m_ring_Ring_Newest F p0 = some (r0, r1)) :
    SpD Tryd.prog 13 [.pointer (some ⟨p0b, 0, none⟩)] (⟨p0b, ([.int .i64 p0.size] ++ flat cg_T_ring_place p0g0), p0t, (0, 0)⟩ :: (p0P0 ++ [])) (fun w => True) (fun v D => ∃ (r0a0 : Option Addr) (r0n0 : Nat) (r0c0 : Nat) (r0B0 : List Blk), r0n0 = r0.Shots.length ∧ Own 76 6 r0a0 r0n0 r0c0 (flat c_T_api_Shot r0.Shots) r0B0 ∧ v = .tuple #[.agg #[.int .u64 r0.Frame, .int .u64 r0.Seed, .int .i32 r0.Players.1.X, .int .i32 r0.Players.1.Y, .int .i32 r0.Players.1.VX, .int .i32 r0.Players.1.VY, .int .u8 r0.Players.1.Health, .int .u8 r0.Players.1.Cool, .int .u8 r0.Players.1.Face, .int .i32 r0.Players.2.X, .int .i32 r0.Players.2.Y, .int .i32 r0.Players.2.VX, .int .i32 r0.Players.2.VY, .int .u8 r0.Players.2.Health, .int .u8 r0.Players.2.Cool, .int .u8 r0.Players.2.Face, .slice r0a0 r0n0 r0c0, .int .u16 r0.Score.1, .int .u16 r0.Score.2], .bool r1] ∧ D = fun F => (⟨p0b, ([.int .i64 p0.size] ++ flat cg_T_ring_place p0g0), p0t, (0, 0)⟩ :: (p0P0 ++ (r0B0 ++ F)))) := by
  unfold m_ring_Ring_Newest at h
  refine sp_of_wc Tryd.func13 rfl Tryd.ntmps13 rfl rfl (fun w0 hR => ?_)
  refine wc_seq (wc_region ?_)
  refine wl_alloc tt_ok rfl rfl (fun b2 => ?_)
  refine wl_pure tt_ok rfl rfl ?_
  refine wl_nil (wx_then (wc_seq (wc_region ?_)))
  refine wl_alloc tt_ok rfl rfl (fun b4 => ?_)
  refine wl_nil (wx_then (wc_seq (wc_seq (wc_region ?_))))
  refine wl_pure tt_ok rfl rfl ?_
  replace h := bsome h; obtain ⟨v8, x8, h⟩ := h
  refine wl_cq Tryd.call37 rfl rfl rfl (q_rd (k_ring_Ring_is (p0 := p0) p0G0 p0A0 x8) (pCons (Sel.sc (Sel.sc Sel.hc)) (pApp (Sel.sc (Sel.sc Sel.ha)) pNil)) (fun _ _ => trivial)) rfl ?_
  refine wl_nil (wx_then ?_)
  replace h := bsome h; obtain ⟨⟨j8_n4_f0_0, j8_n4_f0_1, j8_n4_f0_2, j8_n4_f0_3, j8_n4_f0_4, j8_n4_f1⟩, h, hj8⟩ := h; try dsimp only at hj8
  refine wc_join2 (fun E L => ∃ (j8_n4_f0_3a0 : Option Addr) (j8_n4_f0_3n0 : Nat) (j8_n4_f0_3c0 : Nat), j8_n4_f0_3n0 = j8_n4_f0_3.length ∧ j8_n4_f0_3n0 ≤ j8_n4_f0_3c0 ∧ Rds w0 (ids (⟨p0b, ([.int .i64 p0.size] ++ flat cg_T_ring_place p0g0), p0t, (0, 0)⟩ :: (p0P0 ++ []))) p0P0 j8_n4_f0_3a0 (flat c_T_api_Shot j8_n4_f0_3) ∧ (j8_n4_f0_3a0 = none → j8_n4_f0_3c0 = 0) ∧ E = [(2, .pointer (some ⟨b2, 0, none⟩)), (3, .bool false), (4, .pointer (some ⟨b4, 0, none⟩))] ∧ L = (⟨b2, [.int .u64 (0 : Int), .int .u64 (0 : Int), .int .i32 (0 : Int), .int .i32 (0 : Int), .int .i32 (0 : Int), .int .i32 (0 : Int), .int .u8 (0 : Int), .int .u8 (0 : Int), .int .u8 (0 : Int), .int .i32 (0 : Int), .int .i32 (0 : Int), .int .i32 (0 : Int), .int .i32 (0 : Int), .int .u8 (0 : Int), .int .u8 (0 : Int), .int .u8 (0 : Int), .slice none 0 0, .int .u16 (0 : Int), .int .u16 (0 : Int)], 30, (0, 0)⟩ :: (⟨b4, [.int .u64 j8_n4_f0_0, .int .u64 j8_n4_f0_1, .int .i32 j8_n4_f0_2.1.X, .int .i32 j8_n4_f0_2.1.Y, .int .i32 j8_n4_f0_2.1.VX, .int .i32 j8_n4_f0_2.1.VY, .int .u8 j8_n4_f0_2.1.Health, .int .u8 j8_n4_f0_2.1.Cool, .int .u8 j8_n4_f0_2.1.Face, .int .i32 j8_n4_f0_2.2.X, .int .i32 j8_n4_f0_2.2.Y, .int .i32 j8_n4_f0_2.2.VX, .int .i32 j8_n4_f0_2.2.VY, .int .u8 j8_n4_f0_2.2.Health, .int .u8 j8_n4_f0_2.2.Cool, .int .u8 j8_n4_f0_2.2.Face, .slice j8_n4_f0_3a0 j8_n4_f0_3n0 j8_n4_f0_3c0, .int .u16 j8_n4_f0_4.1, .int .u16 j8_n4_f0_4.2, .bool j8_n4_f1], 63, (0, 0)⟩ :: (⟨p0b, ([.int .i64 p0.size] ++ flat cg_T_ring_place p0g0), p0t, (0, 0)⟩ :: (p0P0 ++ []))))) ?_ ?_
  · refine wc_cond rfl (fun hc => ?_) (fun hc => ?_)
    · replace h := ct hc h
      refine wc_seq ?_
      refine wc_quiet (by kernel_rfl) (by kernel_rfl) ?_
      refine wq_pure tt_ok rfl rfl ?_
      refine wq_pure tt_ok rfl rfl ?_
      refine wq_pure (v := .pointer (some ⟨p0b, 1, none⟩)) tt_ok rfl rfl ?_
      refine wq_pure tt_ok rfl rfl ?_
      refine wq_pure tt_ok rfl rfl ?_
      refine wq_pure (v := .pointer (some ⟨p0b, 0, none⟩)) tt_ok rfl rfl ?_
      refine wq_val (v := .int .i64 p0.size) (val_load tt_ok rfl (List.Mem.tail _ (List.Mem.tail _ (List.Mem.head _))) rfl) rfl ?_
      replace h := bsome h; obtain ⟨v16, x16, h⟩ := h
      obtain ⟨g16, y16, hG16⟩ := cut_g p0G0 x16
      refine wq_val (v := .slice (some ⟨p0b, 1, none⟩) ((p0.size).toNat) 14) (val_slh (j := (p0.size).toNat) tt_ok rfl rfl rfl rfl (cut_v x16) (cut_len p0G0 y16 p0.places.2) rfl) rfl ?_
      refine wq_val (v := .int .i64 (v16.length : Int)) (val_len tt_ok rfl rfl (cut_n p0.places.1 x16)) rfl ?_
      refine wq_pure tt_ok rfl rfl ?_
      refine wq_nil ?_
      refine wx_then (wc_block ?_)
      replace h := bsome h; obtain ⟨⟨l12_n4_f0_0, l12_n4_f0_1, l12_n4_f0_2, l12_n4_f0_3, l12_n4_f0_4, l12_n4_f1⟩, h, hl12⟩ := h; try dsimp only at hl12
      refine wc_loop (fun m E L => ∃ (j12_18 : Int) (j12_n4_f0_0 : Int) (j12_n4_f0_1 : Int) (j12_n4_f0_2 : (T_api_Player × T_api_Player)) (j12_n4_f0_3 : (List T_api_Shot)) (j12_n4_f0_4 : (Int × Int)) (j12_n4_f1 : Bool) (j12_n4_f0_3a0 : Option Addr) (j12_n4_f0_3n0 : Nat) (j12_n4_f0_3c0 : Nat), m_ring_Ring_Newest_L11 F v16 m j12_18 j12_n4_f0_0 j12_n4_f0_1 j12_n4_f0_2 j12_n4_f0_3 j12_n4_f0_4 j12_n4_f1 = some (l12_n4_f0_0, l12_n4_f0_1, l12_n4_f0_2, l12_n4_f0_3, l12_n4_f0_4, l12_n4_f1) ∧ j12_n4_f0_3n0 = j12_n4_f0_3.length ∧ j12_n4_f0_3n0 ≤ j12_n4_f0_3c0 ∧ Rds w0 (ids (⟨p0b, ([.int .i64 p0.size] ++ flat cg_T_ring_place p0g0), p0t, (0, 0)⟩ :: (p0P0 ++ []))) p0P0 j12_n4_f0_3a0 (flat c_T_api_Shot j12_n4_f0_3) ∧ (j12_n4_f0_3a0 = none → j12_n4_f0_3c0 = 0) ∧ E = [(2, .pointer (some ⟨b2, 0, none⟩)), (3, .bool false), (4, .pointer (some ⟨b4, 0, none⟩)), (16, .slice (some ⟨p0b, 1, none⟩) ((p0.size).toNat) 14), (17, .int .i64 (v16.length : Int)), (18, .int .i64 j12_18)] ∧ L = (⟨b2, [.int .u64 (0 : Int), .int .u64 (0 : Int), .int .i32 (0 : Int), .int .i32 (0 : Int), .int .i32 (0 : Int), .int .i32 (0 : Int), .int .u8 (0 : Int), .int .u8 (0 : Int), .int .u8 (0 : Int), .int .i32 (0 : Int), .int .i32 (0 : Int), .int .i32 (0 : Int), .int .i32 (0 : Int), .int .u8 (0 : Int), .int .u8 (0 : Int), .int .u8 (0 : Int), .slice none 0 0, .int .u16 (0 : Int), .int .u16 (0 : Int)], 30, (0, 0)⟩ :: (⟨b4, [.int .u64 j12_n4_f0_0, .int .u64 j12_n4_f0_1, .int .i32 j12_n4_f0_2.1.X, .int .i32 j12_n4_f0_2.1.Y, .int .i32 j12_n4_f0_2.1.VX, .int .i32 j12_n4_f0_2.1.VY, .int .u8 j12_n4_f0_2.1.Health, .int .u8 j12_n4_f0_2.1.Cool, .int .u8 j12_n4_f0_2.1.Face, .int .i32 j12_n4_f0_2.2.X, .int .i32 j12_n4_f0_2.2.Y, .int .i32 j12_n4_f0_2.2.VX, .int .i32 j12_n4_f0_2.2.VY, .int .u8 j12_n4_f0_2.2.Health, .int .u8 j12_n4_f0_2.2.Cool, .int .u8 j12_n4_f0_2.2.Face, .slice j12_n4_f0_3a0 j12_n4_f0_3n0 j12_n4_f0_3c0, .int .u16 j12_n4_f0_4.1, .int .u16 j12_n4_f0_4.2, .bool j12_n4_f1], 63, (0, 0)⟩ :: (⟨p0b, ([.int .i64 p0.size] ++ flat cg_T_ring_place p0g0), p0t, (0, 0)⟩ :: (p0P0 ++ []))))) F ⟨(0 : Int), (0 : Int), (0 : Int), ((T_api_Player.mk (0 : Int) (0 : Int) (0 : Int) (0 : Int) (0 : Int) (0 : Int) (0 : Int)), (T_api_Player.mk (0 : Int) (0 : Int) (0 : Int) (0 : Int) (0 : Int) (0 : Int) (0 : Int))), ([] : List T_api_Shot), ((0 : Int), (0 : Int)), false, none, 0, 0, h, rfl, (Nat.le_refl _), Rds.nil, (fun _ => rfl), rfl, rfl⟩ (agree_cons rfl (agree_cons rfl (agree_cons rfl (agree_cons rfl (agree_cons rfl (agree_cons rfl agree_nil)))))) (pSub (pCons (Sel.sc Sel.hc) (pCons Sel.hc (pCons Sel.hc (pApp Sel.ha pNil))))) ?_
      clear h
      rintro m12 _ _ ⟨j12_18, j12_n4_f0_0, j12_n4_f0_1, j12_n4_f0_2, j12_n4_f0_3, j12_n4_f0_4, j12_n4_f1, j12_n4_f0_3a0, j12_n4_f0_3n0, j12_n4_f0_3c0, h, j12_n4_f0_3N0, j12_n4_f0_3H0, j12_n4_f0_3S0, j12_n4_f0_3Z0, rfl, rfl⟩
      rcases m12 with _ | m12
      · rw [m_ring_Ring_Newest_L11.eq_1] at h; cases h
      rw [m_ring_Ring_Newest_L11.eq_2] at h
      refine wc_seq (wc_region ?_)
      refine wl_pure (v := .bool (decide (j12_18 < (v16.length : Int)))) tt_ok rfl rfl ?_
      refine wl_nil (wx_then (wc_seq ?_))
      refine wc_cond rfl (fun hc => ?_) (fun hc => ?_)
      · replace h := ct hc h
        refine wc_skip (wx_then (wc_seq (wc_block (wc_seq (wc_region ?_)))))
        replace h := bsome h; obtain ⟨v20, x20, h⟩ := h
        obtain ⟨G20, y20⟩ := getI_g hG16 x20
        refine wl_val (v := .pointer (some ((adOf (some ⟨p0b, 1, none⟩)).add (j12_18.toNat * 20 + 0)))) (val_ix (enc := cg_T_ring_place) tt_ok rfl rfl rfl rfl (len_g (cut_n p0.places.1 x16) hG16) (rds_arr (t := p0t) (fz := (0, 0)) (pre := [.int .i64 p0.size]) (post := []) c_np rfl y16) cg_T_ring_place_len rfl y20) rfl ?_
        refine wl_val (v := .agg #[.int .u64 v20.s.Frame, .int .u64 v20.s.Seed, .int .i32 v20.s.Players.1.X, .int .i32 v20.s.Players.1.Y, .int .i32 v20.s.Players.1.VX, .int .i32 v20.s.Players.1.VY, .int .u8 v20.s.Players.1.Health, .int .u8 v20.s.Players.1.Cool, .int .u8 v20.s.Players.1.Face, .int .i32 v20.s.Players.2.X, .int .i32 v20.s.Players.2.Y, .int .i32 v20.s.Players.2.VX, .int .i32 v20.s.Players.2.VY, .int .u8 v20.s.Players.2.Health, .int .u8 v20.s.Players.2.Cool, .int .u8 v20.s.Players.2.Face, .slice G20.1 G20.2.1 G20.2.2, .int .u16 v20.s.Score.1, .int .u16 v20.s.Score.2, .bool v20.is_]) (val_le (enc := cg_T_ring_place) (xs := g16) tt_ok rfl (rds_arr (t := p0t) (fz := (0, 0)) (pre := [.int .i64 p0.size]) (post := []) c_np rfl y16) ⟨_, (Sel.sc (Sel.sc Sel.hc))⟩ cg_T_ring_place_len y20 rfl) rfl ?_
        refine wl_alloc tt_ok rfl rfl (fun b6 => ?_)
        apply wl_store tt_ok; rfl; exact Upd.here; rfl; rfl; rfl; rfl; rfl; rfl
        refine wl_nil (wx_then (wc_seq (wc_region ?_)))
        refine wl_pure (v := .pointer (some ⟨b6, 19, none⟩)) tt_ok rfl rfl ?_
        refine wl_val (v := .bool v20.is_) (val_load tt_ok rfl (List.Mem.head _) rfl) rfl ?_
        refine wl_pure tt_ok rfl rfl ?_
        replace h := bsome h; obtain ⟨v37, h, hg37⟩ := h
        refine wl_split (t := 24) rfl (fun hc => ?_) (fun hc => ?_)
        · replace h := ct hc h
          refine wl_run rfl ?_
          refine wl_pure (v := .pointer (some ⟨b4, 19, none⟩)) tt_ok rfl rfl ?_
          refine wl_run rfl ?_
          refine wl_val (v := .bool j12_n4_f1) (val_load tt_ok rfl (List.Mem.tail _ (List.Mem.tail _ (List.Mem.head _))) rfl) rfl ?_
          refine wl_run rfl ?_
          refine wl_pure (v := .bool (!j12_n4_f1)) tt_ok rfl rfl ?_
          refine wl_run rfl ?_
          refine wl_pure tt_ok rfl rfl ?_
          replace h := bsome h; obtain ⟨v36, h, hg36⟩ := h
          refine wl_split (t := 28) rfl (fun hc => ?_) (fun hc => ?_)
          · replace h := ct hc h
            refine wl_skip rfl rfl ?_
            refine wl_skip rfl rfl ?_
            refine wl_skip rfl rfl ?_
            refine wl_skip rfl rfl ?_
            refine wl_skip rfl rfl ?_
            refine wl_skip rfl rfl ?_
            refine wl_skip rfl rfl ?_
            simp only [Option.some.injEq, Prod.mk.injEq] at h
            obtain rfl := h
            have h := hg36; clear hg36
            refine wl_run rfl ?_
            refine wl_pure (v := .bool true) tt_ok rfl rfl ?_
            simp only [Option.some.injEq, Prod.mk.injEq] at h
            obtain rfl := h
            have h := hg37; clear hg37
            refine wl_pure (v := .bool true) tt_ok rfl rfl ?_
            refine wl_nil (wx_then ?_)
            replace h := ct rfl h
            refine wc_cond_true rfl ?_
            refine wc_region ?_
            refine wl_val (v := .agg #[.int .u64 v20.s.Frame, .int .u64 v20.s.Seed, .int .i32 v20.s.Players.1.X, .int .i32 v20.s.Players.1.Y, .int .i32 v20.s.Players.1.VX, .int .i32 v20.s.Players.1.VY, .int .u8 v20.s.Players.1.Health, .int .u8 v20.s.Players.1.Cool, .int .u8 v20.s.Players.1.Face, .int .i32 v20.s.Players.2.X, .int .i32 v20.s.Players.2.Y, .int .i32 v20.s.Players.2.VX, .int .i32 v20.s.Players.2.VY, .int .u8 v20.s.Players.2.Health, .int .u8 v20.s.Players.2.Cool, .int .u8 v20.s.Players.2.Face, .slice G20.1 G20.2.1 G20.2.2, .int .u16 v20.s.Score.1, .int .u16 v20.s.Score.2, .bool v20.is_]) (val_load tt_ok rfl (List.Mem.head _) rfl) rfl ?_
            apply wl_store tt_ok; rfl; exact (Upd.there (Upd.there Upd.here)); rfl; rfl; rfl; rfl; rfl; rfl
            refine wl_nil (wx_block (wx_then (wc_region ?_)))
            refine wl_pure (v := .int .i64 (IntKind.wrap .i64 (j12_18 + (1 : Int)))) tt_ok rfl rfl ?_
            refine wl_pure tt_ok rfl rfl ?_
            refine wl_nil ?_
            exact wx_round m12 (Nat.lt_succ_self m12) ⟨(IntKind.wrap .i64 (j12_18 + (1 : Int))), v20.s.Frame, v20.s.Seed, v20.s.Players, v20.s.Shots, v20.s.Score, v20.is_, G20.1, G20.2.1, G20.2.2, h, (allrd_get (allrd_cut (p0A0 w0 (ids (⟨p0b, ([.int .i64 p0.size] ++ flat cg_T_ring_place p0g0), p0t, (0, 0)⟩ :: (p0P0 ++ [])))) y16) y20).1, (allrd_get (allrd_cut (p0A0 w0 (ids (⟨p0b, ([.int .i64 p0.size] ++ flat cg_T_ring_place p0g0), p0t, (0, 0)⟩ :: (p0P0 ++ [])))) y16) y20).2.1, (allrd_get (allrd_cut (p0A0 w0 (ids (⟨p0b, ([.int .i64 p0.size] ++ flat cg_T_ring_place p0g0), p0t, (0, 0)⟩ :: (p0P0 ++ [])))) y16) y20).2.2.1, (allrd_get (allrd_cut (p0A0 w0 (ids (⟨p0b, ([.int .i64 p0.size] ++ flat cg_T_ring_place p0g0), p0t, (0, 0)⟩ :: (p0P0 ++ [])))) y16) y20).2.2.2, rfl, rfl⟩ (agree_cons rfl (agree_cons rfl (agree_cons rfl (agree_cons rfl (agree_cons rfl (agree_cons rfl agree_nil)))))) (pSub (pCons (Sel.sc Sel.hc) (pCons (Sel.sc Sel.hc) (pCons (Sel.sc Sel.hc) (pApp (Sel.sc Sel.ha) pNil)))))
          replace h := cf hc h
          refine wl_run rfl ?_
          refine wl_pure (v := .pointer (some ⟨b6, 0, none⟩)) tt_ok rfl rfl ?_
          refine wl_run rfl ?_
          refine wl_pure (v := .pointer (some ⟨b6, 0, none⟩)) tt_ok rfl rfl ?_
          refine wl_run rfl ?_
          refine wl_val (v := .int .u64 v20.s.Frame) (val_load tt_ok rfl (List.Mem.head _) rfl) rfl ?_
          refine wl_run rfl ?_
          refine wl_pure (v := .pointer (some ⟨b4, 0, none⟩)) tt_ok rfl rfl ?_
          refine wl_run rfl ?_
          refine wl_pure (v := .pointer (some ⟨b4, 0, none⟩)) tt_ok rfl rfl ?_
          refine wl_run rfl ?_
          refine wl_val (v := .int .u64 j12_n4_f0_0) (val_load tt_ok rfl (List.Mem.tail _ (List.Mem.tail _ (List.Mem.head _))) rfl) rfl ?_
          refine wl_run rfl ?_
          refine wl_pure (v := .bool (decide (j12_n4_f0_0 < v20.s.Frame))) tt_ok rfl rfl ?_
          simp only [Option.some.injEq, Prod.mk.injEq] at h
          obtain rfl := h
          have h := hg36; clear hg36
          refine wl_run rfl ?_
          refine wl_pure (v := .bool (decide (j12_n4_f0_0 < v20.s.Frame))) tt_ok rfl rfl ?_
          simp only [Option.some.injEq, Prod.mk.injEq] at h
          obtain rfl := h
          have h := hg37; clear hg37
          refine wl_pure (v := .bool (decide (j12_n4_f0_0 < v20.s.Frame))) tt_ok rfl rfl ?_
          refine wl_nil (wx_then ?_)
          refine wc_cond rfl (fun hc => ?_) (fun hc => ?_)
          · replace h := ct hc h
            refine wc_region ?_
            refine wl_val (v := .agg #[.int .u64 v20.s.Frame, .int .u64 v20.s.Seed, .int .i32 v20.s.Players.1.X, .int .i32 v20.s.Players.1.Y, .int .i32 v20.s.Players.1.VX, .int .i32 v20.s.Players.1.VY, .int .u8 v20.s.Players.1.Health, .int .u8 v20.s.Players.1.Cool, .int .u8 v20.s.Players.1.Face, .int .i32 v20.s.Players.2.X, .int .i32 v20.s.Players.2.Y, .int .i32 v20.s.Players.2.VX, .int .i32 v20.s.Players.2.VY, .int .u8 v20.s.Players.2.Health, .int .u8 v20.s.Players.2.Cool, .int .u8 v20.s.Players.2.Face, .slice G20.1 G20.2.1 G20.2.2, .int .u16 v20.s.Score.1, .int .u16 v20.s.Score.2, .bool v20.is_]) (val_load tt_ok rfl (List.Mem.head _) rfl) rfl ?_
            apply wl_store tt_ok; rfl; exact (Upd.there (Upd.there Upd.here)); rfl; rfl; rfl; rfl; rfl; rfl
            refine wl_nil (wx_block (wx_then (wc_region ?_)))
            refine wl_pure (v := .int .i64 (IntKind.wrap .i64 (j12_18 + (1 : Int)))) tt_ok rfl rfl ?_
            refine wl_pure tt_ok rfl rfl ?_
            refine wl_nil ?_
            exact wx_round m12 (Nat.lt_succ_self m12) ⟨(IntKind.wrap .i64 (j12_18 + (1 : Int))), v20.s.Frame, v20.s.Seed, v20.s.Players, v20.s.Shots, v20.s.Score, v20.is_, G20.1, G20.2.1, G20.2.2, h, (allrd_get (allrd_cut (p0A0 w0 (ids (⟨p0b, ([.int .i64 p0.size] ++ flat cg_T_ring_place p0g0), p0t, (0, 0)⟩ :: (p0P0 ++ [])))) y16) y20).1, (allrd_get (allrd_cut (p0A0 w0 (ids (⟨p0b, ([.int .i64 p0.size] ++ flat cg_T_ring_place p0g0), p0t, (0, 0)⟩ :: (p0P0 ++ [])))) y16) y20).2.1, (allrd_get (allrd_cut (p0A0 w0 (ids (⟨p0b, ([.int .i64 p0.size] ++ flat cg_T_ring_place p0g0), p0t, (0, 0)⟩ :: (p0P0 ++ [])))) y16) y20).2.2.1, (allrd_get (allrd_cut (p0A0 w0 (ids (⟨p0b, ([.int .i64 p0.size] ++ flat cg_T_ring_place p0g0), p0t, (0, 0)⟩ :: (p0P0 ++ [])))) y16) y20).2.2.2, rfl, rfl⟩ (agree_cons rfl (agree_cons rfl (agree_cons rfl (agree_cons rfl (agree_cons rfl (agree_cons rfl agree_nil)))))) (pSub (pCons (Sel.sc Sel.hc) (pCons (Sel.sc Sel.hc) (pCons (Sel.sc Sel.hc) (pApp (Sel.sc Sel.ha) pNil)))))
          replace h := cf hc h
          refine wc_skip (wx_block (wx_then (wc_region ?_)))
          refine wl_pure (v := .int .i64 (IntKind.wrap .i64 (j12_18 + (1 : Int)))) tt_ok rfl rfl ?_
          refine wl_pure tt_ok rfl rfl ?_
          refine wl_nil ?_
          exact wx_round m12 (Nat.lt_succ_self m12) ⟨(IntKind.wrap .i64 (j12_18 + (1 : Int))), j12_n4_f0_0, j12_n4_f0_1, j12_n4_f0_2, j12_n4_f0_3, j12_n4_f0_4, j12_n4_f1, j12_n4_f0_3a0, j12_n4_f0_3n0, j12_n4_f0_3c0, h, j12_n4_f0_3N0, j12_n4_f0_3H0, j12_n4_f0_3S0, j12_n4_f0_3Z0, rfl, rfl⟩ (agree_cons rfl (agree_cons rfl (agree_cons rfl (agree_cons rfl (agree_cons rfl (agree_cons rfl agree_nil)))))) (pSub (pCons (Sel.sc Sel.hc) (pCons (Sel.sc Sel.hc) (pCons (Sel.sc Sel.hc) (pApp (Sel.sc Sel.ha) pNil)))))
        replace h := cf hc h
        refine wl_skip rfl rfl ?_
        refine wl_skip rfl rfl ?_
        refine wl_skip rfl rfl ?_
        refine wl_skip rfl rfl ?_
        refine wl_skip rfl rfl ?_
        refine wl_skip rfl rfl ?_
        refine wl_skip rfl rfl ?_
        refine wl_skip rfl rfl ?_
        refine wl_skip rfl rfl ?_
        refine wl_skip rfl rfl ?_
        refine wl_skip rfl rfl ?_
        refine wl_skip rfl rfl ?_
        simp only [Option.some.injEq, Prod.mk.injEq] at h
        obtain rfl := h
        have h := hg37; clear hg37
        refine wl_pure (v := .bool false) tt_ok rfl rfl ?_
        refine wl_nil (wx_then ?_)
        replace h := cf rfl h
        refine wc_cond_false rfl ?_
        refine wc_skip (wx_block (wx_then (wc_region ?_)))
        refine wl_pure (v := .int .i64 (IntKind.wrap .i64 (j12_18 + (1 : Int)))) tt_ok rfl rfl ?_
        refine wl_pure tt_ok rfl rfl ?_
        refine wl_nil ?_
        exact wx_round m12 (Nat.lt_succ_self m12) ⟨(IntKind.wrap .i64 (j12_18 + (1 : Int))), j12_n4_f0_0, j12_n4_f0_1, j12_n4_f0_2, j12_n4_f0_3, j12_n4_f0_4, j12_n4_f1, j12_n4_f0_3a0, j12_n4_f0_3n0, j12_n4_f0_3c0, h, j12_n4_f0_3N0, j12_n4_f0_3H0, j12_n4_f0_3S0, j12_n4_f0_3Z0, rfl, rfl⟩ (agree_cons rfl (agree_cons rfl (agree_cons rfl (agree_cons rfl (agree_cons rfl (agree_cons rfl agree_nil)))))) (pSub (pCons (Sel.sc Sel.hc) (pCons (Sel.sc Sel.hc) (pCons (Sel.sc Sel.hc) (pApp (Sel.sc Sel.ha) pNil)))))
      replace h := cf hc h
      refine wc_exit (wx_then_exit ?_)
      simp only [Option.some.injEq, Prod.mk.injEq] at h
      obtain ⟨rfl, rfl, rfl, rfl, rfl, rfl⟩ := h
      have h := hl12; clear hl12; try dsimp only [orE_l, orE_r] at h
      refine wx_then_exit (wx_block_exit ?_)
      simp only [Option.some.injEq, Prod.mk.injEq] at h
      obtain ⟨rfl, rfl, rfl, rfl, rfl, rfl⟩ := h
      exact wx_join ⟨j12_n4_f0_3a0, j12_n4_f0_3n0, j12_n4_f0_3c0, j12_n4_f0_3N0, j12_n4_f0_3H0, j12_n4_f0_3S0, j12_n4_f0_3Z0, rfl, rfl⟩ (agree_cons rfl (agree_cons rfl (agree_cons rfl agree_nil))) (pSub (pCons Sel.hc (pCons Sel.hc (pCons Sel.hc (pApp Sel.ha pNil)))))
    replace h := cf hc h
    refine wc_skip ?_
    simp only [Option.some.injEq, Prod.mk.injEq] at h
    obtain ⟨rfl, rfl, rfl, rfl, rfl, rfl⟩ := h
    exact wx_join ⟨none, 0, 0, rfl, (Nat.le_refl _), Rds.nil, (fun _ => rfl), rfl, rfl⟩ (agree_cons rfl (agree_cons rfl (agree_cons rfl agree_nil))) (pSub (pCons (Sel.sc Sel.hc) (pCons Sel.hc (pCons Sel.hc (pApp Sel.ha pNil)))))
  rintro _ _ ⟨j8_n4_f0_3a0, j8_n4_f0_3n0, j8_n4_f0_3c0, j8_n4_f0_3N0, j8_n4_f0_3H0, j8_n4_f0_3S0, j8_n4_f0_3Z0, rfl, rfl⟩
  have h := hj8; clear hj8
  refine wc_seq ?_
  refine wc_k2 (Ls := (⟨b4, [.int .u64 j8_n4_f0_0, .int .u64 j8_n4_f0_1, .int .i32 j8_n4_f0_2.1.X, .int .i32 j8_n4_f0_2.1.Y, .int .i32 j8_n4_f0_2.1.VX, .int .i32 j8_n4_f0_2.1.VY, .int .u8 j8_n4_f0_2.1.Health, .int .u8 j8_n4_f0_2.1.Cool, .int .u8 j8_n4_f0_2.1.Face, .int .i32 j8_n4_f0_2.2.X, .int .i32 j8_n4_f0_2.2.Y, .int .i32 j8_n4_f0_2.2.VX, .int .i32 j8_n4_f0_2.2.VY, .int .u8 j8_n4_f0_2.2.Health, .int .u8 j8_n4_f0_2.2.Cool, .int .u8 j8_n4_f0_2.2.Face, .slice j8_n4_f0_3a0 j8_n4_f0_3n0 j8_n4_f0_3c0, .int .u16 j8_n4_f0_4.1, .int .u16 j8_n4_f0_4.2, .bool j8_n4_f1], 63, (0, 0)⟩ :: (⟨p0b, ([.int .i64 p0.size] ++ flat cg_T_ring_place p0g0), p0t, (0, 0)⟩ :: (p0P0 ++ [])))) [2, 5, 6] [6] [0, 1, 3, 0, 8, 7, 63] [0, 1, 3, 4, 2, 5, 6] (by kernel_rfl) (by kernel_rfl) (by kernel_rfl) ?_
  refine k_val (v := .pointer (some ⟨b4, 0, none⟩)) rfl rfl rfl (pSub (pCons (Sel.sc Sel.hc) (pCons (Sel.sc Sel.hc) (pApp (Sel.sc Sel.ha) pNil)))) (stepV_ok tt_ok rfl) rfl ?_
  refine k_val (v := .agg #[.int .u64 j8_n4_f0_0, .int .u64 j8_n4_f0_1, .int .i32 j8_n4_f0_2.1.X, .int .i32 j8_n4_f0_2.1.Y, .int .i32 j8_n4_f0_2.1.VX, .int .i32 j8_n4_f0_2.1.VY, .int .u8 j8_n4_f0_2.1.Health, .int .u8 j8_n4_f0_2.1.Cool, .int .u8 j8_n4_f0_2.1.Face, .int .i32 j8_n4_f0_2.2.X, .int .i32 j8_n4_f0_2.2.Y, .int .i32 j8_n4_f0_2.2.VX, .int .i32 j8_n4_f0_2.2.VY, .int .u8 j8_n4_f0_2.2.Health, .int .u8 j8_n4_f0_2.2.Cool, .int .u8 j8_n4_f0_2.2.Face, .slice j8_n4_f0_3a0 j8_n4_f0_3n0 j8_n4_f0_3c0, .int .u16 j8_n4_f0_4.1, .int .u16 j8_n4_f0_4.2]) rfl rfl rfl (pSub (pCons (Sel.sc Sel.hc) (pCons (Sel.sc Sel.hc) (pApp (Sel.sc Sel.ha) pNil)))) (val_load tt_ok rfl (List.Mem.head _) rfl) rfl ?_
  refine k_val (v := .pointer (some ⟨b4, 19, none⟩)) rfl rfl rfl (pSub (pCons (Sel.sc Sel.hc) (pCons (Sel.sc Sel.hc) (pApp (Sel.sc Sel.ha) pNil)))) (stepV_ok tt_ok rfl) rfl ?_
  refine k_val (v := .bool j8_n4_f1) rfl rfl rfl (pSub (pCons (Sel.sc Sel.hc) (pCons (Sel.sc Sel.hc) (pApp (Sel.sc Sel.ha) pNil)))) (val_load tt_ok rfl (List.Mem.head _) rfl) rfl ?_
  replace h := bsome h; obtain ⟨v42, x42, h⟩ := h
  refine k_cs rfl rfl rfl Tryd.call39 rfl rfl rfl (s_sp (k_ring_told (p0 := (T_api_State.mk j8_n4_f0_0 j8_n4_f0_1 j8_n4_f0_2 j8_n4_f0_3 j8_n4_f0_4)) j8_n4_f0_3N0 j8_n4_f0_3H0 j8_n4_f0_3Z0 x42) pNil (Rds.call j8_n4_f0_3S0 pNil ⟨_, (Sel.sc (Sel.sc (Sel.sc Sel.ha)))⟩)) rfl (.inr (by rintro _ _ ⟨_, ⟨_, _, _, _, _, _, rfl, rfl⟩, rfl⟩; exact ⟨_, (pCons (Sel.sa (Sel.sc Sel.hc)) (pCons (Sel.sa (Sel.sc Sel.hc)) (pApp (Sel.sa (Sel.sc Sel.ha)) pNil)))⟩)) ?_
  rintro _ _ ⟨_, ⟨v42a0, v42n0, v42c0, v42B0, v42N0, v42V0, rfl, rfl⟩, rfl⟩
  refine k_chg0 rfl rfl rfl (chg_store tt_ok rfl (Upd.right Upd.here) rfl rfl rfl rfl rfl rfl) (.inr (by rintro _ _ rfl; exact ⟨_, (pCons (Sel.sa (Sel.sc Sel.hc)) (pCons (Sel.sa (Sel.sc Sel.hc)) (pApp (Sel.sa (Sel.sc Sel.ha)) pNil)))⟩)) ?_
  rintro _ _ rfl
  refine k_chg rfl rfl rfl (Chg.of_val (stepV_ok tt_ok rfl)) rfl (.inl rfl) ?_
  rintro _ _ ⟨rfl, rfl⟩
  refine k_end (by kernel_rfl) ?_
  refine wx_then (wc_ret ?_)
  simp only [Option.some.injEq, Prod.mk.injEq] at h
  obtain ⟨rfl, rfl⟩ := h
  exact wx_spD tt_ok (.inl rfl) Tryd.results13 (Res.cell rfl (mR (List.Mem.head _)) rfl (Res.tmp rfl Res.nil)) ⟨v42a0, v42n0, v42c0, v42B0, v42N0, v42V0, rfl, rfl⟩ (fun F => by simp) (pSub (pCons (Sel.sa (Sel.sc (Sel.sc Sel.hc))) (pApp (Sel.sa (Sel.sc (Sel.sc Sel.ha))) (pApp Sel.ha pNil))))

theorem k_ring_Ring_Cut {F : Nat} {p0 : T_ring_Ring} {p0b p0t : Nat} {p0g0 : List (T_ring_place × G)} {p0P0 : List Blk} {p1 : Int} {r0 : T_ring_Ring} {r1 : Int} (p0G0 : p0.places.1 = unG p0g0) (p0A0 : AllP sh_T_ring_place c_T_api_Shot p0P0 p0g0) (h : m_ring_Ring_Cut F p0 p1 = some (r0, r1)) :
    SpD Tryd.prog 20 [.pointer (some ⟨p0b, 0, none⟩), .int .u64 p1] (⟨p0b, ([.int .i64 p0.size] ++ flat cg_T_ring_place p0g0), p0t, (0, 0)⟩ :: (p0P0 ++ [])) (fun w => True) (fun v D => ∃ (r0g0 : List (T_ring_place × G)) (r0P0 : List Blk), r0.places.1 = unG r0g0 ∧ AllP sh_T_ring_place c_T_api_Shot r0P0 r0g0 ∧ v = .int .i64 r1 ∧ D = fun F => (⟨p0b, ([.int .i64 r0.size] ++ flat cg_T_ring_place r0g0), p0t, (0, 0)⟩ :: (r0P0 ++ F))) := by
  unfold m_ring_Ring_Cut at h
  refine sp_of_wc Tryd.func20 rfl Tryd.ntmps20 rfl rfl (fun w0 hR => ?_)
  refine wc_seq (wc_region ?_)
  refine wl_pure tt_ok rfl rfl ?_
  refine wl_nil (wx_then (wc_seq (wc_seq (wc_region ?_))))
  refine wl_pure tt_ok rfl rfl ?_
  replace h := bsome h; obtain ⟨v9, x9, h⟩ := h
  refine wl_cq Tryd.call37 rfl rfl rfl (q_rd (k_ring_Ring_is (p0 := p0) p0G0 p0A0 x9) (pCons Sel.hc (pApp Sel.ha pNil)) (fun _ _ => trivial)) rfl ?_
  refine wl_pure (v := .bool (!v9)) tt_ok rfl rfl ?_
  refine wl_nil (wx_then ?_)
  refine wc_cond rfl (fun hc => ?_) (fun hc => ?_)
  · replace h := ct hc h
    refine wc_seq (wc_region ?_)
    refine wl_pure tt_ok rfl rfl ?_
    refine wl_nil (wx_then (wc_ret (wx_then_ret ?_)))
    simp only [Option.some.injEq, Prod.mk.injEq] at h
    obtain ⟨rfl, rfl⟩ := h
    exact wx_spD tt_ok (.inl rfl) Tryd.results20 (Res.tmp rfl Res.nil) ⟨p0g0, p0P0, p0G0, p0A0, rfl, rfl⟩ (fun F => by simp) (pSub (pCons Sel.hc (pApp Sel.ha pNil)))
  replace h := cf hc h
  refine wc_skip (wx_then (wc_seq (wc_region ?_)))
  refine wl_pure tt_ok rfl rfl ?_
  refine wl_nil (wx_then (wc_seq (wc_seq (wc_region ?_))))
  iterate 2 refine wl_pure tt_ok rfl rfl ?_
  refine wl_pure (v := .pointer (some ⟨p0b, 1, none⟩)) tt_ok rfl rfl ?_
  refine wl_val (v := .agg (flat cg_T_ring_place p0g0 : List Value).toArray) (val_load tt_ok rfl (List.Mem.head _) (partV_arr (enc := cg_T_ring_place) (pre := [.int .i64 p0.size]) (post := []) (xs := p0g0) rfl c_np rfl (arr_len cg_T_ring_place_len (arrg_len p0G0 p0.places.2) rfl))) rfl ?_
  refine wl_pure tt_ok rfl rfl ?_
  refine wl_nil (wx_then (wc_block ?_))
  replace h := bsome h; obtain ⟨⟨l17_5, l17_p0_f1⟩, h, hl17⟩ := h; try dsimp only at hl17
  refine wc_loop (fun m E L => ∃ (j17_5 : Int) (j17_15 : Int) (j17_p0_f1 : (Arr T_ring_place 14)) (j17_p0_f1g0 : List (T_ring_place × G)), m_ring_Ring_Cut_L16 F p0 p1 m j17_5 j17_15 j17_p0_f1 = some (l17_5, l17_p0_f1) ∧ j17_p0_f1.1 = unG j17_p0_f1g0 ∧ AllP sh_T_ring_place c_T_api_Shot p0P0 j17_p0_f1g0 ∧ E = [(0, .pointer (some ⟨p0b, 0, none⟩)), (1, .int .u64 p1), (4, .int .i64 (0 : Int)), (5, .int .i64 j17_5), (14, .agg (flat cg_T_ring_place p0g0 : List Value).toArray), (15, .int .i64 j17_15)] ∧ L = (⟨p0b, ([.int .i64 p0.size] ++ flat cg_T_ring_place j17_p0_f1g0), p0t, (0, 0)⟩ :: (p0P0 ++ []))) F ⟨(0 : Int), (0 : Int), p0.places, p0g0, h, p0G0, p0A0, rfl, rfl⟩ (agree_cons rfl (agree_cons rfl (agree_cons rfl (agree_cons rfl (agree_cons rfl (agree_cons rfl agree_nil)))))) (pSub (pCons Sel.hc (pApp Sel.ha pNil))) ?_
  clear h
  rintro m17 _ _ ⟨j17_5, j17_15, j17_p0_f1, j17_p0_f1g0, h, j17_p0_f1G0, j17_p0_f1A0, rfl, rfl⟩
  rcases m17 with _ | m17
  · rw [m_ring_Ring_Cut_L16.eq_1] at h; cases h
  rw [m_ring_Ring_Cut_L16.eq_2] at h
  refine wc_seq (wc_region ?_)
  refine wl_pure (v := .bool (decide (j17_15 < (14 : Int)))) tt_ok rfl rfl ?_
  refine wl_nil (wx_then (wc_seq ?_))
  refine wc_cond rfl (fun hc => ?_) (fun hc => ?_)
  · replace h := ct hc h
    refine wc_skip (wx_then (wc_seq (wc_block (wc_seq (wc_region ?_)))))
    refine wl_pure tt_ok rfl rfl ?_
    replace h := bsome h; obtain ⟨v18, x18, h⟩ := h
    obtain ⟨G18, y18⟩ := getI_g p0G0 x18
    refine wl_val (v := .agg #[.int .u64 v18.s.Frame, .int .u64 v18.s.Seed, .int .i32 v18.s.Players.1.X, .int .i32 v18.s.Players.1.Y, .int .i32 v18.s.Players.1.VX, .int .i32 v18.s.Players.1.VY, .int .u8 v18.s.Players.1.Health, .int .u8 v18.s.Players.1.Cool, .int .u8 v18.s.Players.1.Face, .int .i32 v18.s.Players.2.X, .int .i32 v18.s.Players.2.Y, .int .i32 v18.s.Players.2.VX, .int .i32 v18.s.Players.2.VY, .int .u8 v18.s.Players.2.Health, .int .u8 v18.s.Players.2.Cool, .int .u8 v18.s.Players.2.Face, .slice G18.1 G18.2.1 G18.2.2, .int .u16 v18.s.Score.1, .int .u16 v18.s.Score.2, .bool v18.is_]) (val_xv (enc := cg_T_ring_place) (xs := p0g0) tt_ok rfl rfl rfl rfl rfl (arrg_len p0G0 p0.places.2) cg_T_ring_place_len y18) rfl ?_
    refine wl_alloc tt_ok rfl rfl (fun b7 => ?_)
    refine wl_pure tt_ok rfl rfl ?_
    apply wl_store tt_ok; rfl; exact Upd.here; rfl; rfl; rfl; rfl; rfl; rfl
    refine wl_nil (wx_then (wc_seq (wc_region ?_)))
    refine wl_pure (v := .pointer (some ⟨b7, 19, none⟩)) tt_ok rfl rfl ?_
    refine wl_val (v := .bool v18.is_) (val_load tt_ok rfl (List.Mem.head _) rfl) rfl ?_
    refine wl_pure tt_ok rfl rfl ?_
    replace h := bsome h; obtain ⟨v27, h, hg27⟩ := h
    refine wl_split (t := 21) rfl (fun hc => ?_) (fun hc => ?_)
    · replace h := ct hc h
      refine wl_run rfl ?_
      refine wl_pure (v := .pointer (some ⟨b7, 0, none⟩)) tt_ok rfl rfl ?_
      refine wl_run rfl ?_
      refine wl_pure (v := .pointer (some ⟨b7, 0, none⟩)) tt_ok rfl rfl ?_
      refine wl_run rfl ?_
      refine wl_val (v := .int .u64 v18.s.Frame) (val_load tt_ok rfl (List.Mem.head _) rfl) rfl ?_
      refine wl_run rfl ?_
      refine wl_pure tt_ok rfl rfl ?_
      refine wl_run rfl ?_
      refine wl_pure (v := .bool (decide (p1 < v18.s.Frame))) tt_ok rfl rfl ?_
      simp only [Option.some.injEq, Prod.mk.injEq] at h
      obtain rfl := h
      have h := hg27; clear hg27
      refine wl_pure (v := .bool (decide (p1 < v18.s.Frame))) tt_ok rfl rfl ?_
      refine wl_nil (wx_then ?_)
      refine wc_cond rfl (fun hc => ?_) (fun hc => ?_)
      · replace h := ct hc h
        refine wc_seq (wc_region ?_)
        iterate 2 refine wl_pure tt_ok rfl rfl ?_
        refine wl_pure (v := .agg #[.int .u64 (0 : Int), .int .u64 (0 : Int), .int .i32 (0 : Int), .int .i32 (0 : Int), .int .i32 (0 : Int), .int .i32 (0 : Int), .int .u8 (0 : Int), .int .u8 (0 : Int), .int .u8 (0 : Int), .int .i32 (0 : Int), .int .i32 (0 : Int), .int .i32 (0 : Int), .int .i32 (0 : Int), .int .u8 (0 : Int), .int .u8 (0 : Int), .int .u8 (0 : Int), .slice none 0 0, .int .u16 (0 : Int), .int .u16 (0 : Int), .bool false]) tt_ok rfl rfl ?_
        refine wl_pure tt_ok rfl rfl ?_
        refine wl_pure (v := .pointer (some ⟨p0b, 1, none⟩)) tt_ok rfl rfl ?_
        replace h := bsome h; obtain ⟨v33, x33, h⟩ := h
        obtain ⟨G33, y33⟩ := getI_g j17_p0_f1G0 x33
        refine wl_val (v := .pointer (some ⟨p0b, 1 + j17_15.toNat * 20 + 0, none⟩)) (val_xa (a := j17_p0_f1) tt_ok rfl rfl rfl rfl x33) rfl ?_
        refine wl_chg0 (chg_stx (enc := cg_T_ring_place) (pre := [.int .i64 p0.size]) (post := []) (xs := j17_p0_f1g0) (y' := ((T_ring_place.mk (T_api_State.mk (0 : Int) (0 : Int) ((T_api_Player.mk (0 : Int) (0 : Int) (0 : Int) (0 : Int) (0 : Int) (0 : Int) (0 : Int)), (T_api_Player.mk (0 : Int) (0 : Int) (0 : Int) (0 : Int) (0 : Int) (0 : Int) (0 : Int))) ([] : List T_api_Shot) ((0 : Int), (0 : Int))) false), (none, 0, 0))) (c' := ([.int .i64 p0.size] ++ flat cg_T_ring_place (setI j17_p0_f1g0 j17_15 ((T_ring_place.mk (T_api_State.mk (0 : Int) (0 : Int) ((T_api_Player.mk (0 : Int) (0 : Int) (0 : Int) (0 : Int) (0 : Int) (0 : Int) (0 : Int)), (T_api_Player.mk (0 : Int) (0 : Int) (0 : Int) (0 : Int) (0 : Int) (0 : Int) (0 : Int))) ([] : List T_api_Shot) ((0 : Int), (0 : Int))) false), (none, 0, 0))))) tt_ok rfl rfl rfl rfl rfl rfl (Upd.there Upd.here) c_np c_np rfl cg_T_ring_place_len y33 rfl (by intro h; cases h)) ?_
        rintro _ _ rfl
        refine wl_nil (wx_then (wc_region ?_))
        refine wl_pure tt_ok rfl rfl ?_
        refine wl_pure (v := .int .i64 (IntKind.wrap .i64 (j17_5 + (1 : Int)))) tt_ok rfl rfl ?_
        refine wl_pure tt_ok rfl rfl ?_
        refine wl_nil (wx_block (wx_then (wc_region ?_)))
        refine wl_pure (v := .int .i64 (IntKind.wrap .i64 (j17_15 + (1 : Int)))) tt_ok rfl rfl ?_
        refine wl_pure tt_ok rfl rfl ?_
        refine wl_nil ?_
        exact wx_round m17 (Nat.lt_succ_self m17) ⟨(IntKind.wrap .i64 (j17_5 + (1 : Int))), (IntKind.wrap .i64 (j17_15 + (1 : Int))), (Arr.set j17_p0_f1 j17_15 (T_ring_place.mk (T_api_State.mk (0 : Int) (0 : Int) ((T_api_Player.mk (0 : Int) (0 : Int) (0 : Int) (0 : Int) (0 : Int) (0 : Int) (0 : Int)), (T_api_Player.mk (0 : Int) (0 : Int) (0 : Int) (0 : Int) (0 : Int) (0 : Int) (0 : Int))) ([] : List T_api_Shot) ((0 : Int), (0 : Int))) false)), (setI j17_p0_f1g0 j17_15 ((T_ring_place.mk (T_api_State.mk (0 : Int) (0 : Int) ((T_api_Player.mk (0 : Int) (0 : Int) (0 : Int) (0 : Int) (0 : Int) (0 : Int) (0 : Int)), (T_api_Player.mk (0 : Int) (0 : Int) (0 : Int) (0 : Int) (0 : Int) (0 : Int) (0 : Int))) ([] : List T_api_Shot) ((0 : Int), (0 : Int))) false), (none, 0, 0))), h, (setI_g j17_p0_f1G0 j17_15 ((T_ring_place.mk (T_api_State.mk (0 : Int) (0 : Int) ((T_api_Player.mk (0 : Int) (0 : Int) (0 : Int) (0 : Int) (0 : Int) (0 : Int) (0 : Int)), (T_api_Player.mk (0 : Int) (0 : Int) (0 : Int) (0 : Int) (0 : Int) (0 : Int) (0 : Int))) ([] : List T_api_Shot) ((0 : Int), (0 : Int))) false), (none, 0, 0))), (fun w A => allrd_set (j17_p0_f1A0 w A) (allrd_one (sh := sh_T_ring_place) (x := (T_ring_place.mk (T_api_State.mk (0 : Int) (0 : Int) ((T_api_Player.mk (0 : Int) (0 : Int) (0 : Int) (0 : Int) (0 : Int) (0 : Int) (0 : Int)), (T_api_Player.mk (0 : Int) (0 : Int) (0 : Int) (0 : Int) (0 : Int) (0 : Int) (0 : Int))) ([] : List T_api_Shot) ((0 : Int), (0 : Int))) false)) (s := ([] : List T_api_Shot)) rfl rfl (Nat.le_refl _) Rds.nil (fun _ => rfl))), rfl, rfl⟩ (agree_cons rfl (agree_cons rfl (agree_cons rfl (agree_cons rfl (agree_cons rfl (agree_cons rfl agree_nil)))))) (pSub (pCons (Sel.sc Sel.hc) (pApp (Sel.sc Sel.ha) pNil)))
      replace h := cf hc h
      refine wc_skip (wx_block (wx_then (wc_region ?_)))
      refine wl_pure (v := .int .i64 (IntKind.wrap .i64 (j17_15 + (1 : Int)))) tt_ok rfl rfl ?_
      refine wl_pure tt_ok rfl rfl ?_
      refine wl_nil ?_
      exact wx_round m17 (Nat.lt_succ_self m17) ⟨j17_5, (IntKind.wrap .i64 (j17_15 + (1 : Int))), j17_p0_f1, j17_p0_f1g0, h, j17_p0_f1G0, j17_p0_f1A0, rfl, rfl⟩ (agree_cons rfl (agree_cons rfl (agree_cons rfl (agree_cons rfl (agree_cons rfl (agree_cons rfl agree_nil)))))) (pSub (pCons (Sel.sc Sel.hc) (pApp (Sel.sc Sel.ha) pNil)))
    replace h := cf hc h
    refine wl_skip rfl rfl ?_
    refine wl_skip rfl rfl ?_
    refine wl_skip rfl rfl ?_
    refine wl_skip rfl rfl ?_
    refine wl_skip rfl rfl ?_
    simp only [Option.some.injEq, Prod.mk.injEq] at h
    obtain rfl := h
    have h := hg27; clear hg27
    refine wl_pure (v := .bool false) tt_ok rfl rfl ?_
    refine wl_nil (wx_then ?_)
    replace h := cf rfl h
    refine wc_cond_false rfl ?_
    refine wc_skip (wx_block (wx_then (wc_region ?_)))
    refine wl_pure (v := .int .i64 (IntKind.wrap .i64 (j17_15 + (1 : Int)))) tt_ok rfl rfl ?_
    refine wl_pure tt_ok rfl rfl ?_
    refine wl_nil ?_
    exact wx_round m17 (Nat.lt_succ_self m17) ⟨j17_5, (IntKind.wrap .i64 (j17_15 + (1 : Int))), j17_p0_f1, j17_p0_f1g0, h, j17_p0_f1G0, j17_p0_f1A0, rfl, rfl⟩ (agree_cons rfl (agree_cons rfl (agree_cons rfl (agree_cons rfl (agree_cons rfl (agree_cons rfl agree_nil)))))) (pSub (pCons (Sel.sc Sel.hc) (pApp (Sel.sc Sel.ha) pNil)))
  replace h := cf hc h
  refine wc_exit (wx_then_exit ?_)
  simp only [Option.some.injEq, Prod.mk.injEq] at h
  obtain ⟨rfl, rfl⟩ := h
  have h := hl17; clear hl17; try dsimp only [orE_l, orE_r] at h
  refine wx_then_exit (wx_block_exit (wx_then (wc_seq (wc_region ?_))))
  iterate 2 refine wl_pure tt_ok rfl rfl ?_
  refine wl_nil (wx_then (wc_ret ?_))
  simp only [Option.some.injEq, Prod.mk.injEq] at h
  obtain ⟨rfl, rfl⟩ := h
  exact wx_spD tt_ok (.inl rfl) Tryd.results20 (Res.tmp rfl Res.nil) ⟨j17_p0_f1g0, p0P0, j17_p0_f1G0, j17_p0_f1A0, rfl, rfl⟩ (fun F => by simp) (pSub (pCons Sel.hc (pApp Sel.ha pNil)))

theorem k_hindcastref25_Ring_Cut {F : Nat} {p0 : T_hindcastref25_Ring} {p0b p0t : Nat} {p0a0 : Option Addr} {p0n0 : Nat} {p0c0 : Nat} {p0B0 : List Blk} {p0g0 : List (T_api_State × G)} {p0P0 : List Blk} {p1 : Int} {r0 : T_hindcastref25_Ring} {r1 : Int} (p0N0 : p0n0 = p0.L.length) (p0V0 : Own 30 19 p0a0 p0n0 p0c0 (flat cg_T_api_State p0g0) p0B0) (p0G0 : p0.L = unG p0g0) (p0A0 : AllP sh_T_api_State c_T_api_Shot p0P0 p0g0) (h : m_hindcastref25_Ring_Cut F p0 p1 = some (r0, r1)) :
    SpD Tryd.prog 47 [.pointer (some ⟨p0b, 0, none⟩), .int .u64 p1] (⟨p0b, [.int .i64 p0.Size, .slice p0a0 p0n0 p0c0], p0t, (0, 0)⟩ :: (p0B0 ++ (p0P0 ++ []))) (fun w => True) (fun v D => ∃ (r0a0 : Option Addr) (r0n0 : Nat) (r0c0 : Nat) (r0B0 : List Blk) (r0g0 : List (T_api_State × G)) (r0P0 : List Blk), r0n0 = r0.L.length ∧ Own 30 19 r0a0 r0n0 r0c0 (flat cg_T_api_State r0g0) r0B0 ∧ r0.L = unG r0g0 ∧ AllP sh_T_api_State c_T_api_Shot r0P0 r0g0 ∧ v = .int .i64 r1 ∧ D = fun F => (⟨p0b, [.int .i64 r0.Size, .slice r0a0 r0n0 r0c0], p0t, (0, 0)⟩ :: (r0B0 ++ (r0P0 ++ F)))) := by
  unfold m_hindcastref25_Ring_Cut at h
  refine sp_of_wc Tryd.func47 rfl Tryd.ntmps47 rfl rfl (fun w0 hR => ?_)
  refine wc_seq (wc_region ?_)
  refine wl_pure tt_ok rfl rfl ?_
  refine wl_nil (wx_then (wc_seq (wc_region ?_)))
  refine wl_pure tt_ok rfl rfl ?_
  refine wl_nil (wx_then (wc_seq (wc_seq (wc_region ?_))))
  refine wl_pure tt_ok rfl rfl ?_
  refine wl_nil (wx_then (wc_block ?_))
  replace h := bsome h; obtain ⟨l9_5, h, hl9⟩ := h
  refine wc_loop (fun m E L => ∃ (j9_5 : (List T_api_State)) (j9_6 : Int) (j9_5a0 : Option Addr) (j9_5n0 : Nat) (j9_5c0 : Nat) (j9_5B0 : List Blk) (j9_5g0 : List (T_api_State × G)), m_hindcastref25_Ring_Cut_L8 F p0 p1 m j9_5 j9_6 = some l9_5 ∧ j9_5n0 = j9_5.length ∧ Own 30 19 j9_5a0 j9_5n0 j9_5c0 (flat cg_T_api_State j9_5g0) j9_5B0 ∧ j9_5 = unG j9_5g0 ∧ AllP sh_T_api_State c_T_api_Shot p0P0 j9_5g0 ∧ E = [(0, .pointer (some ⟨p0b, 0, none⟩)), (1, .int .u64 p1), (4, .int .i64 (0 : Int)), (5, .slice j9_5a0 j9_5n0 j9_5c0), (6, .int .i64 j9_6)] ∧ L = (⟨p0b, [.int .i64 p0.Size, .slice p0a0 p0n0 p0c0], p0t, (0, 0)⟩ :: (p0B0 ++ (p0P0 ++ (j9_5B0 ++ []))))) F ⟨([] : List T_api_State), (0 : Int), none, 0, 0, [], ([] : List (T_api_State × G)), h, rfl, Own.zero, rfl, (fun w A => allrd_weak allrd_nil), rfl, rfl⟩ (agree_cons rfl (agree_cons rfl (agree_cons rfl (agree_cons rfl (agree_cons rfl agree_nil))))) (pSub (pCons Sel.hc (pApp Sel.ha (pApp Sel.ha (pNo pNil))))) ?_
  clear h
  rintro m9 _ _ ⟨j9_5, j9_6, j9_5a0, j9_5n0, j9_5c0, j9_5B0, j9_5g0, h, j9_5N0, j9_5V0, j9_5G0, j9_5A0, rfl, rfl⟩
  rcases m9 with _ | m9
  · rw [m_hindcastref25_Ring_Cut_L8.eq_1] at h; cases h
  rw [m_hindcastref25_Ring_Cut_L8.eq_2] at h
  refine wc_seq (wc_seq (wc_region ?_))
  iterate 3 refine wl_pure tt_ok rfl rfl ?_
  refine wl_pure (v := .pointer (some ⟨p0b, 1, none⟩)) tt_ok rfl rfl ?_
  refine wl_val (v := .slice p0a0 p0n0 p0c0) (val_load tt_ok rfl (List.Mem.head _) rfl) rfl ?_
  refine wl_val (v := .int .i64 (p0.L.length : Int)) (val_len tt_ok rfl rfl p0N0) rfl ?_
  refine wl_pure (v := .bool (decide (j9_6 < (p0.L.length : Int)))) tt_ok rfl rfl ?_
  refine wl_nil (wx_then ?_)
  refine wc_cond rfl (fun hc => ?_) (fun hc => ?_)
  · replace h := ct hc h
    refine wc_skip (wx_then (wc_seq (wc_block (wc_seq (wc_region ?_)))))
    iterate 2 refine wl_pure tt_ok rfl rfl ?_
    refine wl_pure (v := .pointer (some ⟨p0b, 1, none⟩)) tt_ok rfl rfl ?_
    refine wl_val (v := .slice p0a0 p0n0 p0c0) (val_load tt_ok rfl (List.Mem.head _) rfl) rfl ?_
    refine wl_pure tt_ok rfl rfl ?_
    replace h := bsome h; obtain ⟨v22, x22, h⟩ := h
    obtain ⟨G22, y22⟩ := getI_g p0G0 x22
    refine wl_val (v := .pointer (some ((adOf p0a0).add (j9_6.toNat * 19 + 0)))) (val_ix (enc := cg_T_api_State) tt_ok rfl rfl rfl rfl (len_g p0N0 p0G0) (Rds.of_vec p0V0) cg_T_api_State_len rfl y22) rfl ?_
    refine wl_val (v := .pointer (some ((adOf p0a0).add (j9_6.toNat * 19 + 0)))) (val_fa (k := j9_6.toNat * 19 + 0) (off := 0) tt_ok rfl rfl rfl rfl rfl) rfl ?_
    refine wl_val (v := .int .u64 v22.Frame) (val_le (enc := cg_T_api_State) (xs := p0g0) tt_ok rfl (Rds.of_vec p0V0) ⟨_, (Sel.sc Sel.ha)⟩ cg_T_api_State_len y22 rfl) rfl ?_
    refine wl_pure tt_ok rfl rfl ?_
    refine wl_pure (v := .bool (decide (v22.Frame ≤ p1))) tt_ok rfl rfl ?_
    refine wl_nil (wx_then ?_)
    refine wc_cond rfl (fun hc => ?_) (fun hc => ?_)
    · replace h := ct hc h
      refine wc_region ?_
      iterate 3 refine wl_pure tt_ok rfl rfl ?_
      refine wl_pure (v := .pointer (some ⟨p0b, 1, none⟩)) tt_ok rfl rfl ?_
      refine wl_val (v := .slice p0a0 p0n0 p0c0) (val_load tt_ok rfl (List.Mem.head _) rfl) rfl ?_
      refine wl_pure tt_ok rfl rfl ?_
      replace h := bsome h; obtain ⟨v33, x33, h⟩ := h
      obtain ⟨G33, y33⟩ := getI_g p0G0 x33
      refine wl_val (v := .pointer (some ((adOf p0a0).add (j9_6.toNat * 19 + 0)))) (val_ix (enc := cg_T_api_State) tt_ok rfl rfl rfl rfl (len_g p0N0 p0G0) (Rds.of_vec p0V0) cg_T_api_State_len rfl y33) rfl ?_
      refine wl_val (v := .agg #[.int .u64 v33.Frame, .int .u64 v33.Seed, .int .i32 v33.Players.1.X, .int .i32 v33.Players.1.Y, .int .i32 v33.Players.1.VX, .int .i32 v33.Players.1.VY, .int .u8 v33.Players.1.Health, .int .u8 v33.Players.1.Cool, .int .u8 v33.Players.1.Face, .int .i32 v33.Players.2.X, .int .i32 v33.Players.2.Y, .int .i32 v33.Players.2.VX, .int .i32 v33.Players.2.VY, .int .u8 v33.Players.2.Health, .int .u8 v33.Players.2.Cool, .int .u8 v33.Players.2.Face, .slice G33.1 G33.2.1 G33.2.2, .int .u16 v33.Score.1, .int .u16 v33.Score.2]) (val_le (enc := cg_T_api_State) (xs := p0g0) tt_ok rfl (Rds.of_vec p0V0) ⟨_, (Sel.sc Sel.ha)⟩ cg_T_api_State_len y33 rfl) rfl ?_
      refine wl_chg (chg_bsv (enc := cg_T_api_State) (xs := ([(v33, (G33.1, G33.2.1, G33.2.2))] : List (T_api_State × G))) tt_ok rfl rfl rfl rfl rfl rfl rfl rfl cg_T_api_State_len) rfl ?_
      rintro _ _ ⟨a35, n35_, c35, B35, rfl, N35, V35, rfl⟩
      replace h := bsome h; obtain ⟨v36, x36, h⟩ := h
      refine wl_chg (chg_app (enc := cg_T_api_State) (ys := ([(v33, (G33.1, G33.2.1, G33.2.2))] : List (T_api_State × G))) tt_ok rfl rfl rfl rfl rfl rfl (len_g j9_5N0 j9_5G0) (len_g N35 rfl) j9_5V0 (Sel.sa (Sel.sc (Sel.sa (Sel.sa Sel.ha)))) (Rds.of_vec V35) ⟨_, Sel.ha⟩ cg_T_api_State_len (fun _ => rfl) rfl (app_g (l := j9_5g0) (m := ([(v33, (G33.1, G33.2.1, G33.2.2))] : List (T_api_State × G))) j9_5G0 rfl x36).1) rfl ?_
      rintro _ _ ⟨a36, n36_, c36, B36, rfl, N36, V36, rfl⟩
      refine wl_pure tt_ok rfl rfl ?_
      refine wl_nil (wx_block (wx_then (wc_region ?_)))
      refine wl_pure tt_ok rfl rfl ?_
      refine wl_pure (v := .int .i64 (IntKind.wrap .i64 (j9_6 + (1 : Int)))) tt_ok rfl rfl ?_
      refine wl_pure tt_ok rfl rfl ?_
      refine wl_nil ?_
      exact wx_round m9 (Nat.lt_succ_self m9) ⟨v36, (IntKind.wrap .i64 (j9_6 + (1 : Int))), a36, n36_, c36, B36, (j9_5g0 ++ ([(v33, (G33.1, G33.2.1, G33.2.2))] : List (T_api_State × G))), h, (appn_g (app_g (l := j9_5g0) (m := ([(v33, (G33.1, G33.2.1, G33.2.2))] : List (T_api_State × G))) j9_5G0 rfl x36).2 N36), V36, (app_g (l := j9_5g0) (m := ([(v33, (G33.1, G33.2.1, G33.2.2))] : List (T_api_State × G))) j9_5G0 rfl x36).2, (fun w A => (allrd_app (j9_5A0 w A) (allrd_one (sh := sh_T_api_State) (x := v33) (s := v33.Shots) rfl (allrd_get (p0A0 w0 (ids (⟨p0b, [.int .i64 p0.Size, .slice p0a0 p0n0 p0c0], p0t, (0, 0)⟩ :: (p0B0 ++ (p0P0 ++ []))))) y33).1 (allrd_get (p0A0 w0 (ids (⟨p0b, [.int .i64 p0.Size, .slice p0a0 p0n0 p0c0], p0t, (0, 0)⟩ :: (p0B0 ++ (p0P0 ++ []))))) y33).2.1 ((allrd_get (p0A0 w A) y33).2.2.1) (allrd_get (p0A0 w0 (ids (⟨p0b, [.int .i64 p0.Size, .slice p0a0 p0n0 p0c0], p0t, (0, 0)⟩ :: (p0B0 ++ (p0P0 ++ []))))) y33).2.2.2))), rfl, rfl⟩ (agree_cons rfl (agree_cons rfl (agree_cons rfl (agree_cons rfl (agree_cons rfl agree_nil))))) (pSub (pCons (Sel.sa (Sel.sa Sel.hc)) (pApp (Sel.sa (Sel.sa Sel.ha)) (pApp (Sel.sa (Sel.sa Sel.ha)) (pApp Sel.ha pNil)))))
    replace h := cf hc h
    refine wc_skip (wx_block (wx_then (wc_region ?_)))
    refine wl_pure tt_ok rfl rfl ?_
    refine wl_pure (v := .int .i64 (IntKind.wrap .i64 (j9_6 + (1 : Int)))) tt_ok rfl rfl ?_
    refine wl_pure tt_ok rfl rfl ?_
    refine wl_nil ?_
    exact wx_round m9 (Nat.lt_succ_self m9) ⟨j9_5, (IntKind.wrap .i64 (j9_6 + (1 : Int))), j9_5a0, j9_5n0, j9_5c0, j9_5B0, j9_5g0, h, j9_5N0, j9_5V0, j9_5G0, j9_5A0, rfl, rfl⟩ (agree_cons rfl (agree_cons rfl (agree_cons rfl (agree_cons rfl (agree_cons rfl agree_nil))))) (pSub (pCons Sel.hc (pApp Sel.ha (pApp Sel.ha (pApp Sel.ha pNil)))))
  replace h := cf hc h
  refine wc_exit (wx_then_exit ?_)
  simp only [Option.some.injEq] at h
  obtain rfl := h
  have h := hl9; clear hl9; try dsimp only [orE_l, orE_r] at h
  refine wx_then_exit (wx_block_exit (wx_then (wc_seq (wc_region ?_))))
  iterate 2 refine wl_pure tt_ok rfl rfl ?_
  refine wl_pure (v := .pointer (some ⟨p0b, 1, none⟩)) tt_ok rfl rfl ?_
  refine wl_val (v := .slice p0a0 p0n0 p0c0) (val_load tt_ok rfl (List.Mem.head _) rfl) rfl ?_
  refine wl_val (v := .int .i64 (p0.L.length : Int)) (val_len tt_ok rfl rfl p0N0) rfl ?_
  refine wl_pure tt_ok rfl rfl ?_
  refine wl_val (v := .int .i64 (j9_5.length : Int)) (val_len tt_ok rfl rfl j9_5N0) rfl ?_
  refine wl_pure (v := .int .i64 (IntKind.wrap .i64 ((p0.L.length : Int) - (j9_5.length : Int)))) tt_ok rfl rfl ?_
  refine wl_pure tt_ok rfl rfl ?_
  refine wl_nil (wx_then (wc_seq (wc_region ?_)))
  iterate 3 refine wl_pure tt_ok rfl rfl ?_
  refine wl_pure (v := .pointer (some ⟨p0b, 1, none⟩)) tt_ok rfl rfl ?_
  apply wl_store tt_ok; rfl; exact Upd.here; rfl; rfl; rfl; rfl; rfl; rfl
  refine wl_nil (wx_then (wc_seq (wc_region ?_)))
  iterate 2 refine wl_pure tt_ok rfl rfl ?_
  refine wl_nil (wx_then (wc_ret ?_))
  simp only [Option.some.injEq, Prod.mk.injEq] at h
  obtain ⟨rfl, rfl⟩ := h
  exact wx_spD tt_ok (.inl rfl) Tryd.results47 (Res.tmp rfl Res.nil) ⟨j9_5a0, j9_5n0, j9_5c0, j9_5B0, j9_5g0, p0P0, j9_5N0, j9_5V0, j9_5G0, j9_5A0, rfl, rfl⟩ (fun F => by simp) (pSub (pCons Sel.hc (pApp (Sel.sa (Sel.sa Sel.ha)) (pApp (Sel.sa Sel.ha) pNil))))

end Go.Proofs.YtbbkblolaficdaaDoor
