/-
  Each function computes what its model says. Printed by a program of this claim's own.
-/
import Derived.Test.YtgbhpchaalheeaaDoorTab
import Derived.Test.YtgbhpchaalheeaaDoorMod
import Derived.Test.YtgbhpchaalheeaaDoorWalk2
namespace Go.Proofs.YtgbhpchaalheeaaDoor
open Go.Proofs.YtgbhpchaalheeaaDoor.Eng
set_option linter.unusedVariables false
set_option linter.unusedSimpArgs false
set_option maxHeartbeats 4000000
set_option maxRecDepth 20000

theorem k_hindcastlaw09_StepRight {F : Nat} {p0 : T_api_State} {p0a0 : Option Addr} {p0n0 p0c0 : Nat} {p1 : (Int × Int)} {r0 : Bool} (p0N0 : p0n0 = p0.Shots.length) (p0H0 : p0n0 ≤ p0c0) (h : m_hindcastlaw09_StepRight F p0 p1 = some r0) :
    Pf Tryd.prog 7 [.agg #[.int .u64 p0.Frame, .int .u64 p0.Seed, .int .i32 p0.Players.1.X, .int .i32 p0.Players.1.Y, .int .i32 p0.Players.1.VX, .int .i32 p0.Players.1.VY, .int .u8 p0.Players.1.Health, .int .u8 p0.Players.1.Cool, .int .u8 p0.Players.1.Face, .int .i32 p0.Players.2.X, .int .i32 p0.Players.2.Y, .int .i32 p0.Players.2.VX, .int .i32 p0.Players.2.VY, .int .u8 p0.Players.2.Health, .int .u8 p0.Players.2.Cool, .int .u8 p0.Players.2.Face, .slice p0a0 p0n0 p0c0, .int .u16 p0.Score.1, .int .u16 p0.Score.2], .agg #[.int .u8 p1.1, .int .u8 p1.2]] (fun w => Rds w [] [] p0a0 (flat c_T_api_Shot p0.Shots) ∧ Rds w [] [] (some ⟨0, 0, none⟩) (flat (fun _ : Unit => gl_state_playerBounds) [()]) ∧ Rds w [] [] (some ⟨1, 0, none⟩) (flat (fun _ : Unit => gl_state_shotBounds) [()])) (.bool r0) := by
  unfold m_hindcastlaw09_StepRight at h
  refine pf_of_wc Tryd.func7 rfl Tryd.ntmps7 rfl rfl (fun w0 hR => ?_)
  obtain ⟨p0S0, G0S, G1S⟩ := hR
  refine wc_seq ?_
  refine wc_region ?_
  refine wl_box rfl rfl rfl (fun b2 => ?_)
  refine wl_box rfl rfl rfl (fun b3 => ?_)
  refine wl_pure tt_ok rfl rfl ?_
  refine wl_nil ?_
  refine wx_then ?_
  refine wc_seq ?_
  refine wc_seq ?_
  refine wc_region ?_
  refine wl_pure (v := .pointer (some ⟨b2, 16, none⟩)) tt_ok rfl rfl ?_
  refine wl_val (v := .slice p0a0 p0n0 p0c0) (val_load tt_ok rfl (List.Mem.tail _ (List.Mem.head _)) rfl) rfl ?_
  refine wl_val (v := .int .i64 (p0.Shots.length : Int)) (val_len tt_ok rfl rfl p0N0) rfl ?_
  refine wl_pure (v := .bool (decide ((100 : Int) < (p0.Shots.length : Int)))) tt_ok rfl rfl ?_
  refine wl_nil ?_
  refine wx_then ?_
  refine wc_cond rfl (fun hc => ?_) (fun hc => ?_)
  · replace h := ct hc h
    refine wc_seq ?_
    refine wc_region ?_
    replace h := bsome h; obtain ⟨v14, x14, h⟩ := h
    refine wl_cq Tryd.call8 rfl rfl rfl (q_pf (k_hindcastlaw09_awake x14) (fun w hI => ⟨(Rds.call G0S pNil rsub_nil) w hI, (Rds.call G1S pNil rsub_nil) w hI⟩)) rfl ?_
    refine wl_pure tt_ok rfl rfl ?_
    refine wl_nil ?_
    refine wx_then ?_
    refine wc_ret ?_
    refine wx_then_ret ?_
    simp only [Option.some.injEq] at h
    obtain rfl := h
    exact wx_pf tt_ok (.inl rfl) Tryd.results7 (Res.tmp rfl Res.nil) rfl
  replace h := cf hc h
  refine wc_skip ?_
  refine wx_then ?_
  refine wc_seq ?_
  refine wc_region ?_
  refine wl_val (v := .agg #[.int .u64 p0.Frame, .int .u64 p0.Seed, .int .i32 p0.Players.1.X, .int .i32 p0.Players.1.Y, .int .i32 p0.Players.1.VX, .int .i32 p0.Players.1.VY, .int .u8 p0.Players.1.Health, .int .u8 p0.Players.1.Cool, .int .u8 p0.Players.1.Face, .int .i32 p0.Players.2.X, .int .i32 p0.Players.2.Y, .int .i32 p0.Players.2.VX, .int .i32 p0.Players.2.VY, .int .u8 p0.Players.2.Health, .int .u8 p0.Players.2.Cool, .int .u8 p0.Players.2.Face, .slice p0a0 p0n0 p0c0, .int .u16 p0.Score.1, .int .u16 p0.Score.2]) (val_load tt_ok rfl (List.Mem.tail _ (List.Mem.head _)) rfl) rfl ?_
  refine wl_val (v := .agg #[.int .u8 p1.1, .int .u8 p1.2]) (val_load tt_ok rfl (List.Mem.head _) rfl) rfl ?_
  replace h := bsome h; obtain ⟨v17, x17, h⟩ := h
  refine wl_cs Tryd.call10 rfl rfl rfl (s_sp (k_step_Step (p0 := p0) p0N0 p0H0 x17) pNil (fun w hI => ⟨(Rds.call p0S0 pNil rsub_nil) w hI, (Rds.call G0S pNil rsub_nil) w hI, (Rds.call G1S pNil rsub_nil) w hI⟩)) rfl ?_
  rintro _ _ ⟨_, ⟨v17a0, v17n0, v17c0, v17B0, v17N0, v17V0, rfl, rfl⟩, rfl⟩
  refine wl_alloc tt_ok rfl rfl (fun b5 => ?_)
  apply wl_store tt_ok; rfl; exact Upd.here; rfl; rfl; rfl; rfl; rfl; rfl
  refine wl_nil ?_
  refine wx_then ?_
  refine wc_seq ?_
  refine wc_seq ?_
  refine wc_region ?_
  refine wl_val (v := .agg #[.int .u64 p0.Frame, .int .u64 p0.Seed, .int .i32 p0.Players.1.X, .int .i32 p0.Players.1.Y, .int .i32 p0.Players.1.VX, .int .i32 p0.Players.1.VY, .int .u8 p0.Players.1.Health, .int .u8 p0.Players.1.Cool, .int .u8 p0.Players.1.Face, .int .i32 p0.Players.2.X, .int .i32 p0.Players.2.Y, .int .i32 p0.Players.2.VX, .int .i32 p0.Players.2.VY, .int .u8 p0.Players.2.Health, .int .u8 p0.Players.2.Cool, .int .u8 p0.Players.2.Face, .slice p0a0 p0n0 p0c0, .int .u16 p0.Score.1, .int .u16 p0.Score.2]) (val_load tt_ok rfl (List.Mem.tail _ (mR (List.Mem.tail _ (List.Mem.head _)))) rfl) rfl ?_
  replace h := bsome h; obtain ⟨v19, x19, h⟩ := h
  refine wl_cq Tryd.call14 rfl rfl rfl (q_pf (k_state_Check (p0 := p0) p0N0 p0H0 x19) (fun w hI => ⟨(Rds.call p0S0 pNil rsub_nil) w hI, (Rds.call G0S pNil rsub_nil) w hI, (Rds.call G1S pNil rsub_nil) w hI⟩)) rfl ?_
  refine wl_pure (v := .bool (v19 != (0 : Int))) tt_ok rfl rfl ?_
  refine wl_pure tt_ok rfl rfl ?_
  replace h := bsome h; obtain ⟨v25, h, hg25⟩ := h
  refine wl_split (t := 21) rfl (fun hc => ?_) (fun hc => ?_)
  · replace h := ct hc h
    refine wl_skip rfl rfl ?_
    refine wl_skip rfl rfl ?_
    refine wl_skip rfl rfl ?_
    simp only [Option.some.injEq, Prod.mk.injEq] at h
    obtain rfl := h
    have h := hg25; clear hg25
    refine wl_pure (v := .bool true) tt_ok rfl rfl ?_
    refine wl_pure tt_ok rfl rfl ?_
    replace h := bsome h; obtain ⟨v30, h, hg30⟩ := h
    replace h := ct rfl h
    refine wl_skip rfl rfl ?_
    refine wl_skip rfl rfl ?_
    refine wl_skip rfl rfl ?_
    simp only [Option.some.injEq, Prod.mk.injEq] at h
    obtain rfl := h
    have h := hg30; clear hg30
    refine wl_pure (v := .bool true) tt_ok rfl rfl ?_
    refine wl_nil ?_
    refine wx_then ?_
    replace h := ct rfl h
    refine wc_cond_true rfl ?_
    refine wc_seq ?_
    refine wc_region ?_
    refine wl_val (v := .agg #[.int .u64 p0.Frame, .int .u64 p0.Seed, .int .i32 p0.Players.1.X, .int .i32 p0.Players.1.Y, .int .i32 p0.Players.1.VX, .int .i32 p0.Players.1.VY, .int .u8 p0.Players.1.Health, .int .u8 p0.Players.1.Cool, .int .u8 p0.Players.1.Face, .int .i32 p0.Players.2.X, .int .i32 p0.Players.2.Y, .int .i32 p0.Players.2.VX, .int .i32 p0.Players.2.VY, .int .u8 p0.Players.2.Health, .int .u8 p0.Players.2.Cool, .int .u8 p0.Players.2.Face, .slice p0a0 p0n0 p0c0, .int .u16 p0.Score.1, .int .u16 p0.Score.2]) (val_load tt_ok rfl (List.Mem.tail _ (mR (List.Mem.tail _ (List.Mem.head _)))) rfl) rfl ?_
    refine wl_val (v := .agg #[.int .u64 v17.Frame, .int .u64 v17.Seed, .int .i32 v17.Players.1.X, .int .i32 v17.Players.1.Y, .int .i32 v17.Players.1.VX, .int .i32 v17.Players.1.VY, .int .u8 v17.Players.1.Health, .int .u8 v17.Players.1.Cool, .int .u8 v17.Players.1.Face, .int .i32 v17.Players.2.X, .int .i32 v17.Players.2.Y, .int .i32 v17.Players.2.VX, .int .i32 v17.Players.2.VY, .int .u8 v17.Players.2.Health, .int .u8 v17.Players.2.Cool, .int .u8 v17.Players.2.Face, .slice v17a0 v17n0 v17c0, .int .u16 v17.Score.1, .int .u16 v17.Score.2]) (val_load tt_ok rfl (List.Mem.head _) rfl) rfl ?_
    replace h := bsome h; obtain ⟨v33, x33, h⟩ := h
    refine wl_cq Tryd.call16 rfl rfl rfl (q_pf (k_state_Same (p0 := p0) (p1 := v17) p0N0 p0H0 v17N0 (vec_cap v17V0) x33) (fun w hI => ⟨(Rds.call p0S0 pNil rsub_nil) w hI, (Rds.call (Rds.of_vec v17V0) pNil ⟨_, (Sel.sc Sel.ha)⟩) w hI⟩)) rfl ?_
    refine wl_pure tt_ok rfl rfl ?_
    replace h := bsome h; obtain ⟨v36, h, hg36⟩ := h
    refine wl_split (t := 34) rfl (fun hc => ?_) (fun hc => ?_)
    · replace h := ct hc h
      replace h := bsome h; obtain ⟨v35, x35, h⟩ := h
      refine wl_run rfl ?_
      refine wl_cq Tryd.call8 rfl rfl rfl (q_pf (k_hindcastlaw09_awake x35) (fun w hI => ⟨(Rds.call G0S pNil rsub_nil) w hI, (Rds.call G1S pNil rsub_nil) w hI⟩)) rfl ?_
      simp only [Option.some.injEq, Prod.mk.injEq] at h
      obtain rfl := h
      have h := hg36; clear hg36
      refine wl_pure (v := .bool v35) tt_ok rfl rfl ?_
      refine wl_pure tt_ok rfl rfl ?_
      refine wl_nil ?_
      refine wx_then ?_
      refine wc_ret ?_
      refine wx_then_ret ?_
      simp only [Option.some.injEq] at h
      obtain rfl := h
      exact wx_pf tt_ok (.inl rfl) Tryd.results7 (Res.tmp rfl Res.nil) rfl
    replace h := cf hc h
    refine wl_skip rfl rfl ?_
    simp only [Option.some.injEq, Prod.mk.injEq] at h
    obtain rfl := h
    have h := hg36; clear hg36
    refine wl_pure (v := .bool false) tt_ok rfl rfl ?_
    refine wl_pure tt_ok rfl rfl ?_
    refine wl_nil ?_
    refine wx_then ?_
    refine wc_ret ?_
    refine wx_then_ret ?_
    simp only [Option.some.injEq] at h
    obtain rfl := h
    exact wx_pf tt_ok (.inl rfl) Tryd.results7 (Res.tmp rfl Res.nil) rfl
  replace h := cf hc h
  refine wl_run rfl ?_
  refine wl_val (v := .pointer (some ⟨b3, 0, none⟩)) (val_ia (j := 0) tt_ok rfl rfl rfl rfl rfl rfl rfl) rfl ?_
  refine wl_run rfl ?_
  refine wl_val (v := .int .u8 p1.1) (val_load tt_ok rfl (List.Mem.tail _ (mR (List.Mem.head _))) rfl) rfl ?_
  refine wl_run rfl ?_
  refine wl_pure (v := .bool (decide ((63 : Int) < p1.1))) tt_ok rfl rfl ?_
  simp only [Option.some.injEq, Prod.mk.injEq] at h
  obtain rfl := h
  have h := hg25; clear hg25
  refine wl_pure (v := .bool (decide ((63 : Int) < p1.1))) tt_ok rfl rfl ?_
  refine wl_pure tt_ok rfl rfl ?_
  replace h := bsome h; obtain ⟨v30, h, hg30⟩ := h
  refine wl_split (t := 26) rfl (fun hc => ?_) (fun hc => ?_)
  · replace h := ct hc h
    refine wl_skip rfl rfl ?_
    refine wl_skip rfl rfl ?_
    refine wl_skip rfl rfl ?_
    simp only [Option.some.injEq, Prod.mk.injEq] at h
    obtain rfl := h
    have h := hg30; clear hg30
    refine wl_pure (v := .bool true) tt_ok rfl rfl ?_
    refine wl_nil ?_
    refine wx_then ?_
    replace h := ct rfl h
    refine wc_cond_true rfl ?_
    refine wc_seq ?_
    refine wc_region ?_
    refine wl_val (v := .agg #[.int .u64 p0.Frame, .int .u64 p0.Seed, .int .i32 p0.Players.1.X, .int .i32 p0.Players.1.Y, .int .i32 p0.Players.1.VX, .int .i32 p0.Players.1.VY, .int .u8 p0.Players.1.Health, .int .u8 p0.Players.1.Cool, .int .u8 p0.Players.1.Face, .int .i32 p0.Players.2.X, .int .i32 p0.Players.2.Y, .int .i32 p0.Players.2.VX, .int .i32 p0.Players.2.VY, .int .u8 p0.Players.2.Health, .int .u8 p0.Players.2.Cool, .int .u8 p0.Players.2.Face, .slice p0a0 p0n0 p0c0, .int .u16 p0.Score.1, .int .u16 p0.Score.2]) (val_load tt_ok rfl (List.Mem.tail _ (mR (List.Mem.tail _ (List.Mem.head _)))) rfl) rfl ?_
    refine wl_val (v := .agg #[.int .u64 v17.Frame, .int .u64 v17.Seed, .int .i32 v17.Players.1.X, .int .i32 v17.Players.1.Y, .int .i32 v17.Players.1.VX, .int .i32 v17.Players.1.VY, .int .u8 v17.Players.1.Health, .int .u8 v17.Players.1.Cool, .int .u8 v17.Players.1.Face, .int .i32 v17.Players.2.X, .int .i32 v17.Players.2.Y, .int .i32 v17.Players.2.VX, .int .i32 v17.Players.2.VY, .int .u8 v17.Players.2.Health, .int .u8 v17.Players.2.Cool, .int .u8 v17.Players.2.Face, .slice v17a0 v17n0 v17c0, .int .u16 v17.Score.1, .int .u16 v17.Score.2]) (val_load tt_ok rfl (List.Mem.head _) rfl) rfl ?_
    replace h := bsome h; obtain ⟨v33, x33, h⟩ := h
    refine wl_cq Tryd.call16 rfl rfl rfl (q_pf (k_state_Same (p0 := p0) (p1 := v17) p0N0 p0H0 v17N0 (vec_cap v17V0) x33) (fun w hI => ⟨(Rds.call p0S0 pNil rsub_nil) w hI, (Rds.call (Rds.of_vec v17V0) pNil ⟨_, (Sel.sc Sel.ha)⟩) w hI⟩)) rfl ?_
    refine wl_pure tt_ok rfl rfl ?_
    replace h := bsome h; obtain ⟨v36, h, hg36⟩ := h
    refine wl_split (t := 34) rfl (fun hc => ?_) (fun hc => ?_)
    · replace h := ct hc h
      replace h := bsome h; obtain ⟨v35, x35, h⟩ := h
      refine wl_run rfl ?_
      refine wl_cq Tryd.call8 rfl rfl rfl (q_pf (k_hindcastlaw09_awake x35) (fun w hI => ⟨(Rds.call G0S pNil rsub_nil) w hI, (Rds.call G1S pNil rsub_nil) w hI⟩)) rfl ?_
      simp only [Option.some.injEq, Prod.mk.injEq] at h
      obtain rfl := h
      have h := hg36; clear hg36
      refine wl_pure (v := .bool v35) tt_ok rfl rfl ?_
      refine wl_pure tt_ok rfl rfl ?_
      refine wl_nil ?_
      refine wx_then ?_
      refine wc_ret ?_
      refine wx_then_ret ?_
      simp only [Option.some.injEq] at h
      obtain rfl := h
      exact wx_pf tt_ok (.inl rfl) Tryd.results7 (Res.tmp rfl Res.nil) rfl
    replace h := cf hc h
    refine wl_skip rfl rfl ?_
    simp only [Option.some.injEq, Prod.mk.injEq] at h
    obtain rfl := h
    have h := hg36; clear hg36
    refine wl_pure (v := .bool false) tt_ok rfl rfl ?_
    refine wl_pure tt_ok rfl rfl ?_
    refine wl_nil ?_
    refine wx_then ?_
    refine wc_ret ?_
    refine wx_then_ret ?_
    simp only [Option.some.injEq] at h
    obtain rfl := h
    exact wx_pf tt_ok (.inl rfl) Tryd.results7 (Res.tmp rfl Res.nil) rfl
  replace h := cf hc h
  refine wl_run rfl ?_
  refine wl_val (v := .pointer (some ⟨b3, 1, none⟩)) (val_ia (j := 1) tt_ok rfl rfl rfl rfl rfl rfl rfl) rfl ?_
  refine wl_run rfl ?_
  refine wl_val (v := .int .u8 p1.2) (val_load tt_ok rfl (List.Mem.tail _ (mR (List.Mem.head _))) rfl) rfl ?_
  refine wl_run rfl ?_
  refine wl_pure (v := .bool (decide ((63 : Int) < p1.2))) tt_ok rfl rfl ?_
  simp only [Option.some.injEq, Prod.mk.injEq] at h
  obtain rfl := h
  have h := hg30; clear hg30
  refine wl_pure (v := .bool (decide ((63 : Int) < p1.2))) tt_ok rfl rfl ?_
  refine wl_nil ?_
  refine wx_then ?_
  refine wc_cond rfl (fun hc => ?_) (fun hc => ?_)
  · replace h := ct hc h
    refine wc_seq ?_
    refine wc_region ?_
    refine wl_val (v := .agg #[.int .u64 p0.Frame, .int .u64 p0.Seed, .int .i32 p0.Players.1.X, .int .i32 p0.Players.1.Y, .int .i32 p0.Players.1.VX, .int .i32 p0.Players.1.VY, .int .u8 p0.Players.1.Health, .int .u8 p0.Players.1.Cool, .int .u8 p0.Players.1.Face, .int .i32 p0.Players.2.X, .int .i32 p0.Players.2.Y, .int .i32 p0.Players.2.VX, .int .i32 p0.Players.2.VY, .int .u8 p0.Players.2.Health, .int .u8 p0.Players.2.Cool, .int .u8 p0.Players.2.Face, .slice p0a0 p0n0 p0c0, .int .u16 p0.Score.1, .int .u16 p0.Score.2]) (val_load tt_ok rfl (List.Mem.tail _ (mR (List.Mem.tail _ (List.Mem.head _)))) rfl) rfl ?_
    refine wl_val (v := .agg #[.int .u64 v17.Frame, .int .u64 v17.Seed, .int .i32 v17.Players.1.X, .int .i32 v17.Players.1.Y, .int .i32 v17.Players.1.VX, .int .i32 v17.Players.1.VY, .int .u8 v17.Players.1.Health, .int .u8 v17.Players.1.Cool, .int .u8 v17.Players.1.Face, .int .i32 v17.Players.2.X, .int .i32 v17.Players.2.Y, .int .i32 v17.Players.2.VX, .int .i32 v17.Players.2.VY, .int .u8 v17.Players.2.Health, .int .u8 v17.Players.2.Cool, .int .u8 v17.Players.2.Face, .slice v17a0 v17n0 v17c0, .int .u16 v17.Score.1, .int .u16 v17.Score.2]) (val_load tt_ok rfl (List.Mem.head _) rfl) rfl ?_
    replace h := bsome h; obtain ⟨v33, x33, h⟩ := h
    refine wl_cq Tryd.call16 rfl rfl rfl (q_pf (k_state_Same (p0 := p0) (p1 := v17) p0N0 p0H0 v17N0 (vec_cap v17V0) x33) (fun w hI => ⟨(Rds.call p0S0 pNil rsub_nil) w hI, (Rds.call (Rds.of_vec v17V0) pNil ⟨_, (Sel.sc Sel.ha)⟩) w hI⟩)) rfl ?_
    refine wl_pure tt_ok rfl rfl ?_
    replace h := bsome h; obtain ⟨v36, h, hg36⟩ := h
    refine wl_split (t := 34) rfl (fun hc => ?_) (fun hc => ?_)
    · replace h := ct hc h
      replace h := bsome h; obtain ⟨v35, x35, h⟩ := h
      refine wl_run rfl ?_
      refine wl_cq Tryd.call8 rfl rfl rfl (q_pf (k_hindcastlaw09_awake x35) (fun w hI => ⟨(Rds.call G0S pNil rsub_nil) w hI, (Rds.call G1S pNil rsub_nil) w hI⟩)) rfl ?_
      simp only [Option.some.injEq, Prod.mk.injEq] at h
      obtain rfl := h
      have h := hg36; clear hg36
      refine wl_pure (v := .bool v35) tt_ok rfl rfl ?_
      refine wl_pure tt_ok rfl rfl ?_
      refine wl_nil ?_
      refine wx_then ?_
      refine wc_ret ?_
      refine wx_then_ret ?_
      simp only [Option.some.injEq] at h
      obtain rfl := h
      exact wx_pf tt_ok (.inl rfl) Tryd.results7 (Res.tmp rfl Res.nil) rfl
    replace h := cf hc h
    refine wl_skip rfl rfl ?_
    simp only [Option.some.injEq, Prod.mk.injEq] at h
    obtain rfl := h
    have h := hg36; clear hg36
    refine wl_pure (v := .bool false) tt_ok rfl rfl ?_
    refine wl_pure tt_ok rfl rfl ?_
    refine wl_nil ?_
    refine wx_then ?_
    refine wc_ret ?_
    refine wx_then_ret ?_
    simp only [Option.some.injEq] at h
    obtain rfl := h
    exact wx_pf tt_ok (.inl rfl) Tryd.results7 (Res.tmp rfl Res.nil) rfl
  replace h := cf hc h
  refine wc_skip ?_
  refine wx_then ?_
  refine wc_seq ?_
  refine wc_seq ?_
  refine wc_region ?_
  refine wl_val (v := .agg #[.int .u64 v17.Frame, .int .u64 v17.Seed, .int .i32 v17.Players.1.X, .int .i32 v17.Players.1.Y, .int .i32 v17.Players.1.VX, .int .i32 v17.Players.1.VY, .int .u8 v17.Players.1.Health, .int .u8 v17.Players.1.Cool, .int .u8 v17.Players.1.Face, .int .i32 v17.Players.2.X, .int .i32 v17.Players.2.Y, .int .i32 v17.Players.2.VX, .int .i32 v17.Players.2.VY, .int .u8 v17.Players.2.Health, .int .u8 v17.Players.2.Cool, .int .u8 v17.Players.2.Face, .slice v17a0 v17n0 v17c0, .int .u16 v17.Score.1, .int .u16 v17.Score.2]) (val_load tt_ok rfl (List.Mem.head _) rfl) rfl ?_
  replace h := bsome h; obtain ⟨v38, x38, h⟩ := h
  refine wl_cq Tryd.call14 rfl rfl rfl (q_pf (k_state_Check (p0 := v17) v17N0 (vec_cap v17V0) x38) (fun w hI => ⟨(Rds.call (Rds.of_vec v17V0) pNil ⟨_, (Sel.sc Sel.ha)⟩) w hI, (Rds.call G0S pNil rsub_nil) w hI, (Rds.call G1S pNil rsub_nil) w hI⟩)) rfl ?_
  refine wl_pure (v := .bool (v38 != (0 : Int))) tt_ok rfl rfl ?_
  refine wl_pure tt_ok rfl rfl ?_
  replace h := bsome h; obtain ⟨v47, h, hg47⟩ := h
  refine wl_split (t := 40) rfl (fun hc => ?_) (fun hc => ?_)
  · replace h := ct hc h
    refine wl_skip rfl rfl ?_
    refine wl_skip rfl rfl ?_
    refine wl_skip rfl rfl ?_
    refine wl_skip rfl rfl ?_
    refine wl_skip rfl rfl ?_
    refine wl_skip rfl rfl ?_
    simp only [Option.some.injEq, Prod.mk.injEq] at h
    obtain rfl := h
    have h := hg47; clear hg47
    refine wl_pure (v := .bool true) tt_ok rfl rfl ?_
    refine wl_pure tt_ok rfl rfl ?_
    replace h := bsome h; obtain ⟨v57, h, hg57⟩ := h
    replace h := ct rfl h
    refine wl_skip rfl rfl ?_
    refine wl_skip rfl rfl ?_
    refine wl_skip rfl rfl ?_
    refine wl_skip rfl rfl ?_
    refine wl_skip rfl rfl ?_
    refine wl_skip rfl rfl ?_
    refine wl_skip rfl rfl ?_
    refine wl_skip rfl rfl ?_
    simp only [Option.some.injEq, Prod.mk.injEq] at h
    obtain rfl := h
    have h := hg57; clear hg57
    refine wl_pure (v := .bool true) tt_ok rfl rfl ?_
    refine wl_nil ?_
    refine wx_then ?_
    replace h := ct rfl h
    refine wc_cond_true rfl ?_
    refine wc_seq ?_
    refine wc_region ?_
    refine wl_pure tt_ok rfl rfl ?_
    refine wl_nil ?_
    refine wx_then ?_
    refine wc_ret ?_
    refine wx_then_ret ?_
    simp only [Option.some.injEq] at h
    obtain rfl := h
    exact wx_pf tt_ok (.inl rfl) Tryd.results7 (Res.tmp rfl Res.nil) rfl
  replace h := cf hc h
  refine wl_run rfl ?_
  refine wl_pure (v := .pointer (some ⟨b5, 0, none⟩)) tt_ok rfl rfl ?_
  refine wl_run rfl ?_
  refine wl_val (v := .int .u64 v17.Frame) (val_load tt_ok rfl (List.Mem.head _) rfl) rfl ?_
  refine wl_run rfl ?_
  refine wl_pure (v := .pointer (some ⟨b2, 0, none⟩)) tt_ok rfl rfl ?_
  refine wl_run rfl ?_
  refine wl_val (v := .int .u64 p0.Frame) (val_load tt_ok rfl (List.Mem.tail _ (mR (List.Mem.tail _ (List.Mem.head _)))) rfl) rfl ?_
  refine wl_run rfl ?_
  refine wl_pure (v := .int .u64 (IntKind.wrap .u64 (p0.Frame + (1 : Int)))) tt_ok rfl rfl ?_
  refine wl_run rfl ?_
  refine wl_pure (v := .bool (v17.Frame != (IntKind.wrap .u64 (p0.Frame + (1 : Int))))) tt_ok rfl rfl ?_
  simp only [Option.some.injEq, Prod.mk.injEq] at h
  obtain rfl := h
  have h := hg47; clear hg47
  refine wl_pure (v := .bool (v17.Frame != (IntKind.wrap .u64 (p0.Frame + (1 : Int))))) tt_ok rfl rfl ?_
  refine wl_pure tt_ok rfl rfl ?_
  replace h := bsome h; obtain ⟨v57, h, hg57⟩ := h
  refine wl_split (t := 48) rfl (fun hc => ?_) (fun hc => ?_)
  · replace h := ct hc h
    refine wl_skip rfl rfl ?_
    refine wl_skip rfl rfl ?_
    refine wl_skip rfl rfl ?_
    refine wl_skip rfl rfl ?_
    refine wl_skip rfl rfl ?_
    refine wl_skip rfl rfl ?_
    refine wl_skip rfl rfl ?_
    refine wl_skip rfl rfl ?_
    simp only [Option.some.injEq, Prod.mk.injEq] at h
    obtain rfl := h
    have h := hg57; clear hg57
    refine wl_pure (v := .bool true) tt_ok rfl rfl ?_
    refine wl_nil ?_
    refine wx_then ?_
    replace h := ct rfl h
    refine wc_cond_true rfl ?_
    refine wc_seq ?_
    refine wc_region ?_
    refine wl_pure tt_ok rfl rfl ?_
    refine wl_nil ?_
    refine wx_then ?_
    refine wc_ret ?_
    refine wx_then_ret ?_
    simp only [Option.some.injEq] at h
    obtain rfl := h
    exact wx_pf tt_ok (.inl rfl) Tryd.results7 (Res.tmp rfl Res.nil) rfl
  replace h := cf hc h
  refine wl_run rfl ?_
  refine wl_pure (v := .pointer (some ⟨b5, 16, none⟩)) tt_ok rfl rfl ?_
  refine wl_run rfl ?_
  refine wl_val (v := .slice v17a0 v17n0 v17c0) (val_load tt_ok rfl (List.Mem.head _) rfl) rfl ?_
  refine wl_run rfl ?_
  refine wl_val (v := .int .i64 (v17.Shots.length : Int)) (val_len tt_ok rfl rfl v17N0) rfl ?_
  refine wl_run rfl ?_
  refine wl_pure (v := .pointer (some ⟨b2, 16, none⟩)) tt_ok rfl rfl ?_
  refine wl_run rfl ?_
  refine wl_val (v := .slice p0a0 p0n0 p0c0) (val_load tt_ok rfl (List.Mem.tail _ (mR (List.Mem.tail _ (List.Mem.head _)))) rfl) rfl ?_
  refine wl_run rfl ?_
  refine wl_val (v := .int .i64 (p0.Shots.length : Int)) (val_len tt_ok rfl rfl p0N0) rfl ?_
  refine wl_run rfl ?_
  refine wl_pure (v := .int .i64 (IntKind.wrap .i64 ((p0.Shots.length : Int) + (2 : Int)))) tt_ok rfl rfl ?_
  refine wl_run rfl ?_
  refine wl_pure (v := .bool (decide ((IntKind.wrap .i64 ((p0.Shots.length : Int) + (2 : Int))) < (v17.Shots.length : Int)))) tt_ok rfl rfl ?_
  simp only [Option.some.injEq, Prod.mk.injEq] at h
  obtain rfl := h
  have h := hg57; clear hg57
  refine wl_pure (v := .bool (decide ((IntKind.wrap .i64 ((p0.Shots.length : Int) + (2 : Int))) < (v17.Shots.length : Int)))) tt_ok rfl rfl ?_
  refine wl_nil ?_
  refine wx_then ?_
  refine wc_cond rfl (fun hc => ?_) (fun hc => ?_)
  · replace h := ct hc h
    refine wc_seq ?_
    refine wc_region ?_
    refine wl_pure tt_ok rfl rfl ?_
    refine wl_nil ?_
    refine wx_then ?_
    refine wc_ret ?_
    refine wx_then_ret ?_
    simp only [Option.some.injEq] at h
    obtain rfl := h
    exact wx_pf tt_ok (.inl rfl) Tryd.results7 (Res.tmp rfl Res.nil) rfl
  replace h := cf hc h
  refine wc_skip ?_
  refine wx_then ?_
  refine wc_seq ?_
  refine wc_seq ?_
  refine wc_quiet (by kernel_rfl) (by kernel_rfl) ?_
  refine wq_pure (v := .pointer (some ⟨b2, 2, none⟩)) tt_ok rfl rfl ?_
  refine wq_val (v := .pointer (some ⟨b2, 2, none⟩)) (val_ia (j := 0) tt_ok rfl rfl rfl rfl rfl rfl rfl) rfl ?_
  refine wq_val (v := .agg #[.int .i32 p0.Players.1.X, .int .i32 p0.Players.1.Y, .int .i32 p0.Players.1.VX, .int .i32 p0.Players.1.VY, .int .u8 p0.Players.1.Health, .int .u8 p0.Players.1.Cool, .int .u8 p0.Players.1.Face]) (val_load tt_ok rfl (List.Mem.tail _ (mR (List.Mem.tail _ (List.Mem.head _)))) rfl) rfl ?_
  replace h := bsome h; obtain ⟨v61, x61, h⟩ := h
  refine wq_cq Tryd.call18 rfl rfl rfl (q_pf (k_hindcastlaw09_box x61) (fun _ _ => trivial)) rfl ?_
  refine wq_pure (v := .pointer (some ⟨b2, 2, none⟩)) tt_ok rfl rfl ?_
  refine wq_val (v := .pointer (some ⟨b2, 9, none⟩)) (val_ia (j := 1) tt_ok rfl rfl rfl rfl rfl rfl rfl) rfl ?_
  refine wq_val (v := .agg #[.int .i32 p0.Players.2.X, .int .i32 p0.Players.2.Y, .int .i32 p0.Players.2.VX, .int .i32 p0.Players.2.VY, .int .u8 p0.Players.2.Health, .int .u8 p0.Players.2.Cool, .int .u8 p0.Players.2.Face]) (val_load tt_ok rfl (List.Mem.tail _ (mR (List.Mem.tail _ (List.Mem.head _)))) rfl) rfl ?_
  replace h := bsome h; obtain ⟨v65, x65, h⟩ := h
  refine wq_cq Tryd.call18 rfl rfl rfl (q_pf (k_hindcastlaw09_box x65) (fun _ _ => trivial)) rfl ?_
  replace h := bsome h; obtain ⟨v66, x66, h⟩ := h
  refine wq_cq Tryd.call17 rfl rfl rfl (q_pf (k_geom_Over x66) (fun _ _ => trivial)) rfl ?_
  refine wq_pure (v := .bool (!v66)) tt_ok rfl rfl ?_
  refine wq_pure tt_ok rfl rfl ?_
  replace h := bsome h; obtain ⟨v78, h, hg78⟩ := h
  refine wq_split (t := 68) rfl (fun hc => ?_) (fun hc => ?_)
  · replace h := ct hc h
    refine wq_run rfl ?_
    refine wq_pure (v := .pointer (some ⟨b5, 2, none⟩)) tt_ok rfl rfl ?_
    refine wq_run rfl ?_
    refine wq_val (v := .pointer (some ⟨b5, 2, none⟩)) (val_ia (j := 0) tt_ok rfl rfl rfl rfl rfl rfl rfl) rfl ?_
    refine wq_run rfl ?_
    refine wq_val (v := .agg #[.int .i32 v17.Players.1.X, .int .i32 v17.Players.1.Y, .int .i32 v17.Players.1.VX, .int .i32 v17.Players.1.VY, .int .u8 v17.Players.1.Health, .int .u8 v17.Players.1.Cool, .int .u8 v17.Players.1.Face]) (val_load tt_ok rfl (List.Mem.head _) rfl) rfl ?_
    replace h := bsome h; obtain ⟨v72, x72, h⟩ := h
    refine wq_run rfl ?_
    refine wq_cq Tryd.call18 rfl rfl rfl (q_pf (k_hindcastlaw09_box x72) (fun _ _ => trivial)) rfl ?_
    refine wq_run rfl ?_
    refine wq_pure (v := .pointer (some ⟨b5, 2, none⟩)) tt_ok rfl rfl ?_
    refine wq_run rfl ?_
    refine wq_val (v := .pointer (some ⟨b5, 9, none⟩)) (val_ia (j := 1) tt_ok rfl rfl rfl rfl rfl rfl rfl) rfl ?_
    refine wq_run rfl ?_
    refine wq_val (v := .agg #[.int .i32 v17.Players.2.X, .int .i32 v17.Players.2.Y, .int .i32 v17.Players.2.VX, .int .i32 v17.Players.2.VY, .int .u8 v17.Players.2.Health, .int .u8 v17.Players.2.Cool, .int .u8 v17.Players.2.Face]) (val_load tt_ok rfl (List.Mem.head _) rfl) rfl ?_
    replace h := bsome h; obtain ⟨v76, x76, h⟩ := h
    refine wq_run rfl ?_
    refine wq_cq Tryd.call18 rfl rfl rfl (q_pf (k_hindcastlaw09_box x76) (fun _ _ => trivial)) rfl ?_
    replace h := bsome h; obtain ⟨v77, x77, h⟩ := h
    refine wq_run rfl ?_
    refine wq_cq Tryd.call17 rfl rfl rfl (q_pf (k_geom_Over x77) (fun _ _ => trivial)) rfl ?_
    simp only [Option.some.injEq, Prod.mk.injEq] at h
    obtain rfl := h
    have h := hg78; clear hg78
    refine wq_pure (v := .bool v77) tt_ok rfl rfl ?_
    refine wq_nil ?_
    refine wx_then ?_
    refine wc_cond rfl (fun hc => ?_) (fun hc => ?_)
    · replace h := ct hc h
      refine wc_seq ?_
      refine wc_region ?_
      refine wl_pure tt_ok rfl rfl ?_
      refine wl_nil ?_
      refine wx_then ?_
      refine wc_ret ?_
      refine wx_then_ret ?_
      simp only [Option.some.injEq] at h
      obtain rfl := h
      exact wx_pf tt_ok (.inl rfl) Tryd.results7 (Res.tmp rfl Res.nil) rfl
    replace h := cf hc h
    refine wc_skip ?_
    refine wx_then ?_
    refine wc_seq ?_
    refine wc_seq ?_
    refine wc_region ?_
    refine wl_pure tt_ok rfl rfl ?_
    refine wl_nil ?_
    refine wx_then ?_
    refine wc_block ?_
    replace h := bsome h; obtain ⟨o41, h, hl41⟩ := h
    refine wc_loop (fun m E L => ∃ (j41_6 : Int), m_hindcastlaw09_StepRight_L40 F p0 v17 m j41_6 = some o41 ∧ E = [(2, .pointer (some ⟨b2, 0, none⟩)), (4, .bool false), (5, .pointer (some ⟨b5, 0, none⟩)), (6, .int .i64 j41_6)] ∧ L = (⟨b2, [.int .u64 p0.Frame, .int .u64 p0.Seed, .int .i32 p0.Players.1.X, .int .i32 p0.Players.1.Y, .int .i32 p0.Players.1.VX, .int .i32 p0.Players.1.VY, .int .u8 p0.Players.1.Health, .int .u8 p0.Players.1.Cool, .int .u8 p0.Players.1.Face, .int .i32 p0.Players.2.X, .int .i32 p0.Players.2.Y, .int .i32 p0.Players.2.VX, .int .i32 p0.Players.2.VY, .int .u8 p0.Players.2.Health, .int .u8 p0.Players.2.Cool, .int .u8 p0.Players.2.Face, .slice p0a0 p0n0 p0c0, .int .u16 p0.Score.1, .int .u16 p0.Score.2], 30, (0, 0)⟩ :: (⟨b5, [.int .u64 v17.Frame, .int .u64 v17.Seed, .int .i32 v17.Players.1.X, .int .i32 v17.Players.1.Y, .int .i32 v17.Players.1.VX, .int .i32 v17.Players.1.VY, .int .u8 v17.Players.1.Health, .int .u8 v17.Players.1.Cool, .int .u8 v17.Players.1.Face, .int .i32 v17.Players.2.X, .int .i32 v17.Players.2.Y, .int .i32 v17.Players.2.VX, .int .i32 v17.Players.2.VY, .int .u8 v17.Players.2.Health, .int .u8 v17.Players.2.Cool, .int .u8 v17.Players.2.Face, .slice v17a0 v17n0 v17c0, .int .u16 v17.Score.1, .int .u16 v17.Score.2], 30, (0, 0)⟩ :: (v17B0 ++ [])))) F ⟨(0 : Int), h, rfl, rfl⟩ (agree_cons rfl (agree_cons rfl (agree_cons rfl (agree_cons rfl agree_nil)))) (pSub (pCons (Sel.sc (Sel.sa (Sel.sc Sel.hc))) (pCons Sel.hc (pApp Sel.ha pNil)))) ?_
    clear h
    rintro m41 _ _ ⟨j41_6, h, rfl, rfl⟩
    rcases m41 with _ | m41
    · rw [m_hindcastlaw09_StepRight_L40.eq_1] at h; cases h
    rw [m_hindcastlaw09_StepRight_L40.eq_2] at h
    refine wc_seq ?_
    refine wc_seq ?_
    refine wc_region ?_
    refine wl_pure tt_ok rfl rfl ?_
    refine wl_pure (v := .bool (decide (j41_6 < (2 : Int)))) tt_ok rfl rfl ?_
    refine wl_nil ?_
    refine wx_then ?_
    refine wc_cond rfl (fun hc => ?_) (fun hc => ?_)
    · replace h := ct hc h
      refine wc_skip ?_
      refine wx_then ?_
      refine wc_seq ?_
      refine wc_block ?_
      refine wc_seq ?_
      refine wc_k2 (Ls := (⟨b2, [.int .u64 p0.Frame, .int .u64 p0.Seed, .int .i32 p0.Players.1.X, .int .i32 p0.Players.1.Y, .int .i32 p0.Players.1.VX, .int .i32 p0.Players.1.VY, .int .u8 p0.Players.1.Health, .int .u8 p0.Players.1.Cool, .int .u8 p0.Players.1.Face, .int .i32 p0.Players.2.X, .int .i32 p0.Players.2.Y, .int .i32 p0.Players.2.VX, .int .i32 p0.Players.2.VY, .int .u8 p0.Players.2.Health, .int .u8 p0.Players.2.Cool, .int .u8 p0.Players.2.Face, .slice p0a0 p0n0 p0c0, .int .u16 p0.Score.1, .int .u16 p0.Score.2], 30, (0, 0)⟩ :: (⟨b5, [.int .u64 v17.Frame, .int .u64 v17.Seed, .int .i32 v17.Players.1.X, .int .i32 v17.Players.1.Y, .int .i32 v17.Players.1.VX, .int .i32 v17.Players.1.VY, .int .u8 v17.Players.1.Health, .int .u8 v17.Players.1.Cool, .int .u8 v17.Players.1.Face, .int .i32 v17.Players.2.X, .int .i32 v17.Players.2.Y, .int .i32 v17.Players.2.VX, .int .i32 v17.Players.2.VY, .int .u8 v17.Players.2.Health, .int .u8 v17.Players.2.Cool, .int .u8 v17.Players.2.Face, .slice v17a0 v17n0 v17c0, .int .u16 v17.Score.1, .int .u16 v17.Score.2], 30, (0, 0)⟩ :: (v17B0 ++ [])))) [8, 9, 10, 11] [11] [0, 0, 3, 7, 0, 0, 48, 112, 0, 0, 783, 2047] [0, 1, 2, 3, 4, 5, 6, 7] (by kernel_rfl) (by kernel_rfl) (by kernel_rfl) ?_
      refine k_val rfl rfl rfl (pSub (pCons Sel.hc (pCons Sel.hc (pApp Sel.ha pNil)))) (stepV_ok tt_ok rfl) rfl ?_
      refine k_val (v := .pointer (some ⟨b2, 2, none⟩)) rfl rfl rfl (pSub (pCons Sel.hc (pCons Sel.hc (pApp Sel.ha pNil)))) (stepV_ok tt_ok rfl) rfl ?_
      rcases Bool.eq_false_or_eq_true (j41_6 == (0 : Int)) with hx850 | hx850
      · replace h := ct hx850 h
        refine k_val (v := .pointer (some ⟨b2, 2, none⟩)) rfl rfl rfl (pSub (pCons Sel.hc (pCons Sel.hc (pApp Sel.ha pNil)))) (val_ia (j := 0) tt_ok rfl rfl rfl rfl (by simpa using hx850) rfl rfl) rfl ?_
        refine k_val (v := .agg #[.int .i32 p0.Players.1.X, .int .i32 p0.Players.1.Y, .int .i32 p0.Players.1.VX, .int .i32 p0.Players.1.VY, .int .u8 p0.Players.1.Health, .int .u8 p0.Players.1.Cool, .int .u8 p0.Players.1.Face]) rfl rfl rfl (pSub (pCons Sel.hc (pCons Sel.hc (pApp Sel.ha pNil)))) (val_load tt_ok rfl (List.Mem.head _) rfl) rfl ?_
        refine k_val rfl rfl rfl (pSub (pCons Sel.hc (pCons Sel.hc (pApp Sel.ha pNil)))) (stepV_ok tt_ok rfl) rfl ?_
        refine k_val (v := .pointer (some ⟨b5, 2, none⟩)) rfl rfl rfl (pSub (pCons Sel.hc (pCons Sel.hc (pApp Sel.ha pNil)))) (stepV_ok tt_ok rfl) rfl ?_
        refine k_val (v := .pointer (some ⟨b5, 2, none⟩)) rfl rfl rfl (pSub (pCons Sel.hc (pCons Sel.hc (pApp Sel.ha pNil)))) (val_ia (j := 0) tt_ok rfl rfl rfl rfl (by simpa using hx850) rfl rfl) rfl ?_
        refine k_val (v := .agg #[.int .i32 v17.Players.1.X, .int .i32 v17.Players.1.Y, .int .i32 v17.Players.1.VX, .int .i32 v17.Players.1.VY, .int .u8 v17.Players.1.Health, .int .u8 v17.Players.1.Cool, .int .u8 v17.Players.1.Face]) rfl rfl rfl (pSub (pCons Sel.hc (pCons Sel.hc (pApp Sel.ha pNil)))) (val_load tt_ok rfl (List.Mem.tail _ (List.Mem.head _)) rfl) rfl ?_
        refine k_two (i := 8) (j := 9) (t1 := [9, 10, 11]) (t2 := [8, 10, 11]) (by kernel_rfl) (by kernel_rfl) (by kernel_rfl) (by kernel_rfl) ?_ ?_
        · refine k_chgf rfl rfl (chg_alloc tt_ok rfl) rfl (.inr (by rintro _ _ ⟨_, rfl, rfl⟩; exact ⟨_, (pCons (Sel.sc Sel.hc) (pCons (Sel.sc Sel.hc) (pApp (Sel.sc Sel.ha) pNil)))⟩)) ?_
          rintro _ _ ⟨b7, rfl, rfl⟩
          refine k_chg rfl rfl rfl (chg_alloc tt_ok rfl) rfl (.inr (by rintro _ _ ⟨_, rfl, rfl⟩; exact ⟨_, (pCons (Sel.sc (Sel.sc Sel.hc)) (pCons (Sel.sc (Sel.sc Sel.hc)) (pApp (Sel.sc (Sel.sc Sel.ha)) pNil)))⟩)) ?_
          rintro _ _ ⟨b8, rfl, rfl⟩
          refine k_chg0 rfl rfl rfl (chg_store tt_ok rfl (Upd.there Upd.here) rfl rfl rfl rfl rfl rfl) (.inr (by rintro _ _ rfl; exact ⟨_, (pCons (Sel.sc (Sel.sc Sel.hc)) (pCons (Sel.sc (Sel.sc Sel.hc)) (pApp (Sel.sc (Sel.sc Sel.ha)) pNil)))⟩)) ?_
          rintro _ _ rfl
          refine k_chg0 rfl rfl rfl (chg_store tt_ok rfl Upd.here rfl rfl rfl rfl rfl rfl) (.inl rfl) ?_
          rintro _ _ rfl
          refine k_end (by kernel_rfl) ?_
          refine wx_then ?_
          refine wc_seq ?_
          refine wc_region ?_
          refine wl_pure (v := .pointer (some ⟨b7, 0, none⟩)) tt_ok rfl rfl ?_
          refine wl_val (v := .int .i32 p0.Players.1.X) (val_load tt_ok rfl (List.Mem.tail _ (List.Mem.head _)) rfl) rfl ?_
          refine wl_pure (v := .pointer (some ⟨b8, 0, none⟩)) tt_ok rfl rfl ?_
          refine wl_val (v := .int .i32 v17.Players.1.X) (val_load tt_ok rfl (List.Mem.head _) rfl) rfl ?_
          replace h := bsome h; obtain ⟨v95, x95, h⟩ := h
          refine wl_cq Tryd.call19 rfl rfl rfl (q_pf (k_hindcastlaw09_apart x95) (fun _ _ => trivial)) rfl ?_
          refine wl_pure (v := .bool (decide ((1024 : Int) < v95))) tt_ok rfl rfl ?_
          refine wl_pure tt_ok rfl rfl ?_
          replace h := bsome h; obtain ⟨v104, h, hg104⟩ := h
          refine wl_split (t := 97) rfl (fun hc => ?_) (fun hc => ?_)
          · replace h := ct hc h
            refine wl_skip rfl rfl ?_
            refine wl_skip rfl rfl ?_
            refine wl_skip rfl rfl ?_
            refine wl_skip rfl rfl ?_
            refine wl_skip rfl rfl ?_
            refine wl_skip rfl rfl ?_
            simp only [Option.some.injEq, Prod.mk.injEq] at h
            obtain rfl := h
            have h := hg104; clear hg104
            refine wl_pure (v := .bool true) tt_ok rfl rfl ?_
            refine wl_pure tt_ok rfl rfl ?_
            refine wl_nil ?_
            refine wx_then ?_
            refine wc_seq ?_
            refine wc_quiet (by kernel_rfl) (by kernel_rfl) ?_
            refine wq_pure tt_ok rfl rfl ?_
            refine wq_pure tt_ok rfl rfl ?_
            replace h := bsome h; obtain ⟨v117, h, hg117⟩ := h
            replace h := ct rfl h
            refine wq_run rfl ?_
            refine wq_pure (v := .pointer (some ⟨b5, 1, none⟩)) tt_ok rfl rfl ?_
            refine wq_run rfl ?_
            refine wq_val (v := .int .u64 v17.Seed) (val_load tt_ok rfl (List.Mem.tail _ (List.Mem.tail _ (List.Mem.tail _ (List.Mem.head _)))) rfl) rfl ?_
            refine wq_run rfl ?_
            refine wq_pure (v := .pointer (some ⟨b2, 1, none⟩)) tt_ok rfl rfl ?_
            refine wq_run rfl ?_
            refine wq_val (v := .int .u64 p0.Seed) (val_load tt_ok rfl (List.Mem.tail _ (List.Mem.tail _ (List.Mem.head _))) rfl) rfl ?_
            refine wq_run rfl ?_
            refine wq_pure (v := .bool (v17.Seed == p0.Seed)) tt_ok rfl rfl ?_
            refine wq_run rfl ?_
            refine wq_pure tt_ok rfl rfl ?_
            replace h := bsome h; obtain ⟨v116, h, hg116⟩ := h
            refine wq_split (t := 112) rfl (fun hc => ?_) (fun hc => ?_)
            · replace h := ct hc h
              refine wq_skip rfl rfl ?_
              refine wq_skip rfl rfl ?_
              refine wq_skip rfl rfl ?_
              simp only [Option.some.injEq, Prod.mk.injEq] at h
              obtain rfl := h
              have h := hg116; clear hg116
              refine wq_run rfl ?_
              refine wq_pure (v := .bool true) tt_ok rfl rfl ?_
              simp only [Option.some.injEq, Prod.mk.injEq] at h
              obtain rfl := h
              have h := hg117; clear hg117
              refine wq_pure (v := .bool true) tt_ok rfl rfl ?_
              refine wq_pure tt_ok rfl rfl ?_
              replace h := bsome h; obtain ⟨v128, h, hg128⟩ := h
              replace h := ct rfl h
              refine wq_skip rfl rfl ?_
              refine wq_skip rfl rfl ?_
              refine wq_skip rfl rfl ?_
              refine wq_skip rfl rfl ?_
              refine wq_skip rfl rfl ?_
              refine wq_skip rfl rfl ?_
              refine wq_skip rfl rfl ?_
              refine wq_skip rfl rfl ?_
              refine wq_skip rfl rfl ?_
              simp only [Option.some.injEq, Prod.mk.injEq] at h
              obtain rfl := h
              have h := hg128; clear hg128
              refine wq_pure (v := .bool true) tt_ok rfl rfl ?_
              refine wq_nil ?_
              refine wx_then ?_
              replace h := ct rfl h
              refine wc_cond_true rfl ?_
              refine wc_seq ?_
              refine wc_region ?_
              refine wl_pure tt_ok rfl rfl ?_
              refine wl_nil ?_
              refine wx_then ?_
              refine wc_ret ?_
              refine wx_block_ret ?_
              refine wx_then_ret ?_
              obtain rfl := Option.some.inj h
              have h := hl41; clear hl41; try dsimp only [orE_l, orE_r] at h
              refine wx_then_ret ?_
              refine wx_block_ret ?_
              refine wx_then_ret ?_
              simp only [Option.some.injEq] at h
              obtain rfl := h
              exact wx_pf tt_ok (.inl rfl) Tryd.results7 (Res.tmp rfl Res.nil) rfl
            replace h := cf hc h
            refine wq_run rfl ?_
            refine wq_pure (v := .pointer (some ⟨b8, 4, none⟩)) tt_ok rfl rfl ?_
            refine wq_run rfl ?_
            refine wq_val (v := .int .u8 v17.Players.1.Health) (val_load tt_ok rfl (List.Mem.head _) rfl) rfl ?_
            refine wq_run rfl ?_
            refine wq_pure (v := .bool (v17.Players.1.Health != (100 : Int))) tt_ok rfl rfl ?_
            simp only [Option.some.injEq, Prod.mk.injEq] at h
            obtain rfl := h
            have h := hg116; clear hg116
            refine wq_run rfl ?_
            refine wq_pure (v := .bool (v17.Players.1.Health != (100 : Int))) tt_ok rfl rfl ?_
            simp only [Option.some.injEq, Prod.mk.injEq] at h
            obtain rfl := h
            have h := hg117; clear hg117
            refine wq_pure (v := .bool (v17.Players.1.Health != (100 : Int))) tt_ok rfl rfl ?_
            refine wq_pure tt_ok rfl rfl ?_
            replace h := bsome h; obtain ⟨v128, h, hg128⟩ := h
            refine wq_split (t := 118) rfl (fun hc => ?_) (fun hc => ?_)
            · replace h := ct hc h
              refine wq_skip rfl rfl ?_
              refine wq_skip rfl rfl ?_
              refine wq_skip rfl rfl ?_
              refine wq_skip rfl rfl ?_
              refine wq_skip rfl rfl ?_
              refine wq_skip rfl rfl ?_
              refine wq_skip rfl rfl ?_
              refine wq_skip rfl rfl ?_
              refine wq_skip rfl rfl ?_
              simp only [Option.some.injEq, Prod.mk.injEq] at h
              obtain rfl := h
              have h := hg128; clear hg128
              refine wq_pure (v := .bool true) tt_ok rfl rfl ?_
              refine wq_nil ?_
              refine wx_then ?_
              replace h := ct rfl h
              refine wc_cond_true rfl ?_
              refine wc_seq ?_
              refine wc_region ?_
              refine wl_pure tt_ok rfl rfl ?_
              refine wl_nil ?_
              refine wx_then ?_
              refine wc_ret ?_
              refine wx_block_ret ?_
              refine wx_then_ret ?_
              obtain rfl := Option.some.inj h
              have h := hl41; clear hl41; try dsimp only [orE_l, orE_r] at h
              refine wx_then_ret ?_
              refine wx_block_ret ?_
              refine wx_then_ret ?_
              simp only [Option.some.injEq] at h
              obtain rfl := h
              exact wx_pf tt_ok (.inl rfl) Tryd.results7 (Res.tmp rfl Res.nil) rfl
            replace h := cf hc h
            refine wq_run rfl ?_
            refine wq_pure tt_ok rfl rfl ?_
            refine wq_run rfl ?_
            refine wq_pure (v := .pointer (some ⟨b5, 17, none⟩)) tt_ok rfl rfl ?_
            refine wq_run rfl ?_
            refine wq_val (v := .pointer (some ⟨b5, 17, none⟩)) (val_ia (j := 0) tt_ok rfl rfl rfl rfl (by simpa using hx850) rfl rfl) rfl ?_
            refine wq_run rfl ?_
            refine wq_val (v := .int .u16 v17.Score.1) (val_load tt_ok rfl (List.Mem.tail _ (List.Mem.tail _ (List.Mem.tail _ (List.Mem.head _)))) rfl) rfl ?_
            refine wq_run rfl ?_
            refine wq_pure tt_ok rfl rfl ?_
            refine wq_run rfl ?_
            refine wq_pure (v := .pointer (some ⟨b2, 17, none⟩)) tt_ok rfl rfl ?_
            refine wq_run rfl ?_
            refine wq_val (v := .pointer (some ⟨b2, 17, none⟩)) (val_ia (j := 0) tt_ok rfl rfl rfl rfl (by simpa using hx850) rfl rfl) rfl ?_
            refine wq_run rfl ?_
            refine wq_val (v := .int .u16 p0.Score.1) (val_load tt_ok rfl (List.Mem.tail _ (List.Mem.tail _ (List.Mem.head _))) rfl) rfl ?_
            refine wq_run rfl ?_
            refine wq_pure (v := .bool (decide (v17.Score.1 < p0.Score.1))) tt_ok rfl rfl ?_
            simp only [Option.some.injEq, Prod.mk.injEq] at h
            obtain rfl := h
            have h := hg128; clear hg128
            refine wq_pure (v := .bool (decide (v17.Score.1 < p0.Score.1))) tt_ok rfl rfl ?_
            refine wq_nil ?_
            refine wx_then ?_
            refine wc_cond rfl (fun hc => ?_) (fun hc => ?_)
            · replace h := ct hc h
              refine wc_seq ?_
              refine wc_region ?_
              refine wl_pure tt_ok rfl rfl ?_
              refine wl_nil ?_
              refine wx_then ?_
              refine wc_ret ?_
              refine wx_block_ret ?_
              refine wx_then_ret ?_
              obtain rfl := Option.some.inj h
              have h := hl41; clear hl41; try dsimp only [orE_l, orE_r] at h
              refine wx_then_ret ?_
              refine wx_block_ret ?_
              refine wx_then_ret ?_
              simp only [Option.some.injEq] at h
              obtain rfl := h
              exact wx_pf tt_ok (.inl rfl) Tryd.results7 (Res.tmp rfl Res.nil) rfl
            replace h := cf hc h
            refine wc_skip ?_
            refine wx_block ?_
            refine wx_then ?_
            refine wc_region ?_
            refine wl_pure tt_ok rfl rfl ?_
            refine wl_pure (v := .int .i64 (IntKind.wrap .i64 (j41_6 + (1 : Int)))) tt_ok rfl rfl ?_
            refine wl_pure tt_ok rfl rfl ?_
            refine wl_nil ?_
            exact wx_round m41 (Nat.lt_succ_self m41) ⟨(IntKind.wrap .i64 (j41_6 + (1 : Int))), h, rfl, rfl⟩ (agree_cons rfl (agree_cons rfl (agree_cons rfl (agree_cons rfl agree_nil)))) (pSub (pCons (Sel.sc (Sel.sc Sel.hc)) (pCons (Sel.sc (Sel.sc Sel.hc)) (pApp (Sel.sc (Sel.sc Sel.ha)) pNil))))
          replace h := cf hc h
          refine wl_run rfl ?_
          refine wl_pure (v := .pointer (some ⟨b7, 1, none⟩)) tt_ok rfl rfl ?_
          refine wl_run rfl ?_
          refine wl_val (v := .int .i32 p0.Players.1.Y) (val_load tt_ok rfl (List.Mem.tail _ (List.Mem.head _)) rfl) rfl ?_
          refine wl_run rfl ?_
          refine wl_pure (v := .pointer (some ⟨b8, 1, none⟩)) tt_ok rfl rfl ?_
          refine wl_run rfl ?_
          refine wl_val (v := .int .i32 v17.Players.1.Y) (val_load tt_ok rfl (List.Mem.head _) rfl) rfl ?_
          replace h := bsome h; obtain ⟨v102, x102, h⟩ := h
          refine wl_run rfl ?_
          refine wl_cq Tryd.call19 rfl rfl rfl (q_pf (k_hindcastlaw09_apart x102) (fun _ _ => trivial)) rfl ?_
          refine wl_run rfl ?_
          refine wl_pure (v := .bool (decide ((1024 : Int) < v102))) tt_ok rfl rfl ?_
          simp only [Option.some.injEq, Prod.mk.injEq] at h
          obtain rfl := h
          have h := hg104; clear hg104
          refine wl_pure (v := .bool (decide ((1024 : Int) < v102))) tt_ok rfl rfl ?_
          refine wl_pure tt_ok rfl rfl ?_
          refine wl_nil ?_
          refine wx_then ?_
          refine wc_seq ?_
          refine wc_quiet (by kernel_rfl) (by kernel_rfl) ?_
          refine wq_pure tt_ok rfl rfl ?_
          refine wq_pure tt_ok rfl rfl ?_
          replace h := bsome h; obtain ⟨v117, h, hg117⟩ := h
          refine wq_split (t := 106) rfl (fun hc => ?_) (fun hc => ?_)
          · replace h := ct hc h
            refine wq_run rfl ?_
            refine wq_pure (v := .pointer (some ⟨b5, 1, none⟩)) tt_ok rfl rfl ?_
            refine wq_run rfl ?_
            refine wq_val (v := .int .u64 v17.Seed) (val_load tt_ok rfl (List.Mem.tail _ (List.Mem.tail _ (List.Mem.tail _ (List.Mem.head _)))) rfl) rfl ?_
            refine wq_run rfl ?_
            refine wq_pure (v := .pointer (some ⟨b2, 1, none⟩)) tt_ok rfl rfl ?_
            refine wq_run rfl ?_
            refine wq_val (v := .int .u64 p0.Seed) (val_load tt_ok rfl (List.Mem.tail _ (List.Mem.tail _ (List.Mem.head _))) rfl) rfl ?_
            refine wq_run rfl ?_
            refine wq_pure (v := .bool (v17.Seed == p0.Seed)) tt_ok rfl rfl ?_
            refine wq_run rfl ?_
            refine wq_pure tt_ok rfl rfl ?_
            replace h := bsome h; obtain ⟨v116, h, hg116⟩ := h
            refine wq_split (t := 112) rfl (fun hc => ?_) (fun hc => ?_)
            · replace h := ct hc h
              refine wq_skip rfl rfl ?_
              refine wq_skip rfl rfl ?_
              refine wq_skip rfl rfl ?_
              simp only [Option.some.injEq, Prod.mk.injEq] at h
              obtain rfl := h
              have h := hg116; clear hg116
              refine wq_run rfl ?_
              refine wq_pure (v := .bool true) tt_ok rfl rfl ?_
              simp only [Option.some.injEq, Prod.mk.injEq] at h
              obtain rfl := h
              have h := hg117; clear hg117
              refine wq_pure (v := .bool true) tt_ok rfl rfl ?_
              refine wq_pure tt_ok rfl rfl ?_
              replace h := bsome h; obtain ⟨v128, h, hg128⟩ := h
              replace h := ct rfl h
              refine wq_skip rfl rfl ?_
              refine wq_skip rfl rfl ?_
              refine wq_skip rfl rfl ?_
              refine wq_skip rfl rfl ?_
              refine wq_skip rfl rfl ?_
              refine wq_skip rfl rfl ?_
              refine wq_skip rfl rfl ?_
              refine wq_skip rfl rfl ?_
              refine wq_skip rfl rfl ?_
              simp only [Option.some.injEq, Prod.mk.injEq] at h
              obtain rfl := h
              have h := hg128; clear hg128
              refine wq_pure (v := .bool true) tt_ok rfl rfl ?_
              refine wq_nil ?_
              refine wx_then ?_
              replace h := ct rfl h
              refine wc_cond_true rfl ?_
              refine wc_seq ?_
              refine wc_region ?_
              refine wl_pure tt_ok rfl rfl ?_
              refine wl_nil ?_
              refine wx_then ?_
              refine wc_ret ?_
              refine wx_block_ret ?_
              refine wx_then_ret ?_
              obtain rfl := Option.some.inj h
              have h := hl41; clear hl41; try dsimp only [orE_l, orE_r] at h
              refine wx_then_ret ?_
              refine wx_block_ret ?_
              refine wx_then_ret ?_
              simp only [Option.some.injEq] at h
              obtain rfl := h
              exact wx_pf tt_ok (.inl rfl) Tryd.results7 (Res.tmp rfl Res.nil) rfl
            replace h := cf hc h
            refine wq_run rfl ?_
            refine wq_pure (v := .pointer (some ⟨b8, 4, none⟩)) tt_ok rfl rfl ?_
            refine wq_run rfl ?_
            refine wq_val (v := .int .u8 v17.Players.1.Health) (val_load tt_ok rfl (List.Mem.head _) rfl) rfl ?_
            refine wq_run rfl ?_
            refine wq_pure (v := .bool (v17.Players.1.Health != (100 : Int))) tt_ok rfl rfl ?_
            simp only [Option.some.injEq, Prod.mk.injEq] at h
            obtain rfl := h
            have h := hg116; clear hg116
            refine wq_run rfl ?_
            refine wq_pure (v := .bool (v17.Players.1.Health != (100 : Int))) tt_ok rfl rfl ?_
            simp only [Option.some.injEq, Prod.mk.injEq] at h
            obtain rfl := h
            have h := hg117; clear hg117
            refine wq_pure (v := .bool (v17.Players.1.Health != (100 : Int))) tt_ok rfl rfl ?_
            refine wq_pure tt_ok rfl rfl ?_
            replace h := bsome h; obtain ⟨v128, h, hg128⟩ := h
            refine wq_split (t := 118) rfl (fun hc => ?_) (fun hc => ?_)
            · replace h := ct hc h
              refine wq_skip rfl rfl ?_
              refine wq_skip rfl rfl ?_
              refine wq_skip rfl rfl ?_
              refine wq_skip rfl rfl ?_
              refine wq_skip rfl rfl ?_
              refine wq_skip rfl rfl ?_
              refine wq_skip rfl rfl ?_
              refine wq_skip rfl rfl ?_
              refine wq_skip rfl rfl ?_
              simp only [Option.some.injEq, Prod.mk.injEq] at h
              obtain rfl := h
              have h := hg128; clear hg128
              refine wq_pure (v := .bool true) tt_ok rfl rfl ?_
              refine wq_nil ?_
              refine wx_then ?_
              replace h := ct rfl h
              refine wc_cond_true rfl ?_
              refine wc_seq ?_
              refine wc_region ?_
              refine wl_pure tt_ok rfl rfl ?_
              refine wl_nil ?_
              refine wx_then ?_
              refine wc_ret ?_
              refine wx_block_ret ?_
              refine wx_then_ret ?_
              obtain rfl := Option.some.inj h
              have h := hl41; clear hl41; try dsimp only [orE_l, orE_r] at h
              refine wx_then_ret ?_
              refine wx_block_ret ?_
              refine wx_then_ret ?_
              simp only [Option.some.injEq] at h
              obtain rfl := h
              exact wx_pf tt_ok (.inl rfl) Tryd.results7 (Res.tmp rfl Res.nil) rfl
            replace h := cf hc h
            refine wq_run rfl ?_
            refine wq_pure tt_ok rfl rfl ?_
            refine wq_run rfl ?_
            refine wq_pure (v := .pointer (some ⟨b5, 17, none⟩)) tt_ok rfl rfl ?_
            refine wq_run rfl ?_
            refine wq_val (v := .pointer (some ⟨b5, 17, none⟩)) (val_ia (j := 0) tt_ok rfl rfl rfl rfl (by simpa using hx850) rfl rfl) rfl ?_
            refine wq_run rfl ?_
            refine wq_val (v := .int .u16 v17.Score.1) (val_load tt_ok rfl (List.Mem.tail _ (List.Mem.tail _ (List.Mem.tail _ (List.Mem.head _)))) rfl) rfl ?_
            refine wq_run rfl ?_
            refine wq_pure tt_ok rfl rfl ?_
            refine wq_run rfl ?_
            refine wq_pure (v := .pointer (some ⟨b2, 17, none⟩)) tt_ok rfl rfl ?_
            refine wq_run rfl ?_
            refine wq_val (v := .pointer (some ⟨b2, 17, none⟩)) (val_ia (j := 0) tt_ok rfl rfl rfl rfl (by simpa using hx850) rfl rfl) rfl ?_
            refine wq_run rfl ?_
            refine wq_val (v := .int .u16 p0.Score.1) (val_load tt_ok rfl (List.Mem.tail _ (List.Mem.tail _ (List.Mem.head _))) rfl) rfl ?_
            refine wq_run rfl ?_
            refine wq_pure (v := .bool (decide (v17.Score.1 < p0.Score.1))) tt_ok rfl rfl ?_
            simp only [Option.some.injEq, Prod.mk.injEq] at h
            obtain rfl := h
            have h := hg128; clear hg128
            refine wq_pure (v := .bool (decide (v17.Score.1 < p0.Score.1))) tt_ok rfl rfl ?_
            refine wq_nil ?_
            refine wx_then ?_
            refine wc_cond rfl (fun hc => ?_) (fun hc => ?_)
            · replace h := ct hc h
              refine wc_seq ?_
              refine wc_region ?_
              refine wl_pure tt_ok rfl rfl ?_
              refine wl_nil ?_
              refine wx_then ?_
              refine wc_ret ?_
              refine wx_block_ret ?_
              refine wx_then_ret ?_
              obtain rfl := Option.some.inj h
              have h := hl41; clear hl41; try dsimp only [orE_l, orE_r] at h
              refine wx_then_ret ?_
              refine wx_block_ret ?_
              refine wx_then_ret ?_
              simp only [Option.some.injEq] at h
              obtain rfl := h
              exact wx_pf tt_ok (.inl rfl) Tryd.results7 (Res.tmp rfl Res.nil) rfl
            replace h := cf hc h
            refine wc_skip ?_
            refine wx_block ?_
            refine wx_then ?_
            refine wc_region ?_
            refine wl_pure tt_ok rfl rfl ?_
            refine wl_pure (v := .int .i64 (IntKind.wrap .i64 (j41_6 + (1 : Int)))) tt_ok rfl rfl ?_
            refine wl_pure tt_ok rfl rfl ?_
            refine wl_nil ?_
            exact wx_round m41 (Nat.lt_succ_self m41) ⟨(IntKind.wrap .i64 (j41_6 + (1 : Int))), h, rfl, rfl⟩ (agree_cons rfl (agree_cons rfl (agree_cons rfl (agree_cons rfl agree_nil)))) (pSub (pCons (Sel.sc (Sel.sc Sel.hc)) (pCons (Sel.sc (Sel.sc Sel.hc)) (pApp (Sel.sc (Sel.sc Sel.ha)) pNil))))
          replace h := cf hc h
          refine wq_skip rfl rfl ?_
          refine wq_skip rfl rfl ?_
          refine wq_skip rfl rfl ?_
          refine wq_skip rfl rfl ?_
          refine wq_skip rfl rfl ?_
          refine wq_skip rfl rfl ?_
          refine wq_skip rfl rfl ?_
          refine wq_skip rfl rfl ?_
          refine wq_skip rfl rfl ?_
          refine wq_skip rfl rfl ?_
          simp only [Option.some.injEq, Prod.mk.injEq] at h
          obtain rfl := h
          have h := hg117; clear hg117
          refine wq_pure (v := .bool false) tt_ok rfl rfl ?_
          refine wq_pure tt_ok rfl rfl ?_
          replace h := bsome h; obtain ⟨v128, h, hg128⟩ := h
          replace h := cf rfl h
          refine wq_run rfl ?_
          refine wq_pure tt_ok rfl rfl ?_
          refine wq_run rfl ?_
          refine wq_pure (v := .pointer (some ⟨b5, 17, none⟩)) tt_ok rfl rfl ?_
          refine wq_run rfl ?_
          refine wq_val (v := .pointer (some ⟨b5, 17, none⟩)) (val_ia (j := 0) tt_ok rfl rfl rfl rfl (by simpa using hx850) rfl rfl) rfl ?_
          refine wq_run rfl ?_
          refine wq_val (v := .int .u16 v17.Score.1) (val_load tt_ok rfl (List.Mem.tail _ (List.Mem.tail _ (List.Mem.tail _ (List.Mem.head _)))) rfl) rfl ?_
          refine wq_run rfl ?_
          refine wq_pure tt_ok rfl rfl ?_
          refine wq_run rfl ?_
          refine wq_pure (v := .pointer (some ⟨b2, 17, none⟩)) tt_ok rfl rfl ?_
          refine wq_run rfl ?_
          refine wq_val (v := .pointer (some ⟨b2, 17, none⟩)) (val_ia (j := 0) tt_ok rfl rfl rfl rfl (by simpa using hx850) rfl rfl) rfl ?_
          refine wq_run rfl ?_
          refine wq_val (v := .int .u16 p0.Score.1) (val_load tt_ok rfl (List.Mem.tail _ (List.Mem.tail _ (List.Mem.head _))) rfl) rfl ?_
          refine wq_run rfl ?_
          refine wq_pure (v := .bool (decide (v17.Score.1 < p0.Score.1))) tt_ok rfl rfl ?_
          simp only [Option.some.injEq, Prod.mk.injEq] at h
          obtain rfl := h
          have h := hg128; clear hg128
          refine wq_pure (v := .bool (decide (v17.Score.1 < p0.Score.1))) tt_ok rfl rfl ?_
          refine wq_nil ?_
          refine wx_then ?_
          refine wc_cond rfl (fun hc => ?_) (fun hc => ?_)
          · replace h := ct hc h
            refine wc_seq ?_
            refine wc_region ?_
            refine wl_pure tt_ok rfl rfl ?_
            refine wl_nil ?_
            refine wx_then ?_
            refine wc_ret ?_
            refine wx_block_ret ?_
            refine wx_then_ret ?_
            obtain rfl := Option.some.inj h
            have h := hl41; clear hl41; try dsimp only [orE_l, orE_r] at h
            refine wx_then_ret ?_
            refine wx_block_ret ?_
            refine wx_then_ret ?_
            simp only [Option.some.injEq] at h
            obtain rfl := h
            exact wx_pf tt_ok (.inl rfl) Tryd.results7 (Res.tmp rfl Res.nil) rfl
          replace h := cf hc h
          refine wc_skip ?_
          refine wx_block ?_
          refine wx_then ?_
          refine wc_region ?_
          refine wl_pure tt_ok rfl rfl ?_
          refine wl_pure (v := .int .i64 (IntKind.wrap .i64 (j41_6 + (1 : Int)))) tt_ok rfl rfl ?_
          refine wl_pure tt_ok rfl rfl ?_
          refine wl_nil ?_
          exact wx_round m41 (Nat.lt_succ_self m41) ⟨(IntKind.wrap .i64 (j41_6 + (1 : Int))), h, rfl, rfl⟩ (agree_cons rfl (agree_cons rfl (agree_cons rfl (agree_cons rfl agree_nil)))) (pSub (pCons (Sel.sc (Sel.sc Sel.hc)) (pCons (Sel.sc (Sel.sc Sel.hc)) (pApp (Sel.sc (Sel.sc Sel.ha)) pNil))))
        refine k_chgf rfl rfl (chg_alloc tt_ok rfl) rfl (.inr (by rintro _ _ ⟨_, rfl, rfl⟩; exact ⟨_, (pCons (Sel.sc Sel.hc) (pCons (Sel.sc Sel.hc) (pApp (Sel.sc Sel.ha) pNil)))⟩)) ?_
        rintro _ _ ⟨b8, rfl, rfl⟩
        refine k_chg rfl rfl rfl (chg_alloc tt_ok rfl) rfl (.inr (by rintro _ _ ⟨_, rfl, rfl⟩; exact ⟨_, (pCons (Sel.sc (Sel.sc Sel.hc)) (pCons (Sel.sc (Sel.sc Sel.hc)) (pApp (Sel.sc (Sel.sc Sel.ha)) pNil)))⟩)) ?_
        rintro _ _ ⟨b7, rfl, rfl⟩
        refine k_chg0 rfl rfl rfl (chg_store tt_ok rfl Upd.here rfl rfl rfl rfl rfl rfl) (.inr (by rintro _ _ rfl; exact ⟨_, (pCons (Sel.sc (Sel.sc Sel.hc)) (pCons (Sel.sc (Sel.sc Sel.hc)) (pApp (Sel.sc (Sel.sc Sel.ha)) pNil)))⟩)) ?_
        rintro _ _ rfl
        refine k_chg0 rfl rfl rfl (chg_store tt_ok rfl (Upd.there Upd.here) rfl rfl rfl rfl rfl rfl) (.inl rfl) ?_
        rintro _ _ rfl
        refine k_end (by kernel_rfl) ?_
        refine wx_then ?_
        refine wc_seq ?_
        refine wc_region ?_
        refine wl_pure (v := .pointer (some ⟨b7, 0, none⟩)) tt_ok rfl rfl ?_
        refine wl_val (v := .int .i32 p0.Players.1.X) (val_load tt_ok rfl (List.Mem.head _) rfl) rfl ?_
        refine wl_pure (v := .pointer (some ⟨b8, 0, none⟩)) tt_ok rfl rfl ?_
        refine wl_val (v := .int .i32 v17.Players.1.X) (val_load tt_ok rfl (List.Mem.tail _ (List.Mem.head _)) rfl) rfl ?_
        replace h := bsome h; obtain ⟨v95, x95, h⟩ := h
        refine wl_cq Tryd.call19 rfl rfl rfl (q_pf (k_hindcastlaw09_apart x95) (fun _ _ => trivial)) rfl ?_
        refine wl_pure (v := .bool (decide ((1024 : Int) < v95))) tt_ok rfl rfl ?_
        refine wl_pure tt_ok rfl rfl ?_
        replace h := bsome h; obtain ⟨v104, h, hg104⟩ := h
        refine wl_split (t := 97) rfl (fun hc => ?_) (fun hc => ?_)
        · replace h := ct hc h
          refine wl_skip rfl rfl ?_
          refine wl_skip rfl rfl ?_
          refine wl_skip rfl rfl ?_
          refine wl_skip rfl rfl ?_
          refine wl_skip rfl rfl ?_
          refine wl_skip rfl rfl ?_
          simp only [Option.some.injEq, Prod.mk.injEq] at h
          obtain rfl := h
          have h := hg104; clear hg104
          refine wl_pure (v := .bool true) tt_ok rfl rfl ?_
          refine wl_pure tt_ok rfl rfl ?_
          refine wl_nil ?_
          refine wx_then ?_
          refine wc_seq ?_
          refine wc_quiet (by kernel_rfl) (by kernel_rfl) ?_
          refine wq_pure tt_ok rfl rfl ?_
          refine wq_pure tt_ok rfl rfl ?_
          replace h := bsome h; obtain ⟨v117, h, hg117⟩ := h
          replace h := ct rfl h
          refine wq_run rfl ?_
          refine wq_pure (v := .pointer (some ⟨b5, 1, none⟩)) tt_ok rfl rfl ?_
          refine wq_run rfl ?_
          refine wq_val (v := .int .u64 v17.Seed) (val_load tt_ok rfl (List.Mem.tail _ (List.Mem.tail _ (List.Mem.tail _ (List.Mem.head _)))) rfl) rfl ?_
          refine wq_run rfl ?_
          refine wq_pure (v := .pointer (some ⟨b2, 1, none⟩)) tt_ok rfl rfl ?_
          refine wq_run rfl ?_
          refine wq_val (v := .int .u64 p0.Seed) (val_load tt_ok rfl (List.Mem.tail _ (List.Mem.tail _ (List.Mem.head _))) rfl) rfl ?_
          refine wq_run rfl ?_
          refine wq_pure (v := .bool (v17.Seed == p0.Seed)) tt_ok rfl rfl ?_
          refine wq_run rfl ?_
          refine wq_pure tt_ok rfl rfl ?_
          replace h := bsome h; obtain ⟨v116, h, hg116⟩ := h
          refine wq_split (t := 112) rfl (fun hc => ?_) (fun hc => ?_)
          · replace h := ct hc h
            refine wq_skip rfl rfl ?_
            refine wq_skip rfl rfl ?_
            refine wq_skip rfl rfl ?_
            simp only [Option.some.injEq, Prod.mk.injEq] at h
            obtain rfl := h
            have h := hg116; clear hg116
            refine wq_run rfl ?_
            refine wq_pure (v := .bool true) tt_ok rfl rfl ?_
            simp only [Option.some.injEq, Prod.mk.injEq] at h
            obtain rfl := h
            have h := hg117; clear hg117
            refine wq_pure (v := .bool true) tt_ok rfl rfl ?_
            refine wq_pure tt_ok rfl rfl ?_
            replace h := bsome h; obtain ⟨v128, h, hg128⟩ := h
            replace h := ct rfl h
            refine wq_skip rfl rfl ?_
            refine wq_skip rfl rfl ?_
            refine wq_skip rfl rfl ?_
            refine wq_skip rfl rfl ?_
            refine wq_skip rfl rfl ?_
            refine wq_skip rfl rfl ?_
            refine wq_skip rfl rfl ?_
            refine wq_skip rfl rfl ?_
            refine wq_skip rfl rfl ?_
            simp only [Option.some.injEq, Prod.mk.injEq] at h
            obtain rfl := h
            have h := hg128; clear hg128
            refine wq_pure (v := .bool true) tt_ok rfl rfl ?_
            refine wq_nil ?_
            refine wx_then ?_
            replace h := ct rfl h
            refine wc_cond_true rfl ?_
            refine wc_seq ?_
            refine wc_region ?_
            refine wl_pure tt_ok rfl rfl ?_
            refine wl_nil ?_
            refine wx_then ?_
            refine wc_ret ?_
            refine wx_block_ret ?_
            refine wx_then_ret ?_
            obtain rfl := Option.some.inj h
            have h := hl41; clear hl41; try dsimp only [orE_l, orE_r] at h
            refine wx_then_ret ?_
            refine wx_block_ret ?_
            refine wx_then_ret ?_
            simp only [Option.some.injEq] at h
            obtain rfl := h
            exact wx_pf tt_ok (.inl rfl) Tryd.results7 (Res.tmp rfl Res.nil) rfl
          replace h := cf hc h
          refine wq_run rfl ?_
          refine wq_pure (v := .pointer (some ⟨b8, 4, none⟩)) tt_ok rfl rfl ?_
          refine wq_run rfl ?_
          refine wq_val (v := .int .u8 v17.Players.1.Health) (val_load tt_ok rfl (List.Mem.tail _ (List.Mem.head _)) rfl) rfl ?_
          refine wq_run rfl ?_
          refine wq_pure (v := .bool (v17.Players.1.Health != (100 : Int))) tt_ok rfl rfl ?_
          simp only [Option.some.injEq, Prod.mk.injEq] at h
          obtain rfl := h
          have h := hg116; clear hg116
          refine wq_run rfl ?_
          refine wq_pure (v := .bool (v17.Players.1.Health != (100 : Int))) tt_ok rfl rfl ?_
          simp only [Option.some.injEq, Prod.mk.injEq] at h
          obtain rfl := h
          have h := hg117; clear hg117
          refine wq_pure (v := .bool (v17.Players.1.Health != (100 : Int))) tt_ok rfl rfl ?_
          refine wq_pure tt_ok rfl rfl ?_
          replace h := bsome h; obtain ⟨v128, h, hg128⟩ := h
          refine wq_split (t := 118) rfl (fun hc => ?_) (fun hc => ?_)
          · replace h := ct hc h
            refine wq_skip rfl rfl ?_
            refine wq_skip rfl rfl ?_
            refine wq_skip rfl rfl ?_
            refine wq_skip rfl rfl ?_
            refine wq_skip rfl rfl ?_
            refine wq_skip rfl rfl ?_
            refine wq_skip rfl rfl ?_
            refine wq_skip rfl rfl ?_
            refine wq_skip rfl rfl ?_
            simp only [Option.some.injEq, Prod.mk.injEq] at h
            obtain rfl := h
            have h := hg128; clear hg128
            refine wq_pure (v := .bool true) tt_ok rfl rfl ?_
            refine wq_nil ?_
            refine wx_then ?_
            replace h := ct rfl h
            refine wc_cond_true rfl ?_
            refine wc_seq ?_
            refine wc_region ?_
            refine wl_pure tt_ok rfl rfl ?_
            refine wl_nil ?_
            refine wx_then ?_
            refine wc_ret ?_
            refine wx_block_ret ?_
            refine wx_then_ret ?_
            obtain rfl := Option.some.inj h
            have h := hl41; clear hl41; try dsimp only [orE_l, orE_r] at h
            refine wx_then_ret ?_
            refine wx_block_ret ?_
            refine wx_then_ret ?_
            simp only [Option.some.injEq] at h
            obtain rfl := h
            exact wx_pf tt_ok (.inl rfl) Tryd.results7 (Res.tmp rfl Res.nil) rfl
          replace h := cf hc h
          refine wq_run rfl ?_
          refine wq_pure tt_ok rfl rfl ?_
          refine wq_run rfl ?_
          refine wq_pure (v := .pointer (some ⟨b5, 17, none⟩)) tt_ok rfl rfl ?_
          refine wq_run rfl ?_
          refine wq_val (v := .pointer (some ⟨b5, 17, none⟩)) (val_ia (j := 0) tt_ok rfl rfl rfl rfl (by simpa using hx850) rfl rfl) rfl ?_
          refine wq_run rfl ?_
          refine wq_val (v := .int .u16 v17.Score.1) (val_load tt_ok rfl (List.Mem.tail _ (List.Mem.tail _ (List.Mem.tail _ (List.Mem.head _)))) rfl) rfl ?_
          refine wq_run rfl ?_
          refine wq_pure tt_ok rfl rfl ?_
          refine wq_run rfl ?_
          refine wq_pure (v := .pointer (some ⟨b2, 17, none⟩)) tt_ok rfl rfl ?_
          refine wq_run rfl ?_
          refine wq_val (v := .pointer (some ⟨b2, 17, none⟩)) (val_ia (j := 0) tt_ok rfl rfl rfl rfl (by simpa using hx850) rfl rfl) rfl ?_
          refine wq_run rfl ?_
          refine wq_val (v := .int .u16 p0.Score.1) (val_load tt_ok rfl (List.Mem.tail _ (List.Mem.tail _ (List.Mem.head _))) rfl) rfl ?_
          refine wq_run rfl ?_
          refine wq_pure (v := .bool (decide (v17.Score.1 < p0.Score.1))) tt_ok rfl rfl ?_
          simp only [Option.some.injEq, Prod.mk.injEq] at h
          obtain rfl := h
          have h := hg128; clear hg128
          refine wq_pure (v := .bool (decide (v17.Score.1 < p0.Score.1))) tt_ok rfl rfl ?_
          refine wq_nil ?_
          refine wx_then ?_
          refine wc_cond rfl (fun hc => ?_) (fun hc => ?_)
          · replace h := ct hc h
            refine wc_seq ?_
            refine wc_region ?_
            refine wl_pure tt_ok rfl rfl ?_
            refine wl_nil ?_
            refine wx_then ?_
            refine wc_ret ?_
            refine wx_block_ret ?_
            refine wx_then_ret ?_
            obtain rfl := Option.some.inj h
            have h := hl41; clear hl41; try dsimp only [orE_l, orE_r] at h
            refine wx_then_ret ?_
            refine wx_block_ret ?_
            refine wx_then_ret ?_
            simp only [Option.some.injEq] at h
            obtain rfl := h
            exact wx_pf tt_ok (.inl rfl) Tryd.results7 (Res.tmp rfl Res.nil) rfl
          replace h := cf hc h
          refine wc_skip ?_
          refine wx_block ?_
          refine wx_then ?_
          refine wc_region ?_
          refine wl_pure tt_ok rfl rfl ?_
          refine wl_pure (v := .int .i64 (IntKind.wrap .i64 (j41_6 + (1 : Int)))) tt_ok rfl rfl ?_
          refine wl_pure tt_ok rfl rfl ?_
          refine wl_nil ?_
          exact wx_round m41 (Nat.lt_succ_self m41) ⟨(IntKind.wrap .i64 (j41_6 + (1 : Int))), h, rfl, rfl⟩ (agree_cons rfl (agree_cons rfl (agree_cons rfl (agree_cons rfl agree_nil)))) (pSub (pCons (Sel.sc (Sel.sc Sel.hc)) (pCons (Sel.sc (Sel.sc Sel.hc)) (pApp (Sel.sc (Sel.sc Sel.ha)) pNil))))
        replace h := cf hc h
        refine wl_run rfl ?_
        refine wl_pure (v := .pointer (some ⟨b7, 1, none⟩)) tt_ok rfl rfl ?_
        refine wl_run rfl ?_
        refine wl_val (v := .int .i32 p0.Players.1.Y) (val_load tt_ok rfl (List.Mem.head _) rfl) rfl ?_
        refine wl_run rfl ?_
        refine wl_pure (v := .pointer (some ⟨b8, 1, none⟩)) tt_ok rfl rfl ?_
        refine wl_run rfl ?_
        refine wl_val (v := .int .i32 v17.Players.1.Y) (val_load tt_ok rfl (List.Mem.tail _ (List.Mem.head _)) rfl) rfl ?_
        replace h := bsome h; obtain ⟨v102, x102, h⟩ := h
        refine wl_run rfl ?_
        refine wl_cq Tryd.call19 rfl rfl rfl (q_pf (k_hindcastlaw09_apart x102) (fun _ _ => trivial)) rfl ?_
        refine wl_run rfl ?_
        refine wl_pure (v := .bool (decide ((1024 : Int) < v102))) tt_ok rfl rfl ?_
        simp only [Option.some.injEq, Prod.mk.injEq] at h
        obtain rfl := h
        have h := hg104; clear hg104
        refine wl_pure (v := .bool (decide ((1024 : Int) < v102))) tt_ok rfl rfl ?_
        refine wl_pure tt_ok rfl rfl ?_
        refine wl_nil ?_
        refine wx_then ?_
        refine wc_seq ?_
        refine wc_quiet (by kernel_rfl) (by kernel_rfl) ?_
        refine wq_pure tt_ok rfl rfl ?_
        refine wq_pure tt_ok rfl rfl ?_
        replace h := bsome h; obtain ⟨v117, h, hg117⟩ := h
        refine wq_split (t := 106) rfl (fun hc => ?_) (fun hc => ?_)
        · replace h := ct hc h
          refine wq_run rfl ?_
          refine wq_pure (v := .pointer (some ⟨b5, 1, none⟩)) tt_ok rfl rfl ?_
          refine wq_run rfl ?_
          refine wq_val (v := .int .u64 v17.Seed) (val_load tt_ok rfl (List.Mem.tail _ (List.Mem.tail _ (List.Mem.tail _ (List.Mem.head _)))) rfl) rfl ?_
          refine wq_run rfl ?_
          refine wq_pure (v := .pointer (some ⟨b2, 1, none⟩)) tt_ok rfl rfl ?_
          refine wq_run rfl ?_
          refine wq_val (v := .int .u64 p0.Seed) (val_load tt_ok rfl (List.Mem.tail _ (List.Mem.tail _ (List.Mem.head _))) rfl) rfl ?_
          refine wq_run rfl ?_
          refine wq_pure (v := .bool (v17.Seed == p0.Seed)) tt_ok rfl rfl ?_
          refine wq_run rfl ?_
          refine wq_pure tt_ok rfl rfl ?_
          replace h := bsome h; obtain ⟨v116, h, hg116⟩ := h
          refine wq_split (t := 112) rfl (fun hc => ?_) (fun hc => ?_)
          · replace h := ct hc h
            refine wq_skip rfl rfl ?_
            refine wq_skip rfl rfl ?_
            refine wq_skip rfl rfl ?_
            simp only [Option.some.injEq, Prod.mk.injEq] at h
            obtain rfl := h
            have h := hg116; clear hg116
            refine wq_run rfl ?_
            refine wq_pure (v := .bool true) tt_ok rfl rfl ?_
            simp only [Option.some.injEq, Prod.mk.injEq] at h
            obtain rfl := h
            have h := hg117; clear hg117
            refine wq_pure (v := .bool true) tt_ok rfl rfl ?_
            refine wq_pure tt_ok rfl rfl ?_
            replace h := bsome h; obtain ⟨v128, h, hg128⟩ := h
            replace h := ct rfl h
            refine wq_skip rfl rfl ?_
            refine wq_skip rfl rfl ?_
            refine wq_skip rfl rfl ?_
            refine wq_skip rfl rfl ?_
            refine wq_skip rfl rfl ?_
            refine wq_skip rfl rfl ?_
            refine wq_skip rfl rfl ?_
            refine wq_skip rfl rfl ?_
            refine wq_skip rfl rfl ?_
            simp only [Option.some.injEq, Prod.mk.injEq] at h
            obtain rfl := h
            have h := hg128; clear hg128
            refine wq_pure (v := .bool true) tt_ok rfl rfl ?_
            refine wq_nil ?_
            refine wx_then ?_
            replace h := ct rfl h
            refine wc_cond_true rfl ?_
            refine wc_seq ?_
            refine wc_region ?_
            refine wl_pure tt_ok rfl rfl ?_
            refine wl_nil ?_
            refine wx_then ?_
            refine wc_ret ?_
            refine wx_block_ret ?_
            refine wx_then_ret ?_
            obtain rfl := Option.some.inj h
            have h := hl41; clear hl41; try dsimp only [orE_l, orE_r] at h
            refine wx_then_ret ?_
            refine wx_block_ret ?_
            refine wx_then_ret ?_
            simp only [Option.some.injEq] at h
            obtain rfl := h
            exact wx_pf tt_ok (.inl rfl) Tryd.results7 (Res.tmp rfl Res.nil) rfl
          replace h := cf hc h
          refine wq_run rfl ?_
          refine wq_pure (v := .pointer (some ⟨b8, 4, none⟩)) tt_ok rfl rfl ?_
          refine wq_run rfl ?_
          refine wq_val (v := .int .u8 v17.Players.1.Health) (val_load tt_ok rfl (List.Mem.tail _ (List.Mem.head _)) rfl) rfl ?_
          refine wq_run rfl ?_
          refine wq_pure (v := .bool (v17.Players.1.Health != (100 : Int))) tt_ok rfl rfl ?_
          simp only [Option.some.injEq, Prod.mk.injEq] at h
          obtain rfl := h
          have h := hg116; clear hg116
          refine wq_run rfl ?_
          refine wq_pure (v := .bool (v17.Players.1.Health != (100 : Int))) tt_ok rfl rfl ?_
          simp only [Option.some.injEq, Prod.mk.injEq] at h
          obtain rfl := h
          have h := hg117; clear hg117
          refine wq_pure (v := .bool (v17.Players.1.Health != (100 : Int))) tt_ok rfl rfl ?_
          refine wq_pure tt_ok rfl rfl ?_
          replace h := bsome h; obtain ⟨v128, h, hg128⟩ := h
          refine wq_split (t := 118) rfl (fun hc => ?_) (fun hc => ?_)
          · replace h := ct hc h
            refine wq_skip rfl rfl ?_
            refine wq_skip rfl rfl ?_
            refine wq_skip rfl rfl ?_
            refine wq_skip rfl rfl ?_
            refine wq_skip rfl rfl ?_
            refine wq_skip rfl rfl ?_
            refine wq_skip rfl rfl ?_
            refine wq_skip rfl rfl ?_
            refine wq_skip rfl rfl ?_
            simp only [Option.some.injEq, Prod.mk.injEq] at h
            obtain rfl := h
            have h := hg128; clear hg128
            refine wq_pure (v := .bool true) tt_ok rfl rfl ?_
            refine wq_nil ?_
            refine wx_then ?_
            replace h := ct rfl h
            refine wc_cond_true rfl ?_
            refine wc_seq ?_
            refine wc_region ?_
            refine wl_pure tt_ok rfl rfl ?_
            refine wl_nil ?_
            refine wx_then ?_
            refine wc_ret ?_
            refine wx_block_ret ?_
            refine wx_then_ret ?_
            obtain rfl := Option.some.inj h
            have h := hl41; clear hl41; try dsimp only [orE_l, orE_r] at h
            refine wx_then_ret ?_
            refine wx_block_ret ?_
            refine wx_then_ret ?_
            simp only [Option.some.injEq] at h
            obtain rfl := h
            exact wx_pf tt_ok (.inl rfl) Tryd.results7 (Res.tmp rfl Res.nil) rfl
          replace h := cf hc h
          refine wq_run rfl ?_
          refine wq_pure tt_ok rfl rfl ?_
          refine wq_run rfl ?_
          refine wq_pure (v := .pointer (some ⟨b5, 17, none⟩)) tt_ok rfl rfl ?_
          refine wq_run rfl ?_
          refine wq_val (v := .pointer (some ⟨b5, 17, none⟩)) (val_ia (j := 0) tt_ok rfl rfl rfl rfl (by simpa using hx850) rfl rfl) rfl ?_
          refine wq_run rfl ?_
          refine wq_val (v := .int .u16 v17.Score.1) (val_load tt_ok rfl (List.Mem.tail _ (List.Mem.tail _ (List.Mem.tail _ (List.Mem.head _)))) rfl) rfl ?_
          refine wq_run rfl ?_
          refine wq_pure tt_ok rfl rfl ?_
          refine wq_run rfl ?_
          refine wq_pure (v := .pointer (some ⟨b2, 17, none⟩)) tt_ok rfl rfl ?_
          refine wq_run rfl ?_
          refine wq_val (v := .pointer (some ⟨b2, 17, none⟩)) (val_ia (j := 0) tt_ok rfl rfl rfl rfl (by simpa using hx850) rfl rfl) rfl ?_
          refine wq_run rfl ?_
          refine wq_val (v := .int .u16 p0.Score.1) (val_load tt_ok rfl (List.Mem.tail _ (List.Mem.tail _ (List.Mem.head _))) rfl) rfl ?_
          refine wq_run rfl ?_
          refine wq_pure (v := .bool (decide (v17.Score.1 < p0.Score.1))) tt_ok rfl rfl ?_
          simp only [Option.some.injEq, Prod.mk.injEq] at h
          obtain rfl := h
          have h := hg128; clear hg128
          refine wq_pure (v := .bool (decide (v17.Score.1 < p0.Score.1))) tt_ok rfl rfl ?_
          refine wq_nil ?_
          refine wx_then ?_
          refine wc_cond rfl (fun hc => ?_) (fun hc => ?_)
          · replace h := ct hc h
            refine wc_seq ?_
            refine wc_region ?_
            refine wl_pure tt_ok rfl rfl ?_
            refine wl_nil ?_
            refine wx_then ?_
            refine wc_ret ?_
            refine wx_block_ret ?_
            refine wx_then_ret ?_
            obtain rfl := Option.some.inj h
            have h := hl41; clear hl41; try dsimp only [orE_l, orE_r] at h
            refine wx_then_ret ?_
            refine wx_block_ret ?_
            refine wx_then_ret ?_
            simp only [Option.some.injEq] at h
            obtain rfl := h
            exact wx_pf tt_ok (.inl rfl) Tryd.results7 (Res.tmp rfl Res.nil) rfl
          replace h := cf hc h
          refine wc_skip ?_
          refine wx_block ?_
          refine wx_then ?_
          refine wc_region ?_
          refine wl_pure tt_ok rfl rfl ?_
          refine wl_pure (v := .int .i64 (IntKind.wrap .i64 (j41_6 + (1 : Int)))) tt_ok rfl rfl ?_
          refine wl_pure tt_ok rfl rfl ?_
          refine wl_nil ?_
          exact wx_round m41 (Nat.lt_succ_self m41) ⟨(IntKind.wrap .i64 (j41_6 + (1 : Int))), h, rfl, rfl⟩ (agree_cons rfl (agree_cons rfl (agree_cons rfl (agree_cons rfl agree_nil)))) (pSub (pCons (Sel.sc (Sel.sc Sel.hc)) (pCons (Sel.sc (Sel.sc Sel.hc)) (pApp (Sel.sc (Sel.sc Sel.ha)) pNil))))
        replace h := cf hc h
        refine wq_skip rfl rfl ?_
        refine wq_skip rfl rfl ?_
        refine wq_skip rfl rfl ?_
        refine wq_skip rfl rfl ?_
        refine wq_skip rfl rfl ?_
        refine wq_skip rfl rfl ?_
        refine wq_skip rfl rfl ?_
        refine wq_skip rfl rfl ?_
        refine wq_skip rfl rfl ?_
        refine wq_skip rfl rfl ?_
        simp only [Option.some.injEq, Prod.mk.injEq] at h
        obtain rfl := h
        have h := hg117; clear hg117
        refine wq_pure (v := .bool false) tt_ok rfl rfl ?_
        refine wq_pure tt_ok rfl rfl ?_
        replace h := bsome h; obtain ⟨v128, h, hg128⟩ := h
        replace h := cf rfl h
        refine wq_run rfl ?_
        refine wq_pure tt_ok rfl rfl ?_
        refine wq_run rfl ?_
        refine wq_pure (v := .pointer (some ⟨b5, 17, none⟩)) tt_ok rfl rfl ?_
        refine wq_run rfl ?_
        refine wq_val (v := .pointer (some ⟨b5, 17, none⟩)) (val_ia (j := 0) tt_ok rfl rfl rfl rfl (by simpa using hx850) rfl rfl) rfl ?_
        refine wq_run rfl ?_
        refine wq_val (v := .int .u16 v17.Score.1) (val_load tt_ok rfl (List.Mem.tail _ (List.Mem.tail _ (List.Mem.tail _ (List.Mem.head _)))) rfl) rfl ?_
        refine wq_run rfl ?_
        refine wq_pure tt_ok rfl rfl ?_
        refine wq_run rfl ?_
        refine wq_pure (v := .pointer (some ⟨b2, 17, none⟩)) tt_ok rfl rfl ?_
        refine wq_run rfl ?_
        refine wq_val (v := .pointer (some ⟨b2, 17, none⟩)) (val_ia (j := 0) tt_ok rfl rfl rfl rfl (by simpa using hx850) rfl rfl) rfl ?_
        refine wq_run rfl ?_
        refine wq_val (v := .int .u16 p0.Score.1) (val_load tt_ok rfl (List.Mem.tail _ (List.Mem.tail _ (List.Mem.head _))) rfl) rfl ?_
        refine wq_run rfl ?_
        refine wq_pure (v := .bool (decide (v17.Score.1 < p0.Score.1))) tt_ok rfl rfl ?_
        simp only [Option.some.injEq, Prod.mk.injEq] at h
        obtain rfl := h
        have h := hg128; clear hg128
        refine wq_pure (v := .bool (decide (v17.Score.1 < p0.Score.1))) tt_ok rfl rfl ?_
        refine wq_nil ?_
        refine wx_then ?_
        refine wc_cond rfl (fun hc => ?_) (fun hc => ?_)
        · replace h := ct hc h
          refine wc_seq ?_
          refine wc_region ?_
          refine wl_pure tt_ok rfl rfl ?_
          refine wl_nil ?_
          refine wx_then ?_
          refine wc_ret ?_
          refine wx_block_ret ?_
          refine wx_then_ret ?_
          obtain rfl := Option.some.inj h
          have h := hl41; clear hl41; try dsimp only [orE_l, orE_r] at h
          refine wx_then_ret ?_
          refine wx_block_ret ?_
          refine wx_then_ret ?_
          simp only [Option.some.injEq] at h
          obtain rfl := h
          exact wx_pf tt_ok (.inl rfl) Tryd.results7 (Res.tmp rfl Res.nil) rfl
        replace h := cf hc h
        refine wc_skip ?_
        refine wx_block ?_
        refine wx_then ?_
        refine wc_region ?_
        refine wl_pure tt_ok rfl rfl ?_
        refine wl_pure (v := .int .i64 (IntKind.wrap .i64 (j41_6 + (1 : Int)))) tt_ok rfl rfl ?_
        refine wl_pure tt_ok rfl rfl ?_
        refine wl_nil ?_
        exact wx_round m41 (Nat.lt_succ_self m41) ⟨(IntKind.wrap .i64 (j41_6 + (1 : Int))), h, rfl, rfl⟩ (agree_cons rfl (agree_cons rfl (agree_cons rfl (agree_cons rfl agree_nil)))) (pSub (pCons (Sel.sc (Sel.sc Sel.hc)) (pCons (Sel.sc (Sel.sc Sel.hc)) (pApp (Sel.sc (Sel.sc Sel.ha)) pNil))))
      replace h := cf hx850 h
      rcases Bool.eq_false_or_eq_true (j41_6 == (1 : Int)) with hx851 | hx851
      · replace h := ct hx851 h
        refine k_val (v := .pointer (some ⟨b2, 9, none⟩)) rfl rfl rfl (pSub (pCons Sel.hc (pCons Sel.hc (pApp Sel.ha pNil)))) (val_ia (j := 1) tt_ok rfl rfl rfl rfl (by simpa using hx851) rfl rfl) rfl ?_
        refine k_val (v := .agg #[.int .i32 p0.Players.2.X, .int .i32 p0.Players.2.Y, .int .i32 p0.Players.2.VX, .int .i32 p0.Players.2.VY, .int .u8 p0.Players.2.Health, .int .u8 p0.Players.2.Cool, .int .u8 p0.Players.2.Face]) rfl rfl rfl (pSub (pCons Sel.hc (pCons Sel.hc (pApp Sel.ha pNil)))) (val_load tt_ok rfl (List.Mem.head _) rfl) rfl ?_
        refine k_val rfl rfl rfl (pSub (pCons Sel.hc (pCons Sel.hc (pApp Sel.ha pNil)))) (stepV_ok tt_ok rfl) rfl ?_
        refine k_val (v := .pointer (some ⟨b5, 2, none⟩)) rfl rfl rfl (pSub (pCons Sel.hc (pCons Sel.hc (pApp Sel.ha pNil)))) (stepV_ok tt_ok rfl) rfl ?_
        refine k_val (v := .pointer (some ⟨b5, 9, none⟩)) rfl rfl rfl (pSub (pCons Sel.hc (pCons Sel.hc (pApp Sel.ha pNil)))) (val_ia (j := 1) tt_ok rfl rfl rfl rfl (by simpa using hx851) rfl rfl) rfl ?_
        refine k_val (v := .agg #[.int .i32 v17.Players.2.X, .int .i32 v17.Players.2.Y, .int .i32 v17.Players.2.VX, .int .i32 v17.Players.2.VY, .int .u8 v17.Players.2.Health, .int .u8 v17.Players.2.Cool, .int .u8 v17.Players.2.Face]) rfl rfl rfl (pSub (pCons Sel.hc (pCons Sel.hc (pApp Sel.ha pNil)))) (val_load tt_ok rfl (List.Mem.tail _ (List.Mem.head _)) rfl) rfl ?_
        refine k_two (i := 8) (j := 9) (t1 := [9, 10, 11]) (t2 := [8, 10, 11]) (by kernel_rfl) (by kernel_rfl) (by kernel_rfl) (by kernel_rfl) ?_ ?_
        · refine k_chgf rfl rfl (chg_alloc tt_ok rfl) rfl (.inr (by rintro _ _ ⟨_, rfl, rfl⟩; exact ⟨_, (pCons (Sel.sc Sel.hc) (pCons (Sel.sc Sel.hc) (pApp (Sel.sc Sel.ha) pNil)))⟩)) ?_
          rintro _ _ ⟨b7, rfl, rfl⟩
          refine k_chg rfl rfl rfl (chg_alloc tt_ok rfl) rfl (.inr (by rintro _ _ ⟨_, rfl, rfl⟩; exact ⟨_, (pCons (Sel.sc (Sel.sc Sel.hc)) (pCons (Sel.sc (Sel.sc Sel.hc)) (pApp (Sel.sc (Sel.sc Sel.ha)) pNil)))⟩)) ?_
          rintro _ _ ⟨b8, rfl, rfl⟩
          refine k_chg0 rfl rfl rfl (chg_store tt_ok rfl (Upd.there Upd.here) rfl rfl rfl rfl rfl rfl) (.inr (by rintro _ _ rfl; exact ⟨_, (pCons (Sel.sc (Sel.sc Sel.hc)) (pCons (Sel.sc (Sel.sc Sel.hc)) (pApp (Sel.sc (Sel.sc Sel.ha)) pNil)))⟩)) ?_
          rintro _ _ rfl
          refine k_chg0 rfl rfl rfl (chg_store tt_ok rfl Upd.here rfl rfl rfl rfl rfl rfl) (.inl rfl) ?_
          rintro _ _ rfl
          refine k_end (by kernel_rfl) ?_
          refine wx_then ?_
          refine wc_seq ?_
          refine wc_region ?_
          refine wl_pure (v := .pointer (some ⟨b7, 0, none⟩)) tt_ok rfl rfl ?_
          refine wl_val (v := .int .i32 p0.Players.2.X) (val_load tt_ok rfl (List.Mem.tail _ (List.Mem.head _)) rfl) rfl ?_
          refine wl_pure (v := .pointer (some ⟨b8, 0, none⟩)) tt_ok rfl rfl ?_
          refine wl_val (v := .int .i32 v17.Players.2.X) (val_load tt_ok rfl (List.Mem.head _) rfl) rfl ?_
          replace h := bsome h; obtain ⟨v95, x95, h⟩ := h
          refine wl_cq Tryd.call19 rfl rfl rfl (q_pf (k_hindcastlaw09_apart x95) (fun _ _ => trivial)) rfl ?_
          refine wl_pure (v := .bool (decide ((1024 : Int) < v95))) tt_ok rfl rfl ?_
          refine wl_pure tt_ok rfl rfl ?_
          replace h := bsome h; obtain ⟨v104, h, hg104⟩ := h
          refine wl_split (t := 97) rfl (fun hc => ?_) (fun hc => ?_)
          · replace h := ct hc h
            refine wl_skip rfl rfl ?_
            refine wl_skip rfl rfl ?_
            refine wl_skip rfl rfl ?_
            refine wl_skip rfl rfl ?_
            refine wl_skip rfl rfl ?_
            refine wl_skip rfl rfl ?_
            simp only [Option.some.injEq, Prod.mk.injEq] at h
            obtain rfl := h
            have h := hg104; clear hg104
            refine wl_pure (v := .bool true) tt_ok rfl rfl ?_
            refine wl_pure tt_ok rfl rfl ?_
            refine wl_nil ?_
            refine wx_then ?_
            refine wc_seq ?_
            refine wc_quiet (by kernel_rfl) (by kernel_rfl) ?_
            refine wq_pure tt_ok rfl rfl ?_
            refine wq_pure tt_ok rfl rfl ?_
            replace h := bsome h; obtain ⟨v117, h, hg117⟩ := h
            replace h := ct rfl h
            refine wq_run rfl ?_
            refine wq_pure (v := .pointer (some ⟨b5, 1, none⟩)) tt_ok rfl rfl ?_
            refine wq_run rfl ?_
            refine wq_val (v := .int .u64 v17.Seed) (val_load tt_ok rfl (List.Mem.tail _ (List.Mem.tail _ (List.Mem.tail _ (List.Mem.head _)))) rfl) rfl ?_
            refine wq_run rfl ?_
            refine wq_pure (v := .pointer (some ⟨b2, 1, none⟩)) tt_ok rfl rfl ?_
            refine wq_run rfl ?_
            refine wq_val (v := .int .u64 p0.Seed) (val_load tt_ok rfl (List.Mem.tail _ (List.Mem.tail _ (List.Mem.head _))) rfl) rfl ?_
            refine wq_run rfl ?_
            refine wq_pure (v := .bool (v17.Seed == p0.Seed)) tt_ok rfl rfl ?_
            refine wq_run rfl ?_
            refine wq_pure tt_ok rfl rfl ?_
            replace h := bsome h; obtain ⟨v116, h, hg116⟩ := h
            refine wq_split (t := 112) rfl (fun hc => ?_) (fun hc => ?_)
            · replace h := ct hc h
              refine wq_skip rfl rfl ?_
              refine wq_skip rfl rfl ?_
              refine wq_skip rfl rfl ?_
              simp only [Option.some.injEq, Prod.mk.injEq] at h
              obtain rfl := h
              have h := hg116; clear hg116
              refine wq_run rfl ?_
              refine wq_pure (v := .bool true) tt_ok rfl rfl ?_
              simp only [Option.some.injEq, Prod.mk.injEq] at h
              obtain rfl := h
              have h := hg117; clear hg117
              refine wq_pure (v := .bool true) tt_ok rfl rfl ?_
              refine wq_pure tt_ok rfl rfl ?_
              replace h := bsome h; obtain ⟨v128, h, hg128⟩ := h
              replace h := ct rfl h
              refine wq_skip rfl rfl ?_
              refine wq_skip rfl rfl ?_
              refine wq_skip rfl rfl ?_
              refine wq_skip rfl rfl ?_
              refine wq_skip rfl rfl ?_
              refine wq_skip rfl rfl ?_
              refine wq_skip rfl rfl ?_
              refine wq_skip rfl rfl ?_
              refine wq_skip rfl rfl ?_
              simp only [Option.some.injEq, Prod.mk.injEq] at h
              obtain rfl := h
              have h := hg128; clear hg128
              refine wq_pure (v := .bool true) tt_ok rfl rfl ?_
              refine wq_nil ?_
              refine wx_then ?_
              replace h := ct rfl h
              refine wc_cond_true rfl ?_
              refine wc_seq ?_
              refine wc_region ?_
              refine wl_pure tt_ok rfl rfl ?_
              refine wl_nil ?_
              refine wx_then ?_
              refine wc_ret ?_
              refine wx_block_ret ?_
              refine wx_then_ret ?_
              obtain rfl := Option.some.inj h
              have h := hl41; clear hl41; try dsimp only [orE_l, orE_r] at h
              refine wx_then_ret ?_
              refine wx_block_ret ?_
              refine wx_then_ret ?_
              simp only [Option.some.injEq] at h
              obtain rfl := h
              exact wx_pf tt_ok (.inl rfl) Tryd.results7 (Res.tmp rfl Res.nil) rfl
            replace h := cf hc h
            refine wq_run rfl ?_
            refine wq_pure (v := .pointer (some ⟨b8, 4, none⟩)) tt_ok rfl rfl ?_
            refine wq_run rfl ?_
            refine wq_val (v := .int .u8 v17.Players.2.Health) (val_load tt_ok rfl (List.Mem.head _) rfl) rfl ?_
            refine wq_run rfl ?_
            refine wq_pure (v := .bool (v17.Players.2.Health != (100 : Int))) tt_ok rfl rfl ?_
            simp only [Option.some.injEq, Prod.mk.injEq] at h
            obtain rfl := h
            have h := hg116; clear hg116
            refine wq_run rfl ?_
            refine wq_pure (v := .bool (v17.Players.2.Health != (100 : Int))) tt_ok rfl rfl ?_
            simp only [Option.some.injEq, Prod.mk.injEq] at h
            obtain rfl := h
            have h := hg117; clear hg117
            refine wq_pure (v := .bool (v17.Players.2.Health != (100 : Int))) tt_ok rfl rfl ?_
            refine wq_pure tt_ok rfl rfl ?_
            replace h := bsome h; obtain ⟨v128, h, hg128⟩ := h
            refine wq_split (t := 118) rfl (fun hc => ?_) (fun hc => ?_)
            · replace h := ct hc h
              refine wq_skip rfl rfl ?_
              refine wq_skip rfl rfl ?_
              refine wq_skip rfl rfl ?_
              refine wq_skip rfl rfl ?_
              refine wq_skip rfl rfl ?_
              refine wq_skip rfl rfl ?_
              refine wq_skip rfl rfl ?_
              refine wq_skip rfl rfl ?_
              refine wq_skip rfl rfl ?_
              simp only [Option.some.injEq, Prod.mk.injEq] at h
              obtain rfl := h
              have h := hg128; clear hg128
              refine wq_pure (v := .bool true) tt_ok rfl rfl ?_
              refine wq_nil ?_
              refine wx_then ?_
              replace h := ct rfl h
              refine wc_cond_true rfl ?_
              refine wc_seq ?_
              refine wc_region ?_
              refine wl_pure tt_ok rfl rfl ?_
              refine wl_nil ?_
              refine wx_then ?_
              refine wc_ret ?_
              refine wx_block_ret ?_
              refine wx_then_ret ?_
              obtain rfl := Option.some.inj h
              have h := hl41; clear hl41; try dsimp only [orE_l, orE_r] at h
              refine wx_then_ret ?_
              refine wx_block_ret ?_
              refine wx_then_ret ?_
              simp only [Option.some.injEq] at h
              obtain rfl := h
              exact wx_pf tt_ok (.inl rfl) Tryd.results7 (Res.tmp rfl Res.nil) rfl
            replace h := cf hc h
            refine wq_run rfl ?_
            refine wq_pure tt_ok rfl rfl ?_
            refine wq_run rfl ?_
            refine wq_pure (v := .pointer (some ⟨b5, 17, none⟩)) tt_ok rfl rfl ?_
            refine wq_run rfl ?_
            refine wq_val (v := .pointer (some ⟨b5, 18, none⟩)) (val_ia (j := 1) tt_ok rfl rfl rfl rfl (by simpa using hx851) rfl rfl) rfl ?_
            refine wq_run rfl ?_
            refine wq_val (v := .int .u16 v17.Score.2) (val_load tt_ok rfl (List.Mem.tail _ (List.Mem.tail _ (List.Mem.tail _ (List.Mem.head _)))) rfl) rfl ?_
            refine wq_run rfl ?_
            refine wq_pure tt_ok rfl rfl ?_
            refine wq_run rfl ?_
            refine wq_pure (v := .pointer (some ⟨b2, 17, none⟩)) tt_ok rfl rfl ?_
            refine wq_run rfl ?_
            refine wq_val (v := .pointer (some ⟨b2, 18, none⟩)) (val_ia (j := 1) tt_ok rfl rfl rfl rfl (by simpa using hx851) rfl rfl) rfl ?_
            refine wq_run rfl ?_
            refine wq_val (v := .int .u16 p0.Score.2) (val_load tt_ok rfl (List.Mem.tail _ (List.Mem.tail _ (List.Mem.head _))) rfl) rfl ?_
            refine wq_run rfl ?_
            refine wq_pure (v := .bool (decide (v17.Score.2 < p0.Score.2))) tt_ok rfl rfl ?_
            simp only [Option.some.injEq, Prod.mk.injEq] at h
            obtain rfl := h
            have h := hg128; clear hg128
            refine wq_pure (v := .bool (decide (v17.Score.2 < p0.Score.2))) tt_ok rfl rfl ?_
            refine wq_nil ?_
            refine wx_then ?_
            refine wc_cond rfl (fun hc => ?_) (fun hc => ?_)
            · replace h := ct hc h
              refine wc_seq ?_
              refine wc_region ?_
              refine wl_pure tt_ok rfl rfl ?_
              refine wl_nil ?_
              refine wx_then ?_
              refine wc_ret ?_
              refine wx_block_ret ?_
              refine wx_then_ret ?_
              obtain rfl := Option.some.inj h
              have h := hl41; clear hl41; try dsimp only [orE_l, orE_r] at h
              refine wx_then_ret ?_
              refine wx_block_ret ?_
              refine wx_then_ret ?_
              simp only [Option.some.injEq] at h
              obtain rfl := h
              exact wx_pf tt_ok (.inl rfl) Tryd.results7 (Res.tmp rfl Res.nil) rfl
            replace h := cf hc h
            refine wc_skip ?_
            refine wx_block ?_
            refine wx_then ?_
            refine wc_region ?_
            refine wl_pure tt_ok rfl rfl ?_
            refine wl_pure (v := .int .i64 (IntKind.wrap .i64 (j41_6 + (1 : Int)))) tt_ok rfl rfl ?_
            refine wl_pure tt_ok rfl rfl ?_
            refine wl_nil ?_
            exact wx_round m41 (Nat.lt_succ_self m41) ⟨(IntKind.wrap .i64 (j41_6 + (1 : Int))), h, rfl, rfl⟩ (agree_cons rfl (agree_cons rfl (agree_cons rfl (agree_cons rfl agree_nil)))) (pSub (pCons (Sel.sc (Sel.sc Sel.hc)) (pCons (Sel.sc (Sel.sc Sel.hc)) (pApp (Sel.sc (Sel.sc Sel.ha)) pNil))))
          replace h := cf hc h
          refine wl_run rfl ?_
          refine wl_pure (v := .pointer (some ⟨b7, 1, none⟩)) tt_ok rfl rfl ?_
          refine wl_run rfl ?_
          refine wl_val (v := .int .i32 p0.Players.2.Y) (val_load tt_ok rfl (List.Mem.tail _ (List.Mem.head _)) rfl) rfl ?_
          refine wl_run rfl ?_
          refine wl_pure (v := .pointer (some ⟨b8, 1, none⟩)) tt_ok rfl rfl ?_
          refine wl_run rfl ?_
          refine wl_val (v := .int .i32 v17.Players.2.Y) (val_load tt_ok rfl (List.Mem.head _) rfl) rfl ?_
          replace h := bsome h; obtain ⟨v102, x102, h⟩ := h
          refine wl_run rfl ?_
          refine wl_cq Tryd.call19 rfl rfl rfl (q_pf (k_hindcastlaw09_apart x102) (fun _ _ => trivial)) rfl ?_
          refine wl_run rfl ?_
          refine wl_pure (v := .bool (decide ((1024 : Int) < v102))) tt_ok rfl rfl ?_
          simp only [Option.some.injEq, Prod.mk.injEq] at h
          obtain rfl := h
          have h := hg104; clear hg104
          refine wl_pure (v := .bool (decide ((1024 : Int) < v102))) tt_ok rfl rfl ?_
          refine wl_pure tt_ok rfl rfl ?_
          refine wl_nil ?_
          refine wx_then ?_
          refine wc_seq ?_
          refine wc_quiet (by kernel_rfl) (by kernel_rfl) ?_
          refine wq_pure tt_ok rfl rfl ?_
          refine wq_pure tt_ok rfl rfl ?_
          replace h := bsome h; obtain ⟨v117, h, hg117⟩ := h
          refine wq_split (t := 106) rfl (fun hc => ?_) (fun hc => ?_)
          · replace h := ct hc h
            refine wq_run rfl ?_
            refine wq_pure (v := .pointer (some ⟨b5, 1, none⟩)) tt_ok rfl rfl ?_
            refine wq_run rfl ?_
            refine wq_val (v := .int .u64 v17.Seed) (val_load tt_ok rfl (List.Mem.tail _ (List.Mem.tail _ (List.Mem.tail _ (List.Mem.head _)))) rfl) rfl ?_
            refine wq_run rfl ?_
            refine wq_pure (v := .pointer (some ⟨b2, 1, none⟩)) tt_ok rfl rfl ?_
            refine wq_run rfl ?_
            refine wq_val (v := .int .u64 p0.Seed) (val_load tt_ok rfl (List.Mem.tail _ (List.Mem.tail _ (List.Mem.head _))) rfl) rfl ?_
            refine wq_run rfl ?_
            refine wq_pure (v := .bool (v17.Seed == p0.Seed)) tt_ok rfl rfl ?_
            refine wq_run rfl ?_
            refine wq_pure tt_ok rfl rfl ?_
            replace h := bsome h; obtain ⟨v116, h, hg116⟩ := h
            refine wq_split (t := 112) rfl (fun hc => ?_) (fun hc => ?_)
            · replace h := ct hc h
              refine wq_skip rfl rfl ?_
              refine wq_skip rfl rfl ?_
              refine wq_skip rfl rfl ?_
              simp only [Option.some.injEq, Prod.mk.injEq] at h
              obtain rfl := h
              have h := hg116; clear hg116
              refine wq_run rfl ?_
              refine wq_pure (v := .bool true) tt_ok rfl rfl ?_
              simp only [Option.some.injEq, Prod.mk.injEq] at h
              obtain rfl := h
              have h := hg117; clear hg117
              refine wq_pure (v := .bool true) tt_ok rfl rfl ?_
              refine wq_pure tt_ok rfl rfl ?_
              replace h := bsome h; obtain ⟨v128, h, hg128⟩ := h
              replace h := ct rfl h
              refine wq_skip rfl rfl ?_
              refine wq_skip rfl rfl ?_
              refine wq_skip rfl rfl ?_
              refine wq_skip rfl rfl ?_
              refine wq_skip rfl rfl ?_
              refine wq_skip rfl rfl ?_
              refine wq_skip rfl rfl ?_
              refine wq_skip rfl rfl ?_
              refine wq_skip rfl rfl ?_
              simp only [Option.some.injEq, Prod.mk.injEq] at h
              obtain rfl := h
              have h := hg128; clear hg128
              refine wq_pure (v := .bool true) tt_ok rfl rfl ?_
              refine wq_nil ?_
              refine wx_then ?_
              replace h := ct rfl h
              refine wc_cond_true rfl ?_
              refine wc_seq ?_
              refine wc_region ?_
              refine wl_pure tt_ok rfl rfl ?_
              refine wl_nil ?_
              refine wx_then ?_
              refine wc_ret ?_
              refine wx_block_ret ?_
              refine wx_then_ret ?_
              obtain rfl := Option.some.inj h
              have h := hl41; clear hl41; try dsimp only [orE_l, orE_r] at h
              refine wx_then_ret ?_
              refine wx_block_ret ?_
              refine wx_then_ret ?_
              simp only [Option.some.injEq] at h
              obtain rfl := h
              exact wx_pf tt_ok (.inl rfl) Tryd.results7 (Res.tmp rfl Res.nil) rfl
            replace h := cf hc h
            refine wq_run rfl ?_
            refine wq_pure (v := .pointer (some ⟨b8, 4, none⟩)) tt_ok rfl rfl ?_
            refine wq_run rfl ?_
            refine wq_val (v := .int .u8 v17.Players.2.Health) (val_load tt_ok rfl (List.Mem.head _) rfl) rfl ?_
            refine wq_run rfl ?_
            refine wq_pure (v := .bool (v17.Players.2.Health != (100 : Int))) tt_ok rfl rfl ?_
            simp only [Option.some.injEq, Prod.mk.injEq] at h
            obtain rfl := h
            have h := hg116; clear hg116
            refine wq_run rfl ?_
            refine wq_pure (v := .bool (v17.Players.2.Health != (100 : Int))) tt_ok rfl rfl ?_
            simp only [Option.some.injEq, Prod.mk.injEq] at h
            obtain rfl := h
            have h := hg117; clear hg117
            refine wq_pure (v := .bool (v17.Players.2.Health != (100 : Int))) tt_ok rfl rfl ?_
            refine wq_pure tt_ok rfl rfl ?_
            replace h := bsome h; obtain ⟨v128, h, hg128⟩ := h
            refine wq_split (t := 118) rfl (fun hc => ?_) (fun hc => ?_)
            · replace h := ct hc h
              refine wq_skip rfl rfl ?_
              refine wq_skip rfl rfl ?_
              refine wq_skip rfl rfl ?_
              refine wq_skip rfl rfl ?_
              refine wq_skip rfl rfl ?_
              refine wq_skip rfl rfl ?_
              refine wq_skip rfl rfl ?_
              refine wq_skip rfl rfl ?_
              refine wq_skip rfl rfl ?_
              simp only [Option.some.injEq, Prod.mk.injEq] at h
              obtain rfl := h
              have h := hg128; clear hg128
              refine wq_pure (v := .bool true) tt_ok rfl rfl ?_
              refine wq_nil ?_
              refine wx_then ?_
              replace h := ct rfl h
              refine wc_cond_true rfl ?_
              refine wc_seq ?_
              refine wc_region ?_
              refine wl_pure tt_ok rfl rfl ?_
              refine wl_nil ?_
              refine wx_then ?_
              refine wc_ret ?_
              refine wx_block_ret ?_
              refine wx_then_ret ?_
              obtain rfl := Option.some.inj h
              have h := hl41; clear hl41; try dsimp only [orE_l, orE_r] at h
              refine wx_then_ret ?_
              refine wx_block_ret ?_
              refine wx_then_ret ?_
              simp only [Option.some.injEq] at h
              obtain rfl := h
              exact wx_pf tt_ok (.inl rfl) Tryd.results7 (Res.tmp rfl Res.nil) rfl
            replace h := cf hc h
            refine wq_run rfl ?_
            refine wq_pure tt_ok rfl rfl ?_
            refine wq_run rfl ?_
            refine wq_pure (v := .pointer (some ⟨b5, 17, none⟩)) tt_ok rfl rfl ?_
            refine wq_run rfl ?_
            refine wq_val (v := .pointer (some ⟨b5, 18, none⟩)) (val_ia (j := 1) tt_ok rfl rfl rfl rfl (by simpa using hx851) rfl rfl) rfl ?_
            refine wq_run rfl ?_
            refine wq_val (v := .int .u16 v17.Score.2) (val_load tt_ok rfl (List.Mem.tail _ (List.Mem.tail _ (List.Mem.tail _ (List.Mem.head _)))) rfl) rfl ?_
            refine wq_run rfl ?_
            refine wq_pure tt_ok rfl rfl ?_
            refine wq_run rfl ?_
            refine wq_pure (v := .pointer (some ⟨b2, 17, none⟩)) tt_ok rfl rfl ?_
            refine wq_run rfl ?_
            refine wq_val (v := .pointer (some ⟨b2, 18, none⟩)) (val_ia (j := 1) tt_ok rfl rfl rfl rfl (by simpa using hx851) rfl rfl) rfl ?_
            refine wq_run rfl ?_
            refine wq_val (v := .int .u16 p0.Score.2) (val_load tt_ok rfl (List.Mem.tail _ (List.Mem.tail _ (List.Mem.head _))) rfl) rfl ?_
            refine wq_run rfl ?_
            refine wq_pure (v := .bool (decide (v17.Score.2 < p0.Score.2))) tt_ok rfl rfl ?_
            simp only [Option.some.injEq, Prod.mk.injEq] at h
            obtain rfl := h
            have h := hg128; clear hg128
            refine wq_pure (v := .bool (decide (v17.Score.2 < p0.Score.2))) tt_ok rfl rfl ?_
            refine wq_nil ?_
            refine wx_then ?_
            refine wc_cond rfl (fun hc => ?_) (fun hc => ?_)
            · replace h := ct hc h
              refine wc_seq ?_
              refine wc_region ?_
              refine wl_pure tt_ok rfl rfl ?_
              refine wl_nil ?_
              refine wx_then ?_
              refine wc_ret ?_
              refine wx_block_ret ?_
              refine wx_then_ret ?_
              obtain rfl := Option.some.inj h
              have h := hl41; clear hl41; try dsimp only [orE_l, orE_r] at h
              refine wx_then_ret ?_
              refine wx_block_ret ?_
              refine wx_then_ret ?_
              simp only [Option.some.injEq] at h
              obtain rfl := h
              exact wx_pf tt_ok (.inl rfl) Tryd.results7 (Res.tmp rfl Res.nil) rfl
            replace h := cf hc h
            refine wc_skip ?_
            refine wx_block ?_
            refine wx_then ?_
            refine wc_region ?_
            refine wl_pure tt_ok rfl rfl ?_
            refine wl_pure (v := .int .i64 (IntKind.wrap .i64 (j41_6 + (1 : Int)))) tt_ok rfl rfl ?_
            refine wl_pure tt_ok rfl rfl ?_
            refine wl_nil ?_
            exact wx_round m41 (Nat.lt_succ_self m41) ⟨(IntKind.wrap .i64 (j41_6 + (1 : Int))), h, rfl, rfl⟩ (agree_cons rfl (agree_cons rfl (agree_cons rfl (agree_cons rfl agree_nil)))) (pSub (pCons (Sel.sc (Sel.sc Sel.hc)) (pCons (Sel.sc (Sel.sc Sel.hc)) (pApp (Sel.sc (Sel.sc Sel.ha)) pNil))))
          replace h := cf hc h
          refine wq_skip rfl rfl ?_
          refine wq_skip rfl rfl ?_
          refine wq_skip rfl rfl ?_
          refine wq_skip rfl rfl ?_
          refine wq_skip rfl rfl ?_
          refine wq_skip rfl rfl ?_
          refine wq_skip rfl rfl ?_
          refine wq_skip rfl rfl ?_
          refine wq_skip rfl rfl ?_
          refine wq_skip rfl rfl ?_
          simp only [Option.some.injEq, Prod.mk.injEq] at h
          obtain rfl := h
          have h := hg117; clear hg117
          refine wq_pure (v := .bool false) tt_ok rfl rfl ?_
          refine wq_pure tt_ok rfl rfl ?_
          replace h := bsome h; obtain ⟨v128, h, hg128⟩ := h
          replace h := cf rfl h
          refine wq_run rfl ?_
          refine wq_pure tt_ok rfl rfl ?_
          refine wq_run rfl ?_
          refine wq_pure (v := .pointer (some ⟨b5, 17, none⟩)) tt_ok rfl rfl ?_
          refine wq_run rfl ?_
          refine wq_val (v := .pointer (some ⟨b5, 18, none⟩)) (val_ia (j := 1) tt_ok rfl rfl rfl rfl (by simpa using hx851) rfl rfl) rfl ?_
          refine wq_run rfl ?_
          refine wq_val (v := .int .u16 v17.Score.2) (val_load tt_ok rfl (List.Mem.tail _ (List.Mem.tail _ (List.Mem.tail _ (List.Mem.head _)))) rfl) rfl ?_
          refine wq_run rfl ?_
          refine wq_pure tt_ok rfl rfl ?_
          refine wq_run rfl ?_
          refine wq_pure (v := .pointer (some ⟨b2, 17, none⟩)) tt_ok rfl rfl ?_
          refine wq_run rfl ?_
          refine wq_val (v := .pointer (some ⟨b2, 18, none⟩)) (val_ia (j := 1) tt_ok rfl rfl rfl rfl (by simpa using hx851) rfl rfl) rfl ?_
          refine wq_run rfl ?_
          refine wq_val (v := .int .u16 p0.Score.2) (val_load tt_ok rfl (List.Mem.tail _ (List.Mem.tail _ (List.Mem.head _))) rfl) rfl ?_
          refine wq_run rfl ?_
          refine wq_pure (v := .bool (decide (v17.Score.2 < p0.Score.2))) tt_ok rfl rfl ?_
          simp only [Option.some.injEq, Prod.mk.injEq] at h
          obtain rfl := h
          have h := hg128; clear hg128
          refine wq_pure (v := .bool (decide (v17.Score.2 < p0.Score.2))) tt_ok rfl rfl ?_
          refine wq_nil ?_
          refine wx_then ?_
          refine wc_cond rfl (fun hc => ?_) (fun hc => ?_)
          · replace h := ct hc h
            refine wc_seq ?_
            refine wc_region ?_
            refine wl_pure tt_ok rfl rfl ?_
            refine wl_nil ?_
            refine wx_then ?_
            refine wc_ret ?_
            refine wx_block_ret ?_
            refine wx_then_ret ?_
            obtain rfl := Option.some.inj h
            have h := hl41; clear hl41; try dsimp only [orE_l, orE_r] at h
            refine wx_then_ret ?_
            refine wx_block_ret ?_
            refine wx_then_ret ?_
            simp only [Option.some.injEq] at h
            obtain rfl := h
            exact wx_pf tt_ok (.inl rfl) Tryd.results7 (Res.tmp rfl Res.nil) rfl
          replace h := cf hc h
          refine wc_skip ?_
          refine wx_block ?_
          refine wx_then ?_
          refine wc_region ?_
          refine wl_pure tt_ok rfl rfl ?_
          refine wl_pure (v := .int .i64 (IntKind.wrap .i64 (j41_6 + (1 : Int)))) tt_ok rfl rfl ?_
          refine wl_pure tt_ok rfl rfl ?_
          refine wl_nil ?_
          exact wx_round m41 (Nat.lt_succ_self m41) ⟨(IntKind.wrap .i64 (j41_6 + (1 : Int))), h, rfl, rfl⟩ (agree_cons rfl (agree_cons rfl (agree_cons rfl (agree_cons rfl agree_nil)))) (pSub (pCons (Sel.sc (Sel.sc Sel.hc)) (pCons (Sel.sc (Sel.sc Sel.hc)) (pApp (Sel.sc (Sel.sc Sel.ha)) pNil))))
        refine k_chgf rfl rfl (chg_alloc tt_ok rfl) rfl (.inr (by rintro _ _ ⟨_, rfl, rfl⟩; exact ⟨_, (pCons (Sel.sc Sel.hc) (pCons (Sel.sc Sel.hc) (pApp (Sel.sc Sel.ha) pNil)))⟩)) ?_
        rintro _ _ ⟨b8, rfl, rfl⟩
        refine k_chg rfl rfl rfl (chg_alloc tt_ok rfl) rfl (.inr (by rintro _ _ ⟨_, rfl, rfl⟩; exact ⟨_, (pCons (Sel.sc (Sel.sc Sel.hc)) (pCons (Sel.sc (Sel.sc Sel.hc)) (pApp (Sel.sc (Sel.sc Sel.ha)) pNil)))⟩)) ?_
        rintro _ _ ⟨b7, rfl, rfl⟩
        refine k_chg0 rfl rfl rfl (chg_store tt_ok rfl Upd.here rfl rfl rfl rfl rfl rfl) (.inr (by rintro _ _ rfl; exact ⟨_, (pCons (Sel.sc (Sel.sc Sel.hc)) (pCons (Sel.sc (Sel.sc Sel.hc)) (pApp (Sel.sc (Sel.sc Sel.ha)) pNil)))⟩)) ?_
        rintro _ _ rfl
        refine k_chg0 rfl rfl rfl (chg_store tt_ok rfl (Upd.there Upd.here) rfl rfl rfl rfl rfl rfl) (.inl rfl) ?_
        rintro _ _ rfl
        refine k_end (by kernel_rfl) ?_
        refine wx_then ?_
        refine wc_seq ?_
        refine wc_region ?_
        refine wl_pure (v := .pointer (some ⟨b7, 0, none⟩)) tt_ok rfl rfl ?_
        refine wl_val (v := .int .i32 p0.Players.2.X) (val_load tt_ok rfl (List.Mem.head _) rfl) rfl ?_
        refine wl_pure (v := .pointer (some ⟨b8, 0, none⟩)) tt_ok rfl rfl ?_
        refine wl_val (v := .int .i32 v17.Players.2.X) (val_load tt_ok rfl (List.Mem.tail _ (List.Mem.head _)) rfl) rfl ?_
        replace h := bsome h; obtain ⟨v95, x95, h⟩ := h
        refine wl_cq Tryd.call19 rfl rfl rfl (q_pf (k_hindcastlaw09_apart x95) (fun _ _ => trivial)) rfl ?_
        refine wl_pure (v := .bool (decide ((1024 : Int) < v95))) tt_ok rfl rfl ?_
        refine wl_pure tt_ok rfl rfl ?_
        replace h := bsome h; obtain ⟨v104, h, hg104⟩ := h
        refine wl_split (t := 97) rfl (fun hc => ?_) (fun hc => ?_)
        · replace h := ct hc h
          refine wl_skip rfl rfl ?_
          refine wl_skip rfl rfl ?_
          refine wl_skip rfl rfl ?_
          refine wl_skip rfl rfl ?_
          refine wl_skip rfl rfl ?_
          refine wl_skip rfl rfl ?_
          simp only [Option.some.injEq, Prod.mk.injEq] at h
          obtain rfl := h
          have h := hg104; clear hg104
          refine wl_pure (v := .bool true) tt_ok rfl rfl ?_
          refine wl_pure tt_ok rfl rfl ?_
          refine wl_nil ?_
          refine wx_then ?_
          refine wc_seq ?_
          refine wc_quiet (by kernel_rfl) (by kernel_rfl) ?_
          refine wq_pure tt_ok rfl rfl ?_
          refine wq_pure tt_ok rfl rfl ?_
          replace h := bsome h; obtain ⟨v117, h, hg117⟩ := h
          replace h := ct rfl h
          refine wq_run rfl ?_
          refine wq_pure (v := .pointer (some ⟨b5, 1, none⟩)) tt_ok rfl rfl ?_
          refine wq_run rfl ?_
          refine wq_val (v := .int .u64 v17.Seed) (val_load tt_ok rfl (List.Mem.tail _ (List.Mem.tail _ (List.Mem.tail _ (List.Mem.head _)))) rfl) rfl ?_
          refine wq_run rfl ?_
          refine wq_pure (v := .pointer (some ⟨b2, 1, none⟩)) tt_ok rfl rfl ?_
          refine wq_run rfl ?_
          refine wq_val (v := .int .u64 p0.Seed) (val_load tt_ok rfl (List.Mem.tail _ (List.Mem.tail _ (List.Mem.head _))) rfl) rfl ?_
          refine wq_run rfl ?_
          refine wq_pure (v := .bool (v17.Seed == p0.Seed)) tt_ok rfl rfl ?_
          refine wq_run rfl ?_
          refine wq_pure tt_ok rfl rfl ?_
          replace h := bsome h; obtain ⟨v116, h, hg116⟩ := h
          refine wq_split (t := 112) rfl (fun hc => ?_) (fun hc => ?_)
          · replace h := ct hc h
            refine wq_skip rfl rfl ?_
            refine wq_skip rfl rfl ?_
            refine wq_skip rfl rfl ?_
            simp only [Option.some.injEq, Prod.mk.injEq] at h
            obtain rfl := h
            have h := hg116; clear hg116
            refine wq_run rfl ?_
            refine wq_pure (v := .bool true) tt_ok rfl rfl ?_
            simp only [Option.some.injEq, Prod.mk.injEq] at h
            obtain rfl := h
            have h := hg117; clear hg117
            refine wq_pure (v := .bool true) tt_ok rfl rfl ?_
            refine wq_pure tt_ok rfl rfl ?_
            replace h := bsome h; obtain ⟨v128, h, hg128⟩ := h
            replace h := ct rfl h
            refine wq_skip rfl rfl ?_
            refine wq_skip rfl rfl ?_
            refine wq_skip rfl rfl ?_
            refine wq_skip rfl rfl ?_
            refine wq_skip rfl rfl ?_
            refine wq_skip rfl rfl ?_
            refine wq_skip rfl rfl ?_
            refine wq_skip rfl rfl ?_
            refine wq_skip rfl rfl ?_
            simp only [Option.some.injEq, Prod.mk.injEq] at h
            obtain rfl := h
            have h := hg128; clear hg128
            refine wq_pure (v := .bool true) tt_ok rfl rfl ?_
            refine wq_nil ?_
            refine wx_then ?_
            replace h := ct rfl h
            refine wc_cond_true rfl ?_
            refine wc_seq ?_
            refine wc_region ?_
            refine wl_pure tt_ok rfl rfl ?_
            refine wl_nil ?_
            refine wx_then ?_
            refine wc_ret ?_
            refine wx_block_ret ?_
            refine wx_then_ret ?_
            obtain rfl := Option.some.inj h
            have h := hl41; clear hl41; try dsimp only [orE_l, orE_r] at h
            refine wx_then_ret ?_
            refine wx_block_ret ?_
            refine wx_then_ret ?_
            simp only [Option.some.injEq] at h
            obtain rfl := h
            exact wx_pf tt_ok (.inl rfl) Tryd.results7 (Res.tmp rfl Res.nil) rfl
          replace h := cf hc h
          refine wq_run rfl ?_
          refine wq_pure (v := .pointer (some ⟨b8, 4, none⟩)) tt_ok rfl rfl ?_
          refine wq_run rfl ?_
          refine wq_val (v := .int .u8 v17.Players.2.Health) (val_load tt_ok rfl (List.Mem.tail _ (List.Mem.head _)) rfl) rfl ?_
          refine wq_run rfl ?_
          refine wq_pure (v := .bool (v17.Players.2.Health != (100 : Int))) tt_ok rfl rfl ?_
          simp only [Option.some.injEq, Prod.mk.injEq] at h
          obtain rfl := h
          have h := hg116; clear hg116
          refine wq_run rfl ?_
          refine wq_pure (v := .bool (v17.Players.2.Health != (100 : Int))) tt_ok rfl rfl ?_
          simp only [Option.some.injEq, Prod.mk.injEq] at h
          obtain rfl := h
          have h := hg117; clear hg117
          refine wq_pure (v := .bool (v17.Players.2.Health != (100 : Int))) tt_ok rfl rfl ?_
          refine wq_pure tt_ok rfl rfl ?_
          replace h := bsome h; obtain ⟨v128, h, hg128⟩ := h
          refine wq_split (t := 118) rfl (fun hc => ?_) (fun hc => ?_)
          · replace h := ct hc h
            refine wq_skip rfl rfl ?_
            refine wq_skip rfl rfl ?_
            refine wq_skip rfl rfl ?_
            refine wq_skip rfl rfl ?_
            refine wq_skip rfl rfl ?_
            refine wq_skip rfl rfl ?_
            refine wq_skip rfl rfl ?_
            refine wq_skip rfl rfl ?_
            refine wq_skip rfl rfl ?_
            simp only [Option.some.injEq, Prod.mk.injEq] at h
            obtain rfl := h
            have h := hg128; clear hg128
            refine wq_pure (v := .bool true) tt_ok rfl rfl ?_
            refine wq_nil ?_
            refine wx_then ?_
            replace h := ct rfl h
            refine wc_cond_true rfl ?_
            refine wc_seq ?_
            refine wc_region ?_
            refine wl_pure tt_ok rfl rfl ?_
            refine wl_nil ?_
            refine wx_then ?_
            refine wc_ret ?_
            refine wx_block_ret ?_
            refine wx_then_ret ?_
            obtain rfl := Option.some.inj h
            have h := hl41; clear hl41; try dsimp only [orE_l, orE_r] at h
            refine wx_then_ret ?_
            refine wx_block_ret ?_
            refine wx_then_ret ?_
            simp only [Option.some.injEq] at h
            obtain rfl := h
            exact wx_pf tt_ok (.inl rfl) Tryd.results7 (Res.tmp rfl Res.nil) rfl
          replace h := cf hc h
          refine wq_run rfl ?_
          refine wq_pure tt_ok rfl rfl ?_
          refine wq_run rfl ?_
          refine wq_pure (v := .pointer (some ⟨b5, 17, none⟩)) tt_ok rfl rfl ?_
          refine wq_run rfl ?_
          refine wq_val (v := .pointer (some ⟨b5, 18, none⟩)) (val_ia (j := 1) tt_ok rfl rfl rfl rfl (by simpa using hx851) rfl rfl) rfl ?_
          refine wq_run rfl ?_
          refine wq_val (v := .int .u16 v17.Score.2) (val_load tt_ok rfl (List.Mem.tail _ (List.Mem.tail _ (List.Mem.tail _ (List.Mem.head _)))) rfl) rfl ?_
          refine wq_run rfl ?_
          refine wq_pure tt_ok rfl rfl ?_
          refine wq_run rfl ?_
          refine wq_pure (v := .pointer (some ⟨b2, 17, none⟩)) tt_ok rfl rfl ?_
          refine wq_run rfl ?_
          refine wq_val (v := .pointer (some ⟨b2, 18, none⟩)) (val_ia (j := 1) tt_ok rfl rfl rfl rfl (by simpa using hx851) rfl rfl) rfl ?_
          refine wq_run rfl ?_
          refine wq_val (v := .int .u16 p0.Score.2) (val_load tt_ok rfl (List.Mem.tail _ (List.Mem.tail _ (List.Mem.head _))) rfl) rfl ?_
          refine wq_run rfl ?_
          refine wq_pure (v := .bool (decide (v17.Score.2 < p0.Score.2))) tt_ok rfl rfl ?_
          simp only [Option.some.injEq, Prod.mk.injEq] at h
          obtain rfl := h
          have h := hg128; clear hg128
          refine wq_pure (v := .bool (decide (v17.Score.2 < p0.Score.2))) tt_ok rfl rfl ?_
          refine wq_nil ?_
          refine wx_then ?_
          refine wc_cond rfl (fun hc => ?_) (fun hc => ?_)
          · replace h := ct hc h
            refine wc_seq ?_
            refine wc_region ?_
            refine wl_pure tt_ok rfl rfl ?_
            refine wl_nil ?_
            refine wx_then ?_
            refine wc_ret ?_
            refine wx_block_ret ?_
            refine wx_then_ret ?_
            obtain rfl := Option.some.inj h
            have h := hl41; clear hl41; try dsimp only [orE_l, orE_r] at h
            refine wx_then_ret ?_
            refine wx_block_ret ?_
            refine wx_then_ret ?_
            simp only [Option.some.injEq] at h
            obtain rfl := h
            exact wx_pf tt_ok (.inl rfl) Tryd.results7 (Res.tmp rfl Res.nil) rfl
          replace h := cf hc h
          refine wc_skip ?_
          refine wx_block ?_
          refine wx_then ?_
          refine wc_region ?_
          refine wl_pure tt_ok rfl rfl ?_
          refine wl_pure (v := .int .i64 (IntKind.wrap .i64 (j41_6 + (1 : Int)))) tt_ok rfl rfl ?_
          refine wl_pure tt_ok rfl rfl ?_
          refine wl_nil ?_
          exact wx_round m41 (Nat.lt_succ_self m41) ⟨(IntKind.wrap .i64 (j41_6 + (1 : Int))), h, rfl, rfl⟩ (agree_cons rfl (agree_cons rfl (agree_cons rfl (agree_cons rfl agree_nil)))) (pSub (pCons (Sel.sc (Sel.sc Sel.hc)) (pCons (Sel.sc (Sel.sc Sel.hc)) (pApp (Sel.sc (Sel.sc Sel.ha)) pNil))))
        replace h := cf hc h
        refine wl_run rfl ?_
        refine wl_pure (v := .pointer (some ⟨b7, 1, none⟩)) tt_ok rfl rfl ?_
        refine wl_run rfl ?_
        refine wl_val (v := .int .i32 p0.Players.2.Y) (val_load tt_ok rfl (List.Mem.head _) rfl) rfl ?_
        refine wl_run rfl ?_
        refine wl_pure (v := .pointer (some ⟨b8, 1, none⟩)) tt_ok rfl rfl ?_
        refine wl_run rfl ?_
        refine wl_val (v := .int .i32 v17.Players.2.Y) (val_load tt_ok rfl (List.Mem.tail _ (List.Mem.head _)) rfl) rfl ?_
        replace h := bsome h; obtain ⟨v102, x102, h⟩ := h
        refine wl_run rfl ?_
        refine wl_cq Tryd.call19 rfl rfl rfl (q_pf (k_hindcastlaw09_apart x102) (fun _ _ => trivial)) rfl ?_
        refine wl_run rfl ?_
        refine wl_pure (v := .bool (decide ((1024 : Int) < v102))) tt_ok rfl rfl ?_
        simp only [Option.some.injEq, Prod.mk.injEq] at h
        obtain rfl := h
        have h := hg104; clear hg104
        refine wl_pure (v := .bool (decide ((1024 : Int) < v102))) tt_ok rfl rfl ?_
        refine wl_pure tt_ok rfl rfl ?_
        refine wl_nil ?_
        refine wx_then ?_
        refine wc_seq ?_
        refine wc_quiet (by kernel_rfl) (by kernel_rfl) ?_
        refine wq_pure tt_ok rfl rfl ?_
        refine wq_pure tt_ok rfl rfl ?_
        replace h := bsome h; obtain ⟨v117, h, hg117⟩ := h
        refine wq_split (t := 106) rfl (fun hc => ?_) (fun hc => ?_)
        · replace h := ct hc h
          refine wq_run rfl ?_
          refine wq_pure (v := .pointer (some ⟨b5, 1, none⟩)) tt_ok rfl rfl ?_
          refine wq_run rfl ?_
          refine wq_val (v := .int .u64 v17.Seed) (val_load tt_ok rfl (List.Mem.tail _ (List.Mem.tail _ (List.Mem.tail _ (List.Mem.head _)))) rfl) rfl ?_
          refine wq_run rfl ?_
          refine wq_pure (v := .pointer (some ⟨b2, 1, none⟩)) tt_ok rfl rfl ?_
          refine wq_run rfl ?_
          refine wq_val (v := .int .u64 p0.Seed) (val_load tt_ok rfl (List.Mem.tail _ (List.Mem.tail _ (List.Mem.head _))) rfl) rfl ?_
          refine wq_run rfl ?_
          refine wq_pure (v := .bool (v17.Seed == p0.Seed)) tt_ok rfl rfl ?_
          refine wq_run rfl ?_
          refine wq_pure tt_ok rfl rfl ?_
          replace h := bsome h; obtain ⟨v116, h, hg116⟩ := h
          refine wq_split (t := 112) rfl (fun hc => ?_) (fun hc => ?_)
          · replace h := ct hc h
            refine wq_skip rfl rfl ?_
            refine wq_skip rfl rfl ?_
            refine wq_skip rfl rfl ?_
            simp only [Option.some.injEq, Prod.mk.injEq] at h
            obtain rfl := h
            have h := hg116; clear hg116
            refine wq_run rfl ?_
            refine wq_pure (v := .bool true) tt_ok rfl rfl ?_
            simp only [Option.some.injEq, Prod.mk.injEq] at h
            obtain rfl := h
            have h := hg117; clear hg117
            refine wq_pure (v := .bool true) tt_ok rfl rfl ?_
            refine wq_pure tt_ok rfl rfl ?_
            replace h := bsome h; obtain ⟨v128, h, hg128⟩ := h
            replace h := ct rfl h
            refine wq_skip rfl rfl ?_
            refine wq_skip rfl rfl ?_
            refine wq_skip rfl rfl ?_
            refine wq_skip rfl rfl ?_
            refine wq_skip rfl rfl ?_
            refine wq_skip rfl rfl ?_
            refine wq_skip rfl rfl ?_
            refine wq_skip rfl rfl ?_
            refine wq_skip rfl rfl ?_
            simp only [Option.some.injEq, Prod.mk.injEq] at h
            obtain rfl := h
            have h := hg128; clear hg128
            refine wq_pure (v := .bool true) tt_ok rfl rfl ?_
            refine wq_nil ?_
            refine wx_then ?_
            replace h := ct rfl h
            refine wc_cond_true rfl ?_
            refine wc_seq ?_
            refine wc_region ?_
            refine wl_pure tt_ok rfl rfl ?_
            refine wl_nil ?_
            refine wx_then ?_
            refine wc_ret ?_
            refine wx_block_ret ?_
            refine wx_then_ret ?_
            obtain rfl := Option.some.inj h
            have h := hl41; clear hl41; try dsimp only [orE_l, orE_r] at h
            refine wx_then_ret ?_
            refine wx_block_ret ?_
            refine wx_then_ret ?_
            simp only [Option.some.injEq] at h
            obtain rfl := h
            exact wx_pf tt_ok (.inl rfl) Tryd.results7 (Res.tmp rfl Res.nil) rfl
          replace h := cf hc h
          refine wq_run rfl ?_
          refine wq_pure (v := .pointer (some ⟨b8, 4, none⟩)) tt_ok rfl rfl ?_
          refine wq_run rfl ?_
          refine wq_val (v := .int .u8 v17.Players.2.Health) (val_load tt_ok rfl (List.Mem.tail _ (List.Mem.head _)) rfl) rfl ?_
          refine wq_run rfl ?_
          refine wq_pure (v := .bool (v17.Players.2.Health != (100 : Int))) tt_ok rfl rfl ?_
          simp only [Option.some.injEq, Prod.mk.injEq] at h
          obtain rfl := h
          have h := hg116; clear hg116
          refine wq_run rfl ?_
          refine wq_pure (v := .bool (v17.Players.2.Health != (100 : Int))) tt_ok rfl rfl ?_
          simp only [Option.some.injEq, Prod.mk.injEq] at h
          obtain rfl := h
          have h := hg117; clear hg117
          refine wq_pure (v := .bool (v17.Players.2.Health != (100 : Int))) tt_ok rfl rfl ?_
          refine wq_pure tt_ok rfl rfl ?_
          replace h := bsome h; obtain ⟨v128, h, hg128⟩ := h
          refine wq_split (t := 118) rfl (fun hc => ?_) (fun hc => ?_)
          · replace h := ct hc h
            refine wq_skip rfl rfl ?_
            refine wq_skip rfl rfl ?_
            refine wq_skip rfl rfl ?_
            refine wq_skip rfl rfl ?_
            refine wq_skip rfl rfl ?_
            refine wq_skip rfl rfl ?_
            refine wq_skip rfl rfl ?_
            refine wq_skip rfl rfl ?_
            refine wq_skip rfl rfl ?_
            simp only [Option.some.injEq, Prod.mk.injEq] at h
            obtain rfl := h
            have h := hg128; clear hg128
            refine wq_pure (v := .bool true) tt_ok rfl rfl ?_
            refine wq_nil ?_
            refine wx_then ?_
            replace h := ct rfl h
            refine wc_cond_true rfl ?_
            refine wc_seq ?_
            refine wc_region ?_
            refine wl_pure tt_ok rfl rfl ?_
            refine wl_nil ?_
            refine wx_then ?_
            refine wc_ret ?_
            refine wx_block_ret ?_
            refine wx_then_ret ?_
            obtain rfl := Option.some.inj h
            have h := hl41; clear hl41; try dsimp only [orE_l, orE_r] at h
            refine wx_then_ret ?_
            refine wx_block_ret ?_
            refine wx_then_ret ?_
            simp only [Option.some.injEq] at h
            obtain rfl := h
            exact wx_pf tt_ok (.inl rfl) Tryd.results7 (Res.tmp rfl Res.nil) rfl
          replace h := cf hc h
          refine wq_run rfl ?_
          refine wq_pure tt_ok rfl rfl ?_
          refine wq_run rfl ?_
          refine wq_pure (v := .pointer (some ⟨b5, 17, none⟩)) tt_ok rfl rfl ?_
          refine wq_run rfl ?_
          refine wq_val (v := .pointer (some ⟨b5, 18, none⟩)) (val_ia (j := 1) tt_ok rfl rfl rfl rfl (by simpa using hx851) rfl rfl) rfl ?_
          refine wq_run rfl ?_
          refine wq_val (v := .int .u16 v17.Score.2) (val_load tt_ok rfl (List.Mem.tail _ (List.Mem.tail _ (List.Mem.tail _ (List.Mem.head _)))) rfl) rfl ?_
          refine wq_run rfl ?_
          refine wq_pure tt_ok rfl rfl ?_
          refine wq_run rfl ?_
          refine wq_pure (v := .pointer (some ⟨b2, 17, none⟩)) tt_ok rfl rfl ?_
          refine wq_run rfl ?_
          refine wq_val (v := .pointer (some ⟨b2, 18, none⟩)) (val_ia (j := 1) tt_ok rfl rfl rfl rfl (by simpa using hx851) rfl rfl) rfl ?_
          refine wq_run rfl ?_
          refine wq_val (v := .int .u16 p0.Score.2) (val_load tt_ok rfl (List.Mem.tail _ (List.Mem.tail _ (List.Mem.head _))) rfl) rfl ?_
          refine wq_run rfl ?_
          refine wq_pure (v := .bool (decide (v17.Score.2 < p0.Score.2))) tt_ok rfl rfl ?_
          simp only [Option.some.injEq, Prod.mk.injEq] at h
          obtain rfl := h
          have h := hg128; clear hg128
          refine wq_pure (v := .bool (decide (v17.Score.2 < p0.Score.2))) tt_ok rfl rfl ?_
          refine wq_nil ?_
          refine wx_then ?_
          refine wc_cond rfl (fun hc => ?_) (fun hc => ?_)
          · replace h := ct hc h
            refine wc_seq ?_
            refine wc_region ?_
            refine wl_pure tt_ok rfl rfl ?_
            refine wl_nil ?_
            refine wx_then ?_
            refine wc_ret ?_
            refine wx_block_ret ?_
            refine wx_then_ret ?_
            obtain rfl := Option.some.inj h
            have h := hl41; clear hl41; try dsimp only [orE_l, orE_r] at h
            refine wx_then_ret ?_
            refine wx_block_ret ?_
            refine wx_then_ret ?_
            simp only [Option.some.injEq] at h
            obtain rfl := h
            exact wx_pf tt_ok (.inl rfl) Tryd.results7 (Res.tmp rfl Res.nil) rfl
          replace h := cf hc h
          refine wc_skip ?_
          refine wx_block ?_
          refine wx_then ?_
          refine wc_region ?_
          refine wl_pure tt_ok rfl rfl ?_
          refine wl_pure (v := .int .i64 (IntKind.wrap .i64 (j41_6 + (1 : Int)))) tt_ok rfl rfl ?_
          refine wl_pure tt_ok rfl rfl ?_
          refine wl_nil ?_
          exact wx_round m41 (Nat.lt_succ_self m41) ⟨(IntKind.wrap .i64 (j41_6 + (1 : Int))), h, rfl, rfl⟩ (agree_cons rfl (agree_cons rfl (agree_cons rfl (agree_cons rfl agree_nil)))) (pSub (pCons (Sel.sc (Sel.sc Sel.hc)) (pCons (Sel.sc (Sel.sc Sel.hc)) (pApp (Sel.sc (Sel.sc Sel.ha)) pNil))))
        replace h := cf hc h
        refine wq_skip rfl rfl ?_
        refine wq_skip rfl rfl ?_
        refine wq_skip rfl rfl ?_
        refine wq_skip rfl rfl ?_
        refine wq_skip rfl rfl ?_
        refine wq_skip rfl rfl ?_
        refine wq_skip rfl rfl ?_
        refine wq_skip rfl rfl ?_
        refine wq_skip rfl rfl ?_
        refine wq_skip rfl rfl ?_
        simp only [Option.some.injEq, Prod.mk.injEq] at h
        obtain rfl := h
        have h := hg117; clear hg117
        refine wq_pure (v := .bool false) tt_ok rfl rfl ?_
        refine wq_pure tt_ok rfl rfl ?_
        replace h := bsome h; obtain ⟨v128, h, hg128⟩ := h
        replace h := cf rfl h
        refine wq_run rfl ?_
        refine wq_pure tt_ok rfl rfl ?_
        refine wq_run rfl ?_
        refine wq_pure (v := .pointer (some ⟨b5, 17, none⟩)) tt_ok rfl rfl ?_
        refine wq_run rfl ?_
        refine wq_val (v := .pointer (some ⟨b5, 18, none⟩)) (val_ia (j := 1) tt_ok rfl rfl rfl rfl (by simpa using hx851) rfl rfl) rfl ?_
        refine wq_run rfl ?_
        refine wq_val (v := .int .u16 v17.Score.2) (val_load tt_ok rfl (List.Mem.tail _ (List.Mem.tail _ (List.Mem.tail _ (List.Mem.head _)))) rfl) rfl ?_
        refine wq_run rfl ?_
        refine wq_pure tt_ok rfl rfl ?_
        refine wq_run rfl ?_
        refine wq_pure (v := .pointer (some ⟨b2, 17, none⟩)) tt_ok rfl rfl ?_
        refine wq_run rfl ?_
        refine wq_val (v := .pointer (some ⟨b2, 18, none⟩)) (val_ia (j := 1) tt_ok rfl rfl rfl rfl (by simpa using hx851) rfl rfl) rfl ?_
        refine wq_run rfl ?_
        refine wq_val (v := .int .u16 p0.Score.2) (val_load tt_ok rfl (List.Mem.tail _ (List.Mem.tail _ (List.Mem.head _))) rfl) rfl ?_
        refine wq_run rfl ?_
        refine wq_pure (v := .bool (decide (v17.Score.2 < p0.Score.2))) tt_ok rfl rfl ?_
        simp only [Option.some.injEq, Prod.mk.injEq] at h
        obtain rfl := h
        have h := hg128; clear hg128
        refine wq_pure (v := .bool (decide (v17.Score.2 < p0.Score.2))) tt_ok rfl rfl ?_
        refine wq_nil ?_
        refine wx_then ?_
        refine wc_cond rfl (fun hc => ?_) (fun hc => ?_)
        · replace h := ct hc h
          refine wc_seq ?_
          refine wc_region ?_
          refine wl_pure tt_ok rfl rfl ?_
          refine wl_nil ?_
          refine wx_then ?_
          refine wc_ret ?_
          refine wx_block_ret ?_
          refine wx_then_ret ?_
          obtain rfl := Option.some.inj h
          have h := hl41; clear hl41; try dsimp only [orE_l, orE_r] at h
          refine wx_then_ret ?_
          refine wx_block_ret ?_
          refine wx_then_ret ?_
          simp only [Option.some.injEq] at h
          obtain rfl := h
          exact wx_pf tt_ok (.inl rfl) Tryd.results7 (Res.tmp rfl Res.nil) rfl
        replace h := cf hc h
        refine wc_skip ?_
        refine wx_block ?_
        refine wx_then ?_
        refine wc_region ?_
        refine wl_pure tt_ok rfl rfl ?_
        refine wl_pure (v := .int .i64 (IntKind.wrap .i64 (j41_6 + (1 : Int)))) tt_ok rfl rfl ?_
        refine wl_pure tt_ok rfl rfl ?_
        refine wl_nil ?_
        exact wx_round m41 (Nat.lt_succ_self m41) ⟨(IntKind.wrap .i64 (j41_6 + (1 : Int))), h, rfl, rfl⟩ (agree_cons rfl (agree_cons rfl (agree_cons rfl (agree_cons rfl agree_nil)))) (pSub (pCons (Sel.sc (Sel.sc Sel.hc)) (pCons (Sel.sc (Sel.sc Sel.hc)) (pApp (Sel.sc (Sel.sc Sel.ha)) pNil))))
      replace h := cf hx851 h
      cases h
    replace h := cf hc h
    refine wc_exit ?_
    refine wx_then_exit ?_
    obtain rfl := Option.some.inj h
    have h := hl41; clear hl41; try dsimp only [orE_l, orE_r] at h
    refine wx_then_exit ?_
    refine wx_block_exit ?_
    refine wx_then ?_
    refine wc_seq ?_
    refine wc_region ?_
    replace h := bsome h; obtain ⟨v129, x129, h⟩ := h
    refine wl_cq Tryd.call8 rfl rfl rfl (q_pf (k_hindcastlaw09_awake x129) (fun w hI => ⟨(Rds.call G0S pNil rsub_nil) w hI, (Rds.call G1S pNil rsub_nil) w hI⟩)) rfl ?_
    refine wl_pure tt_ok rfl rfl ?_
    refine wl_nil ?_
    refine wx_then ?_
    refine wc_ret ?_
    simp only [Option.some.injEq] at h
    obtain rfl := h
    exact wx_pf tt_ok (.inl rfl) Tryd.results7 (Res.tmp rfl Res.nil) rfl
  replace h := cf hc h
  refine wq_skip rfl rfl ?_
  refine wq_skip rfl rfl ?_
  refine wq_skip rfl rfl ?_
  refine wq_skip rfl rfl ?_
  refine wq_skip rfl rfl ?_
  refine wq_skip rfl rfl ?_
  refine wq_skip rfl rfl ?_
  refine wq_skip rfl rfl ?_
  refine wq_skip rfl rfl ?_
  simp only [Option.some.injEq, Prod.mk.injEq] at h
  obtain rfl := h
  have h := hg78; clear hg78
  refine wq_pure (v := .bool false) tt_ok rfl rfl ?_
  refine wq_nil ?_
  refine wx_then ?_
  replace h := cf rfl h
  refine wc_cond_false rfl ?_
  refine wc_skip ?_
  refine wx_then ?_
  refine wc_seq ?_
  refine wc_seq ?_
  refine wc_region ?_
  refine wl_pure tt_ok rfl rfl ?_
  refine wl_nil ?_
  refine wx_then ?_
  refine wc_block ?_
  replace h := bsome h; obtain ⟨o41, h, hl41⟩ := h
  refine wc_loop (fun m E L => ∃ (j41_6 : Int), m_hindcastlaw09_StepRight_L40 F p0 v17 m j41_6 = some o41 ∧ E = [(2, .pointer (some ⟨b2, 0, none⟩)), (4, .bool false), (5, .pointer (some ⟨b5, 0, none⟩)), (6, .int .i64 j41_6)] ∧ L = (⟨b2, [.int .u64 p0.Frame, .int .u64 p0.Seed, .int .i32 p0.Players.1.X, .int .i32 p0.Players.1.Y, .int .i32 p0.Players.1.VX, .int .i32 p0.Players.1.VY, .int .u8 p0.Players.1.Health, .int .u8 p0.Players.1.Cool, .int .u8 p0.Players.1.Face, .int .i32 p0.Players.2.X, .int .i32 p0.Players.2.Y, .int .i32 p0.Players.2.VX, .int .i32 p0.Players.2.VY, .int .u8 p0.Players.2.Health, .int .u8 p0.Players.2.Cool, .int .u8 p0.Players.2.Face, .slice p0a0 p0n0 p0c0, .int .u16 p0.Score.1, .int .u16 p0.Score.2], 30, (0, 0)⟩ :: (⟨b5, [.int .u64 v17.Frame, .int .u64 v17.Seed, .int .i32 v17.Players.1.X, .int .i32 v17.Players.1.Y, .int .i32 v17.Players.1.VX, .int .i32 v17.Players.1.VY, .int .u8 v17.Players.1.Health, .int .u8 v17.Players.1.Cool, .int .u8 v17.Players.1.Face, .int .i32 v17.Players.2.X, .int .i32 v17.Players.2.Y, .int .i32 v17.Players.2.VX, .int .i32 v17.Players.2.VY, .int .u8 v17.Players.2.Health, .int .u8 v17.Players.2.Cool, .int .u8 v17.Players.2.Face, .slice v17a0 v17n0 v17c0, .int .u16 v17.Score.1, .int .u16 v17.Score.2], 30, (0, 0)⟩ :: (v17B0 ++ [])))) F ⟨(0 : Int), h, rfl, rfl⟩ (agree_cons rfl (agree_cons rfl (agree_cons rfl (agree_cons rfl agree_nil)))) (pSub (pCons (Sel.sc (Sel.sa (Sel.sc Sel.hc))) (pCons Sel.hc (pApp Sel.ha pNil)))) ?_
  clear h
  rintro m41 _ _ ⟨j41_6, h, rfl, rfl⟩
  rcases m41 with _ | m41
  · rw [m_hindcastlaw09_StepRight_L40.eq_1] at h; cases h
  rw [m_hindcastlaw09_StepRight_L40.eq_2] at h
  refine wc_seq ?_
  refine wc_seq ?_
  refine wc_region ?_
  refine wl_pure tt_ok rfl rfl ?_
  refine wl_pure (v := .bool (decide (j41_6 < (2 : Int)))) tt_ok rfl rfl ?_
  refine wl_nil ?_
  refine wx_then ?_
  refine wc_cond rfl (fun hc => ?_) (fun hc => ?_)
  · replace h := ct hc h
    refine wc_skip ?_
    refine wx_then ?_
    refine wc_seq ?_
    refine wc_block ?_
    refine wc_seq ?_
    refine wc_k2 (Ls := (⟨b2, [.int .u64 p0.Frame, .int .u64 p0.Seed, .int .i32 p0.Players.1.X, .int .i32 p0.Players.1.Y, .int .i32 p0.Players.1.VX, .int .i32 p0.Players.1.VY, .int .u8 p0.Players.1.Health, .int .u8 p0.Players.1.Cool, .int .u8 p0.Players.1.Face, .int .i32 p0.Players.2.X, .int .i32 p0.Players.2.Y, .int .i32 p0.Players.2.VX, .int .i32 p0.Players.2.VY, .int .u8 p0.Players.2.Health, .int .u8 p0.Players.2.Cool, .int .u8 p0.Players.2.Face, .slice p0a0 p0n0 p0c0, .int .u16 p0.Score.1, .int .u16 p0.Score.2], 30, (0, 0)⟩ :: (⟨b5, [.int .u64 v17.Frame, .int .u64 v17.Seed, .int .i32 v17.Players.1.X, .int .i32 v17.Players.1.Y, .int .i32 v17.Players.1.VX, .int .i32 v17.Players.1.VY, .int .u8 v17.Players.1.Health, .int .u8 v17.Players.1.Cool, .int .u8 v17.Players.1.Face, .int .i32 v17.Players.2.X, .int .i32 v17.Players.2.Y, .int .i32 v17.Players.2.VX, .int .i32 v17.Players.2.VY, .int .u8 v17.Players.2.Health, .int .u8 v17.Players.2.Cool, .int .u8 v17.Players.2.Face, .slice v17a0 v17n0 v17c0, .int .u16 v17.Score.1, .int .u16 v17.Score.2], 30, (0, 0)⟩ :: (v17B0 ++ [])))) [8, 9, 10, 11] [11] [0, 0, 3, 7, 0, 0, 48, 112, 0, 0, 783, 2047] [0, 1, 2, 3, 4, 5, 6, 7] (by kernel_rfl) (by kernel_rfl) (by kernel_rfl) ?_
    refine k_val rfl rfl rfl (pSub (pCons Sel.hc (pCons Sel.hc (pApp Sel.ha pNil)))) (stepV_ok tt_ok rfl) rfl ?_
    refine k_val (v := .pointer (some ⟨b2, 2, none⟩)) rfl rfl rfl (pSub (pCons Sel.hc (pCons Sel.hc (pApp Sel.ha pNil)))) (stepV_ok tt_ok rfl) rfl ?_
    rcases Bool.eq_false_or_eq_true (j41_6 == (0 : Int)) with hx850 | hx850
    · replace h := ct hx850 h
      refine k_val (v := .pointer (some ⟨b2, 2, none⟩)) rfl rfl rfl (pSub (pCons Sel.hc (pCons Sel.hc (pApp Sel.ha pNil)))) (val_ia (j := 0) tt_ok rfl rfl rfl rfl (by simpa using hx850) rfl rfl) rfl ?_
      refine k_val (v := .agg #[.int .i32 p0.Players.1.X, .int .i32 p0.Players.1.Y, .int .i32 p0.Players.1.VX, .int .i32 p0.Players.1.VY, .int .u8 p0.Players.1.Health, .int .u8 p0.Players.1.Cool, .int .u8 p0.Players.1.Face]) rfl rfl rfl (pSub (pCons Sel.hc (pCons Sel.hc (pApp Sel.ha pNil)))) (val_load tt_ok rfl (List.Mem.head _) rfl) rfl ?_
      refine k_val rfl rfl rfl (pSub (pCons Sel.hc (pCons Sel.hc (pApp Sel.ha pNil)))) (stepV_ok tt_ok rfl) rfl ?_
      refine k_val (v := .pointer (some ⟨b5, 2, none⟩)) rfl rfl rfl (pSub (pCons Sel.hc (pCons Sel.hc (pApp Sel.ha pNil)))) (stepV_ok tt_ok rfl) rfl ?_
      refine k_val (v := .pointer (some ⟨b5, 2, none⟩)) rfl rfl rfl (pSub (pCons Sel.hc (pCons Sel.hc (pApp Sel.ha pNil)))) (val_ia (j := 0) tt_ok rfl rfl rfl rfl (by simpa using hx850) rfl rfl) rfl ?_
      refine k_val (v := .agg #[.int .i32 v17.Players.1.X, .int .i32 v17.Players.1.Y, .int .i32 v17.Players.1.VX, .int .i32 v17.Players.1.VY, .int .u8 v17.Players.1.Health, .int .u8 v17.Players.1.Cool, .int .u8 v17.Players.1.Face]) rfl rfl rfl (pSub (pCons Sel.hc (pCons Sel.hc (pApp Sel.ha pNil)))) (val_load tt_ok rfl (List.Mem.tail _ (List.Mem.head _)) rfl) rfl ?_
      refine k_two (i := 8) (j := 9) (t1 := [9, 10, 11]) (t2 := [8, 10, 11]) (by kernel_rfl) (by kernel_rfl) (by kernel_rfl) (by kernel_rfl) ?_ ?_
      · refine k_chgf rfl rfl (chg_alloc tt_ok rfl) rfl (.inr (by rintro _ _ ⟨_, rfl, rfl⟩; exact ⟨_, (pCons (Sel.sc Sel.hc) (pCons (Sel.sc Sel.hc) (pApp (Sel.sc Sel.ha) pNil)))⟩)) ?_
        rintro _ _ ⟨b7, rfl, rfl⟩
        refine k_chg rfl rfl rfl (chg_alloc tt_ok rfl) rfl (.inr (by rintro _ _ ⟨_, rfl, rfl⟩; exact ⟨_, (pCons (Sel.sc (Sel.sc Sel.hc)) (pCons (Sel.sc (Sel.sc Sel.hc)) (pApp (Sel.sc (Sel.sc Sel.ha)) pNil)))⟩)) ?_
        rintro _ _ ⟨b8, rfl, rfl⟩
        refine k_chg0 rfl rfl rfl (chg_store tt_ok rfl (Upd.there Upd.here) rfl rfl rfl rfl rfl rfl) (.inr (by rintro _ _ rfl; exact ⟨_, (pCons (Sel.sc (Sel.sc Sel.hc)) (pCons (Sel.sc (Sel.sc Sel.hc)) (pApp (Sel.sc (Sel.sc Sel.ha)) pNil)))⟩)) ?_
        rintro _ _ rfl
        refine k_chg0 rfl rfl rfl (chg_store tt_ok rfl Upd.here rfl rfl rfl rfl rfl rfl) (.inl rfl) ?_
        rintro _ _ rfl
        refine k_end (by kernel_rfl) ?_
        refine wx_then ?_
        refine wc_seq ?_
        refine wc_region ?_
        refine wl_pure (v := .pointer (some ⟨b7, 0, none⟩)) tt_ok rfl rfl ?_
        refine wl_val (v := .int .i32 p0.Players.1.X) (val_load tt_ok rfl (List.Mem.tail _ (List.Mem.head _)) rfl) rfl ?_
        refine wl_pure (v := .pointer (some ⟨b8, 0, none⟩)) tt_ok rfl rfl ?_
        refine wl_val (v := .int .i32 v17.Players.1.X) (val_load tt_ok rfl (List.Mem.head _) rfl) rfl ?_
        replace h := bsome h; obtain ⟨v95, x95, h⟩ := h
        refine wl_cq Tryd.call19 rfl rfl rfl (q_pf (k_hindcastlaw09_apart x95) (fun _ _ => trivial)) rfl ?_
        refine wl_pure (v := .bool (decide ((1024 : Int) < v95))) tt_ok rfl rfl ?_
        refine wl_pure tt_ok rfl rfl ?_
        replace h := bsome h; obtain ⟨v104, h, hg104⟩ := h
        refine wl_split (t := 97) rfl (fun hc => ?_) (fun hc => ?_)
        · replace h := ct hc h
          refine wl_skip rfl rfl ?_
          refine wl_skip rfl rfl ?_
          refine wl_skip rfl rfl ?_
          refine wl_skip rfl rfl ?_
          refine wl_skip rfl rfl ?_
          refine wl_skip rfl rfl ?_
          simp only [Option.some.injEq, Prod.mk.injEq] at h
          obtain rfl := h
          have h := hg104; clear hg104
          refine wl_pure (v := .bool true) tt_ok rfl rfl ?_
          refine wl_pure tt_ok rfl rfl ?_
          refine wl_nil ?_
          refine wx_then ?_
          refine wc_seq ?_
          refine wc_quiet (by kernel_rfl) (by kernel_rfl) ?_
          refine wq_pure tt_ok rfl rfl ?_
          refine wq_pure tt_ok rfl rfl ?_
          replace h := bsome h; obtain ⟨v117, h, hg117⟩ := h
          replace h := ct rfl h
          refine wq_run rfl ?_
          refine wq_pure (v := .pointer (some ⟨b5, 1, none⟩)) tt_ok rfl rfl ?_
          refine wq_run rfl ?_
          refine wq_val (v := .int .u64 v17.Seed) (val_load tt_ok rfl (List.Mem.tail _ (List.Mem.tail _ (List.Mem.tail _ (List.Mem.head _)))) rfl) rfl ?_
          refine wq_run rfl ?_
          refine wq_pure (v := .pointer (some ⟨b2, 1, none⟩)) tt_ok rfl rfl ?_
          refine wq_run rfl ?_
          refine wq_val (v := .int .u64 p0.Seed) (val_load tt_ok rfl (List.Mem.tail _ (List.Mem.tail _ (List.Mem.head _))) rfl) rfl ?_
          refine wq_run rfl ?_
          refine wq_pure (v := .bool (v17.Seed == p0.Seed)) tt_ok rfl rfl ?_
          refine wq_run rfl ?_
          refine wq_pure tt_ok rfl rfl ?_
          replace h := bsome h; obtain ⟨v116, h, hg116⟩ := h
          refine wq_split (t := 112) rfl (fun hc => ?_) (fun hc => ?_)
          · replace h := ct hc h
            refine wq_skip rfl rfl ?_
            refine wq_skip rfl rfl ?_
            refine wq_skip rfl rfl ?_
            simp only [Option.some.injEq, Prod.mk.injEq] at h
            obtain rfl := h
            have h := hg116; clear hg116
            refine wq_run rfl ?_
            refine wq_pure (v := .bool true) tt_ok rfl rfl ?_
            simp only [Option.some.injEq, Prod.mk.injEq] at h
            obtain rfl := h
            have h := hg117; clear hg117
            refine wq_pure (v := .bool true) tt_ok rfl rfl ?_
            refine wq_pure tt_ok rfl rfl ?_
            replace h := bsome h; obtain ⟨v128, h, hg128⟩ := h
            replace h := ct rfl h
            refine wq_skip rfl rfl ?_
            refine wq_skip rfl rfl ?_
            refine wq_skip rfl rfl ?_
            refine wq_skip rfl rfl ?_
            refine wq_skip rfl rfl ?_
            refine wq_skip rfl rfl ?_
            refine wq_skip rfl rfl ?_
            refine wq_skip rfl rfl ?_
            refine wq_skip rfl rfl ?_
            simp only [Option.some.injEq, Prod.mk.injEq] at h
            obtain rfl := h
            have h := hg128; clear hg128
            refine wq_pure (v := .bool true) tt_ok rfl rfl ?_
            refine wq_nil ?_
            refine wx_then ?_
            replace h := ct rfl h
            refine wc_cond_true rfl ?_
            refine wc_seq ?_
            refine wc_region ?_
            refine wl_pure tt_ok rfl rfl ?_
            refine wl_nil ?_
            refine wx_then ?_
            refine wc_ret ?_
            refine wx_block_ret ?_
            refine wx_then_ret ?_
            obtain rfl := Option.some.inj h
            have h := hl41; clear hl41; try dsimp only [orE_l, orE_r] at h
            refine wx_then_ret ?_
            refine wx_block_ret ?_
            refine wx_then_ret ?_
            simp only [Option.some.injEq] at h
            obtain rfl := h
            exact wx_pf tt_ok (.inl rfl) Tryd.results7 (Res.tmp rfl Res.nil) rfl
          replace h := cf hc h
          refine wq_run rfl ?_
          refine wq_pure (v := .pointer (some ⟨b8, 4, none⟩)) tt_ok rfl rfl ?_
          refine wq_run rfl ?_
          refine wq_val (v := .int .u8 v17.Players.1.Health) (val_load tt_ok rfl (List.Mem.head _) rfl) rfl ?_
          refine wq_run rfl ?_
          refine wq_pure (v := .bool (v17.Players.1.Health != (100 : Int))) tt_ok rfl rfl ?_
          simp only [Option.some.injEq, Prod.mk.injEq] at h
          obtain rfl := h
          have h := hg116; clear hg116
          refine wq_run rfl ?_
          refine wq_pure (v := .bool (v17.Players.1.Health != (100 : Int))) tt_ok rfl rfl ?_
          simp only [Option.some.injEq, Prod.mk.injEq] at h
          obtain rfl := h
          have h := hg117; clear hg117
          refine wq_pure (v := .bool (v17.Players.1.Health != (100 : Int))) tt_ok rfl rfl ?_
          refine wq_pure tt_ok rfl rfl ?_
          replace h := bsome h; obtain ⟨v128, h, hg128⟩ := h
          refine wq_split (t := 118) rfl (fun hc => ?_) (fun hc => ?_)
          · replace h := ct hc h
            refine wq_skip rfl rfl ?_
            refine wq_skip rfl rfl ?_
            refine wq_skip rfl rfl ?_
            refine wq_skip rfl rfl ?_
            refine wq_skip rfl rfl ?_
            refine wq_skip rfl rfl ?_
            refine wq_skip rfl rfl ?_
            refine wq_skip rfl rfl ?_
            refine wq_skip rfl rfl ?_
            simp only [Option.some.injEq, Prod.mk.injEq] at h
            obtain rfl := h
            have h := hg128; clear hg128
            refine wq_pure (v := .bool true) tt_ok rfl rfl ?_
            refine wq_nil ?_
            refine wx_then ?_
            replace h := ct rfl h
            refine wc_cond_true rfl ?_
            refine wc_seq ?_
            refine wc_region ?_
            refine wl_pure tt_ok rfl rfl ?_
            refine wl_nil ?_
            refine wx_then ?_
            refine wc_ret ?_
            refine wx_block_ret ?_
            refine wx_then_ret ?_
            obtain rfl := Option.some.inj h
            have h := hl41; clear hl41; try dsimp only [orE_l, orE_r] at h
            refine wx_then_ret ?_
            refine wx_block_ret ?_
            refine wx_then_ret ?_
            simp only [Option.some.injEq] at h
            obtain rfl := h
            exact wx_pf tt_ok (.inl rfl) Tryd.results7 (Res.tmp rfl Res.nil) rfl
          replace h := cf hc h
          refine wq_run rfl ?_
          refine wq_pure tt_ok rfl rfl ?_
          refine wq_run rfl ?_
          refine wq_pure (v := .pointer (some ⟨b5, 17, none⟩)) tt_ok rfl rfl ?_
          refine wq_run rfl ?_
          refine wq_val (v := .pointer (some ⟨b5, 17, none⟩)) (val_ia (j := 0) tt_ok rfl rfl rfl rfl (by simpa using hx850) rfl rfl) rfl ?_
          refine wq_run rfl ?_
          refine wq_val (v := .int .u16 v17.Score.1) (val_load tt_ok rfl (List.Mem.tail _ (List.Mem.tail _ (List.Mem.tail _ (List.Mem.head _)))) rfl) rfl ?_
          refine wq_run rfl ?_
          refine wq_pure tt_ok rfl rfl ?_
          refine wq_run rfl ?_
          refine wq_pure (v := .pointer (some ⟨b2, 17, none⟩)) tt_ok rfl rfl ?_
          refine wq_run rfl ?_
          refine wq_val (v := .pointer (some ⟨b2, 17, none⟩)) (val_ia (j := 0) tt_ok rfl rfl rfl rfl (by simpa using hx850) rfl rfl) rfl ?_
          refine wq_run rfl ?_
          refine wq_val (v := .int .u16 p0.Score.1) (val_load tt_ok rfl (List.Mem.tail _ (List.Mem.tail _ (List.Mem.head _))) rfl) rfl ?_
          refine wq_run rfl ?_
          refine wq_pure (v := .bool (decide (v17.Score.1 < p0.Score.1))) tt_ok rfl rfl ?_
          simp only [Option.some.injEq, Prod.mk.injEq] at h
          obtain rfl := h
          have h := hg128; clear hg128
          refine wq_pure (v := .bool (decide (v17.Score.1 < p0.Score.1))) tt_ok rfl rfl ?_
          refine wq_nil ?_
          refine wx_then ?_
          refine wc_cond rfl (fun hc => ?_) (fun hc => ?_)
          · replace h := ct hc h
            refine wc_seq ?_
            refine wc_region ?_
            refine wl_pure tt_ok rfl rfl ?_
            refine wl_nil ?_
            refine wx_then ?_
            refine wc_ret ?_
            refine wx_block_ret ?_
            refine wx_then_ret ?_
            obtain rfl := Option.some.inj h
            have h := hl41; clear hl41; try dsimp only [orE_l, orE_r] at h
            refine wx_then_ret ?_
            refine wx_block_ret ?_
            refine wx_then_ret ?_
            simp only [Option.some.injEq] at h
            obtain rfl := h
            exact wx_pf tt_ok (.inl rfl) Tryd.results7 (Res.tmp rfl Res.nil) rfl
          replace h := cf hc h
          refine wc_skip ?_
          refine wx_block ?_
          refine wx_then ?_
          refine wc_region ?_
          refine wl_pure tt_ok rfl rfl ?_
          refine wl_pure (v := .int .i64 (IntKind.wrap .i64 (j41_6 + (1 : Int)))) tt_ok rfl rfl ?_
          refine wl_pure tt_ok rfl rfl ?_
          refine wl_nil ?_
          exact wx_round m41 (Nat.lt_succ_self m41) ⟨(IntKind.wrap .i64 (j41_6 + (1 : Int))), h, rfl, rfl⟩ (agree_cons rfl (agree_cons rfl (agree_cons rfl (agree_cons rfl agree_nil)))) (pSub (pCons (Sel.sc (Sel.sc Sel.hc)) (pCons (Sel.sc (Sel.sc Sel.hc)) (pApp (Sel.sc (Sel.sc Sel.ha)) pNil))))
        replace h := cf hc h
        refine wl_run rfl ?_
        refine wl_pure (v := .pointer (some ⟨b7, 1, none⟩)) tt_ok rfl rfl ?_
        refine wl_run rfl ?_
        refine wl_val (v := .int .i32 p0.Players.1.Y) (val_load tt_ok rfl (List.Mem.tail _ (List.Mem.head _)) rfl) rfl ?_
        refine wl_run rfl ?_
        refine wl_pure (v := .pointer (some ⟨b8, 1, none⟩)) tt_ok rfl rfl ?_
        refine wl_run rfl ?_
        refine wl_val (v := .int .i32 v17.Players.1.Y) (val_load tt_ok rfl (List.Mem.head _) rfl) rfl ?_
        replace h := bsome h; obtain ⟨v102, x102, h⟩ := h
        refine wl_run rfl ?_
        refine wl_cq Tryd.call19 rfl rfl rfl (q_pf (k_hindcastlaw09_apart x102) (fun _ _ => trivial)) rfl ?_
        refine wl_run rfl ?_
        refine wl_pure (v := .bool (decide ((1024 : Int) < v102))) tt_ok rfl rfl ?_
        simp only [Option.some.injEq, Prod.mk.injEq] at h
        obtain rfl := h
        have h := hg104; clear hg104
        refine wl_pure (v := .bool (decide ((1024 : Int) < v102))) tt_ok rfl rfl ?_
        refine wl_pure tt_ok rfl rfl ?_
        refine wl_nil ?_
        refine wx_then ?_
        refine wc_seq ?_
        refine wc_quiet (by kernel_rfl) (by kernel_rfl) ?_
        refine wq_pure tt_ok rfl rfl ?_
        refine wq_pure tt_ok rfl rfl ?_
        replace h := bsome h; obtain ⟨v117, h, hg117⟩ := h
        refine wq_split (t := 106) rfl (fun hc => ?_) (fun hc => ?_)
        · replace h := ct hc h
          refine wq_run rfl ?_
          refine wq_pure (v := .pointer (some ⟨b5, 1, none⟩)) tt_ok rfl rfl ?_
          refine wq_run rfl ?_
          refine wq_val (v := .int .u64 v17.Seed) (val_load tt_ok rfl (List.Mem.tail _ (List.Mem.tail _ (List.Mem.tail _ (List.Mem.head _)))) rfl) rfl ?_
          refine wq_run rfl ?_
          refine wq_pure (v := .pointer (some ⟨b2, 1, none⟩)) tt_ok rfl rfl ?_
          refine wq_run rfl ?_
          refine wq_val (v := .int .u64 p0.Seed) (val_load tt_ok rfl (List.Mem.tail _ (List.Mem.tail _ (List.Mem.head _))) rfl) rfl ?_
          refine wq_run rfl ?_
          refine wq_pure (v := .bool (v17.Seed == p0.Seed)) tt_ok rfl rfl ?_
          refine wq_run rfl ?_
          refine wq_pure tt_ok rfl rfl ?_
          replace h := bsome h; obtain ⟨v116, h, hg116⟩ := h
          refine wq_split (t := 112) rfl (fun hc => ?_) (fun hc => ?_)
          · replace h := ct hc h
            refine wq_skip rfl rfl ?_
            refine wq_skip rfl rfl ?_
            refine wq_skip rfl rfl ?_
            simp only [Option.some.injEq, Prod.mk.injEq] at h
            obtain rfl := h
            have h := hg116; clear hg116
            refine wq_run rfl ?_
            refine wq_pure (v := .bool true) tt_ok rfl rfl ?_
            simp only [Option.some.injEq, Prod.mk.injEq] at h
            obtain rfl := h
            have h := hg117; clear hg117
            refine wq_pure (v := .bool true) tt_ok rfl rfl ?_
            refine wq_pure tt_ok rfl rfl ?_
            replace h := bsome h; obtain ⟨v128, h, hg128⟩ := h
            replace h := ct rfl h
            refine wq_skip rfl rfl ?_
            refine wq_skip rfl rfl ?_
            refine wq_skip rfl rfl ?_
            refine wq_skip rfl rfl ?_
            refine wq_skip rfl rfl ?_
            refine wq_skip rfl rfl ?_
            refine wq_skip rfl rfl ?_
            refine wq_skip rfl rfl ?_
            refine wq_skip rfl rfl ?_
            simp only [Option.some.injEq, Prod.mk.injEq] at h
            obtain rfl := h
            have h := hg128; clear hg128
            refine wq_pure (v := .bool true) tt_ok rfl rfl ?_
            refine wq_nil ?_
            refine wx_then ?_
            replace h := ct rfl h
            refine wc_cond_true rfl ?_
            refine wc_seq ?_
            refine wc_region ?_
            refine wl_pure tt_ok rfl rfl ?_
            refine wl_nil ?_
            refine wx_then ?_
            refine wc_ret ?_
            refine wx_block_ret ?_
            refine wx_then_ret ?_
            obtain rfl := Option.some.inj h
            have h := hl41; clear hl41; try dsimp only [orE_l, orE_r] at h
            refine wx_then_ret ?_
            refine wx_block_ret ?_
            refine wx_then_ret ?_
            simp only [Option.some.injEq] at h
            obtain rfl := h
            exact wx_pf tt_ok (.inl rfl) Tryd.results7 (Res.tmp rfl Res.nil) rfl
          replace h := cf hc h
          refine wq_run rfl ?_
          refine wq_pure (v := .pointer (some ⟨b8, 4, none⟩)) tt_ok rfl rfl ?_
          refine wq_run rfl ?_
          refine wq_val (v := .int .u8 v17.Players.1.Health) (val_load tt_ok rfl (List.Mem.head _) rfl) rfl ?_
          refine wq_run rfl ?_
          refine wq_pure (v := .bool (v17.Players.1.Health != (100 : Int))) tt_ok rfl rfl ?_
          simp only [Option.some.injEq, Prod.mk.injEq] at h
          obtain rfl := h
          have h := hg116; clear hg116
          refine wq_run rfl ?_
          refine wq_pure (v := .bool (v17.Players.1.Health != (100 : Int))) tt_ok rfl rfl ?_
          simp only [Option.some.injEq, Prod.mk.injEq] at h
          obtain rfl := h
          have h := hg117; clear hg117
          refine wq_pure (v := .bool (v17.Players.1.Health != (100 : Int))) tt_ok rfl rfl ?_
          refine wq_pure tt_ok rfl rfl ?_
          replace h := bsome h; obtain ⟨v128, h, hg128⟩ := h
          refine wq_split (t := 118) rfl (fun hc => ?_) (fun hc => ?_)
          · replace h := ct hc h
            refine wq_skip rfl rfl ?_
            refine wq_skip rfl rfl ?_
            refine wq_skip rfl rfl ?_
            refine wq_skip rfl rfl ?_
            refine wq_skip rfl rfl ?_
            refine wq_skip rfl rfl ?_
            refine wq_skip rfl rfl ?_
            refine wq_skip rfl rfl ?_
            refine wq_skip rfl rfl ?_
            simp only [Option.some.injEq, Prod.mk.injEq] at h
            obtain rfl := h
            have h := hg128; clear hg128
            refine wq_pure (v := .bool true) tt_ok rfl rfl ?_
            refine wq_nil ?_
            refine wx_then ?_
            replace h := ct rfl h
            refine wc_cond_true rfl ?_
            refine wc_seq ?_
            refine wc_region ?_
            refine wl_pure tt_ok rfl rfl ?_
            refine wl_nil ?_
            refine wx_then ?_
            refine wc_ret ?_
            refine wx_block_ret ?_
            refine wx_then_ret ?_
            obtain rfl := Option.some.inj h
            have h := hl41; clear hl41; try dsimp only [orE_l, orE_r] at h
            refine wx_then_ret ?_
            refine wx_block_ret ?_
            refine wx_then_ret ?_
            simp only [Option.some.injEq] at h
            obtain rfl := h
            exact wx_pf tt_ok (.inl rfl) Tryd.results7 (Res.tmp rfl Res.nil) rfl
          replace h := cf hc h
          refine wq_run rfl ?_
          refine wq_pure tt_ok rfl rfl ?_
          refine wq_run rfl ?_
          refine wq_pure (v := .pointer (some ⟨b5, 17, none⟩)) tt_ok rfl rfl ?_
          refine wq_run rfl ?_
          refine wq_val (v := .pointer (some ⟨b5, 17, none⟩)) (val_ia (j := 0) tt_ok rfl rfl rfl rfl (by simpa using hx850) rfl rfl) rfl ?_
          refine wq_run rfl ?_
          refine wq_val (v := .int .u16 v17.Score.1) (val_load tt_ok rfl (List.Mem.tail _ (List.Mem.tail _ (List.Mem.tail _ (List.Mem.head _)))) rfl) rfl ?_
          refine wq_run rfl ?_
          refine wq_pure tt_ok rfl rfl ?_
          refine wq_run rfl ?_
          refine wq_pure (v := .pointer (some ⟨b2, 17, none⟩)) tt_ok rfl rfl ?_
          refine wq_run rfl ?_
          refine wq_val (v := .pointer (some ⟨b2, 17, none⟩)) (val_ia (j := 0) tt_ok rfl rfl rfl rfl (by simpa using hx850) rfl rfl) rfl ?_
          refine wq_run rfl ?_
          refine wq_val (v := .int .u16 p0.Score.1) (val_load tt_ok rfl (List.Mem.tail _ (List.Mem.tail _ (List.Mem.head _))) rfl) rfl ?_
          refine wq_run rfl ?_
          refine wq_pure (v := .bool (decide (v17.Score.1 < p0.Score.1))) tt_ok rfl rfl ?_
          simp only [Option.some.injEq, Prod.mk.injEq] at h
          obtain rfl := h
          have h := hg128; clear hg128
          refine wq_pure (v := .bool (decide (v17.Score.1 < p0.Score.1))) tt_ok rfl rfl ?_
          refine wq_nil ?_
          refine wx_then ?_
          refine wc_cond rfl (fun hc => ?_) (fun hc => ?_)
          · replace h := ct hc h
            refine wc_seq ?_
            refine wc_region ?_
            refine wl_pure tt_ok rfl rfl ?_
            refine wl_nil ?_
            refine wx_then ?_
            refine wc_ret ?_
            refine wx_block_ret ?_
            refine wx_then_ret ?_
            obtain rfl := Option.some.inj h
            have h := hl41; clear hl41; try dsimp only [orE_l, orE_r] at h
            refine wx_then_ret ?_
            refine wx_block_ret ?_
            refine wx_then_ret ?_
            simp only [Option.some.injEq] at h
            obtain rfl := h
            exact wx_pf tt_ok (.inl rfl) Tryd.results7 (Res.tmp rfl Res.nil) rfl
          replace h := cf hc h
          refine wc_skip ?_
          refine wx_block ?_
          refine wx_then ?_
          refine wc_region ?_
          refine wl_pure tt_ok rfl rfl ?_
          refine wl_pure (v := .int .i64 (IntKind.wrap .i64 (j41_6 + (1 : Int)))) tt_ok rfl rfl ?_
          refine wl_pure tt_ok rfl rfl ?_
          refine wl_nil ?_
          exact wx_round m41 (Nat.lt_succ_self m41) ⟨(IntKind.wrap .i64 (j41_6 + (1 : Int))), h, rfl, rfl⟩ (agree_cons rfl (agree_cons rfl (agree_cons rfl (agree_cons rfl agree_nil)))) (pSub (pCons (Sel.sc (Sel.sc Sel.hc)) (pCons (Sel.sc (Sel.sc Sel.hc)) (pApp (Sel.sc (Sel.sc Sel.ha)) pNil))))
        replace h := cf hc h
        refine wq_skip rfl rfl ?_
        refine wq_skip rfl rfl ?_
        refine wq_skip rfl rfl ?_
        refine wq_skip rfl rfl ?_
        refine wq_skip rfl rfl ?_
        refine wq_skip rfl rfl ?_
        refine wq_skip rfl rfl ?_
        refine wq_skip rfl rfl ?_
        refine wq_skip rfl rfl ?_
        refine wq_skip rfl rfl ?_
        simp only [Option.some.injEq, Prod.mk.injEq] at h
        obtain rfl := h
        have h := hg117; clear hg117
        refine wq_pure (v := .bool false) tt_ok rfl rfl ?_
        refine wq_pure tt_ok rfl rfl ?_
        replace h := bsome h; obtain ⟨v128, h, hg128⟩ := h
        replace h := cf rfl h
        refine wq_run rfl ?_
        refine wq_pure tt_ok rfl rfl ?_
        refine wq_run rfl ?_
        refine wq_pure (v := .pointer (some ⟨b5, 17, none⟩)) tt_ok rfl rfl ?_
        refine wq_run rfl ?_
        refine wq_val (v := .pointer (some ⟨b5, 17, none⟩)) (val_ia (j := 0) tt_ok rfl rfl rfl rfl (by simpa using hx850) rfl rfl) rfl ?_
        refine wq_run rfl ?_
        refine wq_val (v := .int .u16 v17.Score.1) (val_load tt_ok rfl (List.Mem.tail _ (List.Mem.tail _ (List.Mem.tail _ (List.Mem.head _)))) rfl) rfl ?_
        refine wq_run rfl ?_
        refine wq_pure tt_ok rfl rfl ?_
        refine wq_run rfl ?_
        refine wq_pure (v := .pointer (some ⟨b2, 17, none⟩)) tt_ok rfl rfl ?_
        refine wq_run rfl ?_
        refine wq_val (v := .pointer (some ⟨b2, 17, none⟩)) (val_ia (j := 0) tt_ok rfl rfl rfl rfl (by simpa using hx850) rfl rfl) rfl ?_
        refine wq_run rfl ?_
        refine wq_val (v := .int .u16 p0.Score.1) (val_load tt_ok rfl (List.Mem.tail _ (List.Mem.tail _ (List.Mem.head _))) rfl) rfl ?_
        refine wq_run rfl ?_
        refine wq_pure (v := .bool (decide (v17.Score.1 < p0.Score.1))) tt_ok rfl rfl ?_
        simp only [Option.some.injEq, Prod.mk.injEq] at h
        obtain rfl := h
        have h := hg128; clear hg128
        refine wq_pure (v := .bool (decide (v17.Score.1 < p0.Score.1))) tt_ok rfl rfl ?_
        refine wq_nil ?_
        refine wx_then ?_
        refine wc_cond rfl (fun hc => ?_) (fun hc => ?_)
        · replace h := ct hc h
          refine wc_seq ?_
          refine wc_region ?_
          refine wl_pure tt_ok rfl rfl ?_
          refine wl_nil ?_
          refine wx_then ?_
          refine wc_ret ?_
          refine wx_block_ret ?_
          refine wx_then_ret ?_
          obtain rfl := Option.some.inj h
          have h := hl41; clear hl41; try dsimp only [orE_l, orE_r] at h
          refine wx_then_ret ?_
          refine wx_block_ret ?_
          refine wx_then_ret ?_
          simp only [Option.some.injEq] at h
          obtain rfl := h
          exact wx_pf tt_ok (.inl rfl) Tryd.results7 (Res.tmp rfl Res.nil) rfl
        replace h := cf hc h
        refine wc_skip ?_
        refine wx_block ?_
        refine wx_then ?_
        refine wc_region ?_
        refine wl_pure tt_ok rfl rfl ?_
        refine wl_pure (v := .int .i64 (IntKind.wrap .i64 (j41_6 + (1 : Int)))) tt_ok rfl rfl ?_
        refine wl_pure tt_ok rfl rfl ?_
        refine wl_nil ?_
        exact wx_round m41 (Nat.lt_succ_self m41) ⟨(IntKind.wrap .i64 (j41_6 + (1 : Int))), h, rfl, rfl⟩ (agree_cons rfl (agree_cons rfl (agree_cons rfl (agree_cons rfl agree_nil)))) (pSub (pCons (Sel.sc (Sel.sc Sel.hc)) (pCons (Sel.sc (Sel.sc Sel.hc)) (pApp (Sel.sc (Sel.sc Sel.ha)) pNil))))
      refine k_chgf rfl rfl (chg_alloc tt_ok rfl) rfl (.inr (by rintro _ _ ⟨_, rfl, rfl⟩; exact ⟨_, (pCons (Sel.sc Sel.hc) (pCons (Sel.sc Sel.hc) (pApp (Sel.sc Sel.ha) pNil)))⟩)) ?_
      rintro _ _ ⟨b8, rfl, rfl⟩
      refine k_chg rfl rfl rfl (chg_alloc tt_ok rfl) rfl (.inr (by rintro _ _ ⟨_, rfl, rfl⟩; exact ⟨_, (pCons (Sel.sc (Sel.sc Sel.hc)) (pCons (Sel.sc (Sel.sc Sel.hc)) (pApp (Sel.sc (Sel.sc Sel.ha)) pNil)))⟩)) ?_
      rintro _ _ ⟨b7, rfl, rfl⟩
      refine k_chg0 rfl rfl rfl (chg_store tt_ok rfl Upd.here rfl rfl rfl rfl rfl rfl) (.inr (by rintro _ _ rfl; exact ⟨_, (pCons (Sel.sc (Sel.sc Sel.hc)) (pCons (Sel.sc (Sel.sc Sel.hc)) (pApp (Sel.sc (Sel.sc Sel.ha)) pNil)))⟩)) ?_
      rintro _ _ rfl
      refine k_chg0 rfl rfl rfl (chg_store tt_ok rfl (Upd.there Upd.here) rfl rfl rfl rfl rfl rfl) (.inl rfl) ?_
      rintro _ _ rfl
      refine k_end (by kernel_rfl) ?_
      refine wx_then ?_
      refine wc_seq ?_
      refine wc_region ?_
      refine wl_pure (v := .pointer (some ⟨b7, 0, none⟩)) tt_ok rfl rfl ?_
      refine wl_val (v := .int .i32 p0.Players.1.X) (val_load tt_ok rfl (List.Mem.head _) rfl) rfl ?_
      refine wl_pure (v := .pointer (some ⟨b8, 0, none⟩)) tt_ok rfl rfl ?_
      refine wl_val (v := .int .i32 v17.Players.1.X) (val_load tt_ok rfl (List.Mem.tail _ (List.Mem.head _)) rfl) rfl ?_
      replace h := bsome h; obtain ⟨v95, x95, h⟩ := h
      refine wl_cq Tryd.call19 rfl rfl rfl (q_pf (k_hindcastlaw09_apart x95) (fun _ _ => trivial)) rfl ?_
      refine wl_pure (v := .bool (decide ((1024 : Int) < v95))) tt_ok rfl rfl ?_
      refine wl_pure tt_ok rfl rfl ?_
      replace h := bsome h; obtain ⟨v104, h, hg104⟩ := h
      refine wl_split (t := 97) rfl (fun hc => ?_) (fun hc => ?_)
      · replace h := ct hc h
        refine wl_skip rfl rfl ?_
        refine wl_skip rfl rfl ?_
        refine wl_skip rfl rfl ?_
        refine wl_skip rfl rfl ?_
        refine wl_skip rfl rfl ?_
        refine wl_skip rfl rfl ?_
        simp only [Option.some.injEq, Prod.mk.injEq] at h
        obtain rfl := h
        have h := hg104; clear hg104
        refine wl_pure (v := .bool true) tt_ok rfl rfl ?_
        refine wl_pure tt_ok rfl rfl ?_
        refine wl_nil ?_
        refine wx_then ?_
        refine wc_seq ?_
        refine wc_quiet (by kernel_rfl) (by kernel_rfl) ?_
        refine wq_pure tt_ok rfl rfl ?_
        refine wq_pure tt_ok rfl rfl ?_
        replace h := bsome h; obtain ⟨v117, h, hg117⟩ := h
        replace h := ct rfl h
        refine wq_run rfl ?_
        refine wq_pure (v := .pointer (some ⟨b5, 1, none⟩)) tt_ok rfl rfl ?_
        refine wq_run rfl ?_
        refine wq_val (v := .int .u64 v17.Seed) (val_load tt_ok rfl (List.Mem.tail _ (List.Mem.tail _ (List.Mem.tail _ (List.Mem.head _)))) rfl) rfl ?_
        refine wq_run rfl ?_
        refine wq_pure (v := .pointer (some ⟨b2, 1, none⟩)) tt_ok rfl rfl ?_
        refine wq_run rfl ?_
        refine wq_val (v := .int .u64 p0.Seed) (val_load tt_ok rfl (List.Mem.tail _ (List.Mem.tail _ (List.Mem.head _))) rfl) rfl ?_
        refine wq_run rfl ?_
        refine wq_pure (v := .bool (v17.Seed == p0.Seed)) tt_ok rfl rfl ?_
        refine wq_run rfl ?_
        refine wq_pure tt_ok rfl rfl ?_
        replace h := bsome h; obtain ⟨v116, h, hg116⟩ := h
        refine wq_split (t := 112) rfl (fun hc => ?_) (fun hc => ?_)
        · replace h := ct hc h
          refine wq_skip rfl rfl ?_
          refine wq_skip rfl rfl ?_
          refine wq_skip rfl rfl ?_
          simp only [Option.some.injEq, Prod.mk.injEq] at h
          obtain rfl := h
          have h := hg116; clear hg116
          refine wq_run rfl ?_
          refine wq_pure (v := .bool true) tt_ok rfl rfl ?_
          simp only [Option.some.injEq, Prod.mk.injEq] at h
          obtain rfl := h
          have h := hg117; clear hg117
          refine wq_pure (v := .bool true) tt_ok rfl rfl ?_
          refine wq_pure tt_ok rfl rfl ?_
          replace h := bsome h; obtain ⟨v128, h, hg128⟩ := h
          replace h := ct rfl h
          refine wq_skip rfl rfl ?_
          refine wq_skip rfl rfl ?_
          refine wq_skip rfl rfl ?_
          refine wq_skip rfl rfl ?_
          refine wq_skip rfl rfl ?_
          refine wq_skip rfl rfl ?_
          refine wq_skip rfl rfl ?_
          refine wq_skip rfl rfl ?_
          refine wq_skip rfl rfl ?_
          simp only [Option.some.injEq, Prod.mk.injEq] at h
          obtain rfl := h
          have h := hg128; clear hg128
          refine wq_pure (v := .bool true) tt_ok rfl rfl ?_
          refine wq_nil ?_
          refine wx_then ?_
          replace h := ct rfl h
          refine wc_cond_true rfl ?_
          refine wc_seq ?_
          refine wc_region ?_
          refine wl_pure tt_ok rfl rfl ?_
          refine wl_nil ?_
          refine wx_then ?_
          refine wc_ret ?_
          refine wx_block_ret ?_
          refine wx_then_ret ?_
          obtain rfl := Option.some.inj h
          have h := hl41; clear hl41; try dsimp only [orE_l, orE_r] at h
          refine wx_then_ret ?_
          refine wx_block_ret ?_
          refine wx_then_ret ?_
          simp only [Option.some.injEq] at h
          obtain rfl := h
          exact wx_pf tt_ok (.inl rfl) Tryd.results7 (Res.tmp rfl Res.nil) rfl
        replace h := cf hc h
        refine wq_run rfl ?_
        refine wq_pure (v := .pointer (some ⟨b8, 4, none⟩)) tt_ok rfl rfl ?_
        refine wq_run rfl ?_
        refine wq_val (v := .int .u8 v17.Players.1.Health) (val_load tt_ok rfl (List.Mem.tail _ (List.Mem.head _)) rfl) rfl ?_
        refine wq_run rfl ?_
        refine wq_pure (v := .bool (v17.Players.1.Health != (100 : Int))) tt_ok rfl rfl ?_
        simp only [Option.some.injEq, Prod.mk.injEq] at h
        obtain rfl := h
        have h := hg116; clear hg116
        refine wq_run rfl ?_
        refine wq_pure (v := .bool (v17.Players.1.Health != (100 : Int))) tt_ok rfl rfl ?_
        simp only [Option.some.injEq, Prod.mk.injEq] at h
        obtain rfl := h
        have h := hg117; clear hg117
        refine wq_pure (v := .bool (v17.Players.1.Health != (100 : Int))) tt_ok rfl rfl ?_
        refine wq_pure tt_ok rfl rfl ?_
        replace h := bsome h; obtain ⟨v128, h, hg128⟩ := h
        refine wq_split (t := 118) rfl (fun hc => ?_) (fun hc => ?_)
        · replace h := ct hc h
          refine wq_skip rfl rfl ?_
          refine wq_skip rfl rfl ?_
          refine wq_skip rfl rfl ?_
          refine wq_skip rfl rfl ?_
          refine wq_skip rfl rfl ?_
          refine wq_skip rfl rfl ?_
          refine wq_skip rfl rfl ?_
          refine wq_skip rfl rfl ?_
          refine wq_skip rfl rfl ?_
          simp only [Option.some.injEq, Prod.mk.injEq] at h
          obtain rfl := h
          have h := hg128; clear hg128
          refine wq_pure (v := .bool true) tt_ok rfl rfl ?_
          refine wq_nil ?_
          refine wx_then ?_
          replace h := ct rfl h
          refine wc_cond_true rfl ?_
          refine wc_seq ?_
          refine wc_region ?_
          refine wl_pure tt_ok rfl rfl ?_
          refine wl_nil ?_
          refine wx_then ?_
          refine wc_ret ?_
          refine wx_block_ret ?_
          refine wx_then_ret ?_
          obtain rfl := Option.some.inj h
          have h := hl41; clear hl41; try dsimp only [orE_l, orE_r] at h
          refine wx_then_ret ?_
          refine wx_block_ret ?_
          refine wx_then_ret ?_
          simp only [Option.some.injEq] at h
          obtain rfl := h
          exact wx_pf tt_ok (.inl rfl) Tryd.results7 (Res.tmp rfl Res.nil) rfl
        replace h := cf hc h
        refine wq_run rfl ?_
        refine wq_pure tt_ok rfl rfl ?_
        refine wq_run rfl ?_
        refine wq_pure (v := .pointer (some ⟨b5, 17, none⟩)) tt_ok rfl rfl ?_
        refine wq_run rfl ?_
        refine wq_val (v := .pointer (some ⟨b5, 17, none⟩)) (val_ia (j := 0) tt_ok rfl rfl rfl rfl (by simpa using hx850) rfl rfl) rfl ?_
        refine wq_run rfl ?_
        refine wq_val (v := .int .u16 v17.Score.1) (val_load tt_ok rfl (List.Mem.tail _ (List.Mem.tail _ (List.Mem.tail _ (List.Mem.head _)))) rfl) rfl ?_
        refine wq_run rfl ?_
        refine wq_pure tt_ok rfl rfl ?_
        refine wq_run rfl ?_
        refine wq_pure (v := .pointer (some ⟨b2, 17, none⟩)) tt_ok rfl rfl ?_
        refine wq_run rfl ?_
        refine wq_val (v := .pointer (some ⟨b2, 17, none⟩)) (val_ia (j := 0) tt_ok rfl rfl rfl rfl (by simpa using hx850) rfl rfl) rfl ?_
        refine wq_run rfl ?_
        refine wq_val (v := .int .u16 p0.Score.1) (val_load tt_ok rfl (List.Mem.tail _ (List.Mem.tail _ (List.Mem.head _))) rfl) rfl ?_
        refine wq_run rfl ?_
        refine wq_pure (v := .bool (decide (v17.Score.1 < p0.Score.1))) tt_ok rfl rfl ?_
        simp only [Option.some.injEq, Prod.mk.injEq] at h
        obtain rfl := h
        have h := hg128; clear hg128
        refine wq_pure (v := .bool (decide (v17.Score.1 < p0.Score.1))) tt_ok rfl rfl ?_
        refine wq_nil ?_
        refine wx_then ?_
        refine wc_cond rfl (fun hc => ?_) (fun hc => ?_)
        · replace h := ct hc h
          refine wc_seq ?_
          refine wc_region ?_
          refine wl_pure tt_ok rfl rfl ?_
          refine wl_nil ?_
          refine wx_then ?_
          refine wc_ret ?_
          refine wx_block_ret ?_
          refine wx_then_ret ?_
          obtain rfl := Option.some.inj h
          have h := hl41; clear hl41; try dsimp only [orE_l, orE_r] at h
          refine wx_then_ret ?_
          refine wx_block_ret ?_
          refine wx_then_ret ?_
          simp only [Option.some.injEq] at h
          obtain rfl := h
          exact wx_pf tt_ok (.inl rfl) Tryd.results7 (Res.tmp rfl Res.nil) rfl
        replace h := cf hc h
        refine wc_skip ?_
        refine wx_block ?_
        refine wx_then ?_
        refine wc_region ?_
        refine wl_pure tt_ok rfl rfl ?_
        refine wl_pure (v := .int .i64 (IntKind.wrap .i64 (j41_6 + (1 : Int)))) tt_ok rfl rfl ?_
        refine wl_pure tt_ok rfl rfl ?_
        refine wl_nil ?_
        exact wx_round m41 (Nat.lt_succ_self m41) ⟨(IntKind.wrap .i64 (j41_6 + (1 : Int))), h, rfl, rfl⟩ (agree_cons rfl (agree_cons rfl (agree_cons rfl (agree_cons rfl agree_nil)))) (pSub (pCons (Sel.sc (Sel.sc Sel.hc)) (pCons (Sel.sc (Sel.sc Sel.hc)) (pApp (Sel.sc (Sel.sc Sel.ha)) pNil))))
      replace h := cf hc h
      refine wl_run rfl ?_
      refine wl_pure (v := .pointer (some ⟨b7, 1, none⟩)) tt_ok rfl rfl ?_
      refine wl_run rfl ?_
      refine wl_val (v := .int .i32 p0.Players.1.Y) (val_load tt_ok rfl (List.Mem.head _) rfl) rfl ?_
      refine wl_run rfl ?_
      refine wl_pure (v := .pointer (some ⟨b8, 1, none⟩)) tt_ok rfl rfl ?_
      refine wl_run rfl ?_
      refine wl_val (v := .int .i32 v17.Players.1.Y) (val_load tt_ok rfl (List.Mem.tail _ (List.Mem.head _)) rfl) rfl ?_
      replace h := bsome h; obtain ⟨v102, x102, h⟩ := h
      refine wl_run rfl ?_
      refine wl_cq Tryd.call19 rfl rfl rfl (q_pf (k_hindcastlaw09_apart x102) (fun _ _ => trivial)) rfl ?_
      refine wl_run rfl ?_
      refine wl_pure (v := .bool (decide ((1024 : Int) < v102))) tt_ok rfl rfl ?_
      simp only [Option.some.injEq, Prod.mk.injEq] at h
      obtain rfl := h
      have h := hg104; clear hg104
      refine wl_pure (v := .bool (decide ((1024 : Int) < v102))) tt_ok rfl rfl ?_
      refine wl_pure tt_ok rfl rfl ?_
      refine wl_nil ?_
      refine wx_then ?_
      refine wc_seq ?_
      refine wc_quiet (by kernel_rfl) (by kernel_rfl) ?_
      refine wq_pure tt_ok rfl rfl ?_
      refine wq_pure tt_ok rfl rfl ?_
      replace h := bsome h; obtain ⟨v117, h, hg117⟩ := h
      refine wq_split (t := 106) rfl (fun hc => ?_) (fun hc => ?_)
      · replace h := ct hc h
        refine wq_run rfl ?_
        refine wq_pure (v := .pointer (some ⟨b5, 1, none⟩)) tt_ok rfl rfl ?_
        refine wq_run rfl ?_
        refine wq_val (v := .int .u64 v17.Seed) (val_load tt_ok rfl (List.Mem.tail _ (List.Mem.tail _ (List.Mem.tail _ (List.Mem.head _)))) rfl) rfl ?_
        refine wq_run rfl ?_
        refine wq_pure (v := .pointer (some ⟨b2, 1, none⟩)) tt_ok rfl rfl ?_
        refine wq_run rfl ?_
        refine wq_val (v := .int .u64 p0.Seed) (val_load tt_ok rfl (List.Mem.tail _ (List.Mem.tail _ (List.Mem.head _))) rfl) rfl ?_
        refine wq_run rfl ?_
        refine wq_pure (v := .bool (v17.Seed == p0.Seed)) tt_ok rfl rfl ?_
        refine wq_run rfl ?_
        refine wq_pure tt_ok rfl rfl ?_
        replace h := bsome h; obtain ⟨v116, h, hg116⟩ := h
        refine wq_split (t := 112) rfl (fun hc => ?_) (fun hc => ?_)
        · replace h := ct hc h
          refine wq_skip rfl rfl ?_
          refine wq_skip rfl rfl ?_
          refine wq_skip rfl rfl ?_
          simp only [Option.some.injEq, Prod.mk.injEq] at h
          obtain rfl := h
          have h := hg116; clear hg116
          refine wq_run rfl ?_
          refine wq_pure (v := .bool true) tt_ok rfl rfl ?_
          simp only [Option.some.injEq, Prod.mk.injEq] at h
          obtain rfl := h
          have h := hg117; clear hg117
          refine wq_pure (v := .bool true) tt_ok rfl rfl ?_
          refine wq_pure tt_ok rfl rfl ?_
          replace h := bsome h; obtain ⟨v128, h, hg128⟩ := h
          replace h := ct rfl h
          refine wq_skip rfl rfl ?_
          refine wq_skip rfl rfl ?_
          refine wq_skip rfl rfl ?_
          refine wq_skip rfl rfl ?_
          refine wq_skip rfl rfl ?_
          refine wq_skip rfl rfl ?_
          refine wq_skip rfl rfl ?_
          refine wq_skip rfl rfl ?_
          refine wq_skip rfl rfl ?_
          simp only [Option.some.injEq, Prod.mk.injEq] at h
          obtain rfl := h
          have h := hg128; clear hg128
          refine wq_pure (v := .bool true) tt_ok rfl rfl ?_
          refine wq_nil ?_
          refine wx_then ?_
          replace h := ct rfl h
          refine wc_cond_true rfl ?_
          refine wc_seq ?_
          refine wc_region ?_
          refine wl_pure tt_ok rfl rfl ?_
          refine wl_nil ?_
          refine wx_then ?_
          refine wc_ret ?_
          refine wx_block_ret ?_
          refine wx_then_ret ?_
          obtain rfl := Option.some.inj h
          have h := hl41; clear hl41; try dsimp only [orE_l, orE_r] at h
          refine wx_then_ret ?_
          refine wx_block_ret ?_
          refine wx_then_ret ?_
          simp only [Option.some.injEq] at h
          obtain rfl := h
          exact wx_pf tt_ok (.inl rfl) Tryd.results7 (Res.tmp rfl Res.nil) rfl
        replace h := cf hc h
        refine wq_run rfl ?_
        refine wq_pure (v := .pointer (some ⟨b8, 4, none⟩)) tt_ok rfl rfl ?_
        refine wq_run rfl ?_
        refine wq_val (v := .int .u8 v17.Players.1.Health) (val_load tt_ok rfl (List.Mem.tail _ (List.Mem.head _)) rfl) rfl ?_
        refine wq_run rfl ?_
        refine wq_pure (v := .bool (v17.Players.1.Health != (100 : Int))) tt_ok rfl rfl ?_
        simp only [Option.some.injEq, Prod.mk.injEq] at h
        obtain rfl := h
        have h := hg116; clear hg116
        refine wq_run rfl ?_
        refine wq_pure (v := .bool (v17.Players.1.Health != (100 : Int))) tt_ok rfl rfl ?_
        simp only [Option.some.injEq, Prod.mk.injEq] at h
        obtain rfl := h
        have h := hg117; clear hg117
        refine wq_pure (v := .bool (v17.Players.1.Health != (100 : Int))) tt_ok rfl rfl ?_
        refine wq_pure tt_ok rfl rfl ?_
        replace h := bsome h; obtain ⟨v128, h, hg128⟩ := h
        refine wq_split (t := 118) rfl (fun hc => ?_) (fun hc => ?_)
        · replace h := ct hc h
          refine wq_skip rfl rfl ?_
          refine wq_skip rfl rfl ?_
          refine wq_skip rfl rfl ?_
          refine wq_skip rfl rfl ?_
          refine wq_skip rfl rfl ?_
          refine wq_skip rfl rfl ?_
          refine wq_skip rfl rfl ?_
          refine wq_skip rfl rfl ?_
          refine wq_skip rfl rfl ?_
          simp only [Option.some.injEq, Prod.mk.injEq] at h
          obtain rfl := h
          have h := hg128; clear hg128
          refine wq_pure (v := .bool true) tt_ok rfl rfl ?_
          refine wq_nil ?_
          refine wx_then ?_
          replace h := ct rfl h
          refine wc_cond_true rfl ?_
          refine wc_seq ?_
          refine wc_region ?_
          refine wl_pure tt_ok rfl rfl ?_
          refine wl_nil ?_
          refine wx_then ?_
          refine wc_ret ?_
          refine wx_block_ret ?_
          refine wx_then_ret ?_
          obtain rfl := Option.some.inj h
          have h := hl41; clear hl41; try dsimp only [orE_l, orE_r] at h
          refine wx_then_ret ?_
          refine wx_block_ret ?_
          refine wx_then_ret ?_
          simp only [Option.some.injEq] at h
          obtain rfl := h
          exact wx_pf tt_ok (.inl rfl) Tryd.results7 (Res.tmp rfl Res.nil) rfl
        replace h := cf hc h
        refine wq_run rfl ?_
        refine wq_pure tt_ok rfl rfl ?_
        refine wq_run rfl ?_
        refine wq_pure (v := .pointer (some ⟨b5, 17, none⟩)) tt_ok rfl rfl ?_
        refine wq_run rfl ?_
        refine wq_val (v := .pointer (some ⟨b5, 17, none⟩)) (val_ia (j := 0) tt_ok rfl rfl rfl rfl (by simpa using hx850) rfl rfl) rfl ?_
        refine wq_run rfl ?_
        refine wq_val (v := .int .u16 v17.Score.1) (val_load tt_ok rfl (List.Mem.tail _ (List.Mem.tail _ (List.Mem.tail _ (List.Mem.head _)))) rfl) rfl ?_
        refine wq_run rfl ?_
        refine wq_pure tt_ok rfl rfl ?_
        refine wq_run rfl ?_
        refine wq_pure (v := .pointer (some ⟨b2, 17, none⟩)) tt_ok rfl rfl ?_
        refine wq_run rfl ?_
        refine wq_val (v := .pointer (some ⟨b2, 17, none⟩)) (val_ia (j := 0) tt_ok rfl rfl rfl rfl (by simpa using hx850) rfl rfl) rfl ?_
        refine wq_run rfl ?_
        refine wq_val (v := .int .u16 p0.Score.1) (val_load tt_ok rfl (List.Mem.tail _ (List.Mem.tail _ (List.Mem.head _))) rfl) rfl ?_
        refine wq_run rfl ?_
        refine wq_pure (v := .bool (decide (v17.Score.1 < p0.Score.1))) tt_ok rfl rfl ?_
        simp only [Option.some.injEq, Prod.mk.injEq] at h
        obtain rfl := h
        have h := hg128; clear hg128
        refine wq_pure (v := .bool (decide (v17.Score.1 < p0.Score.1))) tt_ok rfl rfl ?_
        refine wq_nil ?_
        refine wx_then ?_
        refine wc_cond rfl (fun hc => ?_) (fun hc => ?_)
        · replace h := ct hc h
          refine wc_seq ?_
          refine wc_region ?_
          refine wl_pure tt_ok rfl rfl ?_
          refine wl_nil ?_
          refine wx_then ?_
          refine wc_ret ?_
          refine wx_block_ret ?_
          refine wx_then_ret ?_
          obtain rfl := Option.some.inj h
          have h := hl41; clear hl41; try dsimp only [orE_l, orE_r] at h
          refine wx_then_ret ?_
          refine wx_block_ret ?_
          refine wx_then_ret ?_
          simp only [Option.some.injEq] at h
          obtain rfl := h
          exact wx_pf tt_ok (.inl rfl) Tryd.results7 (Res.tmp rfl Res.nil) rfl
        replace h := cf hc h
        refine wc_skip ?_
        refine wx_block ?_
        refine wx_then ?_
        refine wc_region ?_
        refine wl_pure tt_ok rfl rfl ?_
        refine wl_pure (v := .int .i64 (IntKind.wrap .i64 (j41_6 + (1 : Int)))) tt_ok rfl rfl ?_
        refine wl_pure tt_ok rfl rfl ?_
        refine wl_nil ?_
        exact wx_round m41 (Nat.lt_succ_self m41) ⟨(IntKind.wrap .i64 (j41_6 + (1 : Int))), h, rfl, rfl⟩ (agree_cons rfl (agree_cons rfl (agree_cons rfl (agree_cons rfl agree_nil)))) (pSub (pCons (Sel.sc (Sel.sc Sel.hc)) (pCons (Sel.sc (Sel.sc Sel.hc)) (pApp (Sel.sc (Sel.sc Sel.ha)) pNil))))
      replace h := cf hc h
      refine wq_skip rfl rfl ?_
      refine wq_skip rfl rfl ?_
      refine wq_skip rfl rfl ?_
      refine wq_skip rfl rfl ?_
      refine wq_skip rfl rfl ?_
      refine wq_skip rfl rfl ?_
      refine wq_skip rfl rfl ?_
      refine wq_skip rfl rfl ?_
      refine wq_skip rfl rfl ?_
      refine wq_skip rfl rfl ?_
      simp only [Option.some.injEq, Prod.mk.injEq] at h
      obtain rfl := h
      have h := hg117; clear hg117
      refine wq_pure (v := .bool false) tt_ok rfl rfl ?_
      refine wq_pure tt_ok rfl rfl ?_
      replace h := bsome h; obtain ⟨v128, h, hg128⟩ := h
      replace h := cf rfl h
      refine wq_run rfl ?_
      refine wq_pure tt_ok rfl rfl ?_
      refine wq_run rfl ?_
      refine wq_pure (v := .pointer (some ⟨b5, 17, none⟩)) tt_ok rfl rfl ?_
      refine wq_run rfl ?_
      refine wq_val (v := .pointer (some ⟨b5, 17, none⟩)) (val_ia (j := 0) tt_ok rfl rfl rfl rfl (by simpa using hx850) rfl rfl) rfl ?_
      refine wq_run rfl ?_
      refine wq_val (v := .int .u16 v17.Score.1) (val_load tt_ok rfl (List.Mem.tail _ (List.Mem.tail _ (List.Mem.tail _ (List.Mem.head _)))) rfl) rfl ?_
      refine wq_run rfl ?_
      refine wq_pure tt_ok rfl rfl ?_
      refine wq_run rfl ?_
      refine wq_pure (v := .pointer (some ⟨b2, 17, none⟩)) tt_ok rfl rfl ?_
      refine wq_run rfl ?_
      refine wq_val (v := .pointer (some ⟨b2, 17, none⟩)) (val_ia (j := 0) tt_ok rfl rfl rfl rfl (by simpa using hx850) rfl rfl) rfl ?_
      refine wq_run rfl ?_
      refine wq_val (v := .int .u16 p0.Score.1) (val_load tt_ok rfl (List.Mem.tail _ (List.Mem.tail _ (List.Mem.head _))) rfl) rfl ?_
      refine wq_run rfl ?_
      refine wq_pure (v := .bool (decide (v17.Score.1 < p0.Score.1))) tt_ok rfl rfl ?_
      simp only [Option.some.injEq, Prod.mk.injEq] at h
      obtain rfl := h
      have h := hg128; clear hg128
      refine wq_pure (v := .bool (decide (v17.Score.1 < p0.Score.1))) tt_ok rfl rfl ?_
      refine wq_nil ?_
      refine wx_then ?_
      refine wc_cond rfl (fun hc => ?_) (fun hc => ?_)
      · replace h := ct hc h
        refine wc_seq ?_
        refine wc_region ?_
        refine wl_pure tt_ok rfl rfl ?_
        refine wl_nil ?_
        refine wx_then ?_
        refine wc_ret ?_
        refine wx_block_ret ?_
        refine wx_then_ret ?_
        obtain rfl := Option.some.inj h
        have h := hl41; clear hl41; try dsimp only [orE_l, orE_r] at h
        refine wx_then_ret ?_
        refine wx_block_ret ?_
        refine wx_then_ret ?_
        simp only [Option.some.injEq] at h
        obtain rfl := h
        exact wx_pf tt_ok (.inl rfl) Tryd.results7 (Res.tmp rfl Res.nil) rfl
      replace h := cf hc h
      refine wc_skip ?_
      refine wx_block ?_
      refine wx_then ?_
      refine wc_region ?_
      refine wl_pure tt_ok rfl rfl ?_
      refine wl_pure (v := .int .i64 (IntKind.wrap .i64 (j41_6 + (1 : Int)))) tt_ok rfl rfl ?_
      refine wl_pure tt_ok rfl rfl ?_
      refine wl_nil ?_
      exact wx_round m41 (Nat.lt_succ_self m41) ⟨(IntKind.wrap .i64 (j41_6 + (1 : Int))), h, rfl, rfl⟩ (agree_cons rfl (agree_cons rfl (agree_cons rfl (agree_cons rfl agree_nil)))) (pSub (pCons (Sel.sc (Sel.sc Sel.hc)) (pCons (Sel.sc (Sel.sc Sel.hc)) (pApp (Sel.sc (Sel.sc Sel.ha)) pNil))))
    replace h := cf hx850 h
    rcases Bool.eq_false_or_eq_true (j41_6 == (1 : Int)) with hx851 | hx851
    · replace h := ct hx851 h
      refine k_val (v := .pointer (some ⟨b2, 9, none⟩)) rfl rfl rfl (pSub (pCons Sel.hc (pCons Sel.hc (pApp Sel.ha pNil)))) (val_ia (j := 1) tt_ok rfl rfl rfl rfl (by simpa using hx851) rfl rfl) rfl ?_
      refine k_val (v := .agg #[.int .i32 p0.Players.2.X, .int .i32 p0.Players.2.Y, .int .i32 p0.Players.2.VX, .int .i32 p0.Players.2.VY, .int .u8 p0.Players.2.Health, .int .u8 p0.Players.2.Cool, .int .u8 p0.Players.2.Face]) rfl rfl rfl (pSub (pCons Sel.hc (pCons Sel.hc (pApp Sel.ha pNil)))) (val_load tt_ok rfl (List.Mem.head _) rfl) rfl ?_
      refine k_val rfl rfl rfl (pSub (pCons Sel.hc (pCons Sel.hc (pApp Sel.ha pNil)))) (stepV_ok tt_ok rfl) rfl ?_
      refine k_val (v := .pointer (some ⟨b5, 2, none⟩)) rfl rfl rfl (pSub (pCons Sel.hc (pCons Sel.hc (pApp Sel.ha pNil)))) (stepV_ok tt_ok rfl) rfl ?_
      refine k_val (v := .pointer (some ⟨b5, 9, none⟩)) rfl rfl rfl (pSub (pCons Sel.hc (pCons Sel.hc (pApp Sel.ha pNil)))) (val_ia (j := 1) tt_ok rfl rfl rfl rfl (by simpa using hx851) rfl rfl) rfl ?_
      refine k_val (v := .agg #[.int .i32 v17.Players.2.X, .int .i32 v17.Players.2.Y, .int .i32 v17.Players.2.VX, .int .i32 v17.Players.2.VY, .int .u8 v17.Players.2.Health, .int .u8 v17.Players.2.Cool, .int .u8 v17.Players.2.Face]) rfl rfl rfl (pSub (pCons Sel.hc (pCons Sel.hc (pApp Sel.ha pNil)))) (val_load tt_ok rfl (List.Mem.tail _ (List.Mem.head _)) rfl) rfl ?_
      refine k_two (i := 8) (j := 9) (t1 := [9, 10, 11]) (t2 := [8, 10, 11]) (by kernel_rfl) (by kernel_rfl) (by kernel_rfl) (by kernel_rfl) ?_ ?_
      · refine k_chgf rfl rfl (chg_alloc tt_ok rfl) rfl (.inr (by rintro _ _ ⟨_, rfl, rfl⟩; exact ⟨_, (pCons (Sel.sc Sel.hc) (pCons (Sel.sc Sel.hc) (pApp (Sel.sc Sel.ha) pNil)))⟩)) ?_
        rintro _ _ ⟨b7, rfl, rfl⟩
        refine k_chg rfl rfl rfl (chg_alloc tt_ok rfl) rfl (.inr (by rintro _ _ ⟨_, rfl, rfl⟩; exact ⟨_, (pCons (Sel.sc (Sel.sc Sel.hc)) (pCons (Sel.sc (Sel.sc Sel.hc)) (pApp (Sel.sc (Sel.sc Sel.ha)) pNil)))⟩)) ?_
        rintro _ _ ⟨b8, rfl, rfl⟩
        refine k_chg0 rfl rfl rfl (chg_store tt_ok rfl (Upd.there Upd.here) rfl rfl rfl rfl rfl rfl) (.inr (by rintro _ _ rfl; exact ⟨_, (pCons (Sel.sc (Sel.sc Sel.hc)) (pCons (Sel.sc (Sel.sc Sel.hc)) (pApp (Sel.sc (Sel.sc Sel.ha)) pNil)))⟩)) ?_
        rintro _ _ rfl
        refine k_chg0 rfl rfl rfl (chg_store tt_ok rfl Upd.here rfl rfl rfl rfl rfl rfl) (.inl rfl) ?_
        rintro _ _ rfl
        refine k_end (by kernel_rfl) ?_
        refine wx_then ?_
        refine wc_seq ?_
        refine wc_region ?_
        refine wl_pure (v := .pointer (some ⟨b7, 0, none⟩)) tt_ok rfl rfl ?_
        refine wl_val (v := .int .i32 p0.Players.2.X) (val_load tt_ok rfl (List.Mem.tail _ (List.Mem.head _)) rfl) rfl ?_
        refine wl_pure (v := .pointer (some ⟨b8, 0, none⟩)) tt_ok rfl rfl ?_
        refine wl_val (v := .int .i32 v17.Players.2.X) (val_load tt_ok rfl (List.Mem.head _) rfl) rfl ?_
        replace h := bsome h; obtain ⟨v95, x95, h⟩ := h
        refine wl_cq Tryd.call19 rfl rfl rfl (q_pf (k_hindcastlaw09_apart x95) (fun _ _ => trivial)) rfl ?_
        refine wl_pure (v := .bool (decide ((1024 : Int) < v95))) tt_ok rfl rfl ?_
        refine wl_pure tt_ok rfl rfl ?_
        replace h := bsome h; obtain ⟨v104, h, hg104⟩ := h
        refine wl_split (t := 97) rfl (fun hc => ?_) (fun hc => ?_)
        · replace h := ct hc h
          refine wl_skip rfl rfl ?_
          refine wl_skip rfl rfl ?_
          refine wl_skip rfl rfl ?_
          refine wl_skip rfl rfl ?_
          refine wl_skip rfl rfl ?_
          refine wl_skip rfl rfl ?_
          simp only [Option.some.injEq, Prod.mk.injEq] at h
          obtain rfl := h
          have h := hg104; clear hg104
          refine wl_pure (v := .bool true) tt_ok rfl rfl ?_
          refine wl_pure tt_ok rfl rfl ?_
          refine wl_nil ?_
          refine wx_then ?_
          refine wc_seq ?_
          refine wc_quiet (by kernel_rfl) (by kernel_rfl) ?_
          refine wq_pure tt_ok rfl rfl ?_
          refine wq_pure tt_ok rfl rfl ?_
          replace h := bsome h; obtain ⟨v117, h, hg117⟩ := h
          replace h := ct rfl h
          refine wq_run rfl ?_
          refine wq_pure (v := .pointer (some ⟨b5, 1, none⟩)) tt_ok rfl rfl ?_
          refine wq_run rfl ?_
          refine wq_val (v := .int .u64 v17.Seed) (val_load tt_ok rfl (List.Mem.tail _ (List.Mem.tail _ (List.Mem.tail _ (List.Mem.head _)))) rfl) rfl ?_
          refine wq_run rfl ?_
          refine wq_pure (v := .pointer (some ⟨b2, 1, none⟩)) tt_ok rfl rfl ?_
          refine wq_run rfl ?_
          refine wq_val (v := .int .u64 p0.Seed) (val_load tt_ok rfl (List.Mem.tail _ (List.Mem.tail _ (List.Mem.head _))) rfl) rfl ?_
          refine wq_run rfl ?_
          refine wq_pure (v := .bool (v17.Seed == p0.Seed)) tt_ok rfl rfl ?_
          refine wq_run rfl ?_
          refine wq_pure tt_ok rfl rfl ?_
          replace h := bsome h; obtain ⟨v116, h, hg116⟩ := h
          refine wq_split (t := 112) rfl (fun hc => ?_) (fun hc => ?_)
          · replace h := ct hc h
            refine wq_skip rfl rfl ?_
            refine wq_skip rfl rfl ?_
            refine wq_skip rfl rfl ?_
            simp only [Option.some.injEq, Prod.mk.injEq] at h
            obtain rfl := h
            have h := hg116; clear hg116
            refine wq_run rfl ?_
            refine wq_pure (v := .bool true) tt_ok rfl rfl ?_
            simp only [Option.some.injEq, Prod.mk.injEq] at h
            obtain rfl := h
            have h := hg117; clear hg117
            refine wq_pure (v := .bool true) tt_ok rfl rfl ?_
            refine wq_pure tt_ok rfl rfl ?_
            replace h := bsome h; obtain ⟨v128, h, hg128⟩ := h
            replace h := ct rfl h
            refine wq_skip rfl rfl ?_
            refine wq_skip rfl rfl ?_
            refine wq_skip rfl rfl ?_
            refine wq_skip rfl rfl ?_
            refine wq_skip rfl rfl ?_
            refine wq_skip rfl rfl ?_
            refine wq_skip rfl rfl ?_
            refine wq_skip rfl rfl ?_
            refine wq_skip rfl rfl ?_
            simp only [Option.some.injEq, Prod.mk.injEq] at h
            obtain rfl := h
            have h := hg128; clear hg128
            refine wq_pure (v := .bool true) tt_ok rfl rfl ?_
            refine wq_nil ?_
            refine wx_then ?_
            replace h := ct rfl h
            refine wc_cond_true rfl ?_
            refine wc_seq ?_
            refine wc_region ?_
            refine wl_pure tt_ok rfl rfl ?_
            refine wl_nil ?_
            refine wx_then ?_
            refine wc_ret ?_
            refine wx_block_ret ?_
            refine wx_then_ret ?_
            obtain rfl := Option.some.inj h
            have h := hl41; clear hl41; try dsimp only [orE_l, orE_r] at h
            refine wx_then_ret ?_
            refine wx_block_ret ?_
            refine wx_then_ret ?_
            simp only [Option.some.injEq] at h
            obtain rfl := h
            exact wx_pf tt_ok (.inl rfl) Tryd.results7 (Res.tmp rfl Res.nil) rfl
          replace h := cf hc h
          refine wq_run rfl ?_
          refine wq_pure (v := .pointer (some ⟨b8, 4, none⟩)) tt_ok rfl rfl ?_
          refine wq_run rfl ?_
          refine wq_val (v := .int .u8 v17.Players.2.Health) (val_load tt_ok rfl (List.Mem.head _) rfl) rfl ?_
          refine wq_run rfl ?_
          refine wq_pure (v := .bool (v17.Players.2.Health != (100 : Int))) tt_ok rfl rfl ?_
          simp only [Option.some.injEq, Prod.mk.injEq] at h
          obtain rfl := h
          have h := hg116; clear hg116
          refine wq_run rfl ?_
          refine wq_pure (v := .bool (v17.Players.2.Health != (100 : Int))) tt_ok rfl rfl ?_
          simp only [Option.some.injEq, Prod.mk.injEq] at h
          obtain rfl := h
          have h := hg117; clear hg117
          refine wq_pure (v := .bool (v17.Players.2.Health != (100 : Int))) tt_ok rfl rfl ?_
          refine wq_pure tt_ok rfl rfl ?_
          replace h := bsome h; obtain ⟨v128, h, hg128⟩ := h
          refine wq_split (t := 118) rfl (fun hc => ?_) (fun hc => ?_)
          · replace h := ct hc h
            refine wq_skip rfl rfl ?_
            refine wq_skip rfl rfl ?_
            refine wq_skip rfl rfl ?_
            refine wq_skip rfl rfl ?_
            refine wq_skip rfl rfl ?_
            refine wq_skip rfl rfl ?_
            refine wq_skip rfl rfl ?_
            refine wq_skip rfl rfl ?_
            refine wq_skip rfl rfl ?_
            simp only [Option.some.injEq, Prod.mk.injEq] at h
            obtain rfl := h
            have h := hg128; clear hg128
            refine wq_pure (v := .bool true) tt_ok rfl rfl ?_
            refine wq_nil ?_
            refine wx_then ?_
            replace h := ct rfl h
            refine wc_cond_true rfl ?_
            refine wc_seq ?_
            refine wc_region ?_
            refine wl_pure tt_ok rfl rfl ?_
            refine wl_nil ?_
            refine wx_then ?_
            refine wc_ret ?_
            refine wx_block_ret ?_
            refine wx_then_ret ?_
            obtain rfl := Option.some.inj h
            have h := hl41; clear hl41; try dsimp only [orE_l, orE_r] at h
            refine wx_then_ret ?_
            refine wx_block_ret ?_
            refine wx_then_ret ?_
            simp only [Option.some.injEq] at h
            obtain rfl := h
            exact wx_pf tt_ok (.inl rfl) Tryd.results7 (Res.tmp rfl Res.nil) rfl
          replace h := cf hc h
          refine wq_run rfl ?_
          refine wq_pure tt_ok rfl rfl ?_
          refine wq_run rfl ?_
          refine wq_pure (v := .pointer (some ⟨b5, 17, none⟩)) tt_ok rfl rfl ?_
          refine wq_run rfl ?_
          refine wq_val (v := .pointer (some ⟨b5, 18, none⟩)) (val_ia (j := 1) tt_ok rfl rfl rfl rfl (by simpa using hx851) rfl rfl) rfl ?_
          refine wq_run rfl ?_
          refine wq_val (v := .int .u16 v17.Score.2) (val_load tt_ok rfl (List.Mem.tail _ (List.Mem.tail _ (List.Mem.tail _ (List.Mem.head _)))) rfl) rfl ?_
          refine wq_run rfl ?_
          refine wq_pure tt_ok rfl rfl ?_
          refine wq_run rfl ?_
          refine wq_pure (v := .pointer (some ⟨b2, 17, none⟩)) tt_ok rfl rfl ?_
          refine wq_run rfl ?_
          refine wq_val (v := .pointer (some ⟨b2, 18, none⟩)) (val_ia (j := 1) tt_ok rfl rfl rfl rfl (by simpa using hx851) rfl rfl) rfl ?_
          refine wq_run rfl ?_
          refine wq_val (v := .int .u16 p0.Score.2) (val_load tt_ok rfl (List.Mem.tail _ (List.Mem.tail _ (List.Mem.head _))) rfl) rfl ?_
          refine wq_run rfl ?_
          refine wq_pure (v := .bool (decide (v17.Score.2 < p0.Score.2))) tt_ok rfl rfl ?_
          simp only [Option.some.injEq, Prod.mk.injEq] at h
          obtain rfl := h
          have h := hg128; clear hg128
          refine wq_pure (v := .bool (decide (v17.Score.2 < p0.Score.2))) tt_ok rfl rfl ?_
          refine wq_nil ?_
          refine wx_then ?_
          refine wc_cond rfl (fun hc => ?_) (fun hc => ?_)
          · replace h := ct hc h
            refine wc_seq ?_
            refine wc_region ?_
            refine wl_pure tt_ok rfl rfl ?_
            refine wl_nil ?_
            refine wx_then ?_
            refine wc_ret ?_
            refine wx_block_ret ?_
            refine wx_then_ret ?_
            obtain rfl := Option.some.inj h
            have h := hl41; clear hl41; try dsimp only [orE_l, orE_r] at h
            refine wx_then_ret ?_
            refine wx_block_ret ?_
            refine wx_then_ret ?_
            simp only [Option.some.injEq] at h
            obtain rfl := h
            exact wx_pf tt_ok (.inl rfl) Tryd.results7 (Res.tmp rfl Res.nil) rfl
          replace h := cf hc h
          refine wc_skip ?_
          refine wx_block ?_
          refine wx_then ?_
          refine wc_region ?_
          refine wl_pure tt_ok rfl rfl ?_
          refine wl_pure (v := .int .i64 (IntKind.wrap .i64 (j41_6 + (1 : Int)))) tt_ok rfl rfl ?_
          refine wl_pure tt_ok rfl rfl ?_
          refine wl_nil ?_
          exact wx_round m41 (Nat.lt_succ_self m41) ⟨(IntKind.wrap .i64 (j41_6 + (1 : Int))), h, rfl, rfl⟩ (agree_cons rfl (agree_cons rfl (agree_cons rfl (agree_cons rfl agree_nil)))) (pSub (pCons (Sel.sc (Sel.sc Sel.hc)) (pCons (Sel.sc (Sel.sc Sel.hc)) (pApp (Sel.sc (Sel.sc Sel.ha)) pNil))))
        replace h := cf hc h
        refine wl_run rfl ?_
        refine wl_pure (v := .pointer (some ⟨b7, 1, none⟩)) tt_ok rfl rfl ?_
        refine wl_run rfl ?_
        refine wl_val (v := .int .i32 p0.Players.2.Y) (val_load tt_ok rfl (List.Mem.tail _ (List.Mem.head _)) rfl) rfl ?_
        refine wl_run rfl ?_
        refine wl_pure (v := .pointer (some ⟨b8, 1, none⟩)) tt_ok rfl rfl ?_
        refine wl_run rfl ?_
        refine wl_val (v := .int .i32 v17.Players.2.Y) (val_load tt_ok rfl (List.Mem.head _) rfl) rfl ?_
        replace h := bsome h; obtain ⟨v102, x102, h⟩ := h
        refine wl_run rfl ?_
        refine wl_cq Tryd.call19 rfl rfl rfl (q_pf (k_hindcastlaw09_apart x102) (fun _ _ => trivial)) rfl ?_
        refine wl_run rfl ?_
        refine wl_pure (v := .bool (decide ((1024 : Int) < v102))) tt_ok rfl rfl ?_
        simp only [Option.some.injEq, Prod.mk.injEq] at h
        obtain rfl := h
        have h := hg104; clear hg104
        refine wl_pure (v := .bool (decide ((1024 : Int) < v102))) tt_ok rfl rfl ?_
        refine wl_pure tt_ok rfl rfl ?_
        refine wl_nil ?_
        refine wx_then ?_
        refine wc_seq ?_
        refine wc_quiet (by kernel_rfl) (by kernel_rfl) ?_
        refine wq_pure tt_ok rfl rfl ?_
        refine wq_pure tt_ok rfl rfl ?_
        replace h := bsome h; obtain ⟨v117, h, hg117⟩ := h
        refine wq_split (t := 106) rfl (fun hc => ?_) (fun hc => ?_)
        · replace h := ct hc h
          refine wq_run rfl ?_
          refine wq_pure (v := .pointer (some ⟨b5, 1, none⟩)) tt_ok rfl rfl ?_
          refine wq_run rfl ?_
          refine wq_val (v := .int .u64 v17.Seed) (val_load tt_ok rfl (List.Mem.tail _ (List.Mem.tail _ (List.Mem.tail _ (List.Mem.head _)))) rfl) rfl ?_
          refine wq_run rfl ?_
          refine wq_pure (v := .pointer (some ⟨b2, 1, none⟩)) tt_ok rfl rfl ?_
          refine wq_run rfl ?_
          refine wq_val (v := .int .u64 p0.Seed) (val_load tt_ok rfl (List.Mem.tail _ (List.Mem.tail _ (List.Mem.head _))) rfl) rfl ?_
          refine wq_run rfl ?_
          refine wq_pure (v := .bool (v17.Seed == p0.Seed)) tt_ok rfl rfl ?_
          refine wq_run rfl ?_
          refine wq_pure tt_ok rfl rfl ?_
          replace h := bsome h; obtain ⟨v116, h, hg116⟩ := h
          refine wq_split (t := 112) rfl (fun hc => ?_) (fun hc => ?_)
          · replace h := ct hc h
            refine wq_skip rfl rfl ?_
            refine wq_skip rfl rfl ?_
            refine wq_skip rfl rfl ?_
            simp only [Option.some.injEq, Prod.mk.injEq] at h
            obtain rfl := h
            have h := hg116; clear hg116
            refine wq_run rfl ?_
            refine wq_pure (v := .bool true) tt_ok rfl rfl ?_
            simp only [Option.some.injEq, Prod.mk.injEq] at h
            obtain rfl := h
            have h := hg117; clear hg117
            refine wq_pure (v := .bool true) tt_ok rfl rfl ?_
            refine wq_pure tt_ok rfl rfl ?_
            replace h := bsome h; obtain ⟨v128, h, hg128⟩ := h
            replace h := ct rfl h
            refine wq_skip rfl rfl ?_
            refine wq_skip rfl rfl ?_
            refine wq_skip rfl rfl ?_
            refine wq_skip rfl rfl ?_
            refine wq_skip rfl rfl ?_
            refine wq_skip rfl rfl ?_
            refine wq_skip rfl rfl ?_
            refine wq_skip rfl rfl ?_
            refine wq_skip rfl rfl ?_
            simp only [Option.some.injEq, Prod.mk.injEq] at h
            obtain rfl := h
            have h := hg128; clear hg128
            refine wq_pure (v := .bool true) tt_ok rfl rfl ?_
            refine wq_nil ?_
            refine wx_then ?_
            replace h := ct rfl h
            refine wc_cond_true rfl ?_
            refine wc_seq ?_
            refine wc_region ?_
            refine wl_pure tt_ok rfl rfl ?_
            refine wl_nil ?_
            refine wx_then ?_
            refine wc_ret ?_
            refine wx_block_ret ?_
            refine wx_then_ret ?_
            obtain rfl := Option.some.inj h
            have h := hl41; clear hl41; try dsimp only [orE_l, orE_r] at h
            refine wx_then_ret ?_
            refine wx_block_ret ?_
            refine wx_then_ret ?_
            simp only [Option.some.injEq] at h
            obtain rfl := h
            exact wx_pf tt_ok (.inl rfl) Tryd.results7 (Res.tmp rfl Res.nil) rfl
          replace h := cf hc h
          refine wq_run rfl ?_
          refine wq_pure (v := .pointer (some ⟨b8, 4, none⟩)) tt_ok rfl rfl ?_
          refine wq_run rfl ?_
          refine wq_val (v := .int .u8 v17.Players.2.Health) (val_load tt_ok rfl (List.Mem.head _) rfl) rfl ?_
          refine wq_run rfl ?_
          refine wq_pure (v := .bool (v17.Players.2.Health != (100 : Int))) tt_ok rfl rfl ?_
          simp only [Option.some.injEq, Prod.mk.injEq] at h
          obtain rfl := h
          have h := hg116; clear hg116
          refine wq_run rfl ?_
          refine wq_pure (v := .bool (v17.Players.2.Health != (100 : Int))) tt_ok rfl rfl ?_
          simp only [Option.some.injEq, Prod.mk.injEq] at h
          obtain rfl := h
          have h := hg117; clear hg117
          refine wq_pure (v := .bool (v17.Players.2.Health != (100 : Int))) tt_ok rfl rfl ?_
          refine wq_pure tt_ok rfl rfl ?_
          replace h := bsome h; obtain ⟨v128, h, hg128⟩ := h
          refine wq_split (t := 118) rfl (fun hc => ?_) (fun hc => ?_)
          · replace h := ct hc h
            refine wq_skip rfl rfl ?_
            refine wq_skip rfl rfl ?_
            refine wq_skip rfl rfl ?_
            refine wq_skip rfl rfl ?_
            refine wq_skip rfl rfl ?_
            refine wq_skip rfl rfl ?_
            refine wq_skip rfl rfl ?_
            refine wq_skip rfl rfl ?_
            refine wq_skip rfl rfl ?_
            simp only [Option.some.injEq, Prod.mk.injEq] at h
            obtain rfl := h
            have h := hg128; clear hg128
            refine wq_pure (v := .bool true) tt_ok rfl rfl ?_
            refine wq_nil ?_
            refine wx_then ?_
            replace h := ct rfl h
            refine wc_cond_true rfl ?_
            refine wc_seq ?_
            refine wc_region ?_
            refine wl_pure tt_ok rfl rfl ?_
            refine wl_nil ?_
            refine wx_then ?_
            refine wc_ret ?_
            refine wx_block_ret ?_
            refine wx_then_ret ?_
            obtain rfl := Option.some.inj h
            have h := hl41; clear hl41; try dsimp only [orE_l, orE_r] at h
            refine wx_then_ret ?_
            refine wx_block_ret ?_
            refine wx_then_ret ?_
            simp only [Option.some.injEq] at h
            obtain rfl := h
            exact wx_pf tt_ok (.inl rfl) Tryd.results7 (Res.tmp rfl Res.nil) rfl
          replace h := cf hc h
          refine wq_run rfl ?_
          refine wq_pure tt_ok rfl rfl ?_
          refine wq_run rfl ?_
          refine wq_pure (v := .pointer (some ⟨b5, 17, none⟩)) tt_ok rfl rfl ?_
          refine wq_run rfl ?_
          refine wq_val (v := .pointer (some ⟨b5, 18, none⟩)) (val_ia (j := 1) tt_ok rfl rfl rfl rfl (by simpa using hx851) rfl rfl) rfl ?_
          refine wq_run rfl ?_
          refine wq_val (v := .int .u16 v17.Score.2) (val_load tt_ok rfl (List.Mem.tail _ (List.Mem.tail _ (List.Mem.tail _ (List.Mem.head _)))) rfl) rfl ?_
          refine wq_run rfl ?_
          refine wq_pure tt_ok rfl rfl ?_
          refine wq_run rfl ?_
          refine wq_pure (v := .pointer (some ⟨b2, 17, none⟩)) tt_ok rfl rfl ?_
          refine wq_run rfl ?_
          refine wq_val (v := .pointer (some ⟨b2, 18, none⟩)) (val_ia (j := 1) tt_ok rfl rfl rfl rfl (by simpa using hx851) rfl rfl) rfl ?_
          refine wq_run rfl ?_
          refine wq_val (v := .int .u16 p0.Score.2) (val_load tt_ok rfl (List.Mem.tail _ (List.Mem.tail _ (List.Mem.head _))) rfl) rfl ?_
          refine wq_run rfl ?_
          refine wq_pure (v := .bool (decide (v17.Score.2 < p0.Score.2))) tt_ok rfl rfl ?_
          simp only [Option.some.injEq, Prod.mk.injEq] at h
          obtain rfl := h
          have h := hg128; clear hg128
          refine wq_pure (v := .bool (decide (v17.Score.2 < p0.Score.2))) tt_ok rfl rfl ?_
          refine wq_nil ?_
          refine wx_then ?_
          refine wc_cond rfl (fun hc => ?_) (fun hc => ?_)
          · replace h := ct hc h
            refine wc_seq ?_
            refine wc_region ?_
            refine wl_pure tt_ok rfl rfl ?_
            refine wl_nil ?_
            refine wx_then ?_
            refine wc_ret ?_
            refine wx_block_ret ?_
            refine wx_then_ret ?_
            obtain rfl := Option.some.inj h
            have h := hl41; clear hl41; try dsimp only [orE_l, orE_r] at h
            refine wx_then_ret ?_
            refine wx_block_ret ?_
            refine wx_then_ret ?_
            simp only [Option.some.injEq] at h
            obtain rfl := h
            exact wx_pf tt_ok (.inl rfl) Tryd.results7 (Res.tmp rfl Res.nil) rfl
          replace h := cf hc h
          refine wc_skip ?_
          refine wx_block ?_
          refine wx_then ?_
          refine wc_region ?_
          refine wl_pure tt_ok rfl rfl ?_
          refine wl_pure (v := .int .i64 (IntKind.wrap .i64 (j41_6 + (1 : Int)))) tt_ok rfl rfl ?_
          refine wl_pure tt_ok rfl rfl ?_
          refine wl_nil ?_
          exact wx_round m41 (Nat.lt_succ_self m41) ⟨(IntKind.wrap .i64 (j41_6 + (1 : Int))), h, rfl, rfl⟩ (agree_cons rfl (agree_cons rfl (agree_cons rfl (agree_cons rfl agree_nil)))) (pSub (pCons (Sel.sc (Sel.sc Sel.hc)) (pCons (Sel.sc (Sel.sc Sel.hc)) (pApp (Sel.sc (Sel.sc Sel.ha)) pNil))))
        replace h := cf hc h
        refine wq_skip rfl rfl ?_
        refine wq_skip rfl rfl ?_
        refine wq_skip rfl rfl ?_
        refine wq_skip rfl rfl ?_
        refine wq_skip rfl rfl ?_
        refine wq_skip rfl rfl ?_
        refine wq_skip rfl rfl ?_
        refine wq_skip rfl rfl ?_
        refine wq_skip rfl rfl ?_
        refine wq_skip rfl rfl ?_
        simp only [Option.some.injEq, Prod.mk.injEq] at h
        obtain rfl := h
        have h := hg117; clear hg117
        refine wq_pure (v := .bool false) tt_ok rfl rfl ?_
        refine wq_pure tt_ok rfl rfl ?_
        replace h := bsome h; obtain ⟨v128, h, hg128⟩ := h
        replace h := cf rfl h
        refine wq_run rfl ?_
        refine wq_pure tt_ok rfl rfl ?_
        refine wq_run rfl ?_
        refine wq_pure (v := .pointer (some ⟨b5, 17, none⟩)) tt_ok rfl rfl ?_
        refine wq_run rfl ?_
        refine wq_val (v := .pointer (some ⟨b5, 18, none⟩)) (val_ia (j := 1) tt_ok rfl rfl rfl rfl (by simpa using hx851) rfl rfl) rfl ?_
        refine wq_run rfl ?_
        refine wq_val (v := .int .u16 v17.Score.2) (val_load tt_ok rfl (List.Mem.tail _ (List.Mem.tail _ (List.Mem.tail _ (List.Mem.head _)))) rfl) rfl ?_
        refine wq_run rfl ?_
        refine wq_pure tt_ok rfl rfl ?_
        refine wq_run rfl ?_
        refine wq_pure (v := .pointer (some ⟨b2, 17, none⟩)) tt_ok rfl rfl ?_
        refine wq_run rfl ?_
        refine wq_val (v := .pointer (some ⟨b2, 18, none⟩)) (val_ia (j := 1) tt_ok rfl rfl rfl rfl (by simpa using hx851) rfl rfl) rfl ?_
        refine wq_run rfl ?_
        refine wq_val (v := .int .u16 p0.Score.2) (val_load tt_ok rfl (List.Mem.tail _ (List.Mem.tail _ (List.Mem.head _))) rfl) rfl ?_
        refine wq_run rfl ?_
        refine wq_pure (v := .bool (decide (v17.Score.2 < p0.Score.2))) tt_ok rfl rfl ?_
        simp only [Option.some.injEq, Prod.mk.injEq] at h
        obtain rfl := h
        have h := hg128; clear hg128
        refine wq_pure (v := .bool (decide (v17.Score.2 < p0.Score.2))) tt_ok rfl rfl ?_
        refine wq_nil ?_
        refine wx_then ?_
        refine wc_cond rfl (fun hc => ?_) (fun hc => ?_)
        · replace h := ct hc h
          refine wc_seq ?_
          refine wc_region ?_
          refine wl_pure tt_ok rfl rfl ?_
          refine wl_nil ?_
          refine wx_then ?_
          refine wc_ret ?_
          refine wx_block_ret ?_
          refine wx_then_ret ?_
          obtain rfl := Option.some.inj h
          have h := hl41; clear hl41; try dsimp only [orE_l, orE_r] at h
          refine wx_then_ret ?_
          refine wx_block_ret ?_
          refine wx_then_ret ?_
          simp only [Option.some.injEq] at h
          obtain rfl := h
          exact wx_pf tt_ok (.inl rfl) Tryd.results7 (Res.tmp rfl Res.nil) rfl
        replace h := cf hc h
        refine wc_skip ?_
        refine wx_block ?_
        refine wx_then ?_
        refine wc_region ?_
        refine wl_pure tt_ok rfl rfl ?_
        refine wl_pure (v := .int .i64 (IntKind.wrap .i64 (j41_6 + (1 : Int)))) tt_ok rfl rfl ?_
        refine wl_pure tt_ok rfl rfl ?_
        refine wl_nil ?_
        exact wx_round m41 (Nat.lt_succ_self m41) ⟨(IntKind.wrap .i64 (j41_6 + (1 : Int))), h, rfl, rfl⟩ (agree_cons rfl (agree_cons rfl (agree_cons rfl (agree_cons rfl agree_nil)))) (pSub (pCons (Sel.sc (Sel.sc Sel.hc)) (pCons (Sel.sc (Sel.sc Sel.hc)) (pApp (Sel.sc (Sel.sc Sel.ha)) pNil))))
      refine k_chgf rfl rfl (chg_alloc tt_ok rfl) rfl (.inr (by rintro _ _ ⟨_, rfl, rfl⟩; exact ⟨_, (pCons (Sel.sc Sel.hc) (pCons (Sel.sc Sel.hc) (pApp (Sel.sc Sel.ha) pNil)))⟩)) ?_
      rintro _ _ ⟨b8, rfl, rfl⟩
      refine k_chg rfl rfl rfl (chg_alloc tt_ok rfl) rfl (.inr (by rintro _ _ ⟨_, rfl, rfl⟩; exact ⟨_, (pCons (Sel.sc (Sel.sc Sel.hc)) (pCons (Sel.sc (Sel.sc Sel.hc)) (pApp (Sel.sc (Sel.sc Sel.ha)) pNil)))⟩)) ?_
      rintro _ _ ⟨b7, rfl, rfl⟩
      refine k_chg0 rfl rfl rfl (chg_store tt_ok rfl Upd.here rfl rfl rfl rfl rfl rfl) (.inr (by rintro _ _ rfl; exact ⟨_, (pCons (Sel.sc (Sel.sc Sel.hc)) (pCons (Sel.sc (Sel.sc Sel.hc)) (pApp (Sel.sc (Sel.sc Sel.ha)) pNil)))⟩)) ?_
      rintro _ _ rfl
      refine k_chg0 rfl rfl rfl (chg_store tt_ok rfl (Upd.there Upd.here) rfl rfl rfl rfl rfl rfl) (.inl rfl) ?_
      rintro _ _ rfl
      refine k_end (by kernel_rfl) ?_
      refine wx_then ?_
      refine wc_seq ?_
      refine wc_region ?_
      refine wl_pure (v := .pointer (some ⟨b7, 0, none⟩)) tt_ok rfl rfl ?_
      refine wl_val (v := .int .i32 p0.Players.2.X) (val_load tt_ok rfl (List.Mem.head _) rfl) rfl ?_
      refine wl_pure (v := .pointer (some ⟨b8, 0, none⟩)) tt_ok rfl rfl ?_
      refine wl_val (v := .int .i32 v17.Players.2.X) (val_load tt_ok rfl (List.Mem.tail _ (List.Mem.head _)) rfl) rfl ?_
      replace h := bsome h; obtain ⟨v95, x95, h⟩ := h
      refine wl_cq Tryd.call19 rfl rfl rfl (q_pf (k_hindcastlaw09_apart x95) (fun _ _ => trivial)) rfl ?_
      refine wl_pure (v := .bool (decide ((1024 : Int) < v95))) tt_ok rfl rfl ?_
      refine wl_pure tt_ok rfl rfl ?_
      replace h := bsome h; obtain ⟨v104, h, hg104⟩ := h
      refine wl_split (t := 97) rfl (fun hc => ?_) (fun hc => ?_)
      · replace h := ct hc h
        refine wl_skip rfl rfl ?_
        refine wl_skip rfl rfl ?_
        refine wl_skip rfl rfl ?_
        refine wl_skip rfl rfl ?_
        refine wl_skip rfl rfl ?_
        refine wl_skip rfl rfl ?_
        simp only [Option.some.injEq, Prod.mk.injEq] at h
        obtain rfl := h
        have h := hg104; clear hg104
        refine wl_pure (v := .bool true) tt_ok rfl rfl ?_
        refine wl_pure tt_ok rfl rfl ?_
        refine wl_nil ?_
        refine wx_then ?_
        refine wc_seq ?_
        refine wc_quiet (by kernel_rfl) (by kernel_rfl) ?_
        refine wq_pure tt_ok rfl rfl ?_
        refine wq_pure tt_ok rfl rfl ?_
        replace h := bsome h; obtain ⟨v117, h, hg117⟩ := h
        replace h := ct rfl h
        refine wq_run rfl ?_
        refine wq_pure (v := .pointer (some ⟨b5, 1, none⟩)) tt_ok rfl rfl ?_
        refine wq_run rfl ?_
        refine wq_val (v := .int .u64 v17.Seed) (val_load tt_ok rfl (List.Mem.tail _ (List.Mem.tail _ (List.Mem.tail _ (List.Mem.head _)))) rfl) rfl ?_
        refine wq_run rfl ?_
        refine wq_pure (v := .pointer (some ⟨b2, 1, none⟩)) tt_ok rfl rfl ?_
        refine wq_run rfl ?_
        refine wq_val (v := .int .u64 p0.Seed) (val_load tt_ok rfl (List.Mem.tail _ (List.Mem.tail _ (List.Mem.head _))) rfl) rfl ?_
        refine wq_run rfl ?_
        refine wq_pure (v := .bool (v17.Seed == p0.Seed)) tt_ok rfl rfl ?_
        refine wq_run rfl ?_
        refine wq_pure tt_ok rfl rfl ?_
        replace h := bsome h; obtain ⟨v116, h, hg116⟩ := h
        refine wq_split (t := 112) rfl (fun hc => ?_) (fun hc => ?_)
        · replace h := ct hc h
          refine wq_skip rfl rfl ?_
          refine wq_skip rfl rfl ?_
          refine wq_skip rfl rfl ?_
          simp only [Option.some.injEq, Prod.mk.injEq] at h
          obtain rfl := h
          have h := hg116; clear hg116
          refine wq_run rfl ?_
          refine wq_pure (v := .bool true) tt_ok rfl rfl ?_
          simp only [Option.some.injEq, Prod.mk.injEq] at h
          obtain rfl := h
          have h := hg117; clear hg117
          refine wq_pure (v := .bool true) tt_ok rfl rfl ?_
          refine wq_pure tt_ok rfl rfl ?_
          replace h := bsome h; obtain ⟨v128, h, hg128⟩ := h
          replace h := ct rfl h
          refine wq_skip rfl rfl ?_
          refine wq_skip rfl rfl ?_
          refine wq_skip rfl rfl ?_
          refine wq_skip rfl rfl ?_
          refine wq_skip rfl rfl ?_
          refine wq_skip rfl rfl ?_
          refine wq_skip rfl rfl ?_
          refine wq_skip rfl rfl ?_
          refine wq_skip rfl rfl ?_
          simp only [Option.some.injEq, Prod.mk.injEq] at h
          obtain rfl := h
          have h := hg128; clear hg128
          refine wq_pure (v := .bool true) tt_ok rfl rfl ?_
          refine wq_nil ?_
          refine wx_then ?_
          replace h := ct rfl h
          refine wc_cond_true rfl ?_
          refine wc_seq ?_
          refine wc_region ?_
          refine wl_pure tt_ok rfl rfl ?_
          refine wl_nil ?_
          refine wx_then ?_
          refine wc_ret ?_
          refine wx_block_ret ?_
          refine wx_then_ret ?_
          obtain rfl := Option.some.inj h
          have h := hl41; clear hl41; try dsimp only [orE_l, orE_r] at h
          refine wx_then_ret ?_
          refine wx_block_ret ?_
          refine wx_then_ret ?_
          simp only [Option.some.injEq] at h
          obtain rfl := h
          exact wx_pf tt_ok (.inl rfl) Tryd.results7 (Res.tmp rfl Res.nil) rfl
        replace h := cf hc h
        refine wq_run rfl ?_
        refine wq_pure (v := .pointer (some ⟨b8, 4, none⟩)) tt_ok rfl rfl ?_
        refine wq_run rfl ?_
        refine wq_val (v := .int .u8 v17.Players.2.Health) (val_load tt_ok rfl (List.Mem.tail _ (List.Mem.head _)) rfl) rfl ?_
        refine wq_run rfl ?_
        refine wq_pure (v := .bool (v17.Players.2.Health != (100 : Int))) tt_ok rfl rfl ?_
        simp only [Option.some.injEq, Prod.mk.injEq] at h
        obtain rfl := h
        have h := hg116; clear hg116
        refine wq_run rfl ?_
        refine wq_pure (v := .bool (v17.Players.2.Health != (100 : Int))) tt_ok rfl rfl ?_
        simp only [Option.some.injEq, Prod.mk.injEq] at h
        obtain rfl := h
        have h := hg117; clear hg117
        refine wq_pure (v := .bool (v17.Players.2.Health != (100 : Int))) tt_ok rfl rfl ?_
        refine wq_pure tt_ok rfl rfl ?_
        replace h := bsome h; obtain ⟨v128, h, hg128⟩ := h
        refine wq_split (t := 118) rfl (fun hc => ?_) (fun hc => ?_)
        · replace h := ct hc h
          refine wq_skip rfl rfl ?_
          refine wq_skip rfl rfl ?_
          refine wq_skip rfl rfl ?_
          refine wq_skip rfl rfl ?_
          refine wq_skip rfl rfl ?_
          refine wq_skip rfl rfl ?_
          refine wq_skip rfl rfl ?_
          refine wq_skip rfl rfl ?_
          refine wq_skip rfl rfl ?_
          simp only [Option.some.injEq, Prod.mk.injEq] at h
          obtain rfl := h
          have h := hg128; clear hg128
          refine wq_pure (v := .bool true) tt_ok rfl rfl ?_
          refine wq_nil ?_
          refine wx_then ?_
          replace h := ct rfl h
          refine wc_cond_true rfl ?_
          refine wc_seq ?_
          refine wc_region ?_
          refine wl_pure tt_ok rfl rfl ?_
          refine wl_nil ?_
          refine wx_then ?_
          refine wc_ret ?_
          refine wx_block_ret ?_
          refine wx_then_ret ?_
          obtain rfl := Option.some.inj h
          have h := hl41; clear hl41; try dsimp only [orE_l, orE_r] at h
          refine wx_then_ret ?_
          refine wx_block_ret ?_
          refine wx_then_ret ?_
          simp only [Option.some.injEq] at h
          obtain rfl := h
          exact wx_pf tt_ok (.inl rfl) Tryd.results7 (Res.tmp rfl Res.nil) rfl
        replace h := cf hc h
        refine wq_run rfl ?_
        refine wq_pure tt_ok rfl rfl ?_
        refine wq_run rfl ?_
        refine wq_pure (v := .pointer (some ⟨b5, 17, none⟩)) tt_ok rfl rfl ?_
        refine wq_run rfl ?_
        refine wq_val (v := .pointer (some ⟨b5, 18, none⟩)) (val_ia (j := 1) tt_ok rfl rfl rfl rfl (by simpa using hx851) rfl rfl) rfl ?_
        refine wq_run rfl ?_
        refine wq_val (v := .int .u16 v17.Score.2) (val_load tt_ok rfl (List.Mem.tail _ (List.Mem.tail _ (List.Mem.tail _ (List.Mem.head _)))) rfl) rfl ?_
        refine wq_run rfl ?_
        refine wq_pure tt_ok rfl rfl ?_
        refine wq_run rfl ?_
        refine wq_pure (v := .pointer (some ⟨b2, 17, none⟩)) tt_ok rfl rfl ?_
        refine wq_run rfl ?_
        refine wq_val (v := .pointer (some ⟨b2, 18, none⟩)) (val_ia (j := 1) tt_ok rfl rfl rfl rfl (by simpa using hx851) rfl rfl) rfl ?_
        refine wq_run rfl ?_
        refine wq_val (v := .int .u16 p0.Score.2) (val_load tt_ok rfl (List.Mem.tail _ (List.Mem.tail _ (List.Mem.head _))) rfl) rfl ?_
        refine wq_run rfl ?_
        refine wq_pure (v := .bool (decide (v17.Score.2 < p0.Score.2))) tt_ok rfl rfl ?_
        simp only [Option.some.injEq, Prod.mk.injEq] at h
        obtain rfl := h
        have h := hg128; clear hg128
        refine wq_pure (v := .bool (decide (v17.Score.2 < p0.Score.2))) tt_ok rfl rfl ?_
        refine wq_nil ?_
        refine wx_then ?_
        refine wc_cond rfl (fun hc => ?_) (fun hc => ?_)
        · replace h := ct hc h
          refine wc_seq ?_
          refine wc_region ?_
          refine wl_pure tt_ok rfl rfl ?_
          refine wl_nil ?_
          refine wx_then ?_
          refine wc_ret ?_
          refine wx_block_ret ?_
          refine wx_then_ret ?_
          obtain rfl := Option.some.inj h
          have h := hl41; clear hl41; try dsimp only [orE_l, orE_r] at h
          refine wx_then_ret ?_
          refine wx_block_ret ?_
          refine wx_then_ret ?_
          simp only [Option.some.injEq] at h
          obtain rfl := h
          exact wx_pf tt_ok (.inl rfl) Tryd.results7 (Res.tmp rfl Res.nil) rfl
        replace h := cf hc h
        refine wc_skip ?_
        refine wx_block ?_
        refine wx_then ?_
        refine wc_region ?_
        refine wl_pure tt_ok rfl rfl ?_
        refine wl_pure (v := .int .i64 (IntKind.wrap .i64 (j41_6 + (1 : Int)))) tt_ok rfl rfl ?_
        refine wl_pure tt_ok rfl rfl ?_
        refine wl_nil ?_
        exact wx_round m41 (Nat.lt_succ_self m41) ⟨(IntKind.wrap .i64 (j41_6 + (1 : Int))), h, rfl, rfl⟩ (agree_cons rfl (agree_cons rfl (agree_cons rfl (agree_cons rfl agree_nil)))) (pSub (pCons (Sel.sc (Sel.sc Sel.hc)) (pCons (Sel.sc (Sel.sc Sel.hc)) (pApp (Sel.sc (Sel.sc Sel.ha)) pNil))))
      replace h := cf hc h
      refine wl_run rfl ?_
      refine wl_pure (v := .pointer (some ⟨b7, 1, none⟩)) tt_ok rfl rfl ?_
      refine wl_run rfl ?_
      refine wl_val (v := .int .i32 p0.Players.2.Y) (val_load tt_ok rfl (List.Mem.head _) rfl) rfl ?_
      refine wl_run rfl ?_
      refine wl_pure (v := .pointer (some ⟨b8, 1, none⟩)) tt_ok rfl rfl ?_
      refine wl_run rfl ?_
      refine wl_val (v := .int .i32 v17.Players.2.Y) (val_load tt_ok rfl (List.Mem.tail _ (List.Mem.head _)) rfl) rfl ?_
      replace h := bsome h; obtain ⟨v102, x102, h⟩ := h
      refine wl_run rfl ?_
      refine wl_cq Tryd.call19 rfl rfl rfl (q_pf (k_hindcastlaw09_apart x102) (fun _ _ => trivial)) rfl ?_
      refine wl_run rfl ?_
      refine wl_pure (v := .bool (decide ((1024 : Int) < v102))) tt_ok rfl rfl ?_
      simp only [Option.some.injEq, Prod.mk.injEq] at h
      obtain rfl := h
      have h := hg104; clear hg104
      refine wl_pure (v := .bool (decide ((1024 : Int) < v102))) tt_ok rfl rfl ?_
      refine wl_pure tt_ok rfl rfl ?_
      refine wl_nil ?_
      refine wx_then ?_
      refine wc_seq ?_
      refine wc_quiet (by kernel_rfl) (by kernel_rfl) ?_
      refine wq_pure tt_ok rfl rfl ?_
      refine wq_pure tt_ok rfl rfl ?_
      replace h := bsome h; obtain ⟨v117, h, hg117⟩ := h
      refine wq_split (t := 106) rfl (fun hc => ?_) (fun hc => ?_)
      · replace h := ct hc h
        refine wq_run rfl ?_
        refine wq_pure (v := .pointer (some ⟨b5, 1, none⟩)) tt_ok rfl rfl ?_
        refine wq_run rfl ?_
        refine wq_val (v := .int .u64 v17.Seed) (val_load tt_ok rfl (List.Mem.tail _ (List.Mem.tail _ (List.Mem.tail _ (List.Mem.head _)))) rfl) rfl ?_
        refine wq_run rfl ?_
        refine wq_pure (v := .pointer (some ⟨b2, 1, none⟩)) tt_ok rfl rfl ?_
        refine wq_run rfl ?_
        refine wq_val (v := .int .u64 p0.Seed) (val_load tt_ok rfl (List.Mem.tail _ (List.Mem.tail _ (List.Mem.head _))) rfl) rfl ?_
        refine wq_run rfl ?_
        refine wq_pure (v := .bool (v17.Seed == p0.Seed)) tt_ok rfl rfl ?_
        refine wq_run rfl ?_
        refine wq_pure tt_ok rfl rfl ?_
        replace h := bsome h; obtain ⟨v116, h, hg116⟩ := h
        refine wq_split (t := 112) rfl (fun hc => ?_) (fun hc => ?_)
        · replace h := ct hc h
          refine wq_skip rfl rfl ?_
          refine wq_skip rfl rfl ?_
          refine wq_skip rfl rfl ?_
          simp only [Option.some.injEq, Prod.mk.injEq] at h
          obtain rfl := h
          have h := hg116; clear hg116
          refine wq_run rfl ?_
          refine wq_pure (v := .bool true) tt_ok rfl rfl ?_
          simp only [Option.some.injEq, Prod.mk.injEq] at h
          obtain rfl := h
          have h := hg117; clear hg117
          refine wq_pure (v := .bool true) tt_ok rfl rfl ?_
          refine wq_pure tt_ok rfl rfl ?_
          replace h := bsome h; obtain ⟨v128, h, hg128⟩ := h
          replace h := ct rfl h
          refine wq_skip rfl rfl ?_
          refine wq_skip rfl rfl ?_
          refine wq_skip rfl rfl ?_
          refine wq_skip rfl rfl ?_
          refine wq_skip rfl rfl ?_
          refine wq_skip rfl rfl ?_
          refine wq_skip rfl rfl ?_
          refine wq_skip rfl rfl ?_
          refine wq_skip rfl rfl ?_
          simp only [Option.some.injEq, Prod.mk.injEq] at h
          obtain rfl := h
          have h := hg128; clear hg128
          refine wq_pure (v := .bool true) tt_ok rfl rfl ?_
          refine wq_nil ?_
          refine wx_then ?_
          replace h := ct rfl h
          refine wc_cond_true rfl ?_
          refine wc_seq ?_
          refine wc_region ?_
          refine wl_pure tt_ok rfl rfl ?_
          refine wl_nil ?_
          refine wx_then ?_
          refine wc_ret ?_
          refine wx_block_ret ?_
          refine wx_then_ret ?_
          obtain rfl := Option.some.inj h
          have h := hl41; clear hl41; try dsimp only [orE_l, orE_r] at h
          refine wx_then_ret ?_
          refine wx_block_ret ?_
          refine wx_then_ret ?_
          simp only [Option.some.injEq] at h
          obtain rfl := h
          exact wx_pf tt_ok (.inl rfl) Tryd.results7 (Res.tmp rfl Res.nil) rfl
        replace h := cf hc h
        refine wq_run rfl ?_
        refine wq_pure (v := .pointer (some ⟨b8, 4, none⟩)) tt_ok rfl rfl ?_
        refine wq_run rfl ?_
        refine wq_val (v := .int .u8 v17.Players.2.Health) (val_load tt_ok rfl (List.Mem.tail _ (List.Mem.head _)) rfl) rfl ?_
        refine wq_run rfl ?_
        refine wq_pure (v := .bool (v17.Players.2.Health != (100 : Int))) tt_ok rfl rfl ?_
        simp only [Option.some.injEq, Prod.mk.injEq] at h
        obtain rfl := h
        have h := hg116; clear hg116
        refine wq_run rfl ?_
        refine wq_pure (v := .bool (v17.Players.2.Health != (100 : Int))) tt_ok rfl rfl ?_
        simp only [Option.some.injEq, Prod.mk.injEq] at h
        obtain rfl := h
        have h := hg117; clear hg117
        refine wq_pure (v := .bool (v17.Players.2.Health != (100 : Int))) tt_ok rfl rfl ?_
        refine wq_pure tt_ok rfl rfl ?_
        replace h := bsome h; obtain ⟨v128, h, hg128⟩ := h
        refine wq_split (t := 118) rfl (fun hc => ?_) (fun hc => ?_)
        · replace h := ct hc h
          refine wq_skip rfl rfl ?_
          refine wq_skip rfl rfl ?_
          refine wq_skip rfl rfl ?_
          refine wq_skip rfl rfl ?_
          refine wq_skip rfl rfl ?_
          refine wq_skip rfl rfl ?_
          refine wq_skip rfl rfl ?_
          refine wq_skip rfl rfl ?_
          refine wq_skip rfl rfl ?_
          simp only [Option.some.injEq, Prod.mk.injEq] at h
          obtain rfl := h
          have h := hg128; clear hg128
          refine wq_pure (v := .bool true) tt_ok rfl rfl ?_
          refine wq_nil ?_
          refine wx_then ?_
          replace h := ct rfl h
          refine wc_cond_true rfl ?_
          refine wc_seq ?_
          refine wc_region ?_
          refine wl_pure tt_ok rfl rfl ?_
          refine wl_nil ?_
          refine wx_then ?_
          refine wc_ret ?_
          refine wx_block_ret ?_
          refine wx_then_ret ?_
          obtain rfl := Option.some.inj h
          have h := hl41; clear hl41; try dsimp only [orE_l, orE_r] at h
          refine wx_then_ret ?_
          refine wx_block_ret ?_
          refine wx_then_ret ?_
          simp only [Option.some.injEq] at h
          obtain rfl := h
          exact wx_pf tt_ok (.inl rfl) Tryd.results7 (Res.tmp rfl Res.nil) rfl
        replace h := cf hc h
        refine wq_run rfl ?_
        refine wq_pure tt_ok rfl rfl ?_
        refine wq_run rfl ?_
        refine wq_pure (v := .pointer (some ⟨b5, 17, none⟩)) tt_ok rfl rfl ?_
        refine wq_run rfl ?_
        refine wq_val (v := .pointer (some ⟨b5, 18, none⟩)) (val_ia (j := 1) tt_ok rfl rfl rfl rfl (by simpa using hx851) rfl rfl) rfl ?_
        refine wq_run rfl ?_
        refine wq_val (v := .int .u16 v17.Score.2) (val_load tt_ok rfl (List.Mem.tail _ (List.Mem.tail _ (List.Mem.tail _ (List.Mem.head _)))) rfl) rfl ?_
        refine wq_run rfl ?_
        refine wq_pure tt_ok rfl rfl ?_
        refine wq_run rfl ?_
        refine wq_pure (v := .pointer (some ⟨b2, 17, none⟩)) tt_ok rfl rfl ?_
        refine wq_run rfl ?_
        refine wq_val (v := .pointer (some ⟨b2, 18, none⟩)) (val_ia (j := 1) tt_ok rfl rfl rfl rfl (by simpa using hx851) rfl rfl) rfl ?_
        refine wq_run rfl ?_
        refine wq_val (v := .int .u16 p0.Score.2) (val_load tt_ok rfl (List.Mem.tail _ (List.Mem.tail _ (List.Mem.head _))) rfl) rfl ?_
        refine wq_run rfl ?_
        refine wq_pure (v := .bool (decide (v17.Score.2 < p0.Score.2))) tt_ok rfl rfl ?_
        simp only [Option.some.injEq, Prod.mk.injEq] at h
        obtain rfl := h
        have h := hg128; clear hg128
        refine wq_pure (v := .bool (decide (v17.Score.2 < p0.Score.2))) tt_ok rfl rfl ?_
        refine wq_nil ?_
        refine wx_then ?_
        refine wc_cond rfl (fun hc => ?_) (fun hc => ?_)
        · replace h := ct hc h
          refine wc_seq ?_
          refine wc_region ?_
          refine wl_pure tt_ok rfl rfl ?_
          refine wl_nil ?_
          refine wx_then ?_
          refine wc_ret ?_
          refine wx_block_ret ?_
          refine wx_then_ret ?_
          obtain rfl := Option.some.inj h
          have h := hl41; clear hl41; try dsimp only [orE_l, orE_r] at h
          refine wx_then_ret ?_
          refine wx_block_ret ?_
          refine wx_then_ret ?_
          simp only [Option.some.injEq] at h
          obtain rfl := h
          exact wx_pf tt_ok (.inl rfl) Tryd.results7 (Res.tmp rfl Res.nil) rfl
        replace h := cf hc h
        refine wc_skip ?_
        refine wx_block ?_
        refine wx_then ?_
        refine wc_region ?_
        refine wl_pure tt_ok rfl rfl ?_
        refine wl_pure (v := .int .i64 (IntKind.wrap .i64 (j41_6 + (1 : Int)))) tt_ok rfl rfl ?_
        refine wl_pure tt_ok rfl rfl ?_
        refine wl_nil ?_
        exact wx_round m41 (Nat.lt_succ_self m41) ⟨(IntKind.wrap .i64 (j41_6 + (1 : Int))), h, rfl, rfl⟩ (agree_cons rfl (agree_cons rfl (agree_cons rfl (agree_cons rfl agree_nil)))) (pSub (pCons (Sel.sc (Sel.sc Sel.hc)) (pCons (Sel.sc (Sel.sc Sel.hc)) (pApp (Sel.sc (Sel.sc Sel.ha)) pNil))))
      replace h := cf hc h
      refine wq_skip rfl rfl ?_
      refine wq_skip rfl rfl ?_
      refine wq_skip rfl rfl ?_
      refine wq_skip rfl rfl ?_
      refine wq_skip rfl rfl ?_
      refine wq_skip rfl rfl ?_
      refine wq_skip rfl rfl ?_
      refine wq_skip rfl rfl ?_
      refine wq_skip rfl rfl ?_
      refine wq_skip rfl rfl ?_
      simp only [Option.some.injEq, Prod.mk.injEq] at h
      obtain rfl := h
      have h := hg117; clear hg117
      refine wq_pure (v := .bool false) tt_ok rfl rfl ?_
      refine wq_pure tt_ok rfl rfl ?_
      replace h := bsome h; obtain ⟨v128, h, hg128⟩ := h
      replace h := cf rfl h
      refine wq_run rfl ?_
      refine wq_pure tt_ok rfl rfl ?_
      refine wq_run rfl ?_
      refine wq_pure (v := .pointer (some ⟨b5, 17, none⟩)) tt_ok rfl rfl ?_
      refine wq_run rfl ?_
      refine wq_val (v := .pointer (some ⟨b5, 18, none⟩)) (val_ia (j := 1) tt_ok rfl rfl rfl rfl (by simpa using hx851) rfl rfl) rfl ?_
      refine wq_run rfl ?_
      refine wq_val (v := .int .u16 v17.Score.2) (val_load tt_ok rfl (List.Mem.tail _ (List.Mem.tail _ (List.Mem.tail _ (List.Mem.head _)))) rfl) rfl ?_
      refine wq_run rfl ?_
      refine wq_pure tt_ok rfl rfl ?_
      refine wq_run rfl ?_
      refine wq_pure (v := .pointer (some ⟨b2, 17, none⟩)) tt_ok rfl rfl ?_
      refine wq_run rfl ?_
      refine wq_val (v := .pointer (some ⟨b2, 18, none⟩)) (val_ia (j := 1) tt_ok rfl rfl rfl rfl (by simpa using hx851) rfl rfl) rfl ?_
      refine wq_run rfl ?_
      refine wq_val (v := .int .u16 p0.Score.2) (val_load tt_ok rfl (List.Mem.tail _ (List.Mem.tail _ (List.Mem.head _))) rfl) rfl ?_
      refine wq_run rfl ?_
      refine wq_pure (v := .bool (decide (v17.Score.2 < p0.Score.2))) tt_ok rfl rfl ?_
      simp only [Option.some.injEq, Prod.mk.injEq] at h
      obtain rfl := h
      have h := hg128; clear hg128
      refine wq_pure (v := .bool (decide (v17.Score.2 < p0.Score.2))) tt_ok rfl rfl ?_
      refine wq_nil ?_
      refine wx_then ?_
      refine wc_cond rfl (fun hc => ?_) (fun hc => ?_)
      · replace h := ct hc h
        refine wc_seq ?_
        refine wc_region ?_
        refine wl_pure tt_ok rfl rfl ?_
        refine wl_nil ?_
        refine wx_then ?_
        refine wc_ret ?_
        refine wx_block_ret ?_
        refine wx_then_ret ?_
        obtain rfl := Option.some.inj h
        have h := hl41; clear hl41; try dsimp only [orE_l, orE_r] at h
        refine wx_then_ret ?_
        refine wx_block_ret ?_
        refine wx_then_ret ?_
        simp only [Option.some.injEq] at h
        obtain rfl := h
        exact wx_pf tt_ok (.inl rfl) Tryd.results7 (Res.tmp rfl Res.nil) rfl
      replace h := cf hc h
      refine wc_skip ?_
      refine wx_block ?_
      refine wx_then ?_
      refine wc_region ?_
      refine wl_pure tt_ok rfl rfl ?_
      refine wl_pure (v := .int .i64 (IntKind.wrap .i64 (j41_6 + (1 : Int)))) tt_ok rfl rfl ?_
      refine wl_pure tt_ok rfl rfl ?_
      refine wl_nil ?_
      exact wx_round m41 (Nat.lt_succ_self m41) ⟨(IntKind.wrap .i64 (j41_6 + (1 : Int))), h, rfl, rfl⟩ (agree_cons rfl (agree_cons rfl (agree_cons rfl (agree_cons rfl agree_nil)))) (pSub (pCons (Sel.sc (Sel.sc Sel.hc)) (pCons (Sel.sc (Sel.sc Sel.hc)) (pApp (Sel.sc (Sel.sc Sel.ha)) pNil))))
    replace h := cf hx851 h
    cases h
  replace h := cf hc h
  refine wc_exit ?_
  refine wx_then_exit ?_
  obtain rfl := Option.some.inj h
  have h := hl41; clear hl41; try dsimp only [orE_l, orE_r] at h
  refine wx_then_exit ?_
  refine wx_block_exit ?_
  refine wx_then ?_
  refine wc_seq ?_
  refine wc_region ?_
  replace h := bsome h; obtain ⟨v129, x129, h⟩ := h
  refine wl_cq Tryd.call8 rfl rfl rfl (q_pf (k_hindcastlaw09_awake x129) (fun w hI => ⟨(Rds.call G0S pNil rsub_nil) w hI, (Rds.call G1S pNil rsub_nil) w hI⟩)) rfl ?_
  refine wl_pure tt_ok rfl rfl ?_
  refine wl_nil ?_
  refine wx_then ?_
  refine wc_ret ?_
  simp only [Option.some.injEq] at h
  obtain rfl := h
  exact wx_pf tt_ok (.inl rfl) Tryd.results7 (Res.tmp rfl Res.nil) rfl

end Go.Proofs.YtgbhpchaalheeaaDoor
