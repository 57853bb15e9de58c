/-
  Each function computes what its model says. Printed by a program of this claim's own.
-/
import Derived.Test.YtekplmhmppdpcaaDoorTab
import Derived.Test.YtekplmhmppdpcaaDoorMod
import Derived.Test.YtekplmhmppdpcaaDoorWalk2
namespace Go.Proofs.YtekplmhmppdpcaaDoor
open Go.Proofs.YtekplmhmppdpcaaDoor.Eng
set_option linter.unusedVariables false
set_option linter.unusedSimpArgs false
set_option maxHeartbeats 4000000
set_option maxRecDepth 20000

theorem k_hindcastlaw08_StateTakes {F : Nat} {p0 : (List UInt8)} {r0 : Bool} (h : m_hindcastlaw08_StateTakes F p0 = some r0) :
    Pf Tryd.prog 4 [.string ⟨p0.toArray⟩] (fun w => Rds w [] [] (some ⟨0, 0, none⟩) (flat (fun _ : Unit => gl_state_playerBounds) [()]) ∧ Rds w [] [] (some ⟨1, 0, none⟩) (flat (fun _ : Unit => gl_state_shotBounds) [()])) (.bool r0) := by
  unfold m_hindcastlaw08_StateTakes at h
  refine pf_of_wc Tryd.func4 rfl Tryd.ntmps4 rfl rfl (fun w0 hR => ?_)
  obtain ⟨G0S, G1S⟩ := hR
  refine wc_seq ?_
  refine wc_region ?_
  refine wl_pure tt_ok rfl rfl ?_
  refine wl_nil ?_
  refine wx_then ?_
  refine wc_seq ?_
  refine wc_seq ?_
  refine wc_region ?_
  refine wl_pure tt_ok rfl rfl ?_
  refine wl_pure (v := .int .i64 (p0.length : Int)) tt_ok rfl rfl ?_
  refine wl_pure (v := .bool (decide ((1000 : Int) < (p0.length : Int)))) tt_ok rfl rfl ?_
  refine wl_nil ?_
  refine wx_then ?_
  refine wc_cond rfl (fun hc => ?_) (fun hc => ?_)
  · replace h := ct hc h
    refine wc_seq ?_
    refine wc_region ?_
    replace h := bsome h; obtain ⟨v10, x10, h⟩ := h
    refine wl_cq Tryd.call9 rfl rfl rfl (q_pf (k_hindcastlaw08_works x10) (fun w hI => ⟨(Rds.call G0S pNil rsub_nil) w hI, (Rds.call G1S pNil rsub_nil) w hI⟩)) rfl ?_
    refine wl_pure tt_ok rfl rfl ?_
    refine wl_nil ?_
    refine wx_then ?_
    refine wc_ret ?_
    refine wx_then_ret ?_
    simp only [Option.some.injEq] at h
    obtain rfl := h
    exact wx_pf tt_ok (.inl rfl) Tryd.results4 (Res.tmp rfl Res.nil) rfl
  replace h := cf hc h
  refine wc_skip ?_
  refine wx_then ?_
  refine wc_seq ?_
  refine wc_region ?_
  refine wl_pure tt_ok rfl rfl ?_
  replace h := bsome h; obtain ⟨⟨v13_0, v13_1⟩, x13, h⟩ := h; try dsimp only at h
  refine wl_cs Tryd.call18 rfl rfl rfl (s_sp (k_state_Take x13) pNil (fun w hI => ⟨(Rds.call G0S pNil rsub_nil) w hI, (Rds.call G1S pNil rsub_nil) w hI⟩)) rfl ?_
  rintro _ _ ⟨_, ⟨v13_0a0, v13_0n0, v13_0c0, v13_0B0, v13_0N0, v13_0V0, rfl, rfl⟩, rfl⟩
  refine wl_pure tt_ok rfl rfl ?_
  refine wl_pure tt_ok rfl rfl ?_
  refine wl_pure tt_ok rfl rfl ?_
  refine wl_alloc tt_ok rfl rfl (fun b3 => ?_)
  apply wl_store tt_ok; rfl; exact Upd.here; rfl; rfl; rfl; rfl; rfl; rfl
  refine wl_pure tt_ok rfl rfl ?_
  refine wl_nil ?_
  refine wx_then ?_
  refine wc_seq ?_
  refine wc_region ?_
  refine wl_pure tt_ok rfl rfl ?_
  replace h := bsome h; obtain ⟨⟨v18_0, v18_1⟩, x18, h⟩ := h; try dsimp only at h
  refine wl_cs Tryd.call19 rfl rfl rfl (s_sp (k_hindcastref08_Take x18) pNil (fun _ _ => trivial)) rfl ?_
  rintro _ _ ⟨_, ⟨v18_0a0, v18_0n0, v18_0c0, v18_0B0, v18_0N0, v18_0V0, rfl, rfl⟩, rfl⟩
  refine wl_pure tt_ok rfl rfl ?_
  refine wl_pure tt_ok rfl rfl ?_
  refine wl_pure tt_ok rfl rfl ?_
  refine wl_alloc tt_ok rfl rfl (fun b5 => ?_)
  apply wl_store tt_ok; rfl; exact Upd.here; rfl; rfl; rfl; rfl; rfl; rfl
  refine wl_pure tt_ok rfl rfl ?_
  refine wl_nil ?_
  refine wx_then ?_
  refine wc_seq ?_
  refine wc_region ?_
  refine wl_val (v := .agg #[.int .u64 v13_0.Frame, .int .u64 v13_0.Seed, .int .i32 v13_0.Players.1.X, .int .i32 v13_0.Players.1.Y, .int .i32 v13_0.Players.1.VX, .int .i32 v13_0.Players.1.VY, .int .u8 v13_0.Players.1.Health, .int .u8 v13_0.Players.1.Cool, .int .u8 v13_0.Players.1.Face, .int .i32 v13_0.Players.2.X, .int .i32 v13_0.Players.2.Y, .int .i32 v13_0.Players.2.VX, .int .i32 v13_0.Players.2.VY, .int .u8 v13_0.Players.2.Health, .int .u8 v13_0.Players.2.Cool, .int .u8 v13_0.Players.2.Face, .slice v13_0a0 v13_0n0 v13_0c0, .int .u16 v13_0.Score.1, .int .u16 v13_0.Score.2]) (val_load tt_ok rfl (List.Mem.tail _ (mR (List.Mem.head _))) rfl) rfl ?_
  refine wl_val (v := .agg #[.int .u64 v18_0.Frame, .int .u64 v18_0.Seed, .int .i32 v18_0.Players.1.X, .int .i32 v18_0.Players.1.Y, .int .i32 v18_0.Players.1.VX, .int .i32 v18_0.Players.1.VY, .int .u8 v18_0.Players.1.Health, .int .u8 v18_0.Players.1.Cool, .int .u8 v18_0.Players.1.Face, .int .i32 v18_0.Players.2.X, .int .i32 v18_0.Players.2.Y, .int .i32 v18_0.Players.2.VX, .int .i32 v18_0.Players.2.VY, .int .u8 v18_0.Players.2.Health, .int .u8 v18_0.Players.2.Cool, .int .u8 v18_0.Players.2.Face, .slice v18_0a0 v18_0n0 v18_0c0, .int .u16 v18_0.Score.1, .int .u16 v18_0.Score.2]) (val_load tt_ok rfl (List.Mem.head _) rfl) rfl ?_
  replace h := bsome h; obtain ⟨v23, x23, h⟩ := h
  refine wl_cq Tryd.call15 rfl rfl rfl (q_pf (k_hindcastref08_Same (p0 := v13_0) (p1 := v18_0) v13_0N0 (vec_cap v13_0V0) v18_0N0 (vec_cap v18_0V0) x23) (fun w hI => ⟨(Rds.call (Rds.of_vec v13_0V0) pNil ⟨_, (Sel.sc (Sel.sa (Sel.sc Sel.ha)))⟩) w hI, (Rds.call (Rds.of_vec v18_0V0) pNil ⟨_, (Sel.sc Sel.ha)⟩) w hI⟩)) rfl ?_
  refine wl_pure tt_ok rfl rfl ?_
  replace h := bsome h; obtain ⟨v28, h, hg28⟩ := h
  refine wl_split (t := 24) rfl (fun hc => ?_) (fun hc => ?_)
  · replace h := ct hc h
    refine wl_run rfl ?_
    refine wl_pure tt_ok rfl rfl ?_
    refine wl_run rfl ?_
    refine wl_pure tt_ok rfl rfl ?_
    refine wl_run rfl ?_
    refine wl_pure (v := .bool (v13_1 == v18_1)) tt_ok rfl rfl ?_
    simp only [Option.some.injEq, Prod.mk.injEq] at h
    obtain rfl := h
    have h := hg28; clear hg28
    refine wl_pure (v := .bool (v13_1 == v18_1)) tt_ok rfl rfl ?_
    refine wl_pure tt_ok rfl rfl ?_
    replace h := bsome h; obtain ⟨v31, h, hg31⟩ := h
    refine wl_split (t := 29) rfl (fun hc => ?_) (fun hc => ?_)
    · replace h := ct hc h
      replace h := bsome h; obtain ⟨v30, x30, h⟩ := h
      refine wl_run rfl ?_
      refine wl_cq Tryd.call9 rfl rfl rfl (q_pf (k_hindcastlaw08_works x30) (fun w hI => ⟨(Rds.call G0S pNil rsub_nil) w hI, (Rds.call G1S pNil rsub_nil) w hI⟩)) rfl ?_
      simp only [Option.some.injEq, Prod.mk.injEq] at h
      obtain rfl := h
      have h := hg31; clear hg31
      refine wl_pure (v := .bool v30) tt_ok rfl rfl ?_
      refine wl_pure tt_ok rfl rfl ?_
      refine wl_nil ?_
      refine wx_then ?_
      refine wc_ret ?_
      simp only [Option.some.injEq] at h
      obtain rfl := h
      exact wx_pf tt_ok (.inl rfl) Tryd.results4 (Res.tmp rfl Res.nil) rfl
    replace h := cf hc h
    refine wl_skip rfl rfl ?_
    simp only [Option.some.injEq, Prod.mk.injEq] at h
    obtain rfl := h
    have h := hg31; clear hg31
    refine wl_pure (v := .bool false) tt_ok rfl rfl ?_
    refine wl_pure tt_ok rfl rfl ?_
    refine wl_nil ?_
    refine wx_then ?_
    refine wc_ret ?_
    simp only [Option.some.injEq] at h
    obtain rfl := h
    exact wx_pf tt_ok (.inl rfl) Tryd.results4 (Res.tmp rfl Res.nil) rfl
  replace h := cf hc h
  refine wl_skip rfl rfl ?_
  refine wl_skip rfl rfl ?_
  refine wl_skip rfl rfl ?_
  simp only [Option.some.injEq, Prod.mk.injEq] at h
  obtain rfl := h
  have h := hg28; clear hg28
  refine wl_pure (v := .bool false) tt_ok rfl rfl ?_
  refine wl_pure tt_ok rfl rfl ?_
  replace h := bsome h; obtain ⟨v31, h, hg31⟩ := h
  replace h := cf rfl h
  refine wl_skip rfl rfl ?_
  simp only [Option.some.injEq, Prod.mk.injEq] at h
  obtain rfl := h
  have h := hg31; clear hg31
  refine wl_pure (v := .bool false) tt_ok rfl rfl ?_
  refine wl_pure tt_ok rfl rfl ?_
  refine wl_nil ?_
  refine wx_then ?_
  refine wc_ret ?_
  simp only [Option.some.injEq] at h
  obtain rfl := h
  exact wx_pf tt_ok (.inl rfl) Tryd.results4 (Res.tmp rfl Res.nil) rfl

end Go.Proofs.YtekplmhmppdpcaaDoor
