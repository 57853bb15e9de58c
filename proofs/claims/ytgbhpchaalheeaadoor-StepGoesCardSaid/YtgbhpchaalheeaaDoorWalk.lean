/-
  Each function computes what its model says. Printed by a program of this claim's own.
-/
import Derived.Test.YtgbhpchaalheeaaDoorTab
import Derived.Test.YtgbhpchaalheeaaDoorMod
import Derived.Test.YtgbhpchaalheeaaDoorWalk3
namespace Go.Proofs.YtgbhpchaalheeaaDoor
open Go.Proofs.YtgbhpchaalheeaaDoor.Eng
set_option linter.unusedVariables false
set_option linter.unusedSimpArgs false
set_option maxHeartbeats 4000000
set_option maxRecDepth 20000

theorem k_hindcastref09_Step {F : Nat} {p0 : T_api_State} {p0a0 : Option Addr} {p0n0 p0c0 : Nat} {p1 : (Int × Int)} {r0 : T_api_State} (p0N0 : p0n0 = p0.Shots.length) (p0H0 : p0n0 ≤ p0c0) (h : m_hindcastref09_Step F p0 p1 = some r0) :
    SpD Tryd.prog 12 [.agg #[.int .u64 p0.Frame, .int .u64 p0.Seed, .int .i32 p0.Players.1.X, .int .i32 p0.Players.1.Y, .int .i32 p0.Players.1.VX, .int .i32 p0.Players.1.VY, .int .u8 p0.Players.1.Health, .int .u8 p0.Players.1.Cool, .int .u8 p0.Players.1.Face, .int .i32 p0.Players.2.X, .int .i32 p0.Players.2.Y, .int .i32 p0.Players.2.VX, .int .i32 p0.Players.2.VY, .int .u8 p0.Players.2.Health, .int .u8 p0.Players.2.Cool, .int .u8 p0.Players.2.Face, .slice p0a0 p0n0 p0c0, .int .u16 p0.Score.1, .int .u16 p0.Score.2], .agg #[.int .u8 p1.1, .int .u8 p1.2]] [] (fun w => Rds w (ids []) [] p0a0 (flat c_T_api_Shot p0.Shots)) (fun v D => ∃ (r0a0 : Option Addr) (r0n0 r0c0 : Nat) (r0B0 : List Blk), r0n0 = r0.Shots.length ∧ Own 39 6 r0a0 r0n0 r0c0 (flat c_T_api_Shot r0.Shots) r0B0 ∧ v = .agg #[.int .u64 r0.Frame, .int .u64 r0.Seed, .int .i32 r0.Players.1.X, .int .i32 r0.Players.1.Y, .int .i32 r0.Players.1.VX, .int .i32 r0.Players.1.VY, .int .u8 r0.Players.1.Health, .int .u8 r0.Players.1.Cool, .int .u8 r0.Players.1.Face, .int .i32 r0.Players.2.X, .int .i32 r0.Players.2.Y, .int .i32 r0.Players.2.VX, .int .i32 r0.Players.2.VY, .int .u8 r0.Players.2.Health, .int .u8 r0.Players.2.Cool, .int .u8 r0.Players.2.Face, .slice r0a0 r0n0 r0c0, .int .u16 r0.Score.1, .int .u16 r0.Score.2] ∧ D = fun F => (r0B0 ++ F)) := by
  unfold m_hindcastref09_Step at h
  refine sp_of_wc Tryd.func12 rfl Tryd.ntmps12 rfl rfl (fun w0 hR => ?_)
  have p0S0 := hR
  refine wc_seq ?_
  refine wc_region ?_
  refine wl_box rfl rfl rfl (fun b2 => ?_)
  refine wl_box rfl rfl rfl (fun b3 => ?_)
  refine wl_alloc tt_ok rfl rfl (fun b4 => ?_)
  refine wl_nil ?_
  refine wx_then ?_
  refine wc_seq ?_
  refine wc_region ?_
  refine wl_val (v := .agg #[.int .u64 p0.Frame, .int .u64 p0.Seed, .int .i32 p0.Players.1.X, .int .i32 p0.Players.1.Y, .int .i32 p0.Players.1.VX, .int .i32 p0.Players.1.VY, .int .u8 p0.Players.1.Health, .int .u8 p0.Players.1.Cool, .int .u8 p0.Players.1.Face, .int .i32 p0.Players.2.X, .int .i32 p0.Players.2.Y, .int .i32 p0.Players.2.VX, .int .i32 p0.Players.2.VY, .int .u8 p0.Players.2.Health, .int .u8 p0.Players.2.Cool, .int .u8 p0.Players.2.Face, .slice p0a0 p0n0 p0c0, .int .u16 p0.Score.1, .int .u16 p0.Score.2]) (val_load tt_ok rfl (List.Mem.tail _ (List.Mem.tail _ (List.Mem.head _))) rfl) rfl ?_
  replace h := bsome h; obtain ⟨v6, x6, h⟩ := h
  refine wl_cs Tryd.call9 rfl rfl rfl (s_sp (k_hindcastref08_Copy (p0 := p0) p0N0 p0H0 x6) pNil (Rds.call p0S0 pNil rsub_nil)) rfl ?_
  rintro _ _ ⟨_, ⟨v6a0, v6n0, v6c0, v6B0, v6N0, v6V0, rfl, rfl⟩, rfl⟩
  apply wl_store tt_ok; rfl; exact (Upd.right (Upd.there (Upd.there Upd.here))); rfl; rfl; rfl; rfl; rfl; rfl
  refine wl_nil ?_
  refine wx_then ?_
  refine wc_seq ?_
  refine wc_seq ?_
  refine wc_region ?_
  refine wl_val (v := .agg #[.int .u64 v6.Frame, .int .u64 v6.Seed, .int .i32 v6.Players.1.X, .int .i32 v6.Players.1.Y, .int .i32 v6.Players.1.VX, .int .i32 v6.Players.1.VY, .int .u8 v6.Players.1.Health, .int .u8 v6.Players.1.Cool, .int .u8 v6.Players.1.Face, .int .i32 v6.Players.2.X, .int .i32 v6.Players.2.Y, .int .i32 v6.Players.2.VX, .int .i32 v6.Players.2.VY, .int .u8 v6.Players.2.Health, .int .u8 v6.Players.2.Cool, .int .u8 v6.Players.2.Face, .slice v6a0 v6n0 v6c0, .int .u16 v6.Score.1, .int .u16 v6.Score.2]) (val_load tt_ok rfl (mR (List.Mem.tail _ (List.Mem.tail _ (List.Mem.head _)))) rfl) rfl ?_
  replace h := bsome h; obtain ⟨v8, x8, h⟩ := h
  refine wl_cq Tryd.call30 rfl rfl rfl (q_pf (k_hindcastref08_Check (p0 := v6) v6N0 (vec_cap v6V0) x8) (Rds.call (Rds.of_vec v6V0) pNil ⟨_, Sel.ha⟩)) rfl ?_
  refine wl_pure (v := .bool (v8 != (0 : Int))) tt_ok rfl rfl ?_
  refine wl_pure tt_ok rfl rfl ?_
  replace h := bsome h; obtain ⟨v15, h, hg15⟩ := h
  refine wl_split (t := 10) rfl (fun hc => ?_) (fun hc => ?_)
  · replace h := ct hc h
    refine wl_skip rfl rfl ?_
    refine wl_skip rfl rfl ?_
    refine wl_skip rfl rfl ?_
    refine wl_skip rfl rfl ?_
    simp only [Option.some.injEq, Prod.mk.injEq] at h
    obtain rfl := h
    have h := hg15; clear hg15
    refine wl_pure (v := .bool true) tt_ok rfl rfl ?_
    refine wl_pure tt_ok rfl rfl ?_
    replace h := bsome h; obtain ⟨v21, h, hg21⟩ := h
    replace h := ct rfl h
    refine wl_skip rfl rfl ?_
    refine wl_skip rfl rfl ?_
    refine wl_skip rfl rfl ?_
    refine wl_skip rfl rfl ?_
    simp only [Option.some.injEq, Prod.mk.injEq] at h
    obtain rfl := h
    have h := hg21; clear hg21
    refine wl_pure (v := .bool true) tt_ok rfl rfl ?_
    refine wl_nil ?_
    refine wx_then ?_
    replace h := ct rfl h
    refine wc_cond_true rfl ?_
    refine wc_seq ?_
    refine wc_region ?_
    refine wl_val (v := .agg #[.int .u64 v6.Frame, .int .u64 v6.Seed, .int .i32 v6.Players.1.X, .int .i32 v6.Players.1.Y, .int .i32 v6.Players.1.VX, .int .i32 v6.Players.1.VY, .int .u8 v6.Players.1.Health, .int .u8 v6.Players.1.Cool, .int .u8 v6.Players.1.Face, .int .i32 v6.Players.2.X, .int .i32 v6.Players.2.Y, .int .i32 v6.Players.2.VX, .int .i32 v6.Players.2.VY, .int .u8 v6.Players.2.Health, .int .u8 v6.Players.2.Cool, .int .u8 v6.Players.2.Face, .slice v6a0 v6n0 v6c0, .int .u16 v6.Score.1, .int .u16 v6.Score.2]) (val_load tt_ok rfl (mR (List.Mem.tail _ (List.Mem.tail _ (List.Mem.head _)))) rfl) rfl ?_
    apply wl_store tt_ok; rfl; exact (Upd.right Upd.here); rfl; rfl; rfl; rfl; rfl; rfl
    refine wl_nil ?_
    refine wx_then ?_
    refine wc_ret ?_
    refine wx_then_ret ?_
    simp only [Option.some.injEq] at h
    obtain rfl := h
    exact wx_spD tt_ok (.inl rfl) Tryd.results12 (Res.cell rfl (mR (List.Mem.head _)) rfl Res.nil) ⟨v6a0, v6n0, v6c0, v6B0, v6N0, v6V0, rfl, rfl⟩ (fun F => by simp) (pSub (pApp Sel.ha pNil))
  replace h := cf hc h
  refine wl_run rfl ?_
  refine wl_val (v := .pointer (some ⟨b3, 0, none⟩)) (val_ia (j := 0) tt_ok rfl rfl rfl rfl rfl rfl rfl) rfl ?_
  refine wl_run rfl ?_
  refine wl_val (v := .int .u8 p1.1) (val_load tt_ok rfl (mR (List.Mem.tail _ (List.Mem.head _))) rfl) rfl ?_
  replace h := bsome h; obtain ⟨v13, x13, h⟩ := h
  refine wl_run rfl ?_
  refine wl_cq Tryd.call31 rfl rfl rfl (q_pf (k_hindcastref06_Legal x13) (fun _ _ => trivial)) rfl ?_
  refine wl_run rfl ?_
  refine wl_pure (v := .bool (!v13)) tt_ok rfl rfl ?_
  simp only [Option.some.injEq, Prod.mk.injEq] at h
  obtain rfl := h
  have h := hg15; clear hg15
  refine wl_pure (v := .bool (!v13)) tt_ok rfl rfl ?_
  refine wl_pure tt_ok rfl rfl ?_
  replace h := bsome h; obtain ⟨v21, h, hg21⟩ := h
  refine wl_split (t := 16) rfl (fun hc => ?_) (fun hc => ?_)
  · replace h := ct hc h
    refine wl_skip rfl rfl ?_
    refine wl_skip rfl rfl ?_
    refine wl_skip rfl rfl ?_
    refine wl_skip rfl rfl ?_
    simp only [Option.some.injEq, Prod.mk.injEq] at h
    obtain rfl := h
    have h := hg21; clear hg21
    refine wl_pure (v := .bool true) tt_ok rfl rfl ?_
    refine wl_nil ?_
    refine wx_then ?_
    replace h := ct rfl h
    refine wc_cond_true rfl ?_
    refine wc_seq ?_
    refine wc_region ?_
    refine wl_val (v := .agg #[.int .u64 v6.Frame, .int .u64 v6.Seed, .int .i32 v6.Players.1.X, .int .i32 v6.Players.1.Y, .int .i32 v6.Players.1.VX, .int .i32 v6.Players.1.VY, .int .u8 v6.Players.1.Health, .int .u8 v6.Players.1.Cool, .int .u8 v6.Players.1.Face, .int .i32 v6.Players.2.X, .int .i32 v6.Players.2.Y, .int .i32 v6.Players.2.VX, .int .i32 v6.Players.2.VY, .int .u8 v6.Players.2.Health, .int .u8 v6.Players.2.Cool, .int .u8 v6.Players.2.Face, .slice v6a0 v6n0 v6c0, .int .u16 v6.Score.1, .int .u16 v6.Score.2]) (val_load tt_ok rfl (mR (List.Mem.tail _ (List.Mem.tail _ (List.Mem.head _)))) rfl) rfl ?_
    apply wl_store tt_ok; rfl; exact (Upd.right Upd.here); rfl; rfl; rfl; rfl; rfl; rfl
    refine wl_nil ?_
    refine wx_then ?_
    refine wc_ret ?_
    refine wx_then_ret ?_
    simp only [Option.some.injEq] at h
    obtain rfl := h
    exact wx_spD tt_ok (.inl rfl) Tryd.results12 (Res.cell rfl (mR (List.Mem.head _)) rfl Res.nil) ⟨v6a0, v6n0, v6c0, v6B0, v6N0, v6V0, rfl, rfl⟩ (fun F => by simp) (pSub (pApp Sel.ha pNil))
  replace h := cf hc h
  refine wl_run rfl ?_
  refine wl_val (v := .pointer (some ⟨b3, 1, none⟩)) (val_ia (j := 1) tt_ok rfl rfl rfl rfl rfl rfl rfl) rfl ?_
  refine wl_run rfl ?_
  refine wl_val (v := .int .u8 p1.2) (val_load tt_ok rfl (mR (List.Mem.tail _ (List.Mem.head _))) rfl) rfl ?_
  replace h := bsome h; obtain ⟨v19, x19, h⟩ := h
  refine wl_run rfl ?_
  refine wl_cq Tryd.call31 rfl rfl rfl (q_pf (k_hindcastref06_Legal x19) (fun _ _ => trivial)) rfl ?_
  refine wl_run rfl ?_
  refine wl_pure (v := .bool (!v19)) tt_ok rfl rfl ?_
  simp only [Option.some.injEq, Prod.mk.injEq] at h
  obtain rfl := h
  have h := hg21; clear hg21
  refine wl_pure (v := .bool (!v19)) tt_ok rfl rfl ?_
  refine wl_nil ?_
  refine wx_then ?_
  refine wc_cond rfl (fun hc => ?_) (fun hc => ?_)
  · replace h := ct hc h
    refine wc_seq ?_
    refine wc_region ?_
    refine wl_val (v := .agg #[.int .u64 v6.Frame, .int .u64 v6.Seed, .int .i32 v6.Players.1.X, .int .i32 v6.Players.1.Y, .int .i32 v6.Players.1.VX, .int .i32 v6.Players.1.VY, .int .u8 v6.Players.1.Health, .int .u8 v6.Players.1.Cool, .int .u8 v6.Players.1.Face, .int .i32 v6.Players.2.X, .int .i32 v6.Players.2.Y, .int .i32 v6.Players.2.VX, .int .i32 v6.Players.2.VY, .int .u8 v6.Players.2.Health, .int .u8 v6.Players.2.Cool, .int .u8 v6.Players.2.Face, .slice v6a0 v6n0 v6c0, .int .u16 v6.Score.1, .int .u16 v6.Score.2]) (val_load tt_ok rfl (mR (List.Mem.tail _ (List.Mem.tail _ (List.Mem.head _)))) rfl) rfl ?_
    apply wl_store tt_ok; rfl; exact (Upd.right Upd.here); rfl; rfl; rfl; rfl; rfl; rfl
    refine wl_nil ?_
    refine wx_then ?_
    refine wc_ret ?_
    refine wx_then_ret ?_
    simp only [Option.some.injEq] at h
    obtain rfl := h
    exact wx_spD tt_ok (.inl rfl) Tryd.results12 (Res.cell rfl (mR (List.Mem.head _)) rfl Res.nil) ⟨v6a0, v6n0, v6c0, v6B0, v6N0, v6V0, rfl, rfl⟩ (fun F => by simp) (pSub (pApp Sel.ha pNil))
  replace h := cf hc h
  refine wc_skip ?_
  refine wx_then ?_
  refine wc_seq ?_
  refine wc_region ?_
  refine wl_pure (v := .pointer (some ⟨b2, 2, none⟩)) tt_ok rfl rfl ?_
  refine wl_val (v := .pointer (some ⟨b2, 2, none⟩)) (val_ia (j := 0) tt_ok rfl rfl rfl rfl rfl rfl rfl) rfl ?_
  refine wl_val (v := .agg #[.int .i32 v6.Players.1.X, .int .i32 v6.Players.1.Y, .int .i32 v6.Players.1.VX, .int .i32 v6.Players.1.VY, .int .u8 v6.Players.1.Health, .int .u8 v6.Players.1.Cool, .int .u8 v6.Players.1.Face]) (val_load tt_ok rfl (mR (List.Mem.tail _ (List.Mem.tail _ (List.Mem.head _)))) rfl) rfl ?_
  refine wl_val (v := .pointer (some ⟨b3, 0, none⟩)) (val_ia (j := 0) tt_ok rfl rfl rfl rfl rfl rfl rfl) rfl ?_
  refine wl_val (v := .int .u8 p1.1) (val_load tt_ok rfl (mR (List.Mem.tail _ (List.Mem.head _))) rfl) rfl ?_
  replace h := bsome h; obtain ⟨v28, x28, h⟩ := h
  refine wl_cq Tryd.call32 rfl rfl rfl (q_pf (k_hindcastref09_one x28) (fun _ _ => trivial)) rfl ?_
  refine wl_pure (v := .pointer (some ⟨b2, 2, none⟩)) tt_ok rfl rfl ?_
  refine wl_val (v := .pointer (some ⟨b2, 2, none⟩)) (val_ia (j := 0) tt_ok rfl rfl rfl rfl rfl rfl rfl) rfl ?_
  apply wl_store tt_ok; rfl; exact (Upd.right (Upd.there (Upd.there Upd.here))); rfl; rfl; rfl; rfl; rfl; rfl
  refine wl_nil ?_
  refine wx_then ?_
  refine wc_seq ?_
  refine wc_region ?_
  refine wl_pure (v := .pointer (some ⟨b2, 2, none⟩)) tt_ok rfl rfl ?_
  refine wl_val (v := .pointer (some ⟨b2, 9, none⟩)) (val_ia (j := 1) tt_ok rfl rfl rfl rfl rfl rfl rfl) rfl ?_
  refine wl_val (v := .agg #[.int .i32 v6.Players.2.X, .int .i32 v6.Players.2.Y, .int .i32 v6.Players.2.VX, .int .i32 v6.Players.2.VY, .int .u8 v6.Players.2.Health, .int .u8 v6.Players.2.Cool, .int .u8 v6.Players.2.Face]) (val_load tt_ok rfl (mR (List.Mem.tail _ (List.Mem.tail _ (List.Mem.head _)))) rfl) rfl ?_
  refine wl_val (v := .pointer (some ⟨b3, 1, none⟩)) (val_ia (j := 1) tt_ok rfl rfl rfl rfl rfl rfl rfl) rfl ?_
  refine wl_val (v := .int .u8 p1.2) (val_load tt_ok rfl (mR (List.Mem.tail _ (List.Mem.head _))) rfl) rfl ?_
  replace h := bsome h; obtain ⟨v36, x36, h⟩ := h
  refine wl_cq Tryd.call32 rfl rfl rfl (q_pf (k_hindcastref09_one x36) (fun _ _ => trivial)) rfl ?_
  refine wl_pure (v := .pointer (some ⟨b2, 2, none⟩)) tt_ok rfl rfl ?_
  refine wl_val (v := .pointer (some ⟨b2, 9, none⟩)) (val_ia (j := 1) tt_ok rfl rfl rfl rfl rfl rfl rfl) rfl ?_
  apply wl_store tt_ok; rfl; exact (Upd.right (Upd.there (Upd.there Upd.here))); rfl; rfl; rfl; rfl; rfl; rfl
  refine wl_nil ?_
  refine wx_then ?_
  refine wc_seq ?_
  refine wc_region ?_
  refine wl_val (v := .agg #[.int .u64 v6.Frame, .int .u64 v6.Seed, .int .i32 v28.X, .int .i32 v28.Y, .int .i32 v28.VX, .int .i32 v28.VY, .int .u8 v28.Health, .int .u8 v28.Cool, .int .u8 v28.Face, .int .i32 v36.X, .int .i32 v36.Y, .int .i32 v36.VX, .int .i32 v36.VY, .int .u8 v36.Health, .int .u8 v36.Cool, .int .u8 v36.Face, .slice v6a0 v6n0 v6c0, .int .u16 v6.Score.1, .int .u16 v6.Score.2]) (val_load tt_ok rfl (mR (List.Mem.tail _ (List.Mem.tail _ (List.Mem.head _)))) rfl) rfl ?_
  refine wl_val (v := .agg #[.int .u8 p1.1, .int .u8 p1.2]) (val_load tt_ok rfl (mR (List.Mem.tail _ (List.Mem.head _))) rfl) rfl ?_
  replace h := bsome h; obtain ⟨v41, x41, h⟩ := h
  refine wl_cs Tryd.call33 rfl rfl rfl (s_sp (k_hindcastref09_two_o0 (p0 := (T_api_State.mk v6.Frame v6.Seed (v28, v36) v6.Shots v6.Score)) v6N0 v6V0 x41) (pApp Sel.ha pNil) (fun _ _ => trivial)) rfl ?_
  rintro _ _ ⟨_, ⟨v41a0, v41n0, v41c0, v41B0, v41N0, v41V0, rfl, rfl⟩, rfl⟩
  apply wl_store tt_ok; rfl; exact (Upd.right (Upd.there (Upd.there Upd.here))); rfl; rfl; rfl; rfl; rfl; rfl
  refine wl_nil ?_
  refine wx_then ?_
  refine wc_seq ?_
  refine wc_region ?_
  refine wl_val (v := .agg #[.int .u64 v41.Frame, .int .u64 v41.Seed, .int .i32 v41.Players.1.X, .int .i32 v41.Players.1.Y, .int .i32 v41.Players.1.VX, .int .i32 v41.Players.1.VY, .int .u8 v41.Players.1.Health, .int .u8 v41.Players.1.Cool, .int .u8 v41.Players.1.Face, .int .i32 v41.Players.2.X, .int .i32 v41.Players.2.Y, .int .i32 v41.Players.2.VX, .int .i32 v41.Players.2.VY, .int .u8 v41.Players.2.Health, .int .u8 v41.Players.2.Cool, .int .u8 v41.Players.2.Face, .slice v41a0 v41n0 v41c0, .int .u16 v41.Score.1, .int .u16 v41.Score.2]) (val_load tt_ok rfl (mR (List.Mem.tail _ (List.Mem.tail _ (List.Mem.head _)))) rfl) rfl ?_
  replace h := bsome h; obtain ⟨v43, x43, h⟩ := h
  refine wl_cs Tryd.call34 rfl rfl rfl (s_sp (k_hindcastref09_three_o0 (p0 := v41) v41N0 v41V0 x43) (pApp Sel.ha pNil) (fun _ _ => trivial)) rfl ?_
  rintro _ _ ⟨_, ⟨v43a0, v43n0, v43c0, v43B0, v43N0, v43V0, rfl, rfl⟩, rfl⟩
  apply wl_store tt_ok; rfl; exact (Upd.right (Upd.there (Upd.there Upd.here))); rfl; rfl; rfl; rfl; rfl; rfl
  refine wl_nil ?_
  refine wx_then ?_
  refine wc_seq ?_
  refine wc_region ?_
  refine wl_val (v := .agg #[.int .u64 v43.Frame, .int .u64 v43.Seed, .int .i32 v43.Players.1.X, .int .i32 v43.Players.1.Y, .int .i32 v43.Players.1.VX, .int .i32 v43.Players.1.VY, .int .u8 v43.Players.1.Health, .int .u8 v43.Players.1.Cool, .int .u8 v43.Players.1.Face, .int .i32 v43.Players.2.X, .int .i32 v43.Players.2.Y, .int .i32 v43.Players.2.VX, .int .i32 v43.Players.2.VY, .int .u8 v43.Players.2.Health, .int .u8 v43.Players.2.Cool, .int .u8 v43.Players.2.Face, .slice v43a0 v43n0 v43c0, .int .u16 v43.Score.1, .int .u16 v43.Score.2]) (val_load tt_ok rfl (mR (List.Mem.tail _ (List.Mem.tail _ (List.Mem.head _)))) rfl) rfl ?_
  replace h := bsome h; obtain ⟨v45, x45, h⟩ := h
  refine wl_cs Tryd.call35 rfl rfl rfl (s_sp (k_hindcastref09_four (p0 := v43) v43N0 (vec_cap v43V0) x45) pNil (Rds.call (Rds.of_vec v43V0) pNil ⟨_, Sel.ha⟩)) rfl ?_
  rintro _ _ ⟨_, ⟨v45a0, v45n0, v45c0, v45B0, v45N0, v45V0, rfl, rfl⟩, rfl⟩
  apply wl_store tt_ok; rfl; exact (Upd.right (Upd.right (Upd.there (Upd.there Upd.here)))); rfl; rfl; rfl; rfl; rfl; rfl
  refine wl_nil ?_
  refine wx_then ?_
  refine wc_seq ?_
  refine wc_region ?_
  refine wl_val (v := .agg #[.int .u64 v45.Frame, .int .u64 v45.Seed, .int .i32 v45.Players.1.X, .int .i32 v45.Players.1.Y, .int .i32 v45.Players.1.VX, .int .i32 v45.Players.1.VY, .int .u8 v45.Players.1.Health, .int .u8 v45.Players.1.Cool, .int .u8 v45.Players.1.Face, .int .i32 v45.Players.2.X, .int .i32 v45.Players.2.Y, .int .i32 v45.Players.2.VX, .int .i32 v45.Players.2.VY, .int .u8 v45.Players.2.Health, .int .u8 v45.Players.2.Cool, .int .u8 v45.Players.2.Face, .slice v45a0 v45n0 v45c0, .int .u16 v45.Score.1, .int .u16 v45.Score.2]) (val_load tt_ok rfl (mR (mR (List.Mem.tail _ (List.Mem.tail _ (List.Mem.head _))))) rfl) rfl ?_
  replace h := bsome h; obtain ⟨v47, x47, h⟩ := h
  refine wl_cs Tryd.call36 rfl rfl rfl (s_sp (k_hindcastref09_five_o0 (p0 := v45) v45N0 v45V0 x47) (pApp Sel.ha pNil) (fun _ _ => trivial)) rfl ?_
  rintro _ _ ⟨_, ⟨v47a0, v47n0, v47c0, v47B0, v47N0, v47V0, rfl, rfl⟩, rfl⟩
  apply wl_store tt_ok; rfl; exact (Upd.right (Upd.right (Upd.there (Upd.there Upd.here)))); rfl; rfl; rfl; rfl; rfl; rfl
  refine wl_nil ?_
  refine wx_then ?_
  refine wc_seq ?_
  refine wc_region ?_
  refine wl_val (v := .agg #[.int .u64 v47.Frame, .int .u64 v47.Seed, .int .i32 v47.Players.1.X, .int .i32 v47.Players.1.Y, .int .i32 v47.Players.1.VX, .int .i32 v47.Players.1.VY, .int .u8 v47.Players.1.Health, .int .u8 v47.Players.1.Cool, .int .u8 v47.Players.1.Face, .int .i32 v47.Players.2.X, .int .i32 v47.Players.2.Y, .int .i32 v47.Players.2.VX, .int .i32 v47.Players.2.VY, .int .u8 v47.Players.2.Health, .int .u8 v47.Players.2.Cool, .int .u8 v47.Players.2.Face, .slice v47a0 v47n0 v47c0, .int .u16 v47.Score.1, .int .u16 v47.Score.2]) (val_load tt_ok rfl (mR (mR (List.Mem.tail _ (List.Mem.tail _ (List.Mem.head _))))) rfl) rfl ?_
  replace h := bsome h; obtain ⟨v49, x49, h⟩ := h
  refine wl_cs Tryd.call36 rfl rfl rfl (s_sp (k_hindcastref09_five_o0 (p0 := v47) v47N0 v47V0 x49) (pApp Sel.ha pNil) (fun _ _ => trivial)) rfl ?_
  rintro _ _ ⟨_, ⟨v49a0, v49n0, v49c0, v49B0, v49N0, v49V0, rfl, rfl⟩, rfl⟩
  apply wl_store tt_ok; rfl; exact (Upd.right (Upd.right (Upd.there (Upd.there Upd.here)))); rfl; rfl; rfl; rfl; rfl; rfl
  refine wl_nil ?_
  refine wx_then ?_
  refine wc_seq ?_
  refine wc_region ?_
  refine wl_pure (v := .pointer (some ⟨b2, 0, none⟩)) tt_ok rfl rfl ?_
  refine wl_val (v := .int .u64 v49.Frame) (val_load tt_ok rfl (mR (mR (List.Mem.tail _ (List.Mem.tail _ (List.Mem.head _))))) rfl) rfl ?_
  refine wl_pure (v := .int .u64 (IntKind.wrap .u64 (v49.Frame + (1 : Int)))) tt_ok rfl rfl ?_
  refine wl_pure (v := .pointer (some ⟨b2, 0, none⟩)) tt_ok rfl rfl ?_
  apply wl_store tt_ok; rfl; exact (Upd.right (Upd.right (Upd.there (Upd.there Upd.here)))); rfl; rfl; rfl; rfl; rfl; rfl
  refine wl_nil ?_
  refine wx_then ?_
  refine wc_seq ?_
  refine wc_region ?_
  refine wl_val (v := .agg #[.int .u64 (IntKind.wrap .u64 (v49.Frame + (1 : Int))), .int .u64 v49.Seed, .int .i32 v49.Players.1.X, .int .i32 v49.Players.1.Y, .int .i32 v49.Players.1.VX, .int .i32 v49.Players.1.VY, .int .u8 v49.Players.1.Health, .int .u8 v49.Players.1.Cool, .int .u8 v49.Players.1.Face, .int .i32 v49.Players.2.X, .int .i32 v49.Players.2.Y, .int .i32 v49.Players.2.VX, .int .i32 v49.Players.2.VY, .int .u8 v49.Players.2.Health, .int .u8 v49.Players.2.Cool, .int .u8 v49.Players.2.Face, .slice v49a0 v49n0 v49c0, .int .u16 v49.Score.1, .int .u16 v49.Score.2]) (val_load tt_ok rfl (mR (mR (List.Mem.tail _ (List.Mem.tail _ (List.Mem.head _))))) rfl) rfl ?_
  apply wl_store tt_ok; rfl; exact (Upd.right (Upd.right Upd.here)); rfl; rfl; rfl; rfl; rfl; rfl
  refine wl_nil ?_
  refine wx_then ?_
  refine wc_ret ?_
  simp only [Option.some.injEq] at h
  obtain rfl := h
  exact wx_spD tt_ok (.inl rfl) Tryd.results12 (Res.cell rfl (mR (mR (List.Mem.head _))) rfl Res.nil) ⟨v49a0, v49n0, v49c0, v49B0, v49N0, v49V0, rfl, rfl⟩ (fun F => by simp) (pSub (pApp Sel.ha pNil))

theorem k_hindcastref08_Same {F : Nat} {p0 : T_api_State} {p0a0 : Option Addr} {p0n0 p0c0 : Nat} {p1 : T_api_State} {p1a0 : Option Addr} {p1n0 p1c0 : Nat} {r0 : Bool} (p0N0 : p0n0 = p0.Shots.length) (p0H0 : p0n0 ≤ p0c0) (p1N0 : p1n0 = p1.Shots.length) (p1H0 : p1n0 ≤ p1c0) (h : m_hindcastref08_Same F p0 p1 = some r0) :
    Pf Tryd.prog 11 [.agg #[.int .u64 p0.Frame, .int .u64 p0.Seed, .int .i32 p0.Players.1.X, .int .i32 p0.Players.1.Y, .int .i32 p0.Players.1.VX, .int .i32 p0.Players.1.VY, .int .u8 p0.Players.1.Health, .int .u8 p0.Players.1.Cool, .int .u8 p0.Players.1.Face, .int .i32 p0.Players.2.X, .int .i32 p0.Players.2.Y, .int .i32 p0.Players.2.VX, .int .i32 p0.Players.2.VY, .int .u8 p0.Players.2.Health, .int .u8 p0.Players.2.Cool, .int .u8 p0.Players.2.Face, .slice p0a0 p0n0 p0c0, .int .u16 p0.Score.1, .int .u16 p0.Score.2], .agg #[.int .u64 p1.Frame, .int .u64 p1.Seed, .int .i32 p1.Players.1.X, .int .i32 p1.Players.1.Y, .int .i32 p1.Players.1.VX, .int .i32 p1.Players.1.VY, .int .u8 p1.Players.1.Health, .int .u8 p1.Players.1.Cool, .int .u8 p1.Players.1.Face, .int .i32 p1.Players.2.X, .int .i32 p1.Players.2.Y, .int .i32 p1.Players.2.VX, .int .i32 p1.Players.2.VY, .int .u8 p1.Players.2.Health, .int .u8 p1.Players.2.Cool, .int .u8 p1.Players.2.Face, .slice p1a0 p1n0 p1c0, .int .u16 p1.Score.1, .int .u16 p1.Score.2]] (fun w => Rds w [] [] p0a0 (flat c_T_api_Shot p0.Shots) ∧ Rds w [] [] p1a0 (flat c_T_api_Shot p1.Shots)) (.bool r0) := by
  unfold m_hindcastref08_Same at h
  refine pf_of_wc Tryd.func11 rfl Tryd.ntmps11 rfl rfl (fun w0 hR => ?_)
  obtain ⟨p0S0, p1S0⟩ := hR
  refine wc_seq ?_
  refine wc_region ?_
  refine wl_box rfl rfl rfl (fun b2 => ?_)
  refine wl_box rfl rfl rfl (fun b3 => ?_)
  refine wl_pure tt_ok rfl rfl ?_
  refine wl_nil ?_
  refine wx_then ?_
  refine wc_seq ?_
  refine wc_seq ?_
  refine wc_region ?_
  refine wl_pure (v := .pointer (some ⟨b2, 0, none⟩)) tt_ok rfl rfl ?_
  refine wl_val (v := .int .u64 p0.Frame) (val_load tt_ok rfl (List.Mem.tail _ (List.Mem.head _)) rfl) rfl ?_
  refine wl_pure (v := .pointer (some ⟨b3, 0, none⟩)) tt_ok rfl rfl ?_
  refine wl_val (v := .int .u64 p1.Frame) (val_load tt_ok rfl (List.Mem.head _) rfl) rfl ?_
  refine wl_pure (v := .bool (p0.Frame != p1.Frame)) tt_ok rfl rfl ?_
  refine wl_pure tt_ok rfl rfl ?_
  replace h := bsome h; obtain ⟨v17, h, hg17⟩ := h
  refine wl_split (t := 11) rfl (fun hc => ?_) (fun hc => ?_)
  · replace h := ct hc h
    refine wl_skip rfl rfl ?_
    refine wl_skip rfl rfl ?_
    refine wl_skip rfl rfl ?_
    refine wl_skip rfl rfl ?_
    refine wl_skip rfl rfl ?_
    simp only [Option.some.injEq, Prod.mk.injEq] at h
    obtain rfl := h
    have h := hg17; clear hg17
    refine wl_pure (v := .bool true) tt_ok rfl rfl ?_
    refine wl_pure tt_ok rfl rfl ?_
    replace h := bsome h; obtain ⟨v26, h, hg26⟩ := h
    replace h := ct rfl h
    refine wl_skip rfl rfl ?_
    refine wl_skip rfl rfl ?_
    refine wl_skip rfl rfl ?_
    refine wl_skip rfl rfl ?_
    refine wl_skip rfl rfl ?_
    refine wl_skip rfl rfl ?_
    refine wl_skip rfl rfl ?_
    simp only [Option.some.injEq, Prod.mk.injEq] at h
    obtain rfl := h
    have h := hg26; clear hg26
    refine wl_pure (v := .bool true) tt_ok rfl rfl ?_
    refine wl_pure tt_ok rfl rfl ?_
    replace h := bsome h; obtain ⟨v35, h, hg35⟩ := h
    replace h := ct rfl h
    refine wl_skip rfl rfl ?_
    refine wl_skip rfl rfl ?_
    refine wl_skip rfl rfl ?_
    refine wl_skip rfl rfl ?_
    refine wl_skip rfl rfl ?_
    refine wl_skip rfl rfl ?_
    refine wl_skip rfl rfl ?_
    simp only [Option.some.injEq, Prod.mk.injEq] at h
    obtain rfl := h
    have h := hg35; clear hg35
    refine wl_pure (v := .bool true) tt_ok rfl rfl ?_
    refine wl_pure tt_ok rfl rfl ?_
    replace h := bsome h; obtain ⟨v42, h, hg42⟩ := h
    replace h := ct rfl h
    refine wl_skip rfl rfl ?_
    refine wl_skip rfl rfl ?_
    refine wl_skip rfl rfl ?_
    refine wl_skip rfl rfl ?_
    refine wl_skip rfl rfl ?_
    simp only [Option.some.injEq, Prod.mk.injEq] at h
    obtain rfl := h
    have h := hg42; clear hg42
    refine wl_pure (v := .bool true) tt_ok rfl rfl ?_
    refine wl_pure tt_ok rfl rfl ?_
    replace h := bsome h; obtain ⟨v51, h, hg51⟩ := h
    replace h := ct rfl h
    refine wl_skip rfl rfl ?_
    refine wl_skip rfl rfl ?_
    refine wl_skip rfl rfl ?_
    refine wl_skip rfl rfl ?_
    refine wl_skip rfl rfl ?_
    refine wl_skip rfl rfl ?_
    refine wl_skip rfl rfl ?_
    simp only [Option.some.injEq, Prod.mk.injEq] at h
    obtain rfl := h
    have h := hg51; clear hg51
    refine wl_pure (v := .bool true) tt_ok rfl rfl ?_
    refine wl_nil ?_
    refine wx_then ?_
    replace h := ct rfl h
    refine wc_cond_true rfl ?_
    refine wc_seq ?_
    refine wc_region ?_
    refine wl_pure tt_ok rfl rfl ?_
    refine wl_nil ?_
    refine wx_then ?_
    refine wc_ret ?_
    refine wx_then_ret ?_
    simp only [Option.some.injEq] at h
    obtain rfl := h
    exact wx_pf tt_ok (.inl rfl) Tryd.results11 (Res.tmp rfl Res.nil) rfl
  replace h := cf hc h
  refine wl_run rfl ?_
  refine wl_pure (v := .pointer (some ⟨b2, 1, none⟩)) tt_ok rfl rfl ?_
  refine wl_run rfl ?_
  refine wl_val (v := .int .u64 p0.Seed) (val_load tt_ok rfl (List.Mem.tail _ (List.Mem.head _)) rfl) rfl ?_
  refine wl_run rfl ?_
  refine wl_pure (v := .pointer (some ⟨b3, 1, none⟩)) tt_ok rfl rfl ?_
  refine wl_run rfl ?_
  refine wl_val (v := .int .u64 p1.Seed) (val_load tt_ok rfl (List.Mem.head _) rfl) rfl ?_
  refine wl_run rfl ?_
  refine wl_pure (v := .bool (p0.Seed != p1.Seed)) tt_ok rfl rfl ?_
  simp only [Option.some.injEq, Prod.mk.injEq] at h
  obtain rfl := h
  have h := hg17; clear hg17
  refine wl_pure (v := .bool (p0.Seed != p1.Seed)) tt_ok rfl rfl ?_
  refine wl_pure tt_ok rfl rfl ?_
  replace h := bsome h; obtain ⟨v26, h, hg26⟩ := h
  refine wl_split (t := 18) rfl (fun hc => ?_) (fun hc => ?_)
  · replace h := ct hc h
    refine wl_skip rfl rfl ?_
    refine wl_skip rfl rfl ?_
    refine wl_skip rfl rfl ?_
    refine wl_skip rfl rfl ?_
    refine wl_skip rfl rfl ?_
    refine wl_skip rfl rfl ?_
    refine wl_skip rfl rfl ?_
    simp only [Option.some.injEq, Prod.mk.injEq] at h
    obtain rfl := h
    have h := hg26; clear hg26
    refine wl_pure (v := .bool true) tt_ok rfl rfl ?_
    refine wl_pure tt_ok rfl rfl ?_
    replace h := bsome h; obtain ⟨v35, h, hg35⟩ := h
    replace h := ct rfl h
    refine wl_skip rfl rfl ?_
    refine wl_skip rfl rfl ?_
    refine wl_skip rfl rfl ?_
    refine wl_skip rfl rfl ?_
    refine wl_skip rfl rfl ?_
    refine wl_skip rfl rfl ?_
    refine wl_skip rfl rfl ?_
    simp only [Option.some.injEq, Prod.mk.injEq] at h
    obtain rfl := h
    have h := hg35; clear hg35
    refine wl_pure (v := .bool true) tt_ok rfl rfl ?_
    refine wl_pure tt_ok rfl rfl ?_
    replace h := bsome h; obtain ⟨v42, h, hg42⟩ := h
    replace h := ct rfl h
    refine wl_skip rfl rfl ?_
    refine wl_skip rfl rfl ?_
    refine wl_skip rfl rfl ?_
    refine wl_skip rfl rfl ?_
    refine wl_skip rfl rfl ?_
    simp only [Option.some.injEq, Prod.mk.injEq] at h
    obtain rfl := h
    have h := hg42; clear hg42
    refine wl_pure (v := .bool true) tt_ok rfl rfl ?_
    refine wl_pure tt_ok rfl rfl ?_
    replace h := bsome h; obtain ⟨v51, h, hg51⟩ := h
    replace h := ct rfl h
    refine wl_skip rfl rfl ?_
    refine wl_skip rfl rfl ?_
    refine wl_skip rfl rfl ?_
    refine wl_skip rfl rfl ?_
    refine wl_skip rfl rfl ?_
    refine wl_skip rfl rfl ?_
    refine wl_skip rfl rfl ?_
    simp only [Option.some.injEq, Prod.mk.injEq] at h
    obtain rfl := h
    have h := hg51; clear hg51
    refine wl_pure (v := .bool true) tt_ok rfl rfl ?_
    refine wl_nil ?_
    refine wx_then ?_
    replace h := ct rfl h
    refine wc_cond_true rfl ?_
    refine wc_seq ?_
    refine wc_region ?_
    refine wl_pure tt_ok rfl rfl ?_
    refine wl_nil ?_
    refine wx_then ?_
    refine wc_ret ?_
    refine wx_then_ret ?_
    simp only [Option.some.injEq] at h
    obtain rfl := h
    exact wx_pf tt_ok (.inl rfl) Tryd.results11 (Res.tmp rfl Res.nil) rfl
  replace h := cf hc h
  refine wl_run rfl ?_
  refine wl_pure (v := .pointer (some ⟨b2, 2, none⟩)) tt_ok rfl rfl ?_
  refine wl_run rfl ?_
  refine wl_val (v := .pointer (some ⟨b2, 2, none⟩)) (val_ia (j := 0) tt_ok rfl rfl rfl rfl rfl rfl rfl) rfl ?_
  refine wl_run rfl ?_
  refine wl_val (v := .agg #[.int .i32 p0.Players.1.X, .int .i32 p0.Players.1.Y, .int .i32 p0.Players.1.VX, .int .i32 p0.Players.1.VY, .int .u8 p0.Players.1.Health, .int .u8 p0.Players.1.Cool, .int .u8 p0.Players.1.Face]) (val_load tt_ok rfl (List.Mem.tail _ (List.Mem.head _)) rfl) rfl ?_
  refine wl_run rfl ?_
  refine wl_pure (v := .pointer (some ⟨b3, 2, none⟩)) tt_ok rfl rfl ?_
  refine wl_run rfl ?_
  refine wl_val (v := .pointer (some ⟨b3, 2, none⟩)) (val_ia (j := 0) tt_ok rfl rfl rfl rfl rfl rfl rfl) rfl ?_
  refine wl_run rfl ?_
  refine wl_val (v := .agg #[.int .i32 p1.Players.1.X, .int .i32 p1.Players.1.Y, .int .i32 p1.Players.1.VX, .int .i32 p1.Players.1.VY, .int .u8 p1.Players.1.Health, .int .u8 p1.Players.1.Cool, .int .u8 p1.Players.1.Face]) (val_load tt_ok rfl (List.Mem.head _) rfl) rfl ?_
  refine wl_run rfl ?_
  refine wl_val (v := .bool (!((p0.Players.1.X == p1.Players.1.X) && ((p0.Players.1.Y == p1.Players.1.Y) && ((p0.Players.1.VX == p1.Players.1.VX) && ((p0.Players.1.VY == p1.Players.1.VY) && ((p0.Players.1.Health == p1.Players.1.Health) && ((p0.Players.1.Cool == p1.Players.1.Cool) && (p0.Players.1.Face == p1.Players.1.Face))))))))) (val_nes tt_ok tt_eq tt_one Tryd.eqGuardType24 rfl rfl rfl rfl rfl) rfl ?_
  simp only [Option.some.injEq, Prod.mk.injEq] at h
  obtain rfl := h
  have h := hg26; clear hg26
  refine wl_pure (v := .bool (!((p0.Players.1.X == p1.Players.1.X) && ((p0.Players.1.Y == p1.Players.1.Y) && ((p0.Players.1.VX == p1.Players.1.VX) && ((p0.Players.1.VY == p1.Players.1.VY) && ((p0.Players.1.Health == p1.Players.1.Health) && ((p0.Players.1.Cool == p1.Players.1.Cool) && (p0.Players.1.Face == p1.Players.1.Face))))))))) tt_ok rfl rfl ?_
  refine wl_pure tt_ok rfl rfl ?_
  replace h := bsome h; obtain ⟨v35, h, hg35⟩ := h
  refine wl_split (t := 27) rfl (fun hc => ?_) (fun hc => ?_)
  · replace h := ct hc h
    refine wl_skip rfl rfl ?_
    refine wl_skip rfl rfl ?_
    refine wl_skip rfl rfl ?_
    refine wl_skip rfl rfl ?_
    refine wl_skip rfl rfl ?_
    refine wl_skip rfl rfl ?_
    refine wl_skip rfl rfl ?_
    simp only [Option.some.injEq, Prod.mk.injEq] at h
    obtain rfl := h
    have h := hg35; clear hg35
    refine wl_pure (v := .bool true) tt_ok rfl rfl ?_
    refine wl_pure tt_ok rfl rfl ?_
    replace h := bsome h; obtain ⟨v42, h, hg42⟩ := h
    replace h := ct rfl h
    refine wl_skip rfl rfl ?_
    refine wl_skip rfl rfl ?_
    refine wl_skip rfl rfl ?_
    refine wl_skip rfl rfl ?_
    refine wl_skip rfl rfl ?_
    simp only [Option.some.injEq, Prod.mk.injEq] at h
    obtain rfl := h
    have h := hg42; clear hg42
    refine wl_pure (v := .bool true) tt_ok rfl rfl ?_
    refine wl_pure tt_ok rfl rfl ?_
    replace h := bsome h; obtain ⟨v51, h, hg51⟩ := h
    replace h := ct rfl h
    refine wl_skip rfl rfl ?_
    refine wl_skip rfl rfl ?_
    refine wl_skip rfl rfl ?_
    refine wl_skip rfl rfl ?_
    refine wl_skip rfl rfl ?_
    refine wl_skip rfl rfl ?_
    refine wl_skip rfl rfl ?_
    simp only [Option.some.injEq, Prod.mk.injEq] at h
    obtain rfl := h
    have h := hg51; clear hg51
    refine wl_pure (v := .bool true) tt_ok rfl rfl ?_
    refine wl_nil ?_
    refine wx_then ?_
    replace h := ct rfl h
    refine wc_cond_true rfl ?_
    refine wc_seq ?_
    refine wc_region ?_
    refine wl_pure tt_ok rfl rfl ?_
    refine wl_nil ?_
    refine wx_then ?_
    refine wc_ret ?_
    refine wx_then_ret ?_
    simp only [Option.some.injEq] at h
    obtain rfl := h
    exact wx_pf tt_ok (.inl rfl) Tryd.results11 (Res.tmp rfl Res.nil) rfl
  replace h := cf hc h
  refine wl_run rfl ?_
  refine wl_pure (v := .pointer (some ⟨b2, 2, none⟩)) tt_ok rfl rfl ?_
  refine wl_run rfl ?_
  refine wl_val (v := .pointer (some ⟨b2, 9, none⟩)) (val_ia (j := 1) tt_ok rfl rfl rfl rfl rfl rfl rfl) rfl ?_
  refine wl_run rfl ?_
  refine wl_val (v := .agg #[.int .i32 p0.Players.2.X, .int .i32 p0.Players.2.Y, .int .i32 p0.Players.2.VX, .int .i32 p0.Players.2.VY, .int .u8 p0.Players.2.Health, .int .u8 p0.Players.2.Cool, .int .u8 p0.Players.2.Face]) (val_load tt_ok rfl (List.Mem.tail _ (List.Mem.head _)) rfl) rfl ?_
  refine wl_run rfl ?_
  refine wl_pure (v := .pointer (some ⟨b3, 2, none⟩)) tt_ok rfl rfl ?_
  refine wl_run rfl ?_
  refine wl_val (v := .pointer (some ⟨b3, 9, none⟩)) (val_ia (j := 1) tt_ok rfl rfl rfl rfl rfl rfl rfl) rfl ?_
  refine wl_run rfl ?_
  refine wl_val (v := .agg #[.int .i32 p1.Players.2.X, .int .i32 p1.Players.2.Y, .int .i32 p1.Players.2.VX, .int .i32 p1.Players.2.VY, .int .u8 p1.Players.2.Health, .int .u8 p1.Players.2.Cool, .int .u8 p1.Players.2.Face]) (val_load tt_ok rfl (List.Mem.head _) rfl) rfl ?_
  refine wl_run rfl ?_
  refine wl_val (v := .bool (!((p0.Players.2.X == p1.Players.2.X) && ((p0.Players.2.Y == p1.Players.2.Y) && ((p0.Players.2.VX == p1.Players.2.VX) && ((p0.Players.2.VY == p1.Players.2.VY) && ((p0.Players.2.Health == p1.Players.2.Health) && ((p0.Players.2.Cool == p1.Players.2.Cool) && (p0.Players.2.Face == p1.Players.2.Face))))))))) (val_nes tt_ok tt_eq tt_one Tryd.eqGuardType24 rfl rfl rfl rfl rfl) rfl ?_
  simp only [Option.some.injEq, Prod.mk.injEq] at h
  obtain rfl := h
  have h := hg35; clear hg35
  refine wl_pure (v := .bool (!((p0.Players.2.X == p1.Players.2.X) && ((p0.Players.2.Y == p1.Players.2.Y) && ((p0.Players.2.VX == p1.Players.2.VX) && ((p0.Players.2.VY == p1.Players.2.VY) && ((p0.Players.2.Health == p1.Players.2.Health) && ((p0.Players.2.Cool == p1.Players.2.Cool) && (p0.Players.2.Face == p1.Players.2.Face))))))))) tt_ok rfl rfl ?_
  refine wl_pure tt_ok rfl rfl ?_
  replace h := bsome h; obtain ⟨v42, h, hg42⟩ := h
  refine wl_split (t := 36) rfl (fun hc => ?_) (fun hc => ?_)
  · replace h := ct hc h
    refine wl_skip rfl rfl ?_
    refine wl_skip rfl rfl ?_
    refine wl_skip rfl rfl ?_
    refine wl_skip rfl rfl ?_
    refine wl_skip rfl rfl ?_
    simp only [Option.some.injEq, Prod.mk.injEq] at h
    obtain rfl := h
    have h := hg42; clear hg42
    refine wl_pure (v := .bool true) tt_ok rfl rfl ?_
    refine wl_pure tt_ok rfl rfl ?_
    replace h := bsome h; obtain ⟨v51, h, hg51⟩ := h
    replace h := ct rfl h
    refine wl_skip rfl rfl ?_
    refine wl_skip rfl rfl ?_
    refine wl_skip rfl rfl ?_
    refine wl_skip rfl rfl ?_
    refine wl_skip rfl rfl ?_
    refine wl_skip rfl rfl ?_
    refine wl_skip rfl rfl ?_
    simp only [Option.some.injEq, Prod.mk.injEq] at h
    obtain rfl := h
    have h := hg51; clear hg51
    refine wl_pure (v := .bool true) tt_ok rfl rfl ?_
    refine wl_nil ?_
    refine wx_then ?_
    replace h := ct rfl h
    refine wc_cond_true rfl ?_
    refine wc_seq ?_
    refine wc_region ?_
    refine wl_pure tt_ok rfl rfl ?_
    refine wl_nil ?_
    refine wx_then ?_
    refine wc_ret ?_
    refine wx_then_ret ?_
    simp only [Option.some.injEq] at h
    obtain rfl := h
    exact wx_pf tt_ok (.inl rfl) Tryd.results11 (Res.tmp rfl Res.nil) rfl
  replace h := cf hc h
  refine wl_run rfl ?_
  refine wl_pure (v := .pointer (some ⟨b2, 17, none⟩)) tt_ok rfl rfl ?_
  refine wl_run rfl ?_
  refine wl_val (v := .agg #[.int .u16 p0.Score.1, .int .u16 p0.Score.2]) (val_load tt_ok rfl (List.Mem.tail _ (List.Mem.head _)) rfl) rfl ?_
  refine wl_run rfl ?_
  refine wl_pure (v := .pointer (some ⟨b3, 17, none⟩)) tt_ok rfl rfl ?_
  refine wl_run rfl ?_
  refine wl_val (v := .agg #[.int .u16 p1.Score.1, .int .u16 p1.Score.2]) (val_load tt_ok rfl (List.Mem.head _) rfl) rfl ?_
  refine wl_run rfl ?_
  refine wl_val (v := .bool (!((p0.Score.1 == p1.Score.1) && (p0.Score.2 == p1.Score.2)))) (val_nes tt_ok tt_eq tt_one Tryd.eqGuardType28 rfl rfl rfl rfl rfl) rfl ?_
  simp only [Option.some.injEq, Prod.mk.injEq] at h
  obtain rfl := h
  have h := hg42; clear hg42
  refine wl_pure (v := .bool (!((p0.Score.1 == p1.Score.1) && (p0.Score.2 == p1.Score.2)))) tt_ok rfl rfl ?_
  refine wl_pure tt_ok rfl rfl ?_
  replace h := bsome h; obtain ⟨v51, h, hg51⟩ := h
  refine wl_split (t := 43) rfl (fun hc => ?_) (fun hc => ?_)
  · replace h := ct hc h
    refine wl_skip rfl rfl ?_
    refine wl_skip rfl rfl ?_
    refine wl_skip rfl rfl ?_
    refine wl_skip rfl rfl ?_
    refine wl_skip rfl rfl ?_
    refine wl_skip rfl rfl ?_
    refine wl_skip rfl rfl ?_
    simp only [Option.some.injEq, Prod.mk.injEq] at h
    obtain rfl := h
    have h := hg51; clear hg51
    refine wl_pure (v := .bool true) tt_ok rfl rfl ?_
    refine wl_nil ?_
    refine wx_then ?_
    replace h := ct rfl h
    refine wc_cond_true rfl ?_
    refine wc_seq ?_
    refine wc_region ?_
    refine wl_pure tt_ok rfl rfl ?_
    refine wl_nil ?_
    refine wx_then ?_
    refine wc_ret ?_
    refine wx_then_ret ?_
    simp only [Option.some.injEq] at h
    obtain rfl := h
    exact wx_pf tt_ok (.inl rfl) Tryd.results11 (Res.tmp rfl Res.nil) rfl
  replace h := cf hc h
  refine wl_run rfl ?_
  refine wl_pure (v := .pointer (some ⟨b2, 16, none⟩)) tt_ok rfl rfl ?_
  refine wl_run rfl ?_
  refine wl_val (v := .slice p0a0 p0n0 p0c0) (val_load tt_ok rfl (List.Mem.tail _ (List.Mem.head _)) rfl) rfl ?_
  refine wl_run rfl ?_
  refine wl_val (v := .int .i64 (p0.Shots.length : Int)) (val_len tt_ok rfl rfl p0N0) rfl ?_
  refine wl_run rfl ?_
  refine wl_pure (v := .pointer (some ⟨b3, 16, none⟩)) tt_ok rfl rfl ?_
  refine wl_run rfl ?_
  refine wl_val (v := .slice p1a0 p1n0 p1c0) (val_load tt_ok rfl (List.Mem.head _) rfl) rfl ?_
  refine wl_run rfl ?_
  refine wl_val (v := .int .i64 (p1.Shots.length : Int)) (val_len tt_ok rfl rfl p1N0) rfl ?_
  refine wl_run rfl ?_
  refine wl_pure (v := .bool ((p0.Shots.length : Int) != (p1.Shots.length : Int))) tt_ok rfl rfl ?_
  simp only [Option.some.injEq, Prod.mk.injEq] at h
  obtain rfl := h
  have h := hg51; clear hg51
  refine wl_pure (v := .bool ((p0.Shots.length : Int) != (p1.Shots.length : Int))) tt_ok rfl rfl ?_
  refine wl_nil ?_
  refine wx_then ?_
  refine wc_cond rfl (fun hc => ?_) (fun hc => ?_)
  · replace h := ct hc h
    refine wc_seq ?_
    refine wc_region ?_
    refine wl_pure tt_ok rfl rfl ?_
    refine wl_nil ?_
    refine wx_then ?_
    refine wc_ret ?_
    refine wx_then_ret ?_
    simp only [Option.some.injEq] at h
    obtain rfl := h
    exact wx_pf tt_ok (.inl rfl) Tryd.results11 (Res.tmp rfl Res.nil) rfl
  replace h := cf hc h
  refine wc_skip ?_
  refine wx_then ?_
  refine wc_seq ?_
  refine wc_seq ?_
  refine wc_region ?_
  refine wl_pure tt_ok rfl rfl ?_
  refine wl_nil ?_
  refine wx_then ?_
  refine wc_block ?_
  replace h := bsome h; obtain ⟨o15, h, hl15⟩ := h
  refine wc_loop (fun m E L => ∃ (j15_5 : Int), m_hindcastref08_Same_L14 F p0 p1 m j15_5 = some o15 ∧ E = [(2, .pointer (some ⟨b2, 0, none⟩)), (3, .pointer (some ⟨b3, 0, none⟩)), (4, .bool false), (5, .int .i64 j15_5)] ∧ L = (⟨b2, [.int .u64 p0.Frame, .int .u64 p0.Seed, .int .i32 p0.Players.1.X, .int .i32 p0.Players.1.Y, .int .i32 p0.Players.1.VX, .int .i32 p0.Players.1.VY, .int .u8 p0.Players.1.Health, .int .u8 p0.Players.1.Cool, .int .u8 p0.Players.1.Face, .int .i32 p0.Players.2.X, .int .i32 p0.Players.2.Y, .int .i32 p0.Players.2.VX, .int .i32 p0.Players.2.VY, .int .u8 p0.Players.2.Health, .int .u8 p0.Players.2.Cool, .int .u8 p0.Players.2.Face, .slice p0a0 p0n0 p0c0, .int .u16 p0.Score.1, .int .u16 p0.Score.2], 30, (0, 0)⟩ :: (⟨b3, [.int .u64 p1.Frame, .int .u64 p1.Seed, .int .i32 p1.Players.1.X, .int .i32 p1.Players.1.Y, .int .i32 p1.Players.1.VX, .int .i32 p1.Players.1.VY, .int .u8 p1.Players.1.Health, .int .u8 p1.Players.1.Cool, .int .u8 p1.Players.1.Face, .int .i32 p1.Players.2.X, .int .i32 p1.Players.2.Y, .int .i32 p1.Players.2.VX, .int .i32 p1.Players.2.VY, .int .u8 p1.Players.2.Health, .int .u8 p1.Players.2.Cool, .int .u8 p1.Players.2.Face, .slice p1a0 p1n0 p1c0, .int .u16 p1.Score.1, .int .u16 p1.Score.2], 30, (0, 0)⟩ :: []))) F ⟨(0 : Int), h, rfl, rfl⟩ (agree_cons rfl (agree_cons rfl (agree_cons rfl (agree_cons rfl agree_nil)))) (pSub (pCons (Sel.sc Sel.hc) (pCons Sel.hc pNil))) ?_
  clear h
  rintro m15 _ _ ⟨j15_5, h, rfl, rfl⟩
  rcases m15 with _ | m15
  · rw [m_hindcastref08_Same_L14.eq_1] at h; cases h
  rw [m_hindcastref08_Same_L14.eq_2] at h
  refine wc_seq ?_
  refine wc_seq ?_
  refine wc_region ?_
  refine wl_pure tt_ok rfl rfl ?_
  refine wl_pure (v := .pointer (some ⟨b2, 16, none⟩)) tt_ok rfl rfl ?_
  refine wl_val (v := .slice p0a0 p0n0 p0c0) (val_load tt_ok rfl (List.Mem.head _) rfl) rfl ?_
  refine wl_val (v := .int .i64 (p0.Shots.length : Int)) (val_len tt_ok rfl rfl p0N0) rfl ?_
  refine wl_pure (v := .bool (decide (j15_5 < (p0.Shots.length : Int)))) tt_ok rfl rfl ?_
  refine wl_nil ?_
  refine wx_then ?_
  refine wc_cond rfl (fun hc => ?_) (fun hc => ?_)
  · replace h := ct hc h
    refine wc_skip ?_
    refine wx_then ?_
    refine wc_seq ?_
    refine wc_block ?_
    refine wc_seq ?_
    refine wc_quiet (by kernel_rfl) (by kernel_rfl) ?_
    refine wq_pure (v := .pointer (some ⟨b2, 16, none⟩)) tt_ok rfl rfl ?_
    refine wq_val (v := .slice p0a0 p0n0 p0c0) (val_load tt_ok rfl (List.Mem.head _) rfl) rfl ?_
    refine wq_pure tt_ok rfl rfl ?_
    replace h := bsome h; obtain ⟨v62, x62, h⟩ := h
    refine wq_val (v := .pointer (some ((adOf p0a0).add (j15_5.toNat * 6 + 0)))) (val_ix (enc := c_T_api_Shot) tt_ok rfl rfl rfl rfl p0N0 p0S0 c_T_api_Shot_len rfl x62) rfl ?_
    refine wq_val (v := .agg #[.int .i32 v62.X, .int .i32 v62.Y, .int .i32 v62.VX, .int .i32 v62.VY, .int .u8 v62.Owner, .int .u8 v62.Life]) (val_le (enc := c_T_api_Shot) (xs := p0.Shots) tt_ok rfl p0S0 rsub_nil c_T_api_Shot_len x62 rfl) rfl ?_
    refine wq_pure (v := .pointer (some ⟨b3, 16, none⟩)) tt_ok rfl rfl ?_
    refine wq_val (v := .slice p1a0 p1n0 p1c0) (val_load tt_ok rfl (List.Mem.tail _ (List.Mem.head _)) rfl) rfl ?_
    refine wq_pure tt_ok rfl rfl ?_
    replace h := bsome h; obtain ⟨v67, x67, h⟩ := h
    refine wq_val (v := .pointer (some ((adOf p1a0).add (j15_5.toNat * 6 + 0)))) (val_ix (enc := c_T_api_Shot) tt_ok rfl rfl rfl rfl p1N0 p1S0 c_T_api_Shot_len rfl x67) rfl ?_
    refine wq_val (v := .agg #[.int .i32 v67.X, .int .i32 v67.Y, .int .i32 v67.VX, .int .i32 v67.VY, .int .u8 v67.Owner, .int .u8 v67.Life]) (val_le (enc := c_T_api_Shot) (xs := p1.Shots) tt_ok rfl p1S0 rsub_nil c_T_api_Shot_len x67 rfl) rfl ?_
    refine wq_val (v := .bool (!((v62.X == v67.X) && ((v62.Y == v67.Y) && ((v62.VX == v67.VX) && ((v62.VY == v67.VY) && ((v62.Owner == v67.Owner) && (v62.Life == v67.Life)))))))) (val_nes tt_ok tt_eq tt_one Tryd.eqGuardType39 rfl rfl rfl rfl rfl) rfl ?_
    refine wq_nil ?_
    refine wx_then ?_
    refine wc_cond rfl (fun hc => ?_) (fun hc => ?_)
    · replace h := ct hc h
      refine wc_seq ?_
      refine wc_region ?_
      refine wl_pure tt_ok rfl rfl ?_
      refine wl_nil ?_
      refine wx_then ?_
      refine wc_ret ?_
      refine wx_block_ret ?_
      refine wx_then_ret ?_
      obtain rfl := Option.some.inj h
      have h := hl15; clear hl15; try dsimp only [orE_l, orE_r] at h
      refine wx_then_ret ?_
      refine wx_block_ret ?_
      refine wx_then_ret ?_
      simp only [Option.some.injEq] at h
      obtain rfl := h
      exact wx_pf tt_ok (.inl rfl) Tryd.results11 (Res.tmp rfl Res.nil) rfl
    replace h := cf hc h
    refine wc_skip ?_
    refine wx_block ?_
    refine wx_then ?_
    refine wc_region ?_
    refine wl_pure tt_ok rfl rfl ?_
    refine wl_pure (v := .int .i64 (IntKind.wrap .i64 (j15_5 + (1 : Int)))) tt_ok rfl rfl ?_
    refine wl_pure tt_ok rfl rfl ?_
    refine wl_nil ?_
    exact wx_round m15 (Nat.lt_succ_self m15) ⟨(IntKind.wrap .i64 (j15_5 + (1 : Int))), h, rfl, rfl⟩ (agree_cons rfl (agree_cons rfl (agree_cons rfl (agree_cons rfl agree_nil)))) (pSub (pCons Sel.hc (pCons Sel.hc pNil)))
  replace h := cf hc h
  refine wc_exit ?_
  refine wx_then_exit ?_
  obtain rfl := Option.some.inj h
  have h := hl15; clear hl15; try dsimp only [orE_l, orE_r] at h
  refine wx_then_exit ?_
  refine wx_block_exit ?_
  refine wx_then ?_
  refine wc_seq ?_
  refine wc_region ?_
  refine wl_pure tt_ok rfl rfl ?_
  refine wl_nil ?_
  refine wx_then ?_
  refine wc_ret ?_
  simp only [Option.some.injEq] at h
  obtain rfl := h
  exact wx_pf tt_ok (.inl rfl) Tryd.results11 (Res.tmp rfl Res.nil) rfl

theorem k_hindcastlaw09_StepGoes {F : Nat} {p0 : Int} {p1 : (List (Int × Int))} {p1a0 : Option Addr} {p1n0 p1c0 : Nat} {r0 : Bool} (p1N0 : p1n0 = p1.length) (p1H0 : p1n0 ≤ p1c0) (h : m_hindcastlaw09_StepGoes F p0 p1 = some r0) :
    Pf Tryd.prog 4 [.int .u64 p0, .slice p1a0 p1n0 p1c0] (fun w => Rds w [] [] p1a0 (flat (e2 .u8) p1) ∧ Rds w [] [] (some ⟨0, 0, none⟩) (flat (fun _ : Unit => gl_state_playerBounds) [()]) ∧ Rds w [] [] (some ⟨1, 0, none⟩) (flat (fun _ : Unit => gl_state_shotBounds) [()])) (.bool r0) := by
  unfold m_hindcastlaw09_StepGoes at h
  refine pf_of_wc Tryd.func4 rfl Tryd.ntmps4 rfl rfl (fun w0 hR => ?_)
  obtain ⟨p1S0, G0S, G1S⟩ := hR
  refine wc_seq ?_
  refine wc_region ?_
  refine wl_pure tt_ok rfl rfl ?_
  refine wl_nil ?_
  refine wx_then ?_
  refine wc_seq ?_
  refine wc_seq ?_
  refine wc_region ?_
  refine wl_pure tt_ok rfl rfl ?_
  refine wl_val (v := .int .i64 (p1.length : Int)) (val_len tt_ok rfl rfl p1N0) rfl ?_
  refine wl_pure (v := .bool (decide ((300 : Int) < (p1.length : Int)))) tt_ok rfl rfl ?_
  refine wl_nil ?_
  refine wx_then ?_
  refine wc_cond rfl (fun hc => ?_) (fun hc => ?_)
  · replace h := ct hc h
    refine wc_seq ?_
    refine wc_region ?_
    replace h := bsome h; obtain ⟨v11, x11, h⟩ := h
    refine wl_cq Tryd.call8 rfl rfl rfl (q_pf (k_hindcastlaw09_awake x11) (fun w hI => ⟨(Rds.call G0S pNil rsub_nil) w hI, (Rds.call G1S pNil rsub_nil) w hI⟩)) rfl ?_
    refine wl_pure tt_ok rfl rfl ?_
    refine wl_nil ?_
    refine wx_then ?_
    refine wc_ret ?_
    refine wx_then_ret ?_
    simp only [Option.some.injEq] at h
    obtain rfl := h
    exact wx_pf tt_ok (.inl rfl) Tryd.results4 (Res.tmp rfl Res.nil) rfl
  replace h := cf hc h
  refine wc_skip ?_
  refine wx_then ?_
  refine wc_seq ?_
  refine wc_region ?_
  refine wl_pure tt_ok rfl rfl ?_
  replace h := bsome h; obtain ⟨v13, x13, h⟩ := h
  refine wl_cs Tryd.call13 rfl rfl rfl (s_sp (k_hindcastref08_Start x13) pNil (fun _ _ => trivial)) rfl ?_
  rintro _ _ ⟨_, ⟨v13a0, v13n0, v13c0, v13B0, v13N0, v13V0, rfl, rfl⟩, rfl⟩
  refine wl_alloc tt_ok rfl rfl (fun b5 => ?_)
  apply wl_store tt_ok; rfl; exact Upd.here; rfl; rfl; rfl; rfl; rfl; rfl
  refine wl_nil ?_
  refine wx_then ?_
  refine wc_seq ?_
  refine wc_region ?_
  refine wl_pure tt_ok rfl rfl ?_
  replace h := bsome h; obtain ⟨v15, x15, h⟩ := h
  refine wl_cs Tryd.call13 rfl rfl rfl (s_sp (k_hindcastref08_Start x15) pNil (fun _ _ => trivial)) rfl ?_
  rintro _ _ ⟨_, ⟨v15a0, v15n0, v15c0, v15B0, v15N0, v15V0, rfl, rfl⟩, rfl⟩
  refine wl_alloc tt_ok rfl rfl (fun b6 => ?_)
  apply wl_store tt_ok; rfl; exact Upd.here; rfl; rfl; rfl; rfl; rfl; rfl
  refine wl_nil ?_
  refine wx_then ?_
  refine wc_seq ?_
  refine wc_seq ?_
  refine wc_region ?_
  refine wl_pure tt_ok rfl rfl ?_
  refine wl_nil ?_
  refine wx_then ?_
  refine wc_block ?_
  replace h := bsome h; obtain ⟨o19, h, hl19⟩ := h
  refine wc_loop (fun m E L => ∃ (j19_7 : Int) (j19_n5_f0 : Int) (j19_n5_f1 : Int) (j19_n5_f2 : (T_api_Player × T_api_Player)) (j19_n5_f3 : (List T_api_Shot)) (j19_n5_f4 : (Int × Int)) (j19_n6_f0 : Int) (j19_n6_f1 : Int) (j19_n6_f2 : (T_api_Player × T_api_Player)) (j19_n6_f3 : (List T_api_Shot)) (j19_n6_f4 : (Int × Int)) (j19_n5_f3a0 : Option Addr) (j19_n5_f3n0 : Nat) (j19_n5_f3c0 : Nat) (j19_n5_f3B0 : List Blk) (j19_n6_f3a0 : Option Addr) (j19_n6_f3n0 : Nat) (j19_n6_f3c0 : Nat) (j19_n6_f3B0 : List Blk), m_hindcastlaw09_StepGoes_L18 F p1 m j19_7 j19_n5_f0 j19_n5_f1 j19_n5_f2 j19_n5_f3 j19_n5_f4 j19_n6_f0 j19_n6_f1 j19_n6_f2 j19_n6_f3 j19_n6_f4 = some o19 ∧ j19_n5_f3n0 = j19_n5_f3.length ∧ Own 39 6 j19_n5_f3a0 j19_n5_f3n0 j19_n5_f3c0 (flat c_T_api_Shot j19_n5_f3) j19_n5_f3B0 ∧ j19_n6_f3n0 = j19_n6_f3.length ∧ Own 39 6 j19_n6_f3a0 j19_n6_f3n0 j19_n6_f3c0 (flat c_T_api_Shot j19_n6_f3) j19_n6_f3B0 ∧ E = [(1, .slice p1a0 p1n0 p1c0), (4, .bool false), (5, .pointer (some ⟨b5, 0, none⟩)), (6, .pointer (some ⟨b6, 0, none⟩)), (7, .int .i64 j19_7)] ∧ L = (⟨b5, [.int .u64 j19_n5_f0, .int .u64 j19_n5_f1, .int .i32 j19_n5_f2.1.X, .int .i32 j19_n5_f2.1.Y, .int .i32 j19_n5_f2.1.VX, .int .i32 j19_n5_f2.1.VY, .int .u8 j19_n5_f2.1.Health, .int .u8 j19_n5_f2.1.Cool, .int .u8 j19_n5_f2.1.Face, .int .i32 j19_n5_f2.2.X, .int .i32 j19_n5_f2.2.Y, .int .i32 j19_n5_f2.2.VX, .int .i32 j19_n5_f2.2.VY, .int .u8 j19_n5_f2.2.Health, .int .u8 j19_n5_f2.2.Cool, .int .u8 j19_n5_f2.2.Face, .slice j19_n5_f3a0 j19_n5_f3n0 j19_n5_f3c0, .int .u16 j19_n5_f4.1, .int .u16 j19_n5_f4.2], 30, (0, 0)⟩ :: (⟨b6, [.int .u64 j19_n6_f0, .int .u64 j19_n6_f1, .int .i32 j19_n6_f2.1.X, .int .i32 j19_n6_f2.1.Y, .int .i32 j19_n6_f2.1.VX, .int .i32 j19_n6_f2.1.VY, .int .u8 j19_n6_f2.1.Health, .int .u8 j19_n6_f2.1.Cool, .int .u8 j19_n6_f2.1.Face, .int .i32 j19_n6_f2.2.X, .int .i32 j19_n6_f2.2.Y, .int .i32 j19_n6_f2.2.VX, .int .i32 j19_n6_f2.2.VY, .int .u8 j19_n6_f2.2.Health, .int .u8 j19_n6_f2.2.Cool, .int .u8 j19_n6_f2.2.Face, .slice j19_n6_f3a0 j19_n6_f3n0 j19_n6_f3c0, .int .u16 j19_n6_f4.1, .int .u16 j19_n6_f4.2], 30, (0, 0)⟩ :: (j19_n5_f3B0 ++ (j19_n6_f3B0 ++ []))))) F ⟨(0 : Int), v13.Frame, v13.Seed, v13.Players, v13.Shots, v13.Score, v15.Frame, v15.Seed, v15.Players, v15.Shots, v15.Score, v13a0, v13n0, v13c0, v13B0, v15a0, v15n0, v15c0, v15B0, h, v13N0, v13V0, v15N0, v15V0, rfl, rfl⟩ (agree_cons rfl (agree_cons rfl (agree_cons rfl (agree_cons rfl (agree_cons rfl agree_nil))))) (pSub (pCons (Sel.sc (Sel.sa Sel.hc)) (pCons Sel.hc (pApp (Sel.sa Sel.ha) (pApp Sel.ha pNil))))) ?_
  clear h
  rintro m19 _ _ ⟨j19_7, j19_n5_f0, j19_n5_f1, j19_n5_f2, j19_n5_f3, j19_n5_f4, j19_n6_f0, j19_n6_f1, j19_n6_f2, j19_n6_f3, j19_n6_f4, j19_n5_f3a0, j19_n5_f3n0, j19_n5_f3c0, j19_n5_f3B0, j19_n6_f3a0, j19_n6_f3n0, j19_n6_f3c0, j19_n6_f3B0, h, j19_n5_f3N0, j19_n5_f3V0, j19_n6_f3N0, j19_n6_f3V0, rfl, rfl⟩
  rcases m19 with _ | m19
  · rw [m_hindcastlaw09_StepGoes_L18.eq_1] at h; cases h
  rw [m_hindcastlaw09_StepGoes_L18.eq_2] at h
  refine wc_seq ?_
  refine wc_seq ?_
  refine wc_region ?_
  refine wl_pure tt_ok rfl rfl ?_
  refine wl_pure tt_ok rfl rfl ?_
  refine wl_val (v := .int .i64 (p1.length : Int)) (val_len tt_ok rfl rfl p1N0) rfl ?_
  refine wl_pure (v := .bool (decide (j19_7 < (p1.length : Int)))) tt_ok rfl rfl ?_
  refine wl_nil ?_
  refine wx_then ?_
  refine wc_cond rfl (fun hc => ?_) (fun hc => ?_)
  · replace h := ct hc h
    refine wc_skip ?_
    refine wx_then ?_
    refine wc_seq ?_
    refine wc_block ?_
    refine wc_seq ?_
    refine wc_k2 (Ls := (⟨b5, [.int .u64 j19_n5_f0, .int .u64 j19_n5_f1, .int .i32 j19_n5_f2.1.X, .int .i32 j19_n5_f2.1.Y, .int .i32 j19_n5_f2.1.VX, .int .i32 j19_n5_f2.1.VY, .int .u8 j19_n5_f2.1.Health, .int .u8 j19_n5_f2.1.Cool, .int .u8 j19_n5_f2.1.Face, .int .i32 j19_n5_f2.2.X, .int .i32 j19_n5_f2.2.Y, .int .i32 j19_n5_f2.2.VX, .int .i32 j19_n5_f2.2.VY, .int .u8 j19_n5_f2.2.Health, .int .u8 j19_n5_f2.2.Cool, .int .u8 j19_n5_f2.2.Face, .slice j19_n5_f3a0 j19_n5_f3n0 j19_n5_f3c0, .int .u16 j19_n5_f4.1, .int .u16 j19_n5_f4.2], 30, (0, 0)⟩ :: (⟨b6, [.int .u64 j19_n6_f0, .int .u64 j19_n6_f1, .int .i32 j19_n6_f2.1.X, .int .i32 j19_n6_f2.1.Y, .int .i32 j19_n6_f2.1.VX, .int .i32 j19_n6_f2.1.VY, .int .u8 j19_n6_f2.1.Health, .int .u8 j19_n6_f2.1.Cool, .int .u8 j19_n6_f2.1.Face, .int .i32 j19_n6_f2.2.X, .int .i32 j19_n6_f2.2.Y, .int .i32 j19_n6_f2.2.VX, .int .i32 j19_n6_f2.2.VY, .int .u8 j19_n6_f2.2.Health, .int .u8 j19_n6_f2.2.Cool, .int .u8 j19_n6_f2.2.Face, .slice j19_n6_f3a0 j19_n6_f3n0 j19_n6_f3c0, .int .u16 j19_n6_f4.1, .int .u16 j19_n6_f4.2], 30, (0, 0)⟩ :: (j19_n5_f3B0 ++ (j19_n6_f3B0 ++ []))))) [5, 6] [5, 6] [0, 0, 0, 6, 14, 31, 63] [0, 1, 2, 3, 4, 5, 6] (by kernel_rfl) (by kernel_rfl) (by kernel_rfl) ?_
    refine k_val (v := .agg #[.int .u64 j19_n5_f0, .int .u64 j19_n5_f1, .int .i32 j19_n5_f2.1.X, .int .i32 j19_n5_f2.1.Y, .int .i32 j19_n5_f2.1.VX, .int .i32 j19_n5_f2.1.VY, .int .u8 j19_n5_f2.1.Health, .int .u8 j19_n5_f2.1.Cool, .int .u8 j19_n5_f2.1.Face, .int .i32 j19_n5_f2.2.X, .int .i32 j19_n5_f2.2.Y, .int .i32 j19_n5_f2.2.VX, .int .i32 j19_n5_f2.2.VY, .int .u8 j19_n5_f2.2.Health, .int .u8 j19_n5_f2.2.Cool, .int .u8 j19_n5_f2.2.Face, .slice j19_n5_f3a0 j19_n5_f3n0 j19_n5_f3c0, .int .u16 j19_n5_f4.1, .int .u16 j19_n5_f4.2]) rfl rfl rfl (pSub (pCons Sel.hc (pCons Sel.hc (pApp Sel.ha (pApp Sel.ha pNil))))) (val_load tt_ok rfl (List.Mem.head _) rfl) rfl ?_
    refine k_val rfl rfl rfl (pSub (pCons Sel.hc (pCons Sel.hc (pApp Sel.ha (pApp Sel.ha pNil))))) (stepV_ok tt_ok rfl) rfl ?_
    refine k_val rfl rfl rfl (pSub (pCons Sel.hc (pCons Sel.hc (pApp Sel.ha (pApp Sel.ha pNil))))) (stepV_ok tt_ok rfl) rfl ?_
    replace h := bsome h; obtain ⟨v25, x25, h⟩ := h
    refine k_val (v := .pointer (some ((adOf p1a0).add (j19_7.toNat * 2 + 0)))) rfl rfl rfl (pSub (pCons Sel.hc (pCons Sel.hc (pApp Sel.ha (pApp Sel.ha pNil))))) (val_ix (enc := (e2 .u8)) tt_ok rfl rfl rfl rfl p1N0 p1S0 (e2_len _) rfl x25) rfl ?_
    refine k_val (v := .agg #[.int .u8 v25.1, .int .u8 v25.2]) rfl rfl rfl (pSub (pCons Sel.hc (pCons Sel.hc (pApp Sel.ha (pApp Sel.ha pNil))))) (val_le (enc := (e2 .u8)) (xs := p1) tt_ok rfl p1S0 rsub_nil (e2_len _) x25 rfl) rfl ?_
    replace h := bsome h; obtain ⟨v27, x27, h⟩ := h
    refine k_cs rfl rfl rfl Tryd.call10 rfl rfl rfl (s_sp (k_step_Step (p0 := (T_api_State.mk j19_n5_f0 j19_n5_f1 j19_n5_f2 j19_n5_f3 j19_n5_f4)) j19_n5_f3N0 (vec_cap j19_n5_f3V0) x27) pNil (fun w hI => ⟨(Rds.call (Rds.of_vec j19_n5_f3V0) pNil ⟨_, (Sel.sc (Sel.sc Sel.ha))⟩) w hI, (Rds.call G0S pNil rsub_nil) w hI, (Rds.call G1S pNil rsub_nil) w hI⟩)) rfl (.inl rfl) ?_
    rintro _ _ ⟨_, ⟨v27a0, v27n0, v27c0, v27B0, v27N0, v27V0, rfl, rfl⟩, rfl⟩
    refine k_chg0 rfl rfl rfl (chg_store tt_ok rfl (Upd.right Upd.here) rfl rfl rfl rfl rfl rfl) (.inl rfl) ?_
    rintro _ _ rfl
    refine k_end (by kernel_rfl) ?_
    refine wx_then ?_
    refine wc_seq ?_
    refine wc_k2 (Ls := (v27B0 ++ (⟨b5, [.int .u64 v27.Frame, .int .u64 v27.Seed, .int .i32 v27.Players.1.X, .int .i32 v27.Players.1.Y, .int .i32 v27.Players.1.VX, .int .i32 v27.Players.1.VY, .int .u8 v27.Players.1.Health, .int .u8 v27.Players.1.Cool, .int .u8 v27.Players.1.Face, .int .i32 v27.Players.2.X, .int .i32 v27.Players.2.Y, .int .i32 v27.Players.2.VX, .int .i32 v27.Players.2.VY, .int .u8 v27.Players.2.Health, .int .u8 v27.Players.2.Cool, .int .u8 v27.Players.2.Face, .slice v27a0 v27n0 v27c0, .int .u16 v27.Score.1, .int .u16 v27.Score.2], 30, (0, 0)⟩ :: (⟨b6, [.int .u64 j19_n6_f0, .int .u64 j19_n6_f1, .int .i32 j19_n6_f2.1.X, .int .i32 j19_n6_f2.1.Y, .int .i32 j19_n6_f2.1.VX, .int .i32 j19_n6_f2.1.VY, .int .u8 j19_n6_f2.1.Health, .int .u8 j19_n6_f2.1.Cool, .int .u8 j19_n6_f2.1.Face, .int .i32 j19_n6_f2.2.X, .int .i32 j19_n6_f2.2.Y, .int .i32 j19_n6_f2.2.VX, .int .i32 j19_n6_f2.2.VY, .int .u8 j19_n6_f2.2.Health, .int .u8 j19_n6_f2.2.Cool, .int .u8 j19_n6_f2.2.Face, .slice j19_n6_f3a0 j19_n6_f3n0 j19_n6_f3c0, .int .u16 j19_n6_f4.1, .int .u16 j19_n6_f4.2], 30, (0, 0)⟩ :: (j19_n5_f3B0 ++ (j19_n6_f3B0 ++ [])))))) [5, 6] [5, 6] [0, 0, 0, 6, 14, 31, 63] [0, 1, 2, 3, 4, 5, 6] (by kernel_rfl) (by kernel_rfl) (by kernel_rfl) ?_
    refine k_val (v := .agg #[.int .u64 j19_n6_f0, .int .u64 j19_n6_f1, .int .i32 j19_n6_f2.1.X, .int .i32 j19_n6_f2.1.Y, .int .i32 j19_n6_f2.1.VX, .int .i32 j19_n6_f2.1.VY, .int .u8 j19_n6_f2.1.Health, .int .u8 j19_n6_f2.1.Cool, .int .u8 j19_n6_f2.1.Face, .int .i32 j19_n6_f2.2.X, .int .i32 j19_n6_f2.2.Y, .int .i32 j19_n6_f2.2.VX, .int .i32 j19_n6_f2.2.VY, .int .u8 j19_n6_f2.2.Health, .int .u8 j19_n6_f2.2.Cool, .int .u8 j19_n6_f2.2.Face, .slice j19_n6_f3a0 j19_n6_f3n0 j19_n6_f3c0, .int .u16 j19_n6_f4.1, .int .u16 j19_n6_f4.2]) rfl rfl rfl (pSub (pApp Sel.ha (pCons Sel.hc (pCons Sel.hc (pApp Sel.ha (pApp Sel.ha pNil)))))) (val_load tt_ok rfl (mR (List.Mem.tail _ (List.Mem.head _))) rfl) rfl ?_
    refine k_val rfl rfl rfl (pSub (pApp Sel.ha (pCons Sel.hc (pCons Sel.hc (pApp Sel.ha (pApp Sel.ha pNil)))))) (stepV_ok tt_ok rfl) rfl ?_
    refine k_val rfl rfl rfl (pSub (pApp Sel.ha (pCons Sel.hc (pCons Sel.hc (pApp Sel.ha (pApp Sel.ha pNil)))))) (stepV_ok tt_ok rfl) rfl ?_
    replace h := bsome h; obtain ⟨v31, x31, h⟩ := h
    refine k_val (v := .pointer (some ((adOf p1a0).add (j19_7.toNat * 2 + 0)))) rfl rfl rfl (pSub (pApp Sel.ha (pCons Sel.hc (pCons Sel.hc (pApp Sel.ha (pApp Sel.ha pNil)))))) (val_ix (enc := (e2 .u8)) tt_ok rfl rfl rfl rfl p1N0 p1S0 (e2_len _) rfl x31) rfl ?_
    refine k_val (v := .agg #[.int .u8 v31.1, .int .u8 v31.2]) rfl rfl rfl (pSub (pApp Sel.ha (pCons Sel.hc (pCons Sel.hc (pApp Sel.ha (pApp Sel.ha pNil)))))) (val_le (enc := (e2 .u8)) (xs := p1) tt_ok rfl p1S0 rsub_nil (e2_len _) x31 rfl) rfl ?_
    replace h := bsome h; obtain ⟨v33, x33, h⟩ := h
    refine k_cs rfl rfl rfl Tryd.call12 rfl rfl rfl (s_sp (k_hindcastref09_Step (p0 := (T_api_State.mk j19_n6_f0 j19_n6_f1 j19_n6_f2 j19_n6_f3 j19_n6_f4)) j19_n6_f3N0 (vec_cap j19_n6_f3V0) x33) pNil (Rds.call (Rds.of_vec j19_n6_f3V0) pNil ⟨_, (Sel.sa (Sel.sc (Sel.sc (Sel.sa Sel.ha))))⟩)) rfl (.inl rfl) ?_
    rintro _ _ ⟨_, ⟨v33a0, v33n0, v33c0, v33B0, v33N0, v33V0, rfl, rfl⟩, rfl⟩
    refine k_chg0 rfl rfl rfl (chg_store tt_ok rfl (Upd.right (Upd.right (Upd.there Upd.here))) rfl rfl rfl rfl rfl rfl) (.inl rfl) ?_
    rintro _ _ rfl
    refine k_end (by kernel_rfl) ?_
    refine wx_then ?_
    refine wc_seq ?_
    refine wc_region ?_
    refine wl_val (v := .agg #[.int .u64 v27.Frame, .int .u64 v27.Seed, .int .i32 v27.Players.1.X, .int .i32 v27.Players.1.Y, .int .i32 v27.Players.1.VX, .int .i32 v27.Players.1.VY, .int .u8 v27.Players.1.Health, .int .u8 v27.Players.1.Cool, .int .u8 v27.Players.1.Face, .int .i32 v27.Players.2.X, .int .i32 v27.Players.2.Y, .int .i32 v27.Players.2.VX, .int .i32 v27.Players.2.VY, .int .u8 v27.Players.2.Health, .int .u8 v27.Players.2.Cool, .int .u8 v27.Players.2.Face, .slice v27a0 v27n0 v27c0, .int .u16 v27.Score.1, .int .u16 v27.Score.2]) (val_load tt_ok rfl (mR (mR (List.Mem.head _))) rfl) rfl ?_
    refine wl_val (v := .agg #[.int .u64 v33.Frame, .int .u64 v33.Seed, .int .i32 v33.Players.1.X, .int .i32 v33.Players.1.Y, .int .i32 v33.Players.1.VX, .int .i32 v33.Players.1.VY, .int .u8 v33.Players.1.Health, .int .u8 v33.Players.1.Cool, .int .u8 v33.Players.1.Face, .int .i32 v33.Players.2.X, .int .i32 v33.Players.2.Y, .int .i32 v33.Players.2.VX, .int .i32 v33.Players.2.VY, .int .u8 v33.Players.2.Health, .int .u8 v33.Players.2.Cool, .int .u8 v33.Players.2.Face, .slice v33a0 v33n0 v33c0, .int .u16 v33.Score.1, .int .u16 v33.Score.2]) (val_load tt_ok rfl (mR (mR (List.Mem.tail _ (List.Mem.head _)))) rfl) rfl ?_
    replace h := bsome h; obtain ⟨v36, x36, h⟩ := h
    refine wl_cq Tryd.call11 rfl rfl rfl (q_pf (k_hindcastref08_Same (p0 := v27) (p1 := v33) v27N0 (vec_cap v27V0) v33N0 (vec_cap v33V0) x36) (fun w hI => ⟨(Rds.call (Rds.of_vec v27V0) pNil ⟨_, (Sel.sa Sel.ha)⟩) w hI, (Rds.call (Rds.of_vec v33V0) pNil ⟨_, Sel.ha⟩) w hI⟩)) rfl ?_
    refine wl_pure (v := .bool (!v36)) tt_ok rfl rfl ?_
    refine wl_nil ?_
    refine wx_then ?_
    refine wc_cond rfl (fun hc => ?_) (fun hc => ?_)
    · replace h := ct hc h
      refine wc_seq ?_
      refine wc_region ?_
      refine wl_pure tt_ok rfl rfl ?_
      refine wl_nil ?_
      refine wx_then ?_
      refine wc_ret ?_
      refine wx_block_ret ?_
      refine wx_then_ret ?_
      obtain rfl := Option.some.inj h
      have h := hl19; clear hl19; try dsimp only [orE_l, orE_r] at h
      refine wx_then_ret ?_
      refine wx_block_ret ?_
      refine wx_then_ret ?_
      simp only [Option.some.injEq] at h
      obtain rfl := h
      exact wx_pf tt_ok (.inl rfl) Tryd.results4 (Res.tmp rfl Res.nil) rfl
    replace h := cf hc h
    refine wc_skip ?_
    refine wx_block ?_
    refine wx_then ?_
    refine wc_region ?_
    refine wl_pure tt_ok rfl rfl ?_
    refine wl_pure (v := .int .i64 (IntKind.wrap .i64 (j19_7 + (1 : Int)))) tt_ok rfl rfl ?_
    refine wl_pure tt_ok rfl rfl ?_
    refine wl_nil ?_
    exact wx_round m19 (Nat.lt_succ_self m19) ⟨(IntKind.wrap .i64 (j19_7 + (1 : Int))), v27.Frame, v27.Seed, v27.Players, v27.Shots, v27.Score, v33.Frame, v33.Seed, v33.Players, v33.Shots, v33.Score, v27a0, v27n0, v27c0, v27B0, v33a0, v33n0, v33c0, v33B0, h, v27N0, v27V0, v33N0, v33V0, rfl, rfl⟩ (agree_cons rfl (agree_cons rfl (agree_cons rfl (agree_cons rfl (agree_cons rfl agree_nil))))) (pSub (pCons (Sel.sa (Sel.sa Sel.hc)) (pCons (Sel.sa (Sel.sa Sel.hc)) (pApp (Sel.sa Sel.ha) (pApp Sel.ha pNil)))))
  replace h := cf hc h
  refine wc_exit ?_
  refine wx_then_exit ?_
  obtain rfl := Option.some.inj h
  have h := hl19; clear hl19; try dsimp only [orE_l, orE_r] at h
  refine wx_then_exit ?_
  refine wx_block_exit ?_
  refine wx_then ?_
  refine wc_seq ?_
  refine wc_region ?_
  replace h := bsome h; obtain ⟨v38, x38, h⟩ := h
  refine wl_cq Tryd.call8 rfl rfl rfl (q_pf (k_hindcastlaw09_awake x38) (fun w hI => ⟨(Rds.call G0S pNil rsub_nil) w hI, (Rds.call G1S pNil rsub_nil) w hI⟩)) rfl ?_
  refine wl_pure tt_ok rfl rfl ?_
  refine wl_nil ?_
  refine wx_then ?_
  refine wc_ret ?_
  simp only [Option.some.injEq] at h
  obtain rfl := h
  exact wx_pf tt_ok (.inl rfl) Tryd.results4 (Res.tmp rfl Res.nil) rfl

end Go.Proofs.YtgbhpchaalheeaaDoor
