/-
  Each function computes what its model says. Printed by a program of this claim's own.
-/
import Derived.Test.YtkdbpenjkcjimaaDoorTab
import Derived.Test.YtkdbpenjkcjimaaDoorMod
import Derived.Test.YtkdbpenjkcjimaaDoorWalk1
namespace Go.Proofs.YtkdbpenjkcjimaaDoor
open Go.Proofs.YtkdbpenjkcjimaaDoor.Eng
set_option linter.unusedVariables false
set_option linter.unusedSimpArgs false
set_option maxHeartbeats 4000000
set_option maxRecDepth 20000

theorem k_geom_row_inside {F : Nat} {p0 : T_geom_row} {p1 : T_geom_row} {r0 : Bool} (h : m_geom_row_inside F p0 p1 = some r0) :
    Pf Tryd.prog 83 [.agg #[.int .i64 p0.from_, .int .i64 p0.to_], .agg #[.int .i64 p1.from_, .int .i64 p1.to_]] (fun w => True) (.bool r0) := by
  unfold m_geom_row_inside at h
  refine pf_of_wc Tryd.func83 rfl Tryd.ntmps83 rfl rfl (fun w0 hR => ?_)
  refine wc_seq (wc_region ?_)
  refine wl_box rfl rfl rfl (fun b2 => ?_)
  refine wl_box rfl rfl rfl (fun b3 => ?_)
  refine wl_pure tt_ok rfl rfl ?_
  refine wl_nil (wx_then (wc_seq (wc_region ?_)))
  refine wl_pure (v := .pointer (some ⟨b2, 0, none⟩)) tt_ok rfl rfl ?_
  refine wl_val (v := .int .i64 p0.from_) (val_load tt_ok rfl (List.Mem.tail _ (List.Mem.head _)) rfl) rfl ?_
  refine wl_pure (v := .pointer (some ⟨b2, 1, none⟩)) tt_ok rfl rfl ?_
  refine wl_val (v := .int .i64 p0.to_) (val_load tt_ok rfl (List.Mem.tail _ (List.Mem.head _)) rfl) rfl ?_
  refine wl_pure (v := .bool (decide (p0.from_ < p0.to_))) tt_ok rfl rfl ?_
  refine wl_pure tt_ok rfl rfl ?_
  replace h := bsome h; obtain ⟨v16, h, hg16⟩ := h
  refine wl_split (t := 10) rfl (fun hc => ?_) (fun hc => ?_)
  · replace h := ct hc h
    refine wl_run rfl ?_
    refine wl_pure (v := .pointer (some ⟨b2, 0, none⟩)) tt_ok rfl rfl ?_
    refine wl_run rfl ?_
    refine wl_val (v := .int .i64 p0.from_) (val_load tt_ok rfl (List.Mem.tail _ (List.Mem.head _)) rfl) rfl ?_
    refine wl_run rfl ?_
    refine wl_pure (v := .pointer (some ⟨b3, 0, none⟩)) tt_ok rfl rfl ?_
    refine wl_run rfl ?_
    refine wl_val (v := .int .i64 p1.from_) (val_load tt_ok rfl (List.Mem.head _) rfl) rfl ?_
    refine wl_run rfl ?_
    refine wl_pure (v := .bool (decide (p1.from_ ≤ p0.from_))) tt_ok rfl rfl ?_
    simp only [Option.some.injEq, Prod.mk.injEq] at h
    obtain rfl := h
    have h := hg16; clear hg16
    refine wl_pure (v := .bool (decide (p1.from_ ≤ p0.from_))) tt_ok rfl rfl ?_
    refine wl_pure tt_ok rfl rfl ?_
    replace h := bsome h; obtain ⟨v23, h, hg23⟩ := h
    refine wl_split (t := 17) rfl (fun hc => ?_) (fun hc => ?_)
    · replace h := ct hc h
      refine wl_run rfl ?_
      refine wl_pure (v := .pointer (some ⟨b2, 1, none⟩)) tt_ok rfl rfl ?_
      refine wl_run rfl ?_
      refine wl_val (v := .int .i64 p0.to_) (val_load tt_ok rfl (List.Mem.tail _ (List.Mem.head _)) rfl) rfl ?_
      refine wl_run rfl ?_
      refine wl_pure (v := .pointer (some ⟨b3, 1, none⟩)) tt_ok rfl rfl ?_
      refine wl_run rfl ?_
      refine wl_val (v := .int .i64 p1.to_) (val_load tt_ok rfl (List.Mem.head _) rfl) rfl ?_
      refine wl_run rfl ?_
      refine wl_pure (v := .bool (decide (p0.to_ ≤ p1.to_))) tt_ok rfl rfl ?_
      simp only [Option.some.injEq, Prod.mk.injEq] at h
      obtain rfl := h
      have h := hg23; clear hg23
      refine wl_pure (v := .bool (decide (p0.to_ ≤ p1.to_))) tt_ok rfl rfl ?_
      refine wl_pure tt_ok rfl rfl ?_
      refine wl_nil (wx_then (wc_ret ?_))
      simp only [Option.some.injEq] at h
      obtain rfl := h
      exact wx_pf tt_ok (.inl rfl) Tryd.results83 (Res.tmp rfl Res.nil) rfl
    replace h := cf hc h
    refine wl_skip rfl rfl ?_
    refine wl_skip rfl rfl ?_
    refine wl_skip rfl rfl ?_
    refine wl_skip rfl rfl ?_
    refine wl_skip rfl rfl ?_
    simp only [Option.some.injEq, Prod.mk.injEq] at h
    obtain rfl := h
    have h := hg23; clear hg23
    refine wl_pure (v := .bool false) tt_ok rfl rfl ?_
    refine wl_pure tt_ok rfl rfl ?_
    refine wl_nil (wx_then (wc_ret ?_))
    simp only [Option.some.injEq] at h
    obtain rfl := h
    exact wx_pf tt_ok (.inl rfl) Tryd.results83 (Res.tmp rfl Res.nil) rfl
  replace h := cf hc h
  refine wl_skip rfl rfl ?_
  refine wl_skip rfl rfl ?_
  refine wl_skip rfl rfl ?_
  refine wl_skip rfl rfl ?_
  refine wl_skip rfl rfl ?_
  simp only [Option.some.injEq, Prod.mk.injEq] at h
  obtain rfl := h
  have h := hg16; clear hg16
  refine wl_pure (v := .bool false) tt_ok rfl rfl ?_
  refine wl_pure tt_ok rfl rfl ?_
  replace h := bsome h; obtain ⟨v23, h, hg23⟩ := h
  replace h := cf rfl h
  refine wl_skip rfl rfl ?_
  refine wl_skip rfl rfl ?_
  refine wl_skip rfl rfl ?_
  refine wl_skip rfl rfl ?_
  refine wl_skip rfl rfl ?_
  simp only [Option.some.injEq, Prod.mk.injEq] at h
  obtain rfl := h
  have h := hg23; clear hg23
  refine wl_pure (v := .bool false) tt_ok rfl rfl ?_
  refine wl_pure tt_ok rfl rfl ?_
  refine wl_nil (wx_then (wc_ret ?_))
  simp only [Option.some.injEq] at h
  obtain rfl := h
  exact wx_pf tt_ok (.inl rfl) Tryd.results83 (Res.tmp rfl Res.nil) rfl

theorem k_geom_both_f2_geom_row_inside {F : Nat} {p0 : T_api_Box} {p1 : T_api_Box} {r0 : Bool} (h : m_geom_both_f2_geom_row_inside F p0 p1 = some r0) :
    Pf Tryd.prog 75 [.agg #[.int .i32 p0.X, .int .i32 p0.Y, .int .i32 p0.W, .int .i32 p0.H], .agg #[.int .i32 p1.X, .int .i32 p1.Y, .int .i32 p1.W, .int .i32 p1.H], .func (.func 83) #[] #[]] (fun w => True) (.bool r0) := by
  unfold m_geom_both_f2_geom_row_inside at h
  refine pf_of_wc Tryd.func75 rfl Tryd.ntmps75 rfl rfl (fun w0 hR => ?_)
  refine wc_seq (wc_region ?_)
  refine wl_box rfl rfl rfl (fun b3 => ?_)
  refine wl_box rfl rfl rfl (fun b4 => ?_)
  refine wl_pure tt_ok rfl rfl ?_
  refine wl_nil (wx_then (wc_seq (wc_region ?_)))
  refine wl_val (v := .agg #[.int .i32 p0.X, .int .i32 p0.Y, .int .i32 p0.W, .int .i32 p0.H]) (val_load tt_ok rfl (List.Mem.tail _ (List.Mem.head _)) rfl) rfl ?_
  replace h := bsome h; obtain ⟨⟨v13_0, v13_1⟩, x13, h⟩ := h; try dsimp only at h
  refine wl_cq Tryd.call82 rfl rfl rfl (q_pf (k_geom_rows x13) (fun _ _ => trivial)) rfl ?_
  iterate 3 refine wl_pure tt_ok rfl rfl ?_
  refine wl_alloc tt_ok rfl rfl (fun b7 => ?_)
  refine wl_alloc tt_ok rfl rfl (fun b8 => ?_)
  apply wl_store tt_ok; rfl; exact (Upd.there Upd.here); rfl; rfl; rfl; rfl; rfl; rfl
  apply wl_store tt_ok; rfl; exact Upd.here; rfl; rfl; rfl; rfl; rfl; rfl
  refine wl_nil (wx_then (wc_seq (wc_region ?_)))
  refine wl_val (v := .agg #[.int .i32 p1.X, .int .i32 p1.Y, .int .i32 p1.W, .int .i32 p1.H]) (val_load tt_ok rfl (List.Mem.tail _ (List.Mem.tail _ (List.Mem.head _))) rfl) rfl ?_
  replace h := bsome h; obtain ⟨⟨v18_0, v18_1⟩, x18, h⟩ := h; try dsimp only at h
  refine wl_cq Tryd.call82 rfl rfl rfl (q_pf (k_geom_rows x18) (fun _ _ => trivial)) rfl ?_
  iterate 3 refine wl_pure tt_ok rfl rfl ?_
  refine wl_alloc tt_ok rfl rfl (fun b9 => ?_)
  refine wl_alloc tt_ok rfl rfl (fun b10 => ?_)
  apply wl_store tt_ok; rfl; exact (Upd.there Upd.here); rfl; rfl; rfl; rfl; rfl; rfl
  apply wl_store tt_ok; rfl; exact Upd.here; rfl; rfl; rfl; rfl; rfl; rfl
  refine wl_nil (wx_then (wc_seq (wc_region ?_)))
  refine wl_pure tt_ok rfl rfl ?_
  refine wl_val (v := .agg #[.int .i64 v13_0.from_, .int .i64 v13_0.to_]) (val_load tt_ok rfl (List.Mem.tail _ (List.Mem.tail _ (List.Mem.tail _ (List.Mem.head _)))) rfl) rfl ?_
  refine wl_val (v := .agg #[.int .i64 v18_0.from_, .int .i64 v18_0.to_]) (val_load tt_ok rfl (List.Mem.tail _ (List.Mem.head _)) rfl) rfl ?_
  replace h := bsome h; obtain ⟨v24, x24, h⟩ := h
  refine wl_cq Tryd.call83 rfl rfl rfl (q_pf (k_geom_row_inside x24) (fun _ _ => trivial)) rfl ?_
  refine wl_pure tt_ok rfl rfl ?_
  replace h := bsome h; obtain ⟨v30, h, hg30⟩ := h
  refine wl_split (t := 25) rfl (fun hc => ?_) (fun hc => ?_)
  · replace h := ct hc h
    refine wl_run rfl ?_
    refine wl_pure tt_ok rfl rfl ?_
    refine wl_run rfl ?_
    refine wl_val (v := .agg #[.int .i64 v13_1.from_, .int .i64 v13_1.to_]) (val_load tt_ok rfl (List.Mem.tail _ (List.Mem.tail _ (List.Mem.head _))) rfl) rfl ?_
    refine wl_run rfl ?_
    refine wl_val (v := .agg #[.int .i64 v18_1.from_, .int .i64 v18_1.to_]) (val_load tt_ok rfl (List.Mem.head _) rfl) rfl ?_
    replace h := bsome h; obtain ⟨v29, x29, h⟩ := h
    refine wl_run rfl ?_
    refine wl_cq Tryd.call83 rfl rfl rfl (q_pf (k_geom_row_inside x29) (fun _ _ => trivial)) rfl ?_
    simp only [Option.some.injEq, Prod.mk.injEq] at h
    obtain rfl := h
    have h := hg30; clear hg30
    refine wl_pure (v := .bool v29) tt_ok rfl rfl ?_
    refine wl_pure tt_ok rfl rfl ?_
    refine wl_nil (wx_then (wc_ret ?_))
    simp only [Option.some.injEq] at h
    obtain rfl := h
    exact wx_pf tt_ok (.inl rfl) Tryd.results75 (Res.tmp rfl Res.nil) rfl
  replace h := cf hc h
  refine wl_skip rfl rfl ?_
  refine wl_skip rfl rfl ?_
  refine wl_skip rfl rfl ?_
  refine wl_skip rfl rfl ?_
  simp only [Option.some.injEq, Prod.mk.injEq] at h
  obtain rfl := h
  have h := hg30; clear hg30
  refine wl_pure (v := .bool false) tt_ok rfl rfl ?_
  refine wl_pure tt_ok rfl rfl ?_
  refine wl_nil (wx_then (wc_ret ?_))
  simp only [Option.some.injEq] at h
  obtain rfl := h
  exact wx_pf tt_ok (.inl rfl) Tryd.results75 (Res.tmp rfl Res.nil) rfl

theorem k_geom_Inside {F : Nat} {p0 : T_api_Box} {p1 : T_api_Box} {r0 : Bool} (h : m_geom_Inside F p0 p1 = some r0) :
    Pf Tryd.prog 77 [.agg #[.int .i32 p0.X, .int .i32 p0.Y, .int .i32 p0.W, .int .i32 p0.H], .agg #[.int .i32 p1.X, .int .i32 p1.Y, .int .i32 p1.W, .int .i32 p1.H]] (fun w => True) (.bool r0) := by
  unfold m_geom_Inside at h
  refine pf_of_wc Tryd.func77 rfl Tryd.ntmps77 rfl rfl (fun w0 hR => ?_)
  refine wc_seq (wc_region ?_)
  refine wl_box rfl rfl rfl (fun b2 => ?_)
  refine wl_box rfl rfl rfl (fun b3 => ?_)
  refine wl_pure tt_ok rfl rfl ?_
  refine wl_nil (wx_then (wc_seq (wc_region ?_)))
  refine wl_val (v := .agg #[.int .i32 p0.X, .int .i32 p0.Y, .int .i32 p0.W, .int .i32 p0.H]) (val_load tt_ok rfl (List.Mem.tail _ (List.Mem.head _)) rfl) rfl ?_
  refine wl_val (v := .agg #[.int .i32 p1.X, .int .i32 p1.Y, .int .i32 p1.W, .int .i32 p1.H]) (val_load tt_ok rfl (List.Mem.head _) rfl) rfl ?_
  replace h := bsome h; obtain ⟨v7, x7, h⟩ := h
  refine wl_cq Tryd.call75 rfl rfl rfl (q_pf (k_geom_both_f2_geom_row_inside x7) (fun _ _ => trivial)) rfl ?_
  refine wl_pure tt_ok rfl rfl ?_
  refine wl_nil (wx_then (wc_ret ?_))
  simp only [Option.some.injEq] at h
  obtain rfl := h
  exact wx_pf tt_ok (.inl rfl) Tryd.results77 (Res.tmp rfl Res.nil) rfl

theorem k_step_fly {F : Nat} {p0 : T_api_State} {p0b p0t : Nat} {p0a0 : Option Addr} {p0n0 : Nat} {p0c0 : Nat} {p0B0 : List Blk} {r0 : T_api_State} (p0N0 : p0n0 = p0.Shots.length) (p0V0 : Own 92 6 p0a0 p0n0 p0c0 (flat c_T_api_Shot p0.Shots) p0B0) (h : m_step_fly F p0 = some r0) :
    SpD Tryd.prog 58 [.pointer (some ⟨p0b, 0, none⟩)] (⟨p0b, [.int .u64 p0.Frame, .int .u64 p0.Seed, .int .i32 p0.Players.1.X, .int .i32 p0.Players.1.Y, .int .i32 p0.Players.1.VX, .int .i32 p0.Players.1.VY, .int .u8 p0.Players.1.Health, .int .u8 p0.Players.1.Cool, .int .u8 p0.Players.1.Face, .int .i32 p0.Players.2.X, .int .i32 p0.Players.2.Y, .int .i32 p0.Players.2.VX, .int .i32 p0.Players.2.VY, .int .u8 p0.Players.2.Health, .int .u8 p0.Players.2.Cool, .int .u8 p0.Players.2.Face, .slice p0a0 p0n0 p0c0, .int .u16 p0.Score.1, .int .u16 p0.Score.2], p0t, (0, 0)⟩ :: (p0B0 ++ [])) (fun w => True) (fun v D => ∃ (r0a0 : Option Addr) (r0n0 : Nat) (r0c0 : Nat) (r0B0 : List Blk), r0n0 = r0.Shots.length ∧ Own 92 6 r0a0 r0n0 r0c0 (flat c_T_api_Shot r0.Shots) r0B0 ∧ v = .tuple #[] ∧ D = fun F => (⟨p0b, [.int .u64 r0.Frame, .int .u64 r0.Seed, .int .i32 r0.Players.1.X, .int .i32 r0.Players.1.Y, .int .i32 r0.Players.1.VX, .int .i32 r0.Players.1.VY, .int .u8 r0.Players.1.Health, .int .u8 r0.Players.1.Cool, .int .u8 r0.Players.1.Face, .int .i32 r0.Players.2.X, .int .i32 r0.Players.2.Y, .int .i32 r0.Players.2.VX, .int .i32 r0.Players.2.VY, .int .u8 r0.Players.2.Health, .int .u8 r0.Players.2.Cool, .int .u8 r0.Players.2.Face, .slice r0a0 r0n0 r0c0, .int .u16 r0.Score.1, .int .u16 r0.Score.2], p0t, (0, 0)⟩ :: (r0B0 ++ F))) := by
  unfold m_step_fly at h
  refine sp_of_wc Tryd.func58 rfl Tryd.ntmps58 rfl rfl (fun w0 hR => ?_)
  refine wc_seq (wc_region ?_)
  refine wl_pure (v := .agg #[.int .i32 (0 : Int), .int .i32 (0 : Int), .int .i32 (65536 : Int), .int .i32 (32768 : Int)]) tt_ok rfl rfl ?_
  refine wl_alloc tt_ok rfl rfl (fun b2 => ?_)
  apply wl_store tt_ok; rfl; exact Upd.here; rfl; rfl; rfl; rfl; rfl; rfl
  refine wl_nil (wx_then (wc_seq (wc_region ?_)))
  refine wl_pure tt_ok rfl rfl ?_
  refine wl_nil (wx_then (wc_seq (wc_seq (wc_region ?_))))
  iterate 2 refine wl_pure tt_ok rfl rfl ?_
  refine wl_pure (v := .pointer (some ⟨p0b, 16, none⟩)) tt_ok rfl rfl ?_
  refine wl_val (v := .slice p0a0 p0n0 p0c0) (val_load tt_ok rfl (List.Mem.tail _ (List.Mem.head _)) rfl) rfl ?_
  refine wl_val (v := .int .i64 (p0.Shots.length : Int)) (val_len tt_ok rfl rfl p0N0) rfl ?_
  refine wl_pure tt_ok rfl rfl ?_
  refine wl_nil (wx_then (wc_block ?_))
  replace h := bsome h; obtain ⟨⟨l9_3, l9_p0_f2, l9_p0_f4⟩, h, hl9⟩ := h; try dsimp only at hl9
  refine wc_loop (fun m E L => ∃ (j9_3 : (List T_api_Shot)) (j9_14 : Int) (j9_p0_f2 : (T_api_Player × T_api_Player)) (j9_p0_f4 : (Int × Int)) (j9_3a0 : Option Addr) (j9_3n0 : Nat) (j9_3c0 : Nat) (j9_3B0 : List Blk), m_step_fly_L8 F p0 m j9_3 j9_14 j9_p0_f2 j9_p0_f4 = some (l9_3, l9_p0_f2, l9_p0_f4) ∧ j9_3n0 = j9_3.length ∧ Own 92 6 j9_3a0 j9_3n0 j9_3c0 (flat c_T_api_Shot j9_3) j9_3B0 ∧ E = [(0, .pointer (some ⟨p0b, 0, none⟩)), (2, .pointer (some ⟨b2, 0, none⟩)), (3, .slice j9_3a0 j9_3n0 j9_3c0), (12, .slice p0a0 p0n0 p0c0), (13, .int .i64 (p0.Shots.length : Int)), (14, .int .i64 j9_14)] ∧ L = (⟨p0b, [.int .u64 p0.Frame, .int .u64 p0.Seed, .int .i32 j9_p0_f2.1.X, .int .i32 j9_p0_f2.1.Y, .int .i32 j9_p0_f2.1.VX, .int .i32 j9_p0_f2.1.VY, .int .u8 j9_p0_f2.1.Health, .int .u8 j9_p0_f2.1.Cool, .int .u8 j9_p0_f2.1.Face, .int .i32 j9_p0_f2.2.X, .int .i32 j9_p0_f2.2.Y, .int .i32 j9_p0_f2.2.VX, .int .i32 j9_p0_f2.2.VY, .int .u8 j9_p0_f2.2.Health, .int .u8 j9_p0_f2.2.Cool, .int .u8 j9_p0_f2.2.Face, .slice p0a0 p0n0 p0c0, .int .u16 j9_p0_f4.1, .int .u16 j9_p0_f4.2], p0t, (0, 0)⟩ :: (⟨b2, [.int .i32 (0 : Int), .int .i32 (0 : Int), .int .i32 (65536 : Int), .int .i32 (32768 : Int)], 97, (0, 0)⟩ :: (p0B0 ++ (j9_3B0 ++ []))))) F ⟨([] : List T_api_Shot), (0 : Int), p0.Players, p0.Score, none, 0, 0, [], h, rfl, Own.zero, rfl, rfl⟩ (agree_cons rfl (agree_cons rfl (agree_cons rfl (agree_cons rfl (agree_cons rfl (agree_cons rfl agree_nil)))))) (pSub (pCons (Sel.sc Sel.hc) (pCons Sel.hc (pApp Sel.ha (pNo pNil))))) ?_
  clear h
  rintro m9 _ _ ⟨j9_3, j9_14, j9_p0_f2, j9_p0_f4, j9_3a0, j9_3n0, j9_3c0, j9_3B0, h, j9_3N0, j9_3V0, rfl, rfl⟩
  rcases m9 with _ | m9
  · rw [m_step_fly_L8.eq_1] at h; cases h
  rw [m_step_fly_L8.eq_2] at h
  refine wc_seq (wc_region ?_)
  refine wl_pure (v := .bool (decide (j9_14 < (p0.Shots.length : Int)))) tt_ok rfl rfl ?_
  refine wl_nil (wx_then (wc_seq ?_))
  refine wc_cond rfl (fun hc => ?_) (fun hc => ?_)
  · replace h := ct hc h
    refine wc_skip (wx_then (wc_seq (wc_block (wc_seq (wc_region ?_)))))
    replace h := bsome h; obtain ⟨v16, x16, h⟩ := h
    refine wl_val (v := .pointer (some ((adOf p0a0).add (j9_14.toNat * 6 + 0)))) (val_ix (enc := c_T_api_Shot) tt_ok rfl rfl rfl rfl p0N0 (Rds.of_vec p0V0) c_T_api_Shot_len rfl x16) rfl ?_
    refine wl_val (v := .agg #[.int .i32 v16.X, .int .i32 v16.Y, .int .i32 v16.VX, .int .i32 v16.VY, .int .u8 v16.Owner, .int .u8 v16.Life]) (val_le (enc := c_T_api_Shot) (xs := p0.Shots) tt_ok rfl (Rds.of_vec p0V0) ⟨_, (Sel.sc (Sel.sc Sel.ha))⟩ c_T_api_Shot_len x16 rfl) rfl ?_
    refine wl_alloc tt_ok rfl rfl (fun b5 => ?_)
    apply wl_store tt_ok; rfl; exact Upd.here; rfl; rfl; rfl; rfl; rfl; rfl
    refine wl_nil (wx_then (wc_seq (wc_region ?_)))
    refine wl_pure (v := .pointer (some ⟨b5, 0, none⟩)) tt_ok rfl rfl ?_
    refine wl_val (v := .int .i32 v16.X) (val_load tt_ok rfl (List.Mem.head _) rfl) rfl ?_
    refine wl_pure (v := .pointer (some ⟨b5, 2, none⟩)) tt_ok rfl rfl ?_
    refine wl_val (v := .int .i32 v16.VX) (val_load tt_ok rfl (List.Mem.head _) rfl) rfl ?_
    refine wl_pure (v := .int .i32 (IntKind.wrap .i32 (v16.X + v16.VX))) tt_ok rfl rfl ?_
    refine wl_pure (v := .pointer (some ⟨b5, 1, none⟩)) tt_ok rfl rfl ?_
    refine wl_val (v := .int .i32 v16.Y) (val_load tt_ok rfl (List.Mem.head _) rfl) rfl ?_
    refine wl_pure (v := .pointer (some ⟨b5, 3, none⟩)) tt_ok rfl rfl ?_
    refine wl_val (v := .int .i32 v16.VY) (val_load tt_ok rfl (List.Mem.head _) rfl) rfl ?_
    refine wl_pure (v := .int .i32 (IntKind.wrap .i32 (v16.Y + v16.VY))) tt_ok rfl rfl ?_
    refine wl_pure (v := .pointer (some ⟨b5, 0, none⟩)) tt_ok rfl rfl ?_
    apply wl_store tt_ok; rfl; exact Upd.here; rfl; rfl; rfl; rfl; rfl; rfl
    refine wl_pure (v := .pointer (some ⟨b5, 1, none⟩)) tt_ok rfl rfl ?_
    apply wl_store tt_ok; rfl; exact Upd.here; rfl; rfl; rfl; rfl; rfl; rfl
    refine wl_nil (wx_then (wc_seq (wc_region ?_)))
    refine wl_pure (v := .pointer (some ⟨b5, 5, none⟩)) tt_ok rfl rfl ?_
    refine wl_val (v := .int .u8 v16.Life) (val_load tt_ok rfl (List.Mem.head _) rfl) rfl ?_
    refine wl_pure (v := .int .u8 (IntKind.wrap .u8 (v16.Life - (1 : Int)))) tt_ok rfl rfl ?_
    refine wl_pure (v := .pointer (some ⟨b5, 5, none⟩)) tt_ok rfl rfl ?_
    apply wl_store tt_ok; rfl; exact Upd.here; rfl; rfl; rfl; rfl; rfl; rfl
    refine wl_nil (wx_then (wc_seq (wc_region ?_)))
    refine wl_pure (v := .pointer (some ⟨b5, 0, none⟩)) tt_ok rfl rfl ?_
    refine wl_val (v := .int .i32 (IntKind.wrap .i32 (v16.X + v16.VX))) (val_load tt_ok rfl (List.Mem.head _) rfl) rfl ?_
    refine wl_pure (v := .pointer (some ⟨b5, 1, none⟩)) tt_ok rfl rfl ?_
    refine wl_val (v := .int .i32 (IntKind.wrap .i32 (v16.Y + v16.VY))) (val_load tt_ok rfl (List.Mem.head _) rfl) rfl ?_
    refine wl_pure (v := .agg #[.int .i32 (IntKind.wrap .i32 (v16.X + v16.VX)), .int .i32 (IntKind.wrap .i32 (v16.Y + v16.VY)), .int .i32 (512 : Int), .int .i32 (512 : Int)]) tt_ok rfl rfl ?_
    refine wl_alloc tt_ok rfl rfl (fun b6 => ?_)
    apply wl_store tt_ok; rfl; exact Upd.here; rfl; rfl; rfl; rfl; rfl; rfl
    refine wl_nil (wx_then (wc_seq ?_))
    refine wc_quiet (by kernel_rfl) (by kernel_rfl) ?_
    refine wq_pure tt_ok rfl rfl ?_
    refine wq_pure (v := .pointer (some ⟨b5, 4, none⟩)) tt_ok rfl rfl ?_
    refine wq_val (v := .int .u8 v16.Owner) (val_load tt_ok rfl (List.Mem.tail _ (List.Mem.head _)) rfl) rfl ?_
    refine wq_pure (v := .int .u8 (IntKind.wrap .u8 ((1 : Int) - v16.Owner))) tt_ok rfl rfl ?_
    refine wq_pure tt_ok rfl rfl ?_
    refine wq_pure (v := .pointer (some ⟨p0b, 2, none⟩)) tt_ok rfl rfl ?_
    rcases Bool.eq_false_or_eq_true ((IntKind.wrap .u8 ((1 : Int) - v16.Owner)) == (0 : Int)) with hx450 | hx450
    · replace h := ct hx450 h
      refine wq_val (v := .pointer (some ⟨p0b, 2, none⟩)) (val_ia (j := 0) tt_ok rfl rfl rfl rfl (by simpa using hx450) rfl rfl) rfl ?_
      refine wq_pure tt_ok rfl rfl ?_
      refine wq_nil ?_
      refine wx_then (wc_block (wc_seq (wc_region ?_)))
      refine wl_val (v := .agg #[.int .i32 (IntKind.wrap .i32 (v16.X + v16.VX)), .int .i32 (IntKind.wrap .i32 (v16.Y + v16.VY)), .int .i32 (512 : Int), .int .i32 (512 : Int)]) (val_load tt_ok rfl (List.Mem.head _) rfl) rfl ?_
      refine wl_val (v := .agg #[.int .i32 (0 : Int), .int .i32 (0 : Int), .int .i32 (65536 : Int), .int .i32 (32768 : Int)]) (val_load tt_ok rfl (List.Mem.tail _ (List.Mem.tail _ (List.Mem.tail _ (List.Mem.head _)))) rfl) rfl ?_
      replace h := bsome h; obtain ⟨v49, x49, h⟩ := h
      refine wl_cq Tryd.call77 rfl rfl rfl (q_pf (k_geom_Inside x49) (fun _ _ => trivial)) rfl ?_
      refine wl_pure (v := .bool (!v49)) tt_ok rfl rfl ?_
      refine wl_pure tt_ok rfl rfl ?_
      refine wl_nil (wx_then ?_)
      refine wc_cond rfl (fun hc => ?_) (fun hc => ?_)
      · replace h := ct hc h
        refine wc_skip (wx_block (wx_block (wx_then (wc_region ?_))))
        refine wl_pure (v := .int .i64 (IntKind.wrap .i64 (j9_14 + (1 : Int)))) tt_ok rfl rfl ?_
        refine wl_pure tt_ok rfl rfl ?_
        refine wl_nil ?_
        exact wx_round m9 (Nat.lt_succ_self m9) ⟨j9_3, (IntKind.wrap .i64 (j9_14 + (1 : Int))), j9_p0_f2, j9_p0_f4, j9_3a0, j9_3n0, j9_3c0, j9_3B0, h, j9_3N0, j9_3V0, rfl, rfl⟩ (agree_cons rfl (agree_cons rfl (agree_cons rfl (agree_cons rfl (agree_cons rfl (agree_cons rfl agree_nil)))))) (pSub (pCons (Sel.sc (Sel.sc Sel.hc)) (pCons (Sel.sc (Sel.sc Sel.hc)) (pApp (Sel.sc (Sel.sc Sel.ha)) (pApp (Sel.sc (Sel.sc Sel.ha)) pNil)))))
      replace h := cf hc h
      refine wc_seq ?_
      refine wc_quiet (by kernel_rfl) (by kernel_rfl) ?_
      refine wq_val (v := .agg #[.int .i32 (IntKind.wrap .i32 (v16.X + v16.VX)), .int .i32 (IntKind.wrap .i32 (v16.Y + v16.VY)), .int .i32 (512 : Int), .int .i32 (512 : Int)]) (val_load tt_ok rfl (List.Mem.head _) rfl) rfl ?_
      refine wq_pure tt_ok rfl rfl ?_
      refine wq_pure tt_ok rfl rfl ?_
      refine wq_val (v := .agg #[.int .i32 j9_p0_f2.1.X, .int .i32 j9_p0_f2.1.Y, .int .i32 j9_p0_f2.1.VX, .int .i32 j9_p0_f2.1.VY, .int .u8 j9_p0_f2.1.Health, .int .u8 j9_p0_f2.1.Cool, .int .u8 j9_p0_f2.1.Face]) (val_load tt_ok rfl (List.Mem.tail _ (List.Mem.tail _ (List.Mem.head _))) rfl) rfl ?_
      replace h := bsome h; obtain ⟨v56, x56, h⟩ := h
      refine wq_cq Tryd.call56 rfl rfl rfl (q_pf (k_step_box x56) (fun _ _ => trivial)) rfl ?_
      replace h := bsome h; obtain ⟨v57, x57, h⟩ := h
      refine wq_cq Tryd.call55 rfl rfl rfl (q_pf (k_geom_Over x57) (fun _ _ => trivial)) rfl ?_
      refine wq_pure tt_ok rfl rfl ?_
      refine wq_nil ?_
      refine wx_then ?_
      refine wc_cond rfl (fun hc => ?_) (fun hc => ?_)
      · replace h := ct hc h
        refine wc_seq ?_
        refine wc_k2 (Ls := (⟨b6, [.int .i32 (IntKind.wrap .i32 (v16.X + v16.VX)), .int .i32 (IntKind.wrap .i32 (v16.Y + v16.VY)), .int .i32 (512 : Int), .int .i32 (512 : Int)], 97, (0, 0)⟩ :: (⟨b5, [.int .i32 (IntKind.wrap .i32 (v16.X + v16.VX)), .int .i32 (IntKind.wrap .i32 (v16.Y + v16.VY)), .int .i32 v16.VX, .int .i32 v16.VY, .int .u8 v16.Owner, .int .u8 (IntKind.wrap .u8 (v16.Life - (1 : Int)))], 92, (0, 0)⟩ :: (⟨p0b, [.int .u64 p0.Frame, .int .u64 p0.Seed, .int .i32 j9_p0_f2.1.X, .int .i32 j9_p0_f2.1.Y, .int .i32 j9_p0_f2.1.VX, .int .i32 j9_p0_f2.1.VY, .int .u8 j9_p0_f2.1.Health, .int .u8 j9_p0_f2.1.Cool, .int .u8 j9_p0_f2.1.Face, .int .i32 j9_p0_f2.2.X, .int .i32 j9_p0_f2.2.Y, .int .i32 j9_p0_f2.2.VX, .int .i32 j9_p0_f2.2.VY, .int .u8 j9_p0_f2.2.Health, .int .u8 j9_p0_f2.2.Cool, .int .u8 j9_p0_f2.2.Face, .slice p0a0 p0n0 p0c0, .int .u16 j9_p0_f4.1, .int .u16 j9_p0_f4.2], p0t, (0, 0)⟩ :: (⟨b2, [.int .i32 (0 : Int), .int .i32 (0 : Int), .int .i32 (65536 : Int), .int .i32 (32768 : Int)], 97, (0, 0)⟩ :: (p0B0 ++ (j9_3B0 ++ []))))))) [12] [12] [0, 1, 3, 7, 0, 16, 48, 112, 240, 511, 1023, 2047, 4095] [0, 1, 2, 3, 4, 5, 6, 7, 8, 9, 10, 11, 12] (by kernel_rfl) (by kernel_rfl) (by kernel_rfl) ?_
        refine k_val rfl rfl rfl (pSub (pCons Sel.hc (pCons Sel.hc (pCons Sel.hc (pCons Sel.hc (pApp Sel.ha (pApp Sel.ha pNil))))))) (stepV_ok tt_ok rfl) rfl ?_
        refine k_val rfl rfl rfl (pSub (pCons Sel.hc (pCons Sel.hc (pCons Sel.hc (pCons Sel.hc (pApp Sel.ha (pApp Sel.ha pNil))))))) (stepV_ok tt_ok rfl) rfl ?_
        refine k_val (v := .pointer (some ⟨p0b, 6, none⟩)) rfl rfl rfl (pSub (pCons Sel.hc (pCons Sel.hc (pCons Sel.hc (pCons Sel.hc (pApp Sel.ha (pApp Sel.ha pNil))))))) (stepV_ok tt_ok rfl) rfl ?_
        refine k_val (v := .int .u8 j9_p0_f2.1.Health) rfl rfl rfl (pSub (pCons Sel.hc (pCons Sel.hc (pCons Sel.hc (pCons Sel.hc (pApp Sel.ha (pApp Sel.ha pNil))))))) (val_load tt_ok rfl (List.Mem.tail _ (List.Mem.tail _ (List.Mem.head _))) rfl) rfl ?_
        refine k_val rfl rfl rfl (pSub (pCons Sel.hc (pCons Sel.hc (pCons Sel.hc (pCons Sel.hc (pApp Sel.ha (pApp Sel.ha pNil))))))) (stepV_ok tt_ok rfl) rfl ?_
        refine k_val rfl rfl rfl (pSub (pCons Sel.hc (pCons Sel.hc (pCons Sel.hc (pCons Sel.hc (pApp Sel.ha (pApp Sel.ha pNil))))))) (stepV_ok tt_ok rfl) rfl ?_
        refine k_val (v := .pointer (some ⟨p0b, 6, none⟩)) rfl rfl rfl (pSub (pCons Sel.hc (pCons Sel.hc (pCons Sel.hc (pCons Sel.hc (pApp Sel.ha (pApp Sel.ha pNil))))))) (stepV_ok tt_ok rfl) rfl ?_
        refine k_val (v := .int .u8 j9_p0_f2.1.Health) rfl rfl rfl (pSub (pCons Sel.hc (pCons Sel.hc (pCons Sel.hc (pCons Sel.hc (pApp Sel.ha (pApp Sel.ha pNil))))))) (val_load tt_ok rfl (List.Mem.tail _ (List.Mem.tail _ (List.Mem.head _))) rfl) rfl ?_
        refine k_val (v := .int .u8 (min j9_p0_f2.1.Health (10 : Int))) rfl rfl rfl (pSub (pCons Sel.hc (pCons Sel.hc (pCons Sel.hc (pCons Sel.hc (pApp Sel.ha (pApp Sel.ha pNil))))))) (stepV_ok tt_ok rfl) rfl ?_
        refine k_val (v := .int .u8 (IntKind.wrap .u8 (j9_p0_f2.1.Health - (min j9_p0_f2.1.Health (10 : Int))))) rfl rfl rfl (pSub (pCons Sel.hc (pCons Sel.hc (pCons Sel.hc (pCons Sel.hc (pApp Sel.ha (pApp Sel.ha pNil))))))) (stepV_ok tt_ok rfl) rfl ?_
        refine k_val rfl rfl rfl (pSub (pCons Sel.hc (pCons Sel.hc (pCons Sel.hc (pCons Sel.hc (pApp Sel.ha (pApp Sel.ha pNil))))))) (stepV_ok tt_ok rfl) rfl ?_
        refine k_val (v := .pointer (some ⟨p0b, 6, none⟩)) rfl rfl rfl (pSub (pCons Sel.hc (pCons Sel.hc (pCons Sel.hc (pCons Sel.hc (pApp Sel.ha (pApp Sel.ha pNil))))))) (stepV_ok tt_ok rfl) rfl ?_
        refine k_chg0 rfl rfl rfl (chg_store tt_ok rfl (Upd.there (Upd.there Upd.here)) rfl rfl rfl rfl rfl rfl) (.inl rfl) ?_
        rintro _ _ rfl
        refine k_end (by kernel_rfl) ?_
        refine wx_then ?_
        refine wc_k2 (Ls := (⟨b6, [.int .i32 (IntKind.wrap .i32 (v16.X + v16.VX)), .int .i32 (IntKind.wrap .i32 (v16.Y + v16.VY)), .int .i32 (512 : Int), .int .i32 (512 : Int)], 97, (0, 0)⟩ :: (⟨b5, [.int .i32 (IntKind.wrap .i32 (v16.X + v16.VX)), .int .i32 (IntKind.wrap .i32 (v16.Y + v16.VY)), .int .i32 v16.VX, .int .i32 v16.VY, .int .u8 v16.Owner, .int .u8 (IntKind.wrap .u8 (v16.Life - (1 : Int)))], 92, (0, 0)⟩ :: (⟨p0b, [.int .u64 p0.Frame, .int .u64 p0.Seed, .int .i32 j9_p0_f2.1.X, .int .i32 j9_p0_f2.1.Y, .int .i32 j9_p0_f2.1.VX, .int .i32 j9_p0_f2.1.VY, .int .u8 (IntKind.wrap .u8 (j9_p0_f2.1.Health - (min j9_p0_f2.1.Health (10 : Int)))), .int .u8 j9_p0_f2.1.Cool, .int .u8 j9_p0_f2.1.Face, .int .i32 j9_p0_f2.2.X, .int .i32 j9_p0_f2.2.Y, .int .i32 j9_p0_f2.2.VX, .int .i32 j9_p0_f2.2.VY, .int .u8 j9_p0_f2.2.Health, .int .u8 j9_p0_f2.2.Cool, .int .u8 j9_p0_f2.2.Face, .slice p0a0 p0n0 p0c0, .int .u16 j9_p0_f4.1, .int .u16 j9_p0_f4.2], p0t, (0, 0)⟩ :: (⟨b2, [.int .i32 (0 : Int), .int .i32 (0 : Int), .int .i32 (65536 : Int), .int .i32 (32768 : Int)], 97, (0, 0)⟩ :: (p0B0 ++ (j9_3B0 ++ []))))))) [15] [15] [0, 0, 2, 0, 0, 16, 8, 72, 248, 504, 1016, 2040, 1, 4097, 16383, 32767] [0, 1, 2, 3, 4, 5, 6, 7, 8, 9, 10, 11, 12, 13, 14, 15] (by kernel_rfl) (by kernel_rfl) (by kernel_rfl) ?_
        refine k_val rfl rfl rfl (pSub (pCons Sel.hc (pCons Sel.hc (pCons Sel.hc (pCons Sel.hc (pApp Sel.ha (pApp Sel.ha pNil))))))) (stepV_ok tt_ok rfl) rfl ?_
        refine k_val (v := .pointer (some ⟨b5, 4, none⟩)) rfl rfl rfl (pSub (pCons Sel.hc (pCons Sel.hc (pCons Sel.hc (pCons Sel.hc (pApp Sel.ha (pApp Sel.ha pNil))))))) (stepV_ok tt_ok rfl) rfl ?_
        refine k_val (v := .int .u8 v16.Owner) rfl rfl rfl (pSub (pCons Sel.hc (pCons Sel.hc (pCons Sel.hc (pCons Sel.hc (pApp Sel.ha (pApp Sel.ha pNil))))))) (val_load tt_ok rfl (List.Mem.tail _ (List.Mem.head _)) rfl) rfl ?_
        refine k_val rfl rfl rfl (pSub (pCons Sel.hc (pCons Sel.hc (pCons Sel.hc (pCons Sel.hc (pApp Sel.ha (pApp Sel.ha pNil))))))) (stepV_ok tt_ok rfl) rfl ?_
        refine k_val (v := .pointer (some ⟨b5, 4, none⟩)) rfl rfl rfl (pSub (pCons Sel.hc (pCons Sel.hc (pCons Sel.hc (pCons Sel.hc (pApp Sel.ha (pApp Sel.ha pNil))))))) (stepV_ok tt_ok rfl) rfl ?_
        refine k_val (v := .int .u8 v16.Owner) rfl rfl rfl (pSub (pCons Sel.hc (pCons Sel.hc (pCons Sel.hc (pCons Sel.hc (pApp Sel.ha (pApp Sel.ha pNil))))))) (val_load tt_ok rfl (List.Mem.tail _ (List.Mem.head _)) rfl) rfl ?_
        refine k_val rfl rfl rfl (pSub (pCons Sel.hc (pCons Sel.hc (pCons Sel.hc (pCons Sel.hc (pApp Sel.ha (pApp Sel.ha pNil))))))) (stepV_ok tt_ok rfl) rfl ?_
        refine k_val (v := .pointer (some ⟨p0b, 17, none⟩)) rfl rfl rfl (pSub (pCons Sel.hc (pCons Sel.hc (pCons Sel.hc (pCons Sel.hc (pApp Sel.ha (pApp Sel.ha pNil))))))) (stepV_ok tt_ok rfl) rfl ?_
        rcases Bool.eq_false_or_eq_true (v16.Owner == (0 : Int)) with hx780 | hx780
        · replace h := ct hx780 h
          refine k_val (v := .pointer (some ⟨p0b, 17, none⟩)) rfl rfl rfl (pSub (pCons Sel.hc (pCons Sel.hc (pCons Sel.hc (pCons Sel.hc (pApp Sel.ha (pApp Sel.ha pNil))))))) (val_ia (j := 0) tt_ok rfl rfl rfl rfl (by simpa using hx780) rfl rfl) rfl ?_
          refine k_val (v := .int .u16 j9_p0_f4.1) rfl rfl rfl (pSub (pCons Sel.hc (pCons Sel.hc (pCons Sel.hc (pCons Sel.hc (pApp Sel.ha (pApp Sel.ha pNil))))))) (val_load tt_ok rfl (List.Mem.tail _ (List.Mem.tail _ (List.Mem.head _))) rfl) rfl ?_
          refine k_val (v := .int .u16 (min j9_p0_f4.1 (65534 : Int))) rfl rfl rfl (pSub (pCons Sel.hc (pCons Sel.hc (pCons Sel.hc (pCons Sel.hc (pApp Sel.ha (pApp Sel.ha pNil))))))) (stepV_ok tt_ok rfl) rfl ?_
          refine k_val (v := .int .u16 (IntKind.wrap .u16 ((min j9_p0_f4.1 (65534 : Int)) + (1 : Int)))) rfl rfl rfl (pSub (pCons Sel.hc (pCons Sel.hc (pCons Sel.hc (pCons Sel.hc (pApp Sel.ha (pApp Sel.ha pNil))))))) (stepV_ok tt_ok rfl) rfl ?_
          refine k_val rfl rfl rfl (pSub (pCons Sel.hc (pCons Sel.hc (pCons Sel.hc (pCons Sel.hc (pApp Sel.ha (pApp Sel.ha pNil))))))) (stepV_ok tt_ok rfl) rfl ?_
          refine k_val (v := .pointer (some ⟨p0b, 17, none⟩)) rfl rfl rfl (pSub (pCons Sel.hc (pCons Sel.hc (pCons Sel.hc (pCons Sel.hc (pApp Sel.ha (pApp Sel.ha pNil))))))) (stepV_ok tt_ok rfl) rfl ?_
          refine k_val (v := .pointer (some ⟨p0b, 17, none⟩)) rfl rfl rfl (pSub (pCons Sel.hc (pCons Sel.hc (pCons Sel.hc (pCons Sel.hc (pApp Sel.ha (pApp Sel.ha pNil))))))) (val_ia (j := 0) tt_ok rfl rfl rfl rfl (by simpa using hx780) rfl rfl) rfl ?_
          refine k_chg0 rfl rfl rfl (chg_store tt_ok rfl (Upd.there (Upd.there Upd.here)) rfl rfl rfl rfl rfl rfl) (.inl rfl) ?_
          rintro _ _ rfl
          refine k_end (by kernel_rfl) ?_
          refine wx_block (wx_block (wx_then (wc_region ?_)))
          refine wl_pure (v := .int .i64 (IntKind.wrap .i64 (j9_14 + (1 : Int)))) tt_ok rfl rfl ?_
          refine wl_pure tt_ok rfl rfl ?_
          refine wl_nil ?_
          exact wx_round m9 (Nat.lt_succ_self m9) ⟨j9_3, (IntKind.wrap .i64 (j9_14 + (1 : Int))), ((T_api_Player.mk j9_p0_f2.1.X j9_p0_f2.1.Y j9_p0_f2.1.VX j9_p0_f2.1.VY (IntKind.wrap .u8 (j9_p0_f2.1.Health - (min j9_p0_f2.1.Health (10 : Int)))) j9_p0_f2.1.Cool j9_p0_f2.1.Face), j9_p0_f2.2), ((IntKind.wrap .u16 ((min j9_p0_f4.1 (65534 : Int)) + (1 : Int))), j9_p0_f4.2), j9_3a0, j9_3n0, j9_3c0, j9_3B0, h, j9_3N0, j9_3V0, rfl, rfl⟩ (agree_cons rfl (agree_cons rfl (agree_cons rfl (agree_cons rfl (agree_cons rfl (agree_cons rfl agree_nil)))))) (pSub (pCons (Sel.sc (Sel.sc Sel.hc)) (pCons (Sel.sc (Sel.sc Sel.hc)) (pApp (Sel.sc (Sel.sc Sel.ha)) (pApp (Sel.sc (Sel.sc Sel.ha)) pNil)))))
        replace h := cf hx780 h
        rcases Bool.eq_false_or_eq_true (v16.Owner == (1 : Int)) with hx781 | hx781
        · replace h := ct hx781 h
          refine k_val (v := .pointer (some ⟨p0b, 18, none⟩)) rfl rfl rfl (pSub (pCons Sel.hc (pCons Sel.hc (pCons Sel.hc (pCons Sel.hc (pApp Sel.ha (pApp Sel.ha pNil))))))) (val_ia (j := 1) tt_ok rfl rfl rfl rfl (by simpa using hx781) rfl rfl) rfl ?_
          refine k_val (v := .int .u16 j9_p0_f4.2) rfl rfl rfl (pSub (pCons Sel.hc (pCons Sel.hc (pCons Sel.hc (pCons Sel.hc (pApp Sel.ha (pApp Sel.ha pNil))))))) (val_load tt_ok rfl (List.Mem.tail _ (List.Mem.tail _ (List.Mem.head _))) rfl) rfl ?_
          refine k_val (v := .int .u16 (min j9_p0_f4.2 (65534 : Int))) rfl rfl rfl (pSub (pCons Sel.hc (pCons Sel.hc (pCons Sel.hc (pCons Sel.hc (pApp Sel.ha (pApp Sel.ha pNil))))))) (stepV_ok tt_ok rfl) rfl ?_
          refine k_val (v := .int .u16 (IntKind.wrap .u16 ((min j9_p0_f4.2 (65534 : Int)) + (1 : Int)))) rfl rfl rfl (pSub (pCons Sel.hc (pCons Sel.hc (pCons Sel.hc (pCons Sel.hc (pApp Sel.ha (pApp Sel.ha pNil))))))) (stepV_ok tt_ok rfl) rfl ?_
          refine k_val rfl rfl rfl (pSub (pCons Sel.hc (pCons Sel.hc (pCons Sel.hc (pCons Sel.hc (pApp Sel.ha (pApp Sel.ha pNil))))))) (stepV_ok tt_ok rfl) rfl ?_
          refine k_val (v := .pointer (some ⟨p0b, 17, none⟩)) rfl rfl rfl (pSub (pCons Sel.hc (pCons Sel.hc (pCons Sel.hc (pCons Sel.hc (pApp Sel.ha (pApp Sel.ha pNil))))))) (stepV_ok tt_ok rfl) rfl ?_
          refine k_val (v := .pointer (some ⟨p0b, 18, none⟩)) rfl rfl rfl (pSub (pCons Sel.hc (pCons Sel.hc (pCons Sel.hc (pCons Sel.hc (pApp Sel.ha (pApp Sel.ha pNil))))))) (val_ia (j := 1) tt_ok rfl rfl rfl rfl (by simpa using hx781) rfl rfl) rfl ?_
          refine k_chg0 rfl rfl rfl (chg_store tt_ok rfl (Upd.there (Upd.there Upd.here)) rfl rfl rfl rfl rfl rfl) (.inl rfl) ?_
          rintro _ _ rfl
          refine k_end (by kernel_rfl) ?_
          refine wx_block (wx_block (wx_then (wc_region ?_)))
          refine wl_pure (v := .int .i64 (IntKind.wrap .i64 (j9_14 + (1 : Int)))) tt_ok rfl rfl ?_
          refine wl_pure tt_ok rfl rfl ?_
          refine wl_nil ?_
          exact wx_round m9 (Nat.lt_succ_self m9) ⟨j9_3, (IntKind.wrap .i64 (j9_14 + (1 : Int))), ((T_api_Player.mk j9_p0_f2.1.X j9_p0_f2.1.Y j9_p0_f2.1.VX j9_p0_f2.1.VY (IntKind.wrap .u8 (j9_p0_f2.1.Health - (min j9_p0_f2.1.Health (10 : Int)))) j9_p0_f2.1.Cool j9_p0_f2.1.Face), j9_p0_f2.2), (j9_p0_f4.1, (IntKind.wrap .u16 ((min j9_p0_f4.2 (65534 : Int)) + (1 : Int)))), j9_3a0, j9_3n0, j9_3c0, j9_3B0, h, j9_3N0, j9_3V0, rfl, rfl⟩ (agree_cons rfl (agree_cons rfl (agree_cons rfl (agree_cons rfl (agree_cons rfl (agree_cons rfl agree_nil)))))) (pSub (pCons (Sel.sc (Sel.sc Sel.hc)) (pCons (Sel.sc (Sel.sc Sel.hc)) (pApp (Sel.sc (Sel.sc Sel.ha)) (pApp (Sel.sc (Sel.sc Sel.ha)) pNil)))))
        replace h := cf hx781 h
        cases h
      replace h := cf hc h
      refine wc_seq (wc_region ?_)
      refine wl_pure (v := .pointer (some ⟨b5, 5, none⟩)) tt_ok rfl rfl ?_
      refine wl_val (v := .int .u8 (IntKind.wrap .u8 (v16.Life - (1 : Int)))) (val_load tt_ok rfl (List.Mem.tail _ (List.Mem.head _)) rfl) rfl ?_
      refine wl_pure (v := .bool (decide ((0 : Int) < (IntKind.wrap .u8 (v16.Life - (1 : Int)))))) tt_ok rfl rfl ?_
      refine wl_pure tt_ok rfl rfl ?_
      refine wl_nil (wx_then ?_)
      refine wc_cond rfl (fun hc => ?_) (fun hc => ?_)
      · replace h := ct hc h
        refine wc_region ?_
        refine wl_pure tt_ok rfl rfl ?_
        refine wl_val (v := .agg #[.int .i32 (IntKind.wrap .i32 (v16.X + v16.VX)), .int .i32 (IntKind.wrap .i32 (v16.Y + v16.VY)), .int .i32 v16.VX, .int .i32 v16.VY, .int .u8 v16.Owner, .int .u8 (IntKind.wrap .u8 (v16.Life - (1 : Int)))]) (val_load tt_ok rfl (List.Mem.tail _ (List.Mem.head _)) rfl) rfl ?_
        refine wl_chg (chg_bsv (enc := c_T_api_Shot) (xs := ([(T_api_Shot.mk (IntKind.wrap .i32 (v16.X + v16.VX)) (IntKind.wrap .i32 (v16.Y + v16.VY)) v16.VX v16.VY v16.Owner (IntKind.wrap .u8 (v16.Life - (1 : Int))))] : List T_api_Shot)) tt_ok rfl rfl rfl rfl rfl rfl rfl rfl c_T_api_Shot_len) rfl ?_
        rintro _ _ ⟨a91, n91_, c91, B91, rfl, N91, V91, rfl⟩
        replace h := bsome h; obtain ⟨v92, x92, h⟩ := h
        refine wl_chg (chg_app (enc := c_T_api_Shot) (ys := ([(T_api_Shot.mk (IntKind.wrap .i32 (v16.X + v16.VX)) (IntKind.wrap .i32 (v16.Y + v16.VY)) v16.VX v16.VY v16.Owner (IntKind.wrap .u8 (v16.Life - (1 : Int))))] : List T_api_Shot)) tt_ok rfl rfl rfl rfl rfl rfl j9_3N0 N91 j9_3V0 (Sel.sa (Sel.sc (Sel.sc (Sel.sc (Sel.sc (Sel.sa Sel.ha)))))) (Rds.of_vec V91) ⟨_, Sel.ha⟩ c_T_api_Shot_len (fun _ => rfl) rfl x92) rfl ?_
        rintro _ _ ⟨a92, n92_, c92, B92, rfl, N92, V92, rfl⟩
        refine wl_pure tt_ok rfl rfl ?_
        refine wl_nil (wx_block (wx_block (wx_then (wc_region ?_))))
        refine wl_pure (v := .int .i64 (IntKind.wrap .i64 (j9_14 + (1 : Int)))) tt_ok rfl rfl ?_
        refine wl_pure tt_ok rfl rfl ?_
        refine wl_nil ?_
        exact wx_round m9 (Nat.lt_succ_self m9) ⟨v92, (IntKind.wrap .i64 (j9_14 + (1 : Int))), j9_p0_f2, j9_p0_f4, a92, n92_, c92, B92, h, N92, V92, rfl, rfl⟩ (agree_cons rfl (agree_cons rfl (agree_cons rfl (agree_cons rfl (agree_cons rfl (agree_cons rfl agree_nil)))))) (pSub (pCons (Sel.sa (Sel.sa (Sel.sc (Sel.sc Sel.hc)))) (pCons (Sel.sa (Sel.sa (Sel.sc (Sel.sc Sel.hc)))) (pApp (Sel.sa (Sel.sa (Sel.sc (Sel.sc Sel.ha)))) (pApp Sel.ha pNil)))))
      replace h := cf hc h
      refine wc_skip (wx_block (wx_block (wx_then (wc_region ?_))))
      refine wl_pure (v := .int .i64 (IntKind.wrap .i64 (j9_14 + (1 : Int)))) tt_ok rfl rfl ?_
      refine wl_pure tt_ok rfl rfl ?_
      refine wl_nil ?_
      exact wx_round m9 (Nat.lt_succ_self m9) ⟨j9_3, (IntKind.wrap .i64 (j9_14 + (1 : Int))), j9_p0_f2, j9_p0_f4, j9_3a0, j9_3n0, j9_3c0, j9_3B0, h, j9_3N0, j9_3V0, rfl, rfl⟩ (agree_cons rfl (agree_cons rfl (agree_cons rfl (agree_cons rfl (agree_cons rfl (agree_cons rfl agree_nil)))))) (pSub (pCons (Sel.sc (Sel.sc Sel.hc)) (pCons (Sel.sc (Sel.sc Sel.hc)) (pApp (Sel.sc (Sel.sc Sel.ha)) (pApp (Sel.sc (Sel.sc Sel.ha)) pNil)))))
    replace h := cf hx450 h
    rcases Bool.eq_false_or_eq_true ((IntKind.wrap .u8 ((1 : Int) - v16.Owner)) == (1 : Int)) with hx451 | hx451
    · replace h := ct hx451 h
      refine wq_val (v := .pointer (some ⟨p0b, 9, none⟩)) (val_ia (j := 1) tt_ok rfl rfl rfl rfl (by simpa using hx451) rfl rfl) rfl ?_
      refine wq_pure tt_ok rfl rfl ?_
      refine wq_nil ?_
      refine wx_then (wc_block (wc_seq (wc_region ?_)))
      refine wl_val (v := .agg #[.int .i32 (IntKind.wrap .i32 (v16.X + v16.VX)), .int .i32 (IntKind.wrap .i32 (v16.Y + v16.VY)), .int .i32 (512 : Int), .int .i32 (512 : Int)]) (val_load tt_ok rfl (List.Mem.head _) rfl) rfl ?_
      refine wl_val (v := .agg #[.int .i32 (0 : Int), .int .i32 (0 : Int), .int .i32 (65536 : Int), .int .i32 (32768 : Int)]) (val_load tt_ok rfl (List.Mem.tail _ (List.Mem.tail _ (List.Mem.tail _ (List.Mem.head _)))) rfl) rfl ?_
      replace h := bsome h; obtain ⟨v49, x49, h⟩ := h
      refine wl_cq Tryd.call77 rfl rfl rfl (q_pf (k_geom_Inside x49) (fun _ _ => trivial)) rfl ?_
      refine wl_pure (v := .bool (!v49)) tt_ok rfl rfl ?_
      refine wl_pure tt_ok rfl rfl ?_
      refine wl_nil (wx_then ?_)
      refine wc_cond rfl (fun hc => ?_) (fun hc => ?_)
      · replace h := ct hc h
        refine wc_skip (wx_block (wx_block (wx_then (wc_region ?_))))
        refine wl_pure (v := .int .i64 (IntKind.wrap .i64 (j9_14 + (1 : Int)))) tt_ok rfl rfl ?_
        refine wl_pure tt_ok rfl rfl ?_
        refine wl_nil ?_
        exact wx_round m9 (Nat.lt_succ_self m9) ⟨j9_3, (IntKind.wrap .i64 (j9_14 + (1 : Int))), j9_p0_f2, j9_p0_f4, j9_3a0, j9_3n0, j9_3c0, j9_3B0, h, j9_3N0, j9_3V0, rfl, rfl⟩ (agree_cons rfl (agree_cons rfl (agree_cons rfl (agree_cons rfl (agree_cons rfl (agree_cons rfl agree_nil)))))) (pSub (pCons (Sel.sc (Sel.sc Sel.hc)) (pCons (Sel.sc (Sel.sc Sel.hc)) (pApp (Sel.sc (Sel.sc Sel.ha)) (pApp (Sel.sc (Sel.sc Sel.ha)) pNil)))))
      replace h := cf hc h
      refine wc_seq ?_
      refine wc_quiet (by kernel_rfl) (by kernel_rfl) ?_
      refine wq_val (v := .agg #[.int .i32 (IntKind.wrap .i32 (v16.X + v16.VX)), .int .i32 (IntKind.wrap .i32 (v16.Y + v16.VY)), .int .i32 (512 : Int), .int .i32 (512 : Int)]) (val_load tt_ok rfl (List.Mem.head _) rfl) rfl ?_
      refine wq_pure tt_ok rfl rfl ?_
      refine wq_pure tt_ok rfl rfl ?_
      refine wq_val (v := .agg #[.int .i32 j9_p0_f2.2.X, .int .i32 j9_p0_f2.2.Y, .int .i32 j9_p0_f2.2.VX, .int .i32 j9_p0_f2.2.VY, .int .u8 j9_p0_f2.2.Health, .int .u8 j9_p0_f2.2.Cool, .int .u8 j9_p0_f2.2.Face]) (val_load tt_ok rfl (List.Mem.tail _ (List.Mem.tail _ (List.Mem.head _))) rfl) rfl ?_
      replace h := bsome h; obtain ⟨v56, x56, h⟩ := h
      refine wq_cq Tryd.call56 rfl rfl rfl (q_pf (k_step_box x56) (fun _ _ => trivial)) rfl ?_
      replace h := bsome h; obtain ⟨v57, x57, h⟩ := h
      refine wq_cq Tryd.call55 rfl rfl rfl (q_pf (k_geom_Over x57) (fun _ _ => trivial)) rfl ?_
      refine wq_pure tt_ok rfl rfl ?_
      refine wq_nil ?_
      refine wx_then ?_
      refine wc_cond rfl (fun hc => ?_) (fun hc => ?_)
      · replace h := ct hc h
        refine wc_seq ?_
        refine wc_k2 (Ls := (⟨b6, [.int .i32 (IntKind.wrap .i32 (v16.X + v16.VX)), .int .i32 (IntKind.wrap .i32 (v16.Y + v16.VY)), .int .i32 (512 : Int), .int .i32 (512 : Int)], 97, (0, 0)⟩ :: (⟨b5, [.int .i32 (IntKind.wrap .i32 (v16.X + v16.VX)), .int .i32 (IntKind.wrap .i32 (v16.Y + v16.VY)), .int .i32 v16.VX, .int .i32 v16.VY, .int .u8 v16.Owner, .int .u8 (IntKind.wrap .u8 (v16.Life - (1 : Int)))], 92, (0, 0)⟩ :: (⟨p0b, [.int .u64 p0.Frame, .int .u64 p0.Seed, .int .i32 j9_p0_f2.1.X, .int .i32 j9_p0_f2.1.Y, .int .i32 j9_p0_f2.1.VX, .int .i32 j9_p0_f2.1.VY, .int .u8 j9_p0_f2.1.Health, .int .u8 j9_p0_f2.1.Cool, .int .u8 j9_p0_f2.1.Face, .int .i32 j9_p0_f2.2.X, .int .i32 j9_p0_f2.2.Y, .int .i32 j9_p0_f2.2.VX, .int .i32 j9_p0_f2.2.VY, .int .u8 j9_p0_f2.2.Health, .int .u8 j9_p0_f2.2.Cool, .int .u8 j9_p0_f2.2.Face, .slice p0a0 p0n0 p0c0, .int .u16 j9_p0_f4.1, .int .u16 j9_p0_f4.2], p0t, (0, 0)⟩ :: (⟨b2, [.int .i32 (0 : Int), .int .i32 (0 : Int), .int .i32 (65536 : Int), .int .i32 (32768 : Int)], 97, (0, 0)⟩ :: (p0B0 ++ (j9_3B0 ++ []))))))) [12] [12] [0, 1, 3, 7, 0, 16, 48, 112, 240, 511, 1023, 2047, 4095] [0, 1, 2, 3, 4, 5, 6, 7, 8, 9, 10, 11, 12] (by kernel_rfl) (by kernel_rfl) (by kernel_rfl) ?_
        refine k_val rfl rfl rfl (pSub (pCons Sel.hc (pCons Sel.hc (pCons Sel.hc (pCons Sel.hc (pApp Sel.ha (pApp Sel.ha pNil))))))) (stepV_ok tt_ok rfl) rfl ?_
        refine k_val rfl rfl rfl (pSub (pCons Sel.hc (pCons Sel.hc (pCons Sel.hc (pCons Sel.hc (pApp Sel.ha (pApp Sel.ha pNil))))))) (stepV_ok tt_ok rfl) rfl ?_
        refine k_val (v := .pointer (some ⟨p0b, 13, none⟩)) rfl rfl rfl (pSub (pCons Sel.hc (pCons Sel.hc (pCons Sel.hc (pCons Sel.hc (pApp Sel.ha (pApp Sel.ha pNil))))))) (stepV_ok tt_ok rfl) rfl ?_
        refine k_val (v := .int .u8 j9_p0_f2.2.Health) rfl rfl rfl (pSub (pCons Sel.hc (pCons Sel.hc (pCons Sel.hc (pCons Sel.hc (pApp Sel.ha (pApp Sel.ha pNil))))))) (val_load tt_ok rfl (List.Mem.tail _ (List.Mem.tail _ (List.Mem.head _))) rfl) rfl ?_
        refine k_val rfl rfl rfl (pSub (pCons Sel.hc (pCons Sel.hc (pCons Sel.hc (pCons Sel.hc (pApp Sel.ha (pApp Sel.ha pNil))))))) (stepV_ok tt_ok rfl) rfl ?_
        refine k_val rfl rfl rfl (pSub (pCons Sel.hc (pCons Sel.hc (pCons Sel.hc (pCons Sel.hc (pApp Sel.ha (pApp Sel.ha pNil))))))) (stepV_ok tt_ok rfl) rfl ?_
        refine k_val (v := .pointer (some ⟨p0b, 13, none⟩)) rfl rfl rfl (pSub (pCons Sel.hc (pCons Sel.hc (pCons Sel.hc (pCons Sel.hc (pApp Sel.ha (pApp Sel.ha pNil))))))) (stepV_ok tt_ok rfl) rfl ?_
        refine k_val (v := .int .u8 j9_p0_f2.2.Health) rfl rfl rfl (pSub (pCons Sel.hc (pCons Sel.hc (pCons Sel.hc (pCons Sel.hc (pApp Sel.ha (pApp Sel.ha pNil))))))) (val_load tt_ok rfl (List.Mem.tail _ (List.Mem.tail _ (List.Mem.head _))) rfl) rfl ?_
        refine k_val (v := .int .u8 (min j9_p0_f2.2.Health (10 : Int))) rfl rfl rfl (pSub (pCons Sel.hc (pCons Sel.hc (pCons Sel.hc (pCons Sel.hc (pApp Sel.ha (pApp Sel.ha pNil))))))) (stepV_ok tt_ok rfl) rfl ?_
        refine k_val (v := .int .u8 (IntKind.wrap .u8 (j9_p0_f2.2.Health - (min j9_p0_f2.2.Health (10 : Int))))) rfl rfl rfl (pSub (pCons Sel.hc (pCons Sel.hc (pCons Sel.hc (pCons Sel.hc (pApp Sel.ha (pApp Sel.ha pNil))))))) (stepV_ok tt_ok rfl) rfl ?_
        refine k_val rfl rfl rfl (pSub (pCons Sel.hc (pCons Sel.hc (pCons Sel.hc (pCons Sel.hc (pApp Sel.ha (pApp Sel.ha pNil))))))) (stepV_ok tt_ok rfl) rfl ?_
        refine k_val (v := .pointer (some ⟨p0b, 13, none⟩)) rfl rfl rfl (pSub (pCons Sel.hc (pCons Sel.hc (pCons Sel.hc (pCons Sel.hc (pApp Sel.ha (pApp Sel.ha pNil))))))) (stepV_ok tt_ok rfl) rfl ?_
        refine k_chg0 rfl rfl rfl (chg_store tt_ok rfl (Upd.there (Upd.there Upd.here)) rfl rfl rfl rfl rfl rfl) (.inl rfl) ?_
        rintro _ _ rfl
        refine k_end (by kernel_rfl) ?_
        refine wx_then ?_
        refine wc_k2 (Ls := (⟨b6, [.int .i32 (IntKind.wrap .i32 (v16.X + v16.VX)), .int .i32 (IntKind.wrap .i32 (v16.Y + v16.VY)), .int .i32 (512 : Int), .int .i32 (512 : Int)], 97, (0, 0)⟩ :: (⟨b5, [.int .i32 (IntKind.wrap .i32 (v16.X + v16.VX)), .int .i32 (IntKind.wrap .i32 (v16.Y + v16.VY)), .int .i32 v16.VX, .int .i32 v16.VY, .int .u8 v16.Owner, .int .u8 (IntKind.wrap .u8 (v16.Life - (1 : Int)))], 92, (0, 0)⟩ :: (⟨p0b, [.int .u64 p0.Frame, .int .u64 p0.Seed, .int .i32 j9_p0_f2.1.X, .int .i32 j9_p0_f2.1.Y, .int .i32 j9_p0_f2.1.VX, .int .i32 j9_p0_f2.1.VY, .int .u8 j9_p0_f2.1.Health, .int .u8 j9_p0_f2.1.Cool, .int .u8 j9_p0_f2.1.Face, .int .i32 j9_p0_f2.2.X, .int .i32 j9_p0_f2.2.Y, .int .i32 j9_p0_f2.2.VX, .int .i32 j9_p0_f2.2.VY, .int .u8 (IntKind.wrap .u8 (j9_p0_f2.2.Health - (min j9_p0_f2.2.Health (10 : Int)))), .int .u8 j9_p0_f2.2.Cool, .int .u8 j9_p0_f2.2.Face, .slice p0a0 p0n0 p0c0, .int .u16 j9_p0_f4.1, .int .u16 j9_p0_f4.2], p0t, (0, 0)⟩ :: (⟨b2, [.int .i32 (0 : Int), .int .i32 (0 : Int), .int .i32 (65536 : Int), .int .i32 (32768 : Int)], 97, (0, 0)⟩ :: (p0B0 ++ (j9_3B0 ++ []))))))) [15] [15] [0, 0, 2, 0, 0, 16, 8, 72, 248, 504, 1016, 2040, 1, 4097, 16383, 32767] [0, 1, 2, 3, 4, 5, 6, 7, 8, 9, 10, 11, 12, 13, 14, 15] (by kernel_rfl) (by kernel_rfl) (by kernel_rfl) ?_
        refine k_val rfl rfl rfl (pSub (pCons Sel.hc (pCons Sel.hc (pCons Sel.hc (pCons Sel.hc (pApp Sel.ha (pApp Sel.ha pNil))))))) (stepV_ok tt_ok rfl) rfl ?_
        refine k_val (v := .pointer (some ⟨b5, 4, none⟩)) rfl rfl rfl (pSub (pCons Sel.hc (pCons Sel.hc (pCons Sel.hc (pCons Sel.hc (pApp Sel.ha (pApp Sel.ha pNil))))))) (stepV_ok tt_ok rfl) rfl ?_
        refine k_val (v := .int .u8 v16.Owner) rfl rfl rfl (pSub (pCons Sel.hc (pCons Sel.hc (pCons Sel.hc (pCons Sel.hc (pApp Sel.ha (pApp Sel.ha pNil))))))) (val_load tt_ok rfl (List.Mem.tail _ (List.Mem.head _)) rfl) rfl ?_
        refine k_val rfl rfl rfl (pSub (pCons Sel.hc (pCons Sel.hc (pCons Sel.hc (pCons Sel.hc (pApp Sel.ha (pApp Sel.ha pNil))))))) (stepV_ok tt_ok rfl) rfl ?_
        refine k_val (v := .pointer (some ⟨b5, 4, none⟩)) rfl rfl rfl (pSub (pCons Sel.hc (pCons Sel.hc (pCons Sel.hc (pCons Sel.hc (pApp Sel.ha (pApp Sel.ha pNil))))))) (stepV_ok tt_ok rfl) rfl ?_
        refine k_val (v := .int .u8 v16.Owner) rfl rfl rfl (pSub (pCons Sel.hc (pCons Sel.hc (pCons Sel.hc (pCons Sel.hc (pApp Sel.ha (pApp Sel.ha pNil))))))) (val_load tt_ok rfl (List.Mem.tail _ (List.Mem.head _)) rfl) rfl ?_
        refine k_val rfl rfl rfl (pSub (pCons Sel.hc (pCons Sel.hc (pCons Sel.hc (pCons Sel.hc (pApp Sel.ha (pApp Sel.ha pNil))))))) (stepV_ok tt_ok rfl) rfl ?_
        refine k_val (v := .pointer (some ⟨p0b, 17, none⟩)) rfl rfl rfl (pSub (pCons Sel.hc (pCons Sel.hc (pCons Sel.hc (pCons Sel.hc (pApp Sel.ha (pApp Sel.ha pNil))))))) (stepV_ok tt_ok rfl) rfl ?_
        rcases Bool.eq_false_or_eq_true (v16.Owner == (0 : Int)) with hx780 | hx780
        · replace h := ct hx780 h
          refine k_val (v := .pointer (some ⟨p0b, 17, none⟩)) rfl rfl rfl (pSub (pCons Sel.hc (pCons Sel.hc (pCons Sel.hc (pCons Sel.hc (pApp Sel.ha (pApp Sel.ha pNil))))))) (val_ia (j := 0) tt_ok rfl rfl rfl rfl (by simpa using hx780) rfl rfl) rfl ?_
          refine k_val (v := .int .u16 j9_p0_f4.1) rfl rfl rfl (pSub (pCons Sel.hc (pCons Sel.hc (pCons Sel.hc (pCons Sel.hc (pApp Sel.ha (pApp Sel.ha pNil))))))) (val_load tt_ok rfl (List.Mem.tail _ (List.Mem.tail _ (List.Mem.head _))) rfl) rfl ?_
          refine k_val (v := .int .u16 (min j9_p0_f4.1 (65534 : Int))) rfl rfl rfl (pSub (pCons Sel.hc (pCons Sel.hc (pCons Sel.hc (pCons Sel.hc (pApp Sel.ha (pApp Sel.ha pNil))))))) (stepV_ok tt_ok rfl) rfl ?_
          refine k_val (v := .int .u16 (IntKind.wrap .u16 ((min j9_p0_f4.1 (65534 : Int)) + (1 : Int)))) rfl rfl rfl (pSub (pCons Sel.hc (pCons Sel.hc (pCons Sel.hc (pCons Sel.hc (pApp Sel.ha (pApp Sel.ha pNil))))))) (stepV_ok tt_ok rfl) rfl ?_
          refine k_val rfl rfl rfl (pSub (pCons Sel.hc (pCons Sel.hc (pCons Sel.hc (pCons Sel.hc (pApp Sel.ha (pApp Sel.ha pNil))))))) (stepV_ok tt_ok rfl) rfl ?_
          refine k_val (v := .pointer (some ⟨p0b, 17, none⟩)) rfl rfl rfl (pSub (pCons Sel.hc (pCons Sel.hc (pCons Sel.hc (pCons Sel.hc (pApp Sel.ha (pApp Sel.ha pNil))))))) (stepV_ok tt_ok rfl) rfl ?_
          refine k_val (v := .pointer (some ⟨p0b, 17, none⟩)) rfl rfl rfl (pSub (pCons Sel.hc (pCons Sel.hc (pCons Sel.hc (pCons Sel.hc (pApp Sel.ha (pApp Sel.ha pNil))))))) (val_ia (j := 0) tt_ok rfl rfl rfl rfl (by simpa using hx780) rfl rfl) rfl ?_
          refine k_chg0 rfl rfl rfl (chg_store tt_ok rfl (Upd.there (Upd.there Upd.here)) rfl rfl rfl rfl rfl rfl) (.inl rfl) ?_
          rintro _ _ rfl
          refine k_end (by kernel_rfl) ?_
          refine wx_block (wx_block (wx_then (wc_region ?_)))
          refine wl_pure (v := .int .i64 (IntKind.wrap .i64 (j9_14 + (1 : Int)))) tt_ok rfl rfl ?_
          refine wl_pure tt_ok rfl rfl ?_
          refine wl_nil ?_
          exact wx_round m9 (Nat.lt_succ_self m9) ⟨j9_3, (IntKind.wrap .i64 (j9_14 + (1 : Int))), (j9_p0_f2.1, (T_api_Player.mk j9_p0_f2.2.X j9_p0_f2.2.Y j9_p0_f2.2.VX j9_p0_f2.2.VY (IntKind.wrap .u8 (j9_p0_f2.2.Health - (min j9_p0_f2.2.Health (10 : Int)))) j9_p0_f2.2.Cool j9_p0_f2.2.Face)), ((IntKind.wrap .u16 ((min j9_p0_f4.1 (65534 : Int)) + (1 : Int))), j9_p0_f4.2), j9_3a0, j9_3n0, j9_3c0, j9_3B0, h, j9_3N0, j9_3V0, rfl, rfl⟩ (agree_cons rfl (agree_cons rfl (agree_cons rfl (agree_cons rfl (agree_cons rfl (agree_cons rfl agree_nil)))))) (pSub (pCons (Sel.sc (Sel.sc Sel.hc)) (pCons (Sel.sc (Sel.sc Sel.hc)) (pApp (Sel.sc (Sel.sc Sel.ha)) (pApp (Sel.sc (Sel.sc Sel.ha)) pNil)))))
        replace h := cf hx780 h
        rcases Bool.eq_false_or_eq_true (v16.Owner == (1 : Int)) with hx781 | hx781
        · replace h := ct hx781 h
          refine k_val (v := .pointer (some ⟨p0b, 18, none⟩)) rfl rfl rfl (pSub (pCons Sel.hc (pCons Sel.hc (pCons Sel.hc (pCons Sel.hc (pApp Sel.ha (pApp Sel.ha pNil))))))) (val_ia (j := 1) tt_ok rfl rfl rfl rfl (by simpa using hx781) rfl rfl) rfl ?_
          refine k_val (v := .int .u16 j9_p0_f4.2) rfl rfl rfl (pSub (pCons Sel.hc (pCons Sel.hc (pCons Sel.hc (pCons Sel.hc (pApp Sel.ha (pApp Sel.ha pNil))))))) (val_load tt_ok rfl (List.Mem.tail _ (List.Mem.tail _ (List.Mem.head _))) rfl) rfl ?_
          refine k_val (v := .int .u16 (min j9_p0_f4.2 (65534 : Int))) rfl rfl rfl (pSub (pCons Sel.hc (pCons Sel.hc (pCons Sel.hc (pCons Sel.hc (pApp Sel.ha (pApp Sel.ha pNil))))))) (stepV_ok tt_ok rfl) rfl ?_
          refine k_val (v := .int .u16 (IntKind.wrap .u16 ((min j9_p0_f4.2 (65534 : Int)) + (1 : Int)))) rfl rfl rfl (pSub (pCons Sel.hc (pCons Sel.hc (pCons Sel.hc (pCons Sel.hc (pApp Sel.ha (pApp Sel.ha pNil))))))) (stepV_ok tt_ok rfl) rfl ?_
          refine k_val rfl rfl rfl (pSub (pCons Sel.hc (pCons Sel.hc (pCons Sel.hc (pCons Sel.hc (pApp Sel.ha (pApp Sel.ha pNil))))))) (stepV_ok tt_ok rfl) rfl ?_
          refine k_val (v := .pointer (some ⟨p0b, 17, none⟩)) rfl rfl rfl (pSub (pCons Sel.hc (pCons Sel.hc (pCons Sel.hc (pCons Sel.hc (pApp Sel.ha (pApp Sel.ha pNil))))))) (stepV_ok tt_ok rfl) rfl ?_
          refine k_val (v := .pointer (some ⟨p0b, 18, none⟩)) rfl rfl rfl (pSub (pCons Sel.hc (pCons Sel.hc (pCons Sel.hc (pCons Sel.hc (pApp Sel.ha (pApp Sel.ha pNil))))))) (val_ia (j := 1) tt_ok rfl rfl rfl rfl (by simpa using hx781) rfl rfl) rfl ?_
          refine k_chg0 rfl rfl rfl (chg_store tt_ok rfl (Upd.there (Upd.there Upd.here)) rfl rfl rfl rfl rfl rfl) (.inl rfl) ?_
          rintro _ _ rfl
          refine k_end (by kernel_rfl) ?_
          refine wx_block (wx_block (wx_then (wc_region ?_)))
          refine wl_pure (v := .int .i64 (IntKind.wrap .i64 (j9_14 + (1 : Int)))) tt_ok rfl rfl ?_
          refine wl_pure tt_ok rfl rfl ?_
          refine wl_nil ?_
          exact wx_round m9 (Nat.lt_succ_self m9) ⟨j9_3, (IntKind.wrap .i64 (j9_14 + (1 : Int))), (j9_p0_f2.1, (T_api_Player.mk j9_p0_f2.2.X j9_p0_f2.2.Y j9_p0_f2.2.VX j9_p0_f2.2.VY (IntKind.wrap .u8 (j9_p0_f2.2.Health - (min j9_p0_f2.2.Health (10 : Int)))) j9_p0_f2.2.Cool j9_p0_f2.2.Face)), (j9_p0_f4.1, (IntKind.wrap .u16 ((min j9_p0_f4.2 (65534 : Int)) + (1 : Int)))), j9_3a0, j9_3n0, j9_3c0, j9_3B0, h, j9_3N0, j9_3V0, rfl, rfl⟩ (agree_cons rfl (agree_cons rfl (agree_cons rfl (agree_cons rfl (agree_cons rfl (agree_cons rfl agree_nil)))))) (pSub (pCons (Sel.sc (Sel.sc Sel.hc)) (pCons (Sel.sc (Sel.sc Sel.hc)) (pApp (Sel.sc (Sel.sc Sel.ha)) (pApp (Sel.sc (Sel.sc Sel.ha)) pNil)))))
        replace h := cf hx781 h
        cases h
      replace h := cf hc h
      refine wc_seq (wc_region ?_)
      refine wl_pure (v := .pointer (some ⟨b5, 5, none⟩)) tt_ok rfl rfl ?_
      refine wl_val (v := .int .u8 (IntKind.wrap .u8 (v16.Life - (1 : Int)))) (val_load tt_ok rfl (List.Mem.tail _ (List.Mem.head _)) rfl) rfl ?_
      refine wl_pure (v := .bool (decide ((0 : Int) < (IntKind.wrap .u8 (v16.Life - (1 : Int)))))) tt_ok rfl rfl ?_
      refine wl_pure tt_ok rfl rfl ?_
      refine wl_nil (wx_then ?_)
      refine wc_cond rfl (fun hc => ?_) (fun hc => ?_)
      · replace h := ct hc h
        refine wc_region ?_
        refine wl_pure tt_ok rfl rfl ?_
        refine wl_val (v := .agg #[.int .i32 (IntKind.wrap .i32 (v16.X + v16.VX)), .int .i32 (IntKind.wrap .i32 (v16.Y + v16.VY)), .int .i32 v16.VX, .int .i32 v16.VY, .int .u8 v16.Owner, .int .u8 (IntKind.wrap .u8 (v16.Life - (1 : Int)))]) (val_load tt_ok rfl (List.Mem.tail _ (List.Mem.head _)) rfl) rfl ?_
        refine wl_chg (chg_bsv (enc := c_T_api_Shot) (xs := ([(T_api_Shot.mk (IntKind.wrap .i32 (v16.X + v16.VX)) (IntKind.wrap .i32 (v16.Y + v16.VY)) v16.VX v16.VY v16.Owner (IntKind.wrap .u8 (v16.Life - (1 : Int))))] : List T_api_Shot)) tt_ok rfl rfl rfl rfl rfl rfl rfl rfl c_T_api_Shot_len) rfl ?_
        rintro _ _ ⟨a91, n91_, c91, B91, rfl, N91, V91, rfl⟩
        replace h := bsome h; obtain ⟨v92, x92, h⟩ := h
        refine wl_chg (chg_app (enc := c_T_api_Shot) (ys := ([(T_api_Shot.mk (IntKind.wrap .i32 (v16.X + v16.VX)) (IntKind.wrap .i32 (v16.Y + v16.VY)) v16.VX v16.VY v16.Owner (IntKind.wrap .u8 (v16.Life - (1 : Int))))] : List T_api_Shot)) tt_ok rfl rfl rfl rfl rfl rfl j9_3N0 N91 j9_3V0 (Sel.sa (Sel.sc (Sel.sc (Sel.sc (Sel.sc (Sel.sa Sel.ha)))))) (Rds.of_vec V91) ⟨_, Sel.ha⟩ c_T_api_Shot_len (fun _ => rfl) rfl x92) rfl ?_
        rintro _ _ ⟨a92, n92_, c92, B92, rfl, N92, V92, rfl⟩
        refine wl_pure tt_ok rfl rfl ?_
        refine wl_nil (wx_block (wx_block (wx_then (wc_region ?_))))
        refine wl_pure (v := .int .i64 (IntKind.wrap .i64 (j9_14 + (1 : Int)))) tt_ok rfl rfl ?_
        refine wl_pure tt_ok rfl rfl ?_
        refine wl_nil ?_
        exact wx_round m9 (Nat.lt_succ_self m9) ⟨v92, (IntKind.wrap .i64 (j9_14 + (1 : Int))), j9_p0_f2, j9_p0_f4, a92, n92_, c92, B92, h, N92, V92, rfl, rfl⟩ (agree_cons rfl (agree_cons rfl (agree_cons rfl (agree_cons rfl (agree_cons rfl (agree_cons rfl agree_nil)))))) (pSub (pCons (Sel.sa (Sel.sa (Sel.sc (Sel.sc Sel.hc)))) (pCons (Sel.sa (Sel.sa (Sel.sc (Sel.sc Sel.hc)))) (pApp (Sel.sa (Sel.sa (Sel.sc (Sel.sc Sel.ha)))) (pApp Sel.ha pNil)))))
      replace h := cf hc h
      refine wc_skip (wx_block (wx_block (wx_then (wc_region ?_))))
      refine wl_pure (v := .int .i64 (IntKind.wrap .i64 (j9_14 + (1 : Int)))) tt_ok rfl rfl ?_
      refine wl_pure tt_ok rfl rfl ?_
      refine wl_nil ?_
      exact wx_round m9 (Nat.lt_succ_self m9) ⟨j9_3, (IntKind.wrap .i64 (j9_14 + (1 : Int))), j9_p0_f2, j9_p0_f4, j9_3a0, j9_3n0, j9_3c0, j9_3B0, h, j9_3N0, j9_3V0, rfl, rfl⟩ (agree_cons rfl (agree_cons rfl (agree_cons rfl (agree_cons rfl (agree_cons rfl (agree_cons rfl agree_nil)))))) (pSub (pCons (Sel.sc (Sel.sc Sel.hc)) (pCons (Sel.sc (Sel.sc Sel.hc)) (pApp (Sel.sc (Sel.sc Sel.ha)) (pApp (Sel.sc (Sel.sc Sel.ha)) pNil)))))
    replace h := cf hx451 h
    cases h
  replace h := cf hc h
  refine wc_exit (wx_then_exit ?_)
  simp only [Option.some.injEq, Prod.mk.injEq] at h
  obtain ⟨rfl, rfl, rfl⟩ := h
  have h := hl9; clear hl9; try dsimp only [orE_l, orE_r] at h
  refine wx_then_exit (wx_block_exit (wx_then (wc_region ?_)))
  iterate 3 refine wl_pure tt_ok rfl rfl ?_
  refine wl_pure (v := .pointer (some ⟨p0b, 16, none⟩)) tt_ok rfl rfl ?_
  apply wl_store tt_ok; rfl; exact Upd.here; rfl; rfl; rfl; rfl; rfl; rfl
  refine wl_nil ?_
  simp only [Option.some.injEq] at h
  obtain rfl := h
  exact wx_spD tt_ok (.inr rfl) Tryd.results58 Res.nil ⟨j9_3a0, j9_3n0, j9_3c0, j9_3B0, j9_3N0, j9_3V0, rfl, rfl⟩ (fun F => by simp) (pSub (pCons Sel.hc (pApp (Sel.sc (Sel.sa Sel.ha)) pNil)))

theorem k_rng_Source_Skip {F : Nat} {p0 : T_rng_Source} {p1 : Int} {r0 : T_rng_Source} (h : m_rng_Source_Skip F p0 p1 = some r0) :
    Pf Tryd.prog 86 [.agg #[.int .u64 p0.S], .int .u64 p1] (fun w => True) (.agg #[.int .u64 r0.S]) := by
  unfold m_rng_Source_Skip at h
  refine pf_of_wc Tryd.func86 rfl Tryd.ntmps86 rfl rfl (fun w0 hR => ?_)
  refine wc_seq (wc_region ?_)
  refine wl_box rfl rfl rfl (fun b2 => ?_)
  refine wl_alloc tt_ok rfl rfl (fun b4 => ?_)
  refine wl_nil (wx_then (wc_seq (wc_region ?_)))
  refine wl_pure (v := .pointer (some ⟨b2, 0, none⟩)) tt_ok rfl rfl ?_
  refine wl_val (v := .int .u64 p0.S) (val_load tt_ok rfl (List.Mem.tail _ (List.Mem.head _)) rfl) rfl ?_
  refine wl_pure tt_ok rfl rfl ?_
  refine wl_pure (v := .int .u64 (IntKind.wrap .u64 (p1 * (11400714819323198485 : Int)))) tt_ok rfl rfl ?_
  refine wl_pure (v := .int .u64 (IntKind.wrap .u64 (p0.S + (IntKind.wrap .u64 (p1 * (11400714819323198485 : Int)))))) tt_ok rfl rfl ?_
  refine wl_pure (v := .agg #[.int .u64 (IntKind.wrap .u64 (p0.S + (IntKind.wrap .u64 (p1 * (11400714819323198485 : Int)))))]) tt_ok rfl rfl ?_
  apply wl_store tt_ok; rfl; exact Upd.here; rfl; rfl; rfl; rfl; rfl; rfl
  refine wl_nil (wx_then (wc_ret ?_))
  simp only [Option.some.injEq] at h
  obtain rfl := h
  exact wx_pf tt_ok (.inl rfl) Tryd.results86 (Res.cell rfl (List.Mem.head _) rfl Res.nil) rfl

theorem k_rng_Mix {F : Nat} {p0 : Int} {r0 : Int} (h : m_rng_Mix F p0 = some r0) :
    Pf Tryd.prog 87 [.int .u64 p0] (fun w => True) (.int .u64 r0) := by
  unfold m_rng_Mix at h
  refine pf_of_wc Tryd.func87 rfl Tryd.ntmps87 rfl rfl (fun w0 hR => ?_)
  refine wc_seq (wc_region ?_)
  refine wl_pure tt_ok rfl rfl ?_
  refine wl_nil (wx_then (wc_seq (wc_region ?_)))
  iterate 2 refine wl_pure tt_ok rfl rfl ?_
  refine wl_pure (v := .int .u64 (p0 / 2 ^ (min 30 (IntKind.bits .u64)))) tt_ok rfl rfl ?_
  refine wl_pure (v := .int .u64 (bits .xor .u64 p0 (p0 / 2 ^ (min 30 (IntKind.bits .u64))))) tt_ok rfl rfl ?_
  refine wl_pure (v := .int .u64 (IntKind.wrap .u64 ((bits .xor .u64 p0 (p0 / 2 ^ (min 30 (IntKind.bits .u64)))) * (13787848793156543929 : Int)))) tt_ok rfl rfl ?_
  refine wl_pure tt_ok rfl rfl ?_
  refine wl_nil (wx_then (wc_seq (wc_region ?_)))
  iterate 2 refine wl_pure tt_ok rfl rfl ?_
  refine wl_pure (v := .int .u64 ((IntKind.wrap .u64 ((bits .xor .u64 p0 (p0 / 2 ^ (min 30 (IntKind.bits .u64)))) * (13787848793156543929 : Int))) / 2 ^ (min 27 (IntKind.bits .u64)))) tt_ok rfl rfl ?_
  refine wl_pure (v := .int .u64 (bits .xor .u64 (IntKind.wrap .u64 ((bits .xor .u64 p0 (p0 / 2 ^ (min 30 (IntKind.bits .u64)))) * (13787848793156543929 : Int))) ((IntKind.wrap .u64 ((bits .xor .u64 p0 (p0 / 2 ^ (min 30 (IntKind.bits .u64)))) * (13787848793156543929 : Int))) / 2 ^ (min 27 (IntKind.bits .u64))))) tt_ok rfl rfl ?_
  refine wl_pure (v := .int .u64 (IntKind.wrap .u64 ((bits .xor .u64 (IntKind.wrap .u64 ((bits .xor .u64 p0 (p0 / 2 ^ (min 30 (IntKind.bits .u64)))) * (13787848793156543929 : Int))) ((IntKind.wrap .u64 ((bits .xor .u64 p0 (p0 / 2 ^ (min 30 (IntKind.bits .u64)))) * (13787848793156543929 : Int))) / 2 ^ (min 27 (IntKind.bits .u64)))) * (10723151780598845931 : Int)))) tt_ok rfl rfl ?_
  refine wl_pure tt_ok rfl rfl ?_
  refine wl_nil (wx_then (wc_seq (wc_region ?_)))
  iterate 2 refine wl_pure tt_ok rfl rfl ?_
  refine wl_pure (v := .int .u64 ((IntKind.wrap .u64 ((bits .xor .u64 (IntKind.wrap .u64 ((bits .xor .u64 p0 (p0 / 2 ^ (min 30 (IntKind.bits .u64)))) * (13787848793156543929 : Int))) ((IntKind.wrap .u64 ((bits .xor .u64 p0 (p0 / 2 ^ (min 30 (IntKind.bits .u64)))) * (13787848793156543929 : Int))) / 2 ^ (min 27 (IntKind.bits .u64)))) * (10723151780598845931 : Int))) / 2 ^ (min 31 (IntKind.bits .u64)))) tt_ok rfl rfl ?_
  refine wl_pure (v := .int .u64 (bits .xor .u64 (IntKind.wrap .u64 ((bits .xor .u64 (IntKind.wrap .u64 ((bits .xor .u64 p0 (p0 / 2 ^ (min 30 (IntKind.bits .u64)))) * (13787848793156543929 : Int))) ((IntKind.wrap .u64 ((bits .xor .u64 p0 (p0 / 2 ^ (min 30 (IntKind.bits .u64)))) * (13787848793156543929 : Int))) / 2 ^ (min 27 (IntKind.bits .u64)))) * (10723151780598845931 : Int))) ((IntKind.wrap .u64 ((bits .xor .u64 (IntKind.wrap .u64 ((bits .xor .u64 p0 (p0 / 2 ^ (min 30 (IntKind.bits .u64)))) * (13787848793156543929 : Int))) ((IntKind.wrap .u64 ((bits .xor .u64 p0 (p0 / 2 ^ (min 30 (IntKind.bits .u64)))) * (13787848793156543929 : Int))) / 2 ^ (min 27 (IntKind.bits .u64)))) * (10723151780598845931 : Int))) / 2 ^ (min 31 (IntKind.bits .u64))))) tt_ok rfl rfl ?_
  refine wl_pure tt_ok rfl rfl ?_
  refine wl_nil (wx_then (wc_ret ?_))
  simp only [Option.some.injEq] at h
  obtain rfl := h
  exact wx_pf tt_ok (.inl rfl) Tryd.results87 (Res.tmp rfl Res.nil) rfl

theorem k_rng_Source_Next {F : Nat} {p0 : T_rng_Source} {r0 : Int} {r1 : T_rng_Source} (h : m_rng_Source_Next F p0 = some (r0, r1)) :
    Pf Tryd.prog 84 [.agg #[.int .u64 p0.S]] (fun w => True) (.tuple #[.int .u64 r0, .agg #[.int .u64 r1.S]]) := by
  unfold m_rng_Source_Next at h
  refine pf_of_wc Tryd.func84 rfl Tryd.ntmps84 rfl rfl (fun w0 hR => ?_)
  refine wc_seq (wc_region ?_)
  refine wl_box rfl rfl rfl (fun b1 => ?_)
  refine wl_pure tt_ok rfl rfl ?_
  refine wl_alloc tt_ok rfl rfl (fun b3 => ?_)
  refine wl_nil (wx_then (wc_seq (wc_region ?_)))
  refine wl_val (v := .agg #[.int .u64 p0.S]) (val_load tt_ok rfl (List.Mem.tail _ (List.Mem.head _)) rfl) rfl ?_
  replace h := bsome h; obtain ⟨v5, x5, h⟩ := h
  refine wl_cq Tryd.call86 rfl rfl rfl (q_pf (k_rng_Source_Skip x5) (fun _ _ => trivial)) rfl ?_
  apply wl_store tt_ok; rfl; exact (Upd.there Upd.here); rfl; rfl; rfl; rfl; rfl; rfl
  refine wl_nil (wx_then (wc_seq ?_))
  refine wc_k2 (Ls := (⟨b3, [.int .u64 (0 : Int)], 135, (0, 0)⟩ :: (⟨b1, [.int .u64 v5.S], 135, (0, 0)⟩ :: []))) [2, 4, 5] [5] [0, 1, 3, 0, 7, 31] [0, 1, 3, 2, 4, 5] (by kernel_rfl) (by kernel_rfl) (by kernel_rfl) ?_
  refine k_val (v := .pointer (some ⟨b1, 0, none⟩)) rfl rfl rfl (pSub (pCons Sel.hc (pCons Sel.hc pNil))) (stepV_ok tt_ok rfl) rfl ?_
  refine k_val (v := .int .u64 v5.S) rfl rfl rfl (pSub (pCons Sel.hc (pCons Sel.hc pNil))) (val_load tt_ok rfl (List.Mem.tail _ (List.Mem.head _)) rfl) rfl ?_
  refine k_val (v := .agg #[.int .u64 v5.S]) rfl rfl rfl (pSub (pCons Sel.hc (pCons Sel.hc pNil))) (val_load tt_ok rfl (List.Mem.tail _ (List.Mem.head _)) rfl) rfl ?_
  replace h := bsome h; obtain ⟨v8, x8, h⟩ := h
  refine k_cq rfl rfl rfl Tryd.call87 rfl rfl rfl (q_pf (k_rng_Mix x8) (fun _ _ => trivial)) rfl (pSub (pCons Sel.hc (pCons Sel.hc pNil))) ?_
  refine k_chg rfl rfl rfl (Chg.of_val (stepV_ok tt_ok rfl)) rfl (.inr (by rintro _ _ ⟨rfl, rfl⟩; exact (pSub (pCons Sel.hc (pCons Sel.hc pNil))))) ?_
  rintro _ _ ⟨rfl, rfl⟩
  refine k_chg0 rfl rfl rfl (chg_store tt_ok rfl Upd.here rfl rfl rfl rfl rfl rfl) (.inl rfl) ?_
  rintro _ _ rfl
  refine k_end (by kernel_rfl) ?_
  refine wx_then (wc_ret ?_)
  simp only [Option.some.injEq, Prod.mk.injEq] at h
  obtain ⟨rfl, rfl⟩ := h
  exact wx_pf tt_ok (.inl rfl) Tryd.results84 (Res.tmp rfl (Res.cell rfl (List.Mem.head _) rfl Res.nil)) rfl

theorem k_rng_Source_Below {F : Nat} {p0 : T_rng_Source} {p1 : Int} {r0 : Int} {r1 : T_rng_Source} (h : m_rng_Source_Below F p0 p1 = some (r0, r1)) :
    Pf Tryd.prog 78 [.agg #[.int .u64 p0.S], .int .i64 p1] (fun w => True) (.tuple #[.int .i64 r0, .agg #[.int .u64 r1.S]]) := by
  unfold m_rng_Source_Below at h
  refine pf_of_wc Tryd.func78 rfl Tryd.ntmps78 rfl rfl (fun w0 hR => ?_)
  refine wc_seq (wc_region ?_)
  refine wl_box rfl rfl rfl (fun b2 => ?_)
  refine wl_pure tt_ok rfl rfl ?_
  refine wl_alloc tt_ok rfl rfl (fun b5 => ?_)
  refine wl_nil (wx_then (wc_seq (wc_seq (wc_region ?_))))
  refine wl_pure tt_ok rfl rfl ?_
  refine wl_pure (v := .bool (decide (p1 < (1 : Int)))) tt_ok rfl rfl ?_
  refine wl_nil (wx_then ?_)
  refine wc_cond rfl (fun hc => ?_) (fun hc => ?_)
  · replace h := ct hc h
    refine wc_seq ?_
    refine wc_k2 (Ls := (⟨b5, [.int .u64 (0 : Int)], 135, (0, 0)⟩ :: (⟨b2, [.int .u64 p0.S], 135, (0, 0)⟩ :: []))) [2] [2] [0, 0, 3] [0, 1, 2] (by kernel_rfl) (by kernel_rfl) (by kernel_rfl) ?_
    refine k_val (v := .agg #[.int .u64 p0.S]) rfl rfl rfl (pSub (pCons Sel.hc (pCons Sel.hc pNil))) (val_load tt_ok rfl (List.Mem.tail _ (List.Mem.head _)) rfl) rfl ?_
    refine k_val rfl rfl rfl (pSub (pCons Sel.hc (pCons Sel.hc pNil))) (stepV_ok tt_ok rfl) rfl ?_
    refine k_chg0 rfl rfl rfl (chg_store tt_ok rfl Upd.here rfl rfl rfl rfl rfl rfl) (.inl rfl) ?_
    rintro _ _ rfl
    refine k_end (by kernel_rfl) ?_
    refine wx_then (wc_ret (wx_then_ret ?_))
    simp only [Option.some.injEq, Prod.mk.injEq] at h
    obtain ⟨rfl, rfl⟩ := h
    exact wx_pf tt_ok (.inl rfl) Tryd.results78 (Res.tmp rfl (Res.cell rfl (List.Mem.head _) rfl Res.nil)) rfl
  replace h := cf hc h
  refine wc_skip (wx_then (wc_seq (wc_region ?_)))
  refine wl_val (v := .agg #[.int .u64 p0.S]) (val_load tt_ok rfl (List.Mem.tail _ (List.Mem.head _)) rfl) rfl ?_
  replace h := bsome h; obtain ⟨⟨v13_0, v13_1⟩, x13, h⟩ := h; try dsimp only at h
  refine wl_cq Tryd.call84 rfl rfl rfl (q_pf (k_rng_Source_Next x13) (fun _ _ => trivial)) rfl ?_
  iterate 3 refine wl_pure tt_ok rfl rfl ?_
  refine wl_alloc tt_ok rfl rfl (fun b7 => ?_)
  refine wl_pure tt_ok rfl rfl ?_
  apply wl_store tt_ok; rfl; exact Upd.here; rfl; rfl; rfl; rfl; rfl; rfl
  refine wl_nil (wx_then (wc_seq ?_))
  refine wc_k2 (Ls := (⟨b7, [.int .u64 v13_1.S], 135, (0, 0)⟩ :: (⟨b5, [.int .u64 (0 : Int)], 135, (0, 0)⟩ :: (⟨b2, [.int .u64 p0.S], 135, (0, 0)⟩ :: [])))) [10] [10] [0, 1, 0, 4, 12, 31, 63, 127, 0, 255, 1023] [0, 1, 2, 3, 4, 5, 6, 7, 8, 9, 10] (by kernel_rfl) (by kernel_rfl) (by kernel_rfl) ?_
  refine k_val rfl rfl rfl (pSub (pCons Sel.hc (pCons Sel.hc (pCons Sel.hc pNil)))) (stepV_ok tt_ok rfl) rfl ?_
  refine k_val (v := .int .u64 (v13_0 / 2 ^ (min 32 (IntKind.bits .u64)))) rfl rfl rfl (pSub (pCons Sel.hc (pCons Sel.hc (pCons Sel.hc pNil)))) (stepV_ok tt_ok rfl) rfl ?_
  refine k_val rfl rfl rfl (pSub (pCons Sel.hc (pCons Sel.hc (pCons Sel.hc pNil)))) (stepV_ok tt_ok rfl) rfl ?_
  refine k_val (v := .int .i64 (min p1 (2147483648 : Int))) rfl rfl rfl (pSub (pCons Sel.hc (pCons Sel.hc (pCons Sel.hc pNil)))) (stepV_ok tt_ok rfl) rfl ?_
  refine k_val (v := .int .u64 (IntKind.wrap .u64 (min p1 (2147483648 : Int)))) rfl rfl rfl (pSub (pCons Sel.hc (pCons Sel.hc (pCons Sel.hc pNil)))) (stepV_ok tt_ok rfl) rfl ?_
  refine k_val (v := .int .u64 (IntKind.wrap .u64 ((v13_0 / 2 ^ (min 32 (IntKind.bits .u64))) * (IntKind.wrap .u64 (min p1 (2147483648 : Int)))))) rfl rfl rfl (pSub (pCons Sel.hc (pCons Sel.hc (pCons Sel.hc pNil)))) (stepV_ok tt_ok rfl) rfl ?_
  refine k_val (v := .int .u64 ((IntKind.wrap .u64 ((v13_0 / 2 ^ (min 32 (IntKind.bits .u64))) * (IntKind.wrap .u64 (min p1 (2147483648 : Int))))) / 2 ^ (min 32 (IntKind.bits .u64)))) rfl rfl rfl (pSub (pCons Sel.hc (pCons Sel.hc (pCons Sel.hc pNil)))) (stepV_ok tt_ok rfl) rfl ?_
  refine k_val (v := .int .i64 (IntKind.wrap .i64 ((IntKind.wrap .u64 ((v13_0 / 2 ^ (min 32 (IntKind.bits .u64))) * (IntKind.wrap .u64 (min p1 (2147483648 : Int))))) / 2 ^ (min 32 (IntKind.bits .u64))))) rfl rfl rfl (pSub (pCons Sel.hc (pCons Sel.hc (pCons Sel.hc pNil)))) (stepV_ok tt_ok rfl) rfl ?_
  refine k_val (v := .agg #[.int .u64 v13_1.S]) rfl rfl rfl (pSub (pCons Sel.hc (pCons Sel.hc (pCons Sel.hc pNil)))) (val_load tt_ok rfl (List.Mem.head _) rfl) rfl ?_
  refine k_val rfl rfl rfl (pSub (pCons Sel.hc (pCons Sel.hc (pCons Sel.hc pNil)))) (stepV_ok tt_ok rfl) rfl ?_
  refine k_chg0 rfl rfl rfl (chg_store tt_ok rfl (Upd.there Upd.here) rfl rfl rfl rfl rfl rfl) (.inl rfl) ?_
  rintro _ _ rfl
  refine k_end (by kernel_rfl) ?_
  refine wx_then (wc_ret ?_)
  simp only [Option.some.injEq, Prod.mk.injEq] at h
  obtain ⟨rfl, rfl⟩ := h
  exact wx_pf tt_ok (.inl rfl) Tryd.results78 (Res.tmp rfl (Res.cell rfl (List.Mem.tail _ (List.Mem.head _)) rfl Res.nil)) rfl

theorem k_step_revive {F : Nat} {p0 : T_api_State} {p0b p0t : Nat} {p0a0 : Option Addr} {p0n0 : Nat} {p0c0 : Nat} {p0B0 : List Blk} {p1 : Int} {r0 : T_api_State} (p0N0 : p0n0 = p0.Shots.length) (p0V0 : Own 92 6 p0a0 p0n0 p0c0 (flat c_T_api_Shot p0.Shots) p0B0) (h : m_step_revive F p0 p1 = some r0) :
    SpD Tryd.prog 59 [.pointer (some ⟨p0b, 0, none⟩), .int .i64 p1] (⟨p0b, [.int .u64 p0.Frame, .int .u64 p0.Seed, .int .i32 p0.Players.1.X, .int .i32 p0.Players.1.Y, .int .i32 p0.Players.1.VX, .int .i32 p0.Players.1.VY, .int .u8 p0.Players.1.Health, .int .u8 p0.Players.1.Cool, .int .u8 p0.Players.1.Face, .int .i32 p0.Players.2.X, .int .i32 p0.Players.2.Y, .int .i32 p0.Players.2.VX, .int .i32 p0.Players.2.VY, .int .u8 p0.Players.2.Health, .int .u8 p0.Players.2.Cool, .int .u8 p0.Players.2.Face, .slice p0a0 p0n0 p0c0, .int .u16 p0.Score.1, .int .u16 p0.Score.2], p0t, (0, 0)⟩ :: (p0B0 ++ [])) (fun w => True) (fun v D => ∃ (r0a0 : Option Addr) (r0n0 : Nat) (r0c0 : Nat) (r0B0 : List Blk), r0n0 = r0.Shots.length ∧ Own 92 6 r0a0 r0n0 r0c0 (flat c_T_api_Shot r0.Shots) r0B0 ∧ v = .tuple #[] ∧ D = fun F => (⟨p0b, [.int .u64 r0.Frame, .int .u64 r0.Seed, .int .i32 r0.Players.1.X, .int .i32 r0.Players.1.Y, .int .i32 r0.Players.1.VX, .int .i32 r0.Players.1.VY, .int .u8 r0.Players.1.Health, .int .u8 r0.Players.1.Cool, .int .u8 r0.Players.1.Face, .int .i32 r0.Players.2.X, .int .i32 r0.Players.2.Y, .int .i32 r0.Players.2.VX, .int .i32 r0.Players.2.VY, .int .u8 r0.Players.2.Health, .int .u8 r0.Players.2.Cool, .int .u8 r0.Players.2.Face, .slice r0a0 r0n0 r0c0, .int .u16 r0.Score.1, .int .u16 r0.Score.2], p0t, (0, 0)⟩ :: (r0B0 ++ F))) := by
  unfold m_step_revive at h
  refine sp_of_wc Tryd.func59 rfl Tryd.ntmps59 rfl rfl (fun w0 hR => ?_)
  refine wc_seq (wc_region ?_)
  iterate 3 refine wl_pure tt_ok rfl rfl ?_
  refine wl_pure (v := .pointer (some ⟨p0b, 2, none⟩)) tt_ok rfl rfl ?_
  rcases Bool.eq_false_or_eq_true (p1 == (0 : Int)) with hx130 | hx130
  · replace h := ct hx130 h
    refine wl_val (v := .pointer (some ⟨p0b, 2, none⟩)) (val_ia (j := 0) tt_ok rfl rfl rfl rfl (by simpa using hx130) rfl rfl) rfl ?_
    refine wl_val (v := .agg #[.int .i32 p0.Players.1.X, .int .i32 p0.Players.1.Y, .int .i32 p0.Players.1.VX, .int .i32 p0.Players.1.VY, .int .u8 p0.Players.1.Health, .int .u8 p0.Players.1.Cool, .int .u8 p0.Players.1.Face]) (val_load tt_ok rfl (List.Mem.head _) rfl) rfl ?_
    replace h := bsome h; obtain ⟨v15, x15, h⟩ := h
    refine wl_cq Tryd.call57 rfl rfl rfl (q_pf (k_step_stopped x15) (fun _ _ => trivial)) rfl ?_
    refine wl_alloc tt_ok rfl rfl (fun b4 => ?_)
    apply wl_store tt_ok; rfl; exact Upd.here; rfl; rfl; rfl; rfl; rfl; rfl
    refine wl_nil (wx_then (wc_seq (wc_region ?_)))
    refine wl_pure (v := .pointer (some ⟨b4, 4, none⟩)) tt_ok rfl rfl ?_
    apply wl_store tt_ok; rfl; exact Upd.here; rfl; rfl; rfl; rfl; rfl; rfl
    refine wl_nil (wx_then (wc_seq (wc_region ?_)))
    iterate 2 refine wl_pure tt_ok rfl rfl ?_
    refine wl_pure (v := .pointer (some ⟨p0b, 1, none⟩)) tt_ok rfl rfl ?_
    refine wl_val (v := .int .u64 p0.Seed) (val_load tt_ok rfl (List.Mem.tail _ (List.Mem.head _)) rfl) rfl ?_
    refine wl_pure (v := .agg #[.int .u64 p0.Seed]) tt_ok rfl rfl ?_
    refine wl_alloc tt_ok rfl rfl (fun b5 => ?_)
    apply wl_store tt_ok; rfl; exact Upd.here; rfl; rfl; rfl; rfl; rfl; rfl
    refine wl_nil (wx_then (wc_seq (wc_region ?_)))
    refine wl_val (v := .agg #[.int .u64 p0.Seed]) (val_load tt_ok rfl (List.Mem.head _) rfl) rfl ?_
    replace h := bsome h; obtain ⟨⟨v24_0, v24_1⟩, x24, h⟩ := h; try dsimp only at h
    refine wl_cq Tryd.call78 rfl rfl rfl (q_pf (k_rng_Source_Below x24) (fun _ _ => trivial)) rfl ?_
    iterate 4 refine wl_pure tt_ok rfl rfl ?_
    apply wl_store tt_ok; rfl; exact Upd.here; rfl; rfl; rfl; rfl; rfl; rfl
    refine wl_nil (wx_then (wc_seq (wc_region ?_)))
    refine wl_val (v := .agg #[.int .u64 v24_1.S]) (val_load tt_ok rfl (List.Mem.head _) rfl) rfl ?_
    replace h := bsome h; obtain ⟨⟨v29_0, v29_1⟩, x29, h⟩ := h; try dsimp only at h
    refine wl_cq Tryd.call78 rfl rfl rfl (q_pf (k_rng_Source_Below x29) (fun _ _ => trivial)) rfl ?_
    iterate 4 refine wl_pure tt_ok rfl rfl ?_
    apply wl_store tt_ok; rfl; exact Upd.here; rfl; rfl; rfl; rfl; rfl; rfl
    refine wl_nil (wx_then (wc_seq (wc_region ?_)))
    refine wl_pure tt_ok rfl rfl ?_
    refine wl_pure (v := .pointer (some ⟨b5, 0, none⟩)) tt_ok rfl rfl ?_
    refine wl_val (v := .int .u64 v29_1.S) (val_load tt_ok rfl (List.Mem.head _) rfl) rfl ?_
    refine wl_pure tt_ok rfl rfl ?_
    refine wl_pure (v := .pointer (some ⟨p0b, 1, none⟩)) tt_ok rfl rfl ?_
    apply wl_store tt_ok; rfl; exact (Upd.there (Upd.there Upd.here)); rfl; rfl; rfl; rfl; rfl; rfl
    refine wl_nil (wx_then (wc_seq (wc_region ?_)))
    refine wl_val (v := .agg #[.int .i32 v15.X, .int .i32 v15.Y, .int .i32 v15.VX, .int .i32 v15.VY, .int .u8 (100 : Int), .int .u8 v15.Cool, .int .u8 v15.Face]) (val_load tt_ok rfl (List.Mem.tail _ (List.Mem.head _)) rfl) rfl ?_
    refine wl_alloc tt_ok rfl rfl (fun b8 => ?_)
    apply wl_store tt_ok; rfl; exact Upd.here; rfl; rfl; rfl; rfl; rfl; rfl
    refine wl_nil (wx_then (wc_seq (wc_region ?_)))
    refine wl_pure tt_ok rfl rfl ?_
    refine wl_pure (v := .int .i32 (IntKind.wrap .i32 v24_0)) tt_ok rfl rfl ?_
    refine wl_pure tt_ok rfl rfl ?_
    refine wl_pure (v := .int .i32 (IntKind.wrap .i32 v29_0)) tt_ok rfl rfl ?_
    refine wl_pure (v := .pointer (some ⟨b8, 0, none⟩)) tt_ok rfl rfl ?_
    apply wl_store tt_ok; rfl; exact Upd.here; rfl; rfl; rfl; rfl; rfl; rfl
    refine wl_pure (v := .pointer (some ⟨b8, 1, none⟩)) tt_ok rfl rfl ?_
    apply wl_store tt_ok; rfl; exact Upd.here; rfl; rfl; rfl; rfl; rfl; rfl
    refine wl_nil (wx_then (wc_seq (wc_seq ?_)))
    refine wc_quiet (by kernel_rfl) (by kernel_rfl) ?_
    refine wq_val (v := .agg #[.int .i32 (IntKind.wrap .i32 v24_0), .int .i32 (IntKind.wrap .i32 v29_0), .int .i32 v15.VX, .int .i32 v15.VY, .int .u8 (100 : Int), .int .u8 v15.Cool, .int .u8 v15.Face]) (val_load tt_ok rfl (List.Mem.head _) rfl) rfl ?_
    replace h := bsome h; obtain ⟨v45, x45, h⟩ := h
    refine wq_cq Tryd.call56 rfl rfl rfl (q_pf (k_step_box x45) (fun _ _ => trivial)) rfl ?_
    refine wq_pure tt_ok rfl rfl ?_
    refine wq_pure tt_ok rfl rfl ?_
    refine wq_pure (v := .int .i64 (IntKind.wrap .i64 ((1 : Int) - p1))) tt_ok rfl rfl ?_
    refine wq_pure tt_ok rfl rfl ?_
    refine wq_pure (v := .pointer (some ⟨p0b, 2, none⟩)) tt_ok rfl rfl ?_
    rcases Bool.eq_false_or_eq_true ((IntKind.wrap .i64 ((1 : Int) - p1)) == (0 : Int)) with hx510 | hx510
    · replace h := ct hx510 h
      refine wq_val (v := .pointer (some ⟨p0b, 2, none⟩)) (val_ia (j := 0) tt_ok rfl rfl rfl rfl (by simpa using hx510) rfl rfl) rfl ?_
      refine wq_val (v := .agg #[.int .i32 p0.Players.1.X, .int .i32 p0.Players.1.Y, .int .i32 p0.Players.1.VX, .int .i32 p0.Players.1.VY, .int .u8 p0.Players.1.Health, .int .u8 p0.Players.1.Cool, .int .u8 p0.Players.1.Face]) (val_load tt_ok rfl (List.Mem.tail _ (List.Mem.tail _ (List.Mem.tail _ (List.Mem.head _)))) rfl) rfl ?_
      replace h := bsome h; obtain ⟨v53, x53, h⟩ := h
      refine wq_cq Tryd.call56 rfl rfl rfl (q_pf (k_step_box x53) (fun _ _ => trivial)) rfl ?_
      replace h := bsome h; obtain ⟨v54, x54, h⟩ := h
      refine wq_cq Tryd.call55 rfl rfl rfl (q_pf (k_geom_Over x54) (fun _ _ => trivial)) rfl ?_
      refine wq_pure (v := .bool (!v54)) tt_ok rfl rfl ?_
      refine wq_nil ?_
      refine wx_then ?_
      replace h := bsome h; obtain ⟨j20_n4, h, hj20⟩ := h
      refine wc_join2 (fun E L => E = [(0, .pointer (some ⟨p0b, 0, none⟩)), (1, .int .i64 p1), (4, .pointer (some ⟨b4, 0, none⟩))] ∧ L = (⟨p0b, [.int .u64 p0.Frame, .int .u64 v29_1.S, .int .i32 p0.Players.1.X, .int .i32 p0.Players.1.Y, .int .i32 p0.Players.1.VX, .int .i32 p0.Players.1.VY, .int .u8 p0.Players.1.Health, .int .u8 p0.Players.1.Cool, .int .u8 p0.Players.1.Face, .int .i32 p0.Players.2.X, .int .i32 p0.Players.2.Y, .int .i32 p0.Players.2.VX, .int .i32 p0.Players.2.VY, .int .u8 p0.Players.2.Health, .int .u8 p0.Players.2.Cool, .int .u8 p0.Players.2.Face, .slice p0a0 p0n0 p0c0, .int .u16 p0.Score.1, .int .u16 p0.Score.2], p0t, (0, 0)⟩ :: (⟨b4, [.int .i32 j20_n4.X, .int .i32 j20_n4.Y, .int .i32 j20_n4.VX, .int .i32 j20_n4.VY, .int .u8 j20_n4.Health, .int .u8 j20_n4.Cool, .int .u8 j20_n4.Face], 55, (0, 0)⟩ :: (p0B0 ++ [])))) ?_ ?_
      · refine wc_cond rfl (fun hc => ?_) (fun hc => ?_)
        · replace h := ct hc h
          refine wc_region ?_
          refine wl_val (v := .agg #[.int .i32 (IntKind.wrap .i32 v24_0), .int .i32 (IntKind.wrap .i32 v29_0), .int .i32 v15.VX, .int .i32 v15.VY, .int .u8 (100 : Int), .int .u8 v15.Cool, .int .u8 v15.Face]) (val_load tt_ok rfl (List.Mem.head _) rfl) rfl ?_
          apply wl_store tt_ok; rfl; exact (Upd.there (Upd.there Upd.here)); rfl; rfl; rfl; rfl; rfl; rfl
          refine wl_nil ?_
          simp only [Option.some.injEq] at h
          obtain rfl := h
          exact wx_join ⟨rfl, rfl⟩ (agree_cons rfl (agree_cons rfl (agree_cons rfl agree_nil))) (pSub (pCons (Sel.sc (Sel.sc (Sel.sc Sel.hc))) (pCons (Sel.sc (Sel.sc Sel.hc)) (pApp (Sel.sc (Sel.sc Sel.ha)) pNil))))
        replace h := cf hc h
        refine wc_skip ?_
        simp only [Option.some.injEq] at h
        obtain rfl := h
        exact wx_join ⟨rfl, rfl⟩ (agree_cons rfl (agree_cons rfl (agree_cons rfl agree_nil))) (pSub (pCons (Sel.sc (Sel.sc (Sel.sc Sel.hc))) (pCons (Sel.sc (Sel.sc Sel.hc)) (pApp (Sel.sc (Sel.sc Sel.ha)) pNil))))
      rintro _ _ ⟨rfl, rfl⟩
      have h := hj20; clear hj20
      refine wc_k2 (Ls := (⟨p0b, [.int .u64 p0.Frame, .int .u64 v29_1.S, .int .i32 p0.Players.1.X, .int .i32 p0.Players.1.Y, .int .i32 p0.Players.1.VX, .int .i32 p0.Players.1.VY, .int .u8 p0.Players.1.Health, .int .u8 p0.Players.1.Cool, .int .u8 p0.Players.1.Face, .int .i32 p0.Players.2.X, .int .i32 p0.Players.2.Y, .int .i32 p0.Players.2.VX, .int .i32 p0.Players.2.VY, .int .u8 p0.Players.2.Health, .int .u8 p0.Players.2.Cool, .int .u8 p0.Players.2.Face, .slice p0a0 p0n0 p0c0, .int .u16 p0.Score.1, .int .u16 p0.Score.2], p0t, (0, 0)⟩ :: (⟨b4, [.int .i32 j20_n4.X, .int .i32 j20_n4.Y, .int .i32 j20_n4.VX, .int .i32 j20_n4.VY, .int .u8 j20_n4.Health, .int .u8 j20_n4.Cool, .int .u8 j20_n4.Face], 55, (0, 0)⟩ :: (p0B0 ++ [])))) [6] [6] [0, 0, 0, 1, 9, 31, 63] [0, 1, 2, 3, 4, 5, 6] (by kernel_rfl) (by kernel_rfl) (by kernel_rfl) ?_
      refine k_val rfl rfl rfl (pSub (pCons Sel.hc (pCons Sel.hc (pApp Sel.ha pNil)))) (stepV_ok tt_ok rfl) rfl ?_
      refine k_val rfl rfl rfl (pSub (pCons Sel.hc (pCons Sel.hc (pApp Sel.ha pNil)))) (stepV_ok tt_ok rfl) rfl ?_
      refine k_val (v := .agg #[.int .i32 j20_n4.X, .int .i32 j20_n4.Y, .int .i32 j20_n4.VX, .int .i32 j20_n4.VY, .int .u8 j20_n4.Health, .int .u8 j20_n4.Cool, .int .u8 j20_n4.Face]) rfl rfl rfl (pSub (pCons Sel.hc (pCons Sel.hc (pApp Sel.ha pNil)))) (val_load tt_ok rfl (List.Mem.tail _ (List.Mem.head _)) rfl) rfl ?_
      refine k_val rfl rfl rfl (pSub (pCons Sel.hc (pCons Sel.hc (pApp Sel.ha pNil)))) (stepV_ok tt_ok rfl) rfl ?_
      refine k_val (v := .pointer (some ⟨p0b, 2, none⟩)) rfl rfl rfl (pSub (pCons Sel.hc (pCons Sel.hc (pApp Sel.ha pNil)))) (stepV_ok tt_ok rfl) rfl ?_
      refine k_val (v := .pointer (some ⟨p0b, 2, none⟩)) rfl rfl rfl (pSub (pCons Sel.hc (pCons Sel.hc (pApp Sel.ha pNil)))) (val_ia (j := 0) tt_ok rfl rfl rfl rfl (by simpa using hx130) rfl rfl) rfl ?_
      refine k_chg0 rfl rfl rfl (chg_store tt_ok rfl Upd.here rfl rfl rfl rfl rfl rfl) (.inl rfl) ?_
      rintro _ _ rfl
      refine k_end (by kernel_rfl) ?_
      simp only [Option.some.injEq] at h
      obtain rfl := h
      exact wx_spD tt_ok (.inr rfl) Tryd.results59 Res.nil ⟨p0a0, p0n0, p0c0, p0B0, p0N0, p0V0, rfl, rfl⟩ (fun F => by simp) (pSub (pCons Sel.hc (pApp (Sel.sc Sel.ha) pNil)))
    replace h := cf hx510 h
    rcases Bool.eq_false_or_eq_true ((IntKind.wrap .i64 ((1 : Int) - p1)) == (1 : Int)) with hx511 | hx511
    · replace h := ct hx511 h
      refine wq_val (v := .pointer (some ⟨p0b, 9, none⟩)) (val_ia (j := 1) tt_ok rfl rfl rfl rfl (by simpa using hx511) rfl rfl) rfl ?_
      refine wq_val (v := .agg #[.int .i32 p0.Players.2.X, .int .i32 p0.Players.2.Y, .int .i32 p0.Players.2.VX, .int .i32 p0.Players.2.VY, .int .u8 p0.Players.2.Health, .int .u8 p0.Players.2.Cool, .int .u8 p0.Players.2.Face]) (val_load tt_ok rfl (List.Mem.tail _ (List.Mem.tail _ (List.Mem.tail _ (List.Mem.head _)))) rfl) rfl ?_
      replace h := bsome h; obtain ⟨v53, x53, h⟩ := h
      refine wq_cq Tryd.call56 rfl rfl rfl (q_pf (k_step_box x53) (fun _ _ => trivial)) rfl ?_
      replace h := bsome h; obtain ⟨v54, x54, h⟩ := h
      refine wq_cq Tryd.call55 rfl rfl rfl (q_pf (k_geom_Over x54) (fun _ _ => trivial)) rfl ?_
      refine wq_pure (v := .bool (!v54)) tt_ok rfl rfl ?_
      refine wq_nil ?_
      refine wx_then ?_
      replace h := bsome h; obtain ⟨j20_n4, h, hj20⟩ := h
      refine wc_join2 (fun E L => E = [(0, .pointer (some ⟨p0b, 0, none⟩)), (1, .int .i64 p1), (4, .pointer (some ⟨b4, 0, none⟩))] ∧ L = (⟨p0b, [.int .u64 p0.Frame, .int .u64 v29_1.S, .int .i32 p0.Players.1.X, .int .i32 p0.Players.1.Y, .int .i32 p0.Players.1.VX, .int .i32 p0.Players.1.VY, .int .u8 p0.Players.1.Health, .int .u8 p0.Players.1.Cool, .int .u8 p0.Players.1.Face, .int .i32 p0.Players.2.X, .int .i32 p0.Players.2.Y, .int .i32 p0.Players.2.VX, .int .i32 p0.Players.2.VY, .int .u8 p0.Players.2.Health, .int .u8 p0.Players.2.Cool, .int .u8 p0.Players.2.Face, .slice p0a0 p0n0 p0c0, .int .u16 p0.Score.1, .int .u16 p0.Score.2], p0t, (0, 0)⟩ :: (⟨b4, [.int .i32 j20_n4.X, .int .i32 j20_n4.Y, .int .i32 j20_n4.VX, .int .i32 j20_n4.VY, .int .u8 j20_n4.Health, .int .u8 j20_n4.Cool, .int .u8 j20_n4.Face], 55, (0, 0)⟩ :: (p0B0 ++ [])))) ?_ ?_
      · refine wc_cond rfl (fun hc => ?_) (fun hc => ?_)
        · replace h := ct hc h
          refine wc_region ?_
          refine wl_val (v := .agg #[.int .i32 (IntKind.wrap .i32 v24_0), .int .i32 (IntKind.wrap .i32 v29_0), .int .i32 v15.VX, .int .i32 v15.VY, .int .u8 (100 : Int), .int .u8 v15.Cool, .int .u8 v15.Face]) (val_load tt_ok rfl (List.Mem.head _) rfl) rfl ?_
          apply wl_store tt_ok; rfl; exact (Upd.there (Upd.there Upd.here)); rfl; rfl; rfl; rfl; rfl; rfl
          refine wl_nil ?_
          simp only [Option.some.injEq] at h
          obtain rfl := h
          exact wx_join ⟨rfl, rfl⟩ (agree_cons rfl (agree_cons rfl (agree_cons rfl agree_nil))) (pSub (pCons (Sel.sc (Sel.sc (Sel.sc Sel.hc))) (pCons (Sel.sc (Sel.sc Sel.hc)) (pApp (Sel.sc (Sel.sc Sel.ha)) pNil))))
        replace h := cf hc h
        refine wc_skip ?_
        simp only [Option.some.injEq] at h
        obtain rfl := h
        exact wx_join ⟨rfl, rfl⟩ (agree_cons rfl (agree_cons rfl (agree_cons rfl agree_nil))) (pSub (pCons (Sel.sc (Sel.sc (Sel.sc Sel.hc))) (pCons (Sel.sc (Sel.sc Sel.hc)) (pApp (Sel.sc (Sel.sc Sel.ha)) pNil))))
      rintro _ _ ⟨rfl, rfl⟩
      have h := hj20; clear hj20
      refine wc_k2 (Ls := (⟨p0b, [.int .u64 p0.Frame, .int .u64 v29_1.S, .int .i32 p0.Players.1.X, .int .i32 p0.Players.1.Y, .int .i32 p0.Players.1.VX, .int .i32 p0.Players.1.VY, .int .u8 p0.Players.1.Health, .int .u8 p0.Players.1.Cool, .int .u8 p0.Players.1.Face, .int .i32 p0.Players.2.X, .int .i32 p0.Players.2.Y, .int .i32 p0.Players.2.VX, .int .i32 p0.Players.2.VY, .int .u8 p0.Players.2.Health, .int .u8 p0.Players.2.Cool, .int .u8 p0.Players.2.Face, .slice p0a0 p0n0 p0c0, .int .u16 p0.Score.1, .int .u16 p0.Score.2], p0t, (0, 0)⟩ :: (⟨b4, [.int .i32 j20_n4.X, .int .i32 j20_n4.Y, .int .i32 j20_n4.VX, .int .i32 j20_n4.VY, .int .u8 j20_n4.Health, .int .u8 j20_n4.Cool, .int .u8 j20_n4.Face], 55, (0, 0)⟩ :: (p0B0 ++ [])))) [6] [6] [0, 0, 0, 1, 9, 31, 63] [0, 1, 2, 3, 4, 5, 6] (by kernel_rfl) (by kernel_rfl) (by kernel_rfl) ?_
      refine k_val rfl rfl rfl (pSub (pCons Sel.hc (pCons Sel.hc (pApp Sel.ha pNil)))) (stepV_ok tt_ok rfl) rfl ?_
      refine k_val rfl rfl rfl (pSub (pCons Sel.hc (pCons Sel.hc (pApp Sel.ha pNil)))) (stepV_ok tt_ok rfl) rfl ?_
      refine k_val (v := .agg #[.int .i32 j20_n4.X, .int .i32 j20_n4.Y, .int .i32 j20_n4.VX, .int .i32 j20_n4.VY, .int .u8 j20_n4.Health, .int .u8 j20_n4.Cool, .int .u8 j20_n4.Face]) rfl rfl rfl (pSub (pCons Sel.hc (pCons Sel.hc (pApp Sel.ha pNil)))) (val_load tt_ok rfl (List.Mem.tail _ (List.Mem.head _)) rfl) rfl ?_
      refine k_val rfl rfl rfl (pSub (pCons Sel.hc (pCons Sel.hc (pApp Sel.ha pNil)))) (stepV_ok tt_ok rfl) rfl ?_
      refine k_val (v := .pointer (some ⟨p0b, 2, none⟩)) rfl rfl rfl (pSub (pCons Sel.hc (pCons Sel.hc (pApp Sel.ha pNil)))) (stepV_ok tt_ok rfl) rfl ?_
      refine k_val (v := .pointer (some ⟨p0b, 2, none⟩)) rfl rfl rfl (pSub (pCons Sel.hc (pCons Sel.hc (pApp Sel.ha pNil)))) (val_ia (j := 0) tt_ok rfl rfl rfl rfl (by simpa using hx130) rfl rfl) rfl ?_
      refine k_chg0 rfl rfl rfl (chg_store tt_ok rfl Upd.here rfl rfl rfl rfl rfl rfl) (.inl rfl) ?_
      rintro _ _ rfl
      refine k_end (by kernel_rfl) ?_
      simp only [Option.some.injEq] at h
      obtain rfl := h
      exact wx_spD tt_ok (.inr rfl) Tryd.results59 Res.nil ⟨p0a0, p0n0, p0c0, p0B0, p0N0, p0V0, rfl, rfl⟩ (fun F => by simp) (pSub (pCons Sel.hc (pApp (Sel.sc Sel.ha) pNil)))
    replace h := cf hx511 h
    cases h
  replace h := cf hx130 h
  rcases Bool.eq_false_or_eq_true (p1 == (1 : Int)) with hx131 | hx131
  · replace h := ct hx131 h
    refine wl_val (v := .pointer (some ⟨p0b, 9, none⟩)) (val_ia (j := 1) tt_ok rfl rfl rfl rfl (by simpa using hx131) rfl rfl) rfl ?_
    refine wl_val (v := .agg #[.int .i32 p0.Players.2.X, .int .i32 p0.Players.2.Y, .int .i32 p0.Players.2.VX, .int .i32 p0.Players.2.VY, .int .u8 p0.Players.2.Health, .int .u8 p0.Players.2.Cool, .int .u8 p0.Players.2.Face]) (val_load tt_ok rfl (List.Mem.head _) rfl) rfl ?_
    replace h := bsome h; obtain ⟨v15, x15, h⟩ := h
    refine wl_cq Tryd.call57 rfl rfl rfl (q_pf (k_step_stopped x15) (fun _ _ => trivial)) rfl ?_
    refine wl_alloc tt_ok rfl rfl (fun b4 => ?_)
    apply wl_store tt_ok; rfl; exact Upd.here; rfl; rfl; rfl; rfl; rfl; rfl
    refine wl_nil (wx_then (wc_seq (wc_region ?_)))
    refine wl_pure (v := .pointer (some ⟨b4, 4, none⟩)) tt_ok rfl rfl ?_
    apply wl_store tt_ok; rfl; exact Upd.here; rfl; rfl; rfl; rfl; rfl; rfl
    refine wl_nil (wx_then (wc_seq (wc_region ?_)))
    iterate 2 refine wl_pure tt_ok rfl rfl ?_
    refine wl_pure (v := .pointer (some ⟨p0b, 1, none⟩)) tt_ok rfl rfl ?_
    refine wl_val (v := .int .u64 p0.Seed) (val_load tt_ok rfl (List.Mem.tail _ (List.Mem.head _)) rfl) rfl ?_
    refine wl_pure (v := .agg #[.int .u64 p0.Seed]) tt_ok rfl rfl ?_
    refine wl_alloc tt_ok rfl rfl (fun b5 => ?_)
    apply wl_store tt_ok; rfl; exact Upd.here; rfl; rfl; rfl; rfl; rfl; rfl
    refine wl_nil (wx_then (wc_seq (wc_region ?_)))
    refine wl_val (v := .agg #[.int .u64 p0.Seed]) (val_load tt_ok rfl (List.Mem.head _) rfl) rfl ?_
    replace h := bsome h; obtain ⟨⟨v24_0, v24_1⟩, x24, h⟩ := h; try dsimp only at h
    refine wl_cq Tryd.call78 rfl rfl rfl (q_pf (k_rng_Source_Below x24) (fun _ _ => trivial)) rfl ?_
    iterate 4 refine wl_pure tt_ok rfl rfl ?_
    apply wl_store tt_ok; rfl; exact Upd.here; rfl; rfl; rfl; rfl; rfl; rfl
    refine wl_nil (wx_then (wc_seq (wc_region ?_)))
    refine wl_val (v := .agg #[.int .u64 v24_1.S]) (val_load tt_ok rfl (List.Mem.head _) rfl) rfl ?_
    replace h := bsome h; obtain ⟨⟨v29_0, v29_1⟩, x29, h⟩ := h; try dsimp only at h
    refine wl_cq Tryd.call78 rfl rfl rfl (q_pf (k_rng_Source_Below x29) (fun _ _ => trivial)) rfl ?_
    iterate 4 refine wl_pure tt_ok rfl rfl ?_
    apply wl_store tt_ok; rfl; exact Upd.here; rfl; rfl; rfl; rfl; rfl; rfl
    refine wl_nil (wx_then (wc_seq (wc_region ?_)))
    refine wl_pure tt_ok rfl rfl ?_
    refine wl_pure (v := .pointer (some ⟨b5, 0, none⟩)) tt_ok rfl rfl ?_
    refine wl_val (v := .int .u64 v29_1.S) (val_load tt_ok rfl (List.Mem.head _) rfl) rfl ?_
    refine wl_pure tt_ok rfl rfl ?_
    refine wl_pure (v := .pointer (some ⟨p0b, 1, none⟩)) tt_ok rfl rfl ?_
    apply wl_store tt_ok; rfl; exact (Upd.there (Upd.there Upd.here)); rfl; rfl; rfl; rfl; rfl; rfl
    refine wl_nil (wx_then (wc_seq (wc_region ?_)))
    refine wl_val (v := .agg #[.int .i32 v15.X, .int .i32 v15.Y, .int .i32 v15.VX, .int .i32 v15.VY, .int .u8 (100 : Int), .int .u8 v15.Cool, .int .u8 v15.Face]) (val_load tt_ok rfl (List.Mem.tail _ (List.Mem.head _)) rfl) rfl ?_
    refine wl_alloc tt_ok rfl rfl (fun b8 => ?_)
    apply wl_store tt_ok; rfl; exact Upd.here; rfl; rfl; rfl; rfl; rfl; rfl
    refine wl_nil (wx_then (wc_seq (wc_region ?_)))
    refine wl_pure tt_ok rfl rfl ?_
    refine wl_pure (v := .int .i32 (IntKind.wrap .i32 v24_0)) tt_ok rfl rfl ?_
    refine wl_pure tt_ok rfl rfl ?_
    refine wl_pure (v := .int .i32 (IntKind.wrap .i32 v29_0)) tt_ok rfl rfl ?_
    refine wl_pure (v := .pointer (some ⟨b8, 0, none⟩)) tt_ok rfl rfl ?_
    apply wl_store tt_ok; rfl; exact Upd.here; rfl; rfl; rfl; rfl; rfl; rfl
    refine wl_pure (v := .pointer (some ⟨b8, 1, none⟩)) tt_ok rfl rfl ?_
    apply wl_store tt_ok; rfl; exact Upd.here; rfl; rfl; rfl; rfl; rfl; rfl
    refine wl_nil (wx_then (wc_seq (wc_seq ?_)))
    refine wc_quiet (by kernel_rfl) (by kernel_rfl) ?_
    refine wq_val (v := .agg #[.int .i32 (IntKind.wrap .i32 v24_0), .int .i32 (IntKind.wrap .i32 v29_0), .int .i32 v15.VX, .int .i32 v15.VY, .int .u8 (100 : Int), .int .u8 v15.Cool, .int .u8 v15.Face]) (val_load tt_ok rfl (List.Mem.head _) rfl) rfl ?_
    replace h := bsome h; obtain ⟨v45, x45, h⟩ := h
    refine wq_cq Tryd.call56 rfl rfl rfl (q_pf (k_step_box x45) (fun _ _ => trivial)) rfl ?_
    refine wq_pure tt_ok rfl rfl ?_
    refine wq_pure tt_ok rfl rfl ?_
    refine wq_pure (v := .int .i64 (IntKind.wrap .i64 ((1 : Int) - p1))) tt_ok rfl rfl ?_
    refine wq_pure tt_ok rfl rfl ?_
    refine wq_pure (v := .pointer (some ⟨p0b, 2, none⟩)) tt_ok rfl rfl ?_
    rcases Bool.eq_false_or_eq_true ((IntKind.wrap .i64 ((1 : Int) - p1)) == (0 : Int)) with hx510 | hx510
    · replace h := ct hx510 h
      refine wq_val (v := .pointer (some ⟨p0b, 2, none⟩)) (val_ia (j := 0) tt_ok rfl rfl rfl rfl (by simpa using hx510) rfl rfl) rfl ?_
      refine wq_val (v := .agg #[.int .i32 p0.Players.1.X, .int .i32 p0.Players.1.Y, .int .i32 p0.Players.1.VX, .int .i32 p0.Players.1.VY, .int .u8 p0.Players.1.Health, .int .u8 p0.Players.1.Cool, .int .u8 p0.Players.1.Face]) (val_load tt_ok rfl (List.Mem.tail _ (List.Mem.tail _ (List.Mem.tail _ (List.Mem.head _)))) rfl) rfl ?_
      replace h := bsome h; obtain ⟨v53, x53, h⟩ := h
      refine wq_cq Tryd.call56 rfl rfl rfl (q_pf (k_step_box x53) (fun _ _ => trivial)) rfl ?_
      replace h := bsome h; obtain ⟨v54, x54, h⟩ := h
      refine wq_cq Tryd.call55 rfl rfl rfl (q_pf (k_geom_Over x54) (fun _ _ => trivial)) rfl ?_
      refine wq_pure (v := .bool (!v54)) tt_ok rfl rfl ?_
      refine wq_nil ?_
      refine wx_then ?_
      replace h := bsome h; obtain ⟨j20_n4, h, hj20⟩ := h
      refine wc_join2 (fun E L => E = [(0, .pointer (some ⟨p0b, 0, none⟩)), (1, .int .i64 p1), (4, .pointer (some ⟨b4, 0, none⟩))] ∧ L = (⟨p0b, [.int .u64 p0.Frame, .int .u64 v29_1.S, .int .i32 p0.Players.1.X, .int .i32 p0.Players.1.Y, .int .i32 p0.Players.1.VX, .int .i32 p0.Players.1.VY, .int .u8 p0.Players.1.Health, .int .u8 p0.Players.1.Cool, .int .u8 p0.Players.1.Face, .int .i32 p0.Players.2.X, .int .i32 p0.Players.2.Y, .int .i32 p0.Players.2.VX, .int .i32 p0.Players.2.VY, .int .u8 p0.Players.2.Health, .int .u8 p0.Players.2.Cool, .int .u8 p0.Players.2.Face, .slice p0a0 p0n0 p0c0, .int .u16 p0.Score.1, .int .u16 p0.Score.2], p0t, (0, 0)⟩ :: (⟨b4, [.int .i32 j20_n4.X, .int .i32 j20_n4.Y, .int .i32 j20_n4.VX, .int .i32 j20_n4.VY, .int .u8 j20_n4.Health, .int .u8 j20_n4.Cool, .int .u8 j20_n4.Face], 55, (0, 0)⟩ :: (p0B0 ++ [])))) ?_ ?_
      · refine wc_cond rfl (fun hc => ?_) (fun hc => ?_)
        · replace h := ct hc h
          refine wc_region ?_
          refine wl_val (v := .agg #[.int .i32 (IntKind.wrap .i32 v24_0), .int .i32 (IntKind.wrap .i32 v29_0), .int .i32 v15.VX, .int .i32 v15.VY, .int .u8 (100 : Int), .int .u8 v15.Cool, .int .u8 v15.Face]) (val_load tt_ok rfl (List.Mem.head _) rfl) rfl ?_
          apply wl_store tt_ok; rfl; exact (Upd.there (Upd.there Upd.here)); rfl; rfl; rfl; rfl; rfl; rfl
          refine wl_nil ?_
          simp only [Option.some.injEq] at h
          obtain rfl := h
          exact wx_join ⟨rfl, rfl⟩ (agree_cons rfl (agree_cons rfl (agree_cons rfl agree_nil))) (pSub (pCons (Sel.sc (Sel.sc (Sel.sc Sel.hc))) (pCons (Sel.sc (Sel.sc Sel.hc)) (pApp (Sel.sc (Sel.sc Sel.ha)) pNil))))
        replace h := cf hc h
        refine wc_skip ?_
        simp only [Option.some.injEq] at h
        obtain rfl := h
        exact wx_join ⟨rfl, rfl⟩ (agree_cons rfl (agree_cons rfl (agree_cons rfl agree_nil))) (pSub (pCons (Sel.sc (Sel.sc (Sel.sc Sel.hc))) (pCons (Sel.sc (Sel.sc Sel.hc)) (pApp (Sel.sc (Sel.sc Sel.ha)) pNil))))
      rintro _ _ ⟨rfl, rfl⟩
      have h := hj20; clear hj20
      refine wc_k2 (Ls := (⟨p0b, [.int .u64 p0.Frame, .int .u64 v29_1.S, .int .i32 p0.Players.1.X, .int .i32 p0.Players.1.Y, .int .i32 p0.Players.1.VX, .int .i32 p0.Players.1.VY, .int .u8 p0.Players.1.Health, .int .u8 p0.Players.1.Cool, .int .u8 p0.Players.1.Face, .int .i32 p0.Players.2.X, .int .i32 p0.Players.2.Y, .int .i32 p0.Players.2.VX, .int .i32 p0.Players.2.VY, .int .u8 p0.Players.2.Health, .int .u8 p0.Players.2.Cool, .int .u8 p0.Players.2.Face, .slice p0a0 p0n0 p0c0, .int .u16 p0.Score.1, .int .u16 p0.Score.2], p0t, (0, 0)⟩ :: (⟨b4, [.int .i32 j20_n4.X, .int .i32 j20_n4.Y, .int .i32 j20_n4.VX, .int .i32 j20_n4.VY, .int .u8 j20_n4.Health, .int .u8 j20_n4.Cool, .int .u8 j20_n4.Face], 55, (0, 0)⟩ :: (p0B0 ++ [])))) [6] [6] [0, 0, 0, 1, 9, 31, 63] [0, 1, 2, 3, 4, 5, 6] (by kernel_rfl) (by kernel_rfl) (by kernel_rfl) ?_
      refine k_val rfl rfl rfl (pSub (pCons Sel.hc (pCons Sel.hc (pApp Sel.ha pNil)))) (stepV_ok tt_ok rfl) rfl ?_
      refine k_val rfl rfl rfl (pSub (pCons Sel.hc (pCons Sel.hc (pApp Sel.ha pNil)))) (stepV_ok tt_ok rfl) rfl ?_
      refine k_val (v := .agg #[.int .i32 j20_n4.X, .int .i32 j20_n4.Y, .int .i32 j20_n4.VX, .int .i32 j20_n4.VY, .int .u8 j20_n4.Health, .int .u8 j20_n4.Cool, .int .u8 j20_n4.Face]) rfl rfl rfl (pSub (pCons Sel.hc (pCons Sel.hc (pApp Sel.ha pNil)))) (val_load tt_ok rfl (List.Mem.tail _ (List.Mem.head _)) rfl) rfl ?_
      refine k_val rfl rfl rfl (pSub (pCons Sel.hc (pCons Sel.hc (pApp Sel.ha pNil)))) (stepV_ok tt_ok rfl) rfl ?_
      refine k_val (v := .pointer (some ⟨p0b, 2, none⟩)) rfl rfl rfl (pSub (pCons Sel.hc (pCons Sel.hc (pApp Sel.ha pNil)))) (stepV_ok tt_ok rfl) rfl ?_
      refine k_val (v := .pointer (some ⟨p0b, 9, none⟩)) rfl rfl rfl (pSub (pCons Sel.hc (pCons Sel.hc (pApp Sel.ha pNil)))) (val_ia (j := 1) tt_ok rfl rfl rfl rfl (by simpa using hx131) rfl rfl) rfl ?_
      refine k_chg0 rfl rfl rfl (chg_store tt_ok rfl Upd.here rfl rfl rfl rfl rfl rfl) (.inl rfl) ?_
      rintro _ _ rfl
      refine k_end (by kernel_rfl) ?_
      simp only [Option.some.injEq] at h
      obtain rfl := h
      exact wx_spD tt_ok (.inr rfl) Tryd.results59 Res.nil ⟨p0a0, p0n0, p0c0, p0B0, p0N0, p0V0, rfl, rfl⟩ (fun F => by simp) (pSub (pCons Sel.hc (pApp (Sel.sc Sel.ha) pNil)))
    replace h := cf hx510 h
    rcases Bool.eq_false_or_eq_true ((IntKind.wrap .i64 ((1 : Int) - p1)) == (1 : Int)) with hx511 | hx511
    · replace h := ct hx511 h
      refine wq_val (v := .pointer (some ⟨p0b, 9, none⟩)) (val_ia (j := 1) tt_ok rfl rfl rfl rfl (by simpa using hx511) rfl rfl) rfl ?_
      refine wq_val (v := .agg #[.int .i32 p0.Players.2.X, .int .i32 p0.Players.2.Y, .int .i32 p0.Players.2.VX, .int .i32 p0.Players.2.VY, .int .u8 p0.Players.2.Health, .int .u8 p0.Players.2.Cool, .int .u8 p0.Players.2.Face]) (val_load tt_ok rfl (List.Mem.tail _ (List.Mem.tail _ (List.Mem.tail _ (List.Mem.head _)))) rfl) rfl ?_
      replace h := bsome h; obtain ⟨v53, x53, h⟩ := h
      refine wq_cq Tryd.call56 rfl rfl rfl (q_pf (k_step_box x53) (fun _ _ => trivial)) rfl ?_
      replace h := bsome h; obtain ⟨v54, x54, h⟩ := h
      refine wq_cq Tryd.call55 rfl rfl rfl (q_pf (k_geom_Over x54) (fun _ _ => trivial)) rfl ?_
      refine wq_pure (v := .bool (!v54)) tt_ok rfl rfl ?_
      refine wq_nil ?_
      refine wx_then ?_
      replace h := bsome h; obtain ⟨j20_n4, h, hj20⟩ := h
      refine wc_join2 (fun E L => E = [(0, .pointer (some ⟨p0b, 0, none⟩)), (1, .int .i64 p1), (4, .pointer (some ⟨b4, 0, none⟩))] ∧ L = (⟨p0b, [.int .u64 p0.Frame, .int .u64 v29_1.S, .int .i32 p0.Players.1.X, .int .i32 p0.Players.1.Y, .int .i32 p0.Players.1.VX, .int .i32 p0.Players.1.VY, .int .u8 p0.Players.1.Health, .int .u8 p0.Players.1.Cool, .int .u8 p0.Players.1.Face, .int .i32 p0.Players.2.X, .int .i32 p0.Players.2.Y, .int .i32 p0.Players.2.VX, .int .i32 p0.Players.2.VY, .int .u8 p0.Players.2.Health, .int .u8 p0.Players.2.Cool, .int .u8 p0.Players.2.Face, .slice p0a0 p0n0 p0c0, .int .u16 p0.Score.1, .int .u16 p0.Score.2], p0t, (0, 0)⟩ :: (⟨b4, [.int .i32 j20_n4.X, .int .i32 j20_n4.Y, .int .i32 j20_n4.VX, .int .i32 j20_n4.VY, .int .u8 j20_n4.Health, .int .u8 j20_n4.Cool, .int .u8 j20_n4.Face], 55, (0, 0)⟩ :: (p0B0 ++ [])))) ?_ ?_
      · refine wc_cond rfl (fun hc => ?_) (fun hc => ?_)
        · replace h := ct hc h
          refine wc_region ?_
          refine wl_val (v := .agg #[.int .i32 (IntKind.wrap .i32 v24_0), .int .i32 (IntKind.wrap .i32 v29_0), .int .i32 v15.VX, .int .i32 v15.VY, .int .u8 (100 : Int), .int .u8 v15.Cool, .int .u8 v15.Face]) (val_load tt_ok rfl (List.Mem.head _) rfl) rfl ?_
          apply wl_store tt_ok; rfl; exact (Upd.there (Upd.there Upd.here)); rfl; rfl; rfl; rfl; rfl; rfl
          refine wl_nil ?_
          simp only [Option.some.injEq] at h
          obtain rfl := h
          exact wx_join ⟨rfl, rfl⟩ (agree_cons rfl (agree_cons rfl (agree_cons rfl agree_nil))) (pSub (pCons (Sel.sc (Sel.sc (Sel.sc Sel.hc))) (pCons (Sel.sc (Sel.sc Sel.hc)) (pApp (Sel.sc (Sel.sc Sel.ha)) pNil))))
        replace h := cf hc h
        refine wc_skip ?_
        simp only [Option.some.injEq] at h
        obtain rfl := h
        exact wx_join ⟨rfl, rfl⟩ (agree_cons rfl (agree_cons rfl (agree_cons rfl agree_nil))) (pSub (pCons (Sel.sc (Sel.sc (Sel.sc Sel.hc))) (pCons (Sel.sc (Sel.sc Sel.hc)) (pApp (Sel.sc (Sel.sc Sel.ha)) pNil))))
      rintro _ _ ⟨rfl, rfl⟩
      have h := hj20; clear hj20
      refine wc_k2 (Ls := (⟨p0b, [.int .u64 p0.Frame, .int .u64 v29_1.S, .int .i32 p0.Players.1.X, .int .i32 p0.Players.1.Y, .int .i32 p0.Players.1.VX, .int .i32 p0.Players.1.VY, .int .u8 p0.Players.1.Health, .int .u8 p0.Players.1.Cool, .int .u8 p0.Players.1.Face, .int .i32 p0.Players.2.X, .int .i32 p0.Players.2.Y, .int .i32 p0.Players.2.VX, .int .i32 p0.Players.2.VY, .int .u8 p0.Players.2.Health, .int .u8 p0.Players.2.Cool, .int .u8 p0.Players.2.Face, .slice p0a0 p0n0 p0c0, .int .u16 p0.Score.1, .int .u16 p0.Score.2], p0t, (0, 0)⟩ :: (⟨b4, [.int .i32 j20_n4.X, .int .i32 j20_n4.Y, .int .i32 j20_n4.VX, .int .i32 j20_n4.VY, .int .u8 j20_n4.Health, .int .u8 j20_n4.Cool, .int .u8 j20_n4.Face], 55, (0, 0)⟩ :: (p0B0 ++ [])))) [6] [6] [0, 0, 0, 1, 9, 31, 63] [0, 1, 2, 3, 4, 5, 6] (by kernel_rfl) (by kernel_rfl) (by kernel_rfl) ?_
      refine k_val rfl rfl rfl (pSub (pCons Sel.hc (pCons Sel.hc (pApp Sel.ha pNil)))) (stepV_ok tt_ok rfl) rfl ?_
      refine k_val rfl rfl rfl (pSub (pCons Sel.hc (pCons Sel.hc (pApp Sel.ha pNil)))) (stepV_ok tt_ok rfl) rfl ?_
      refine k_val (v := .agg #[.int .i32 j20_n4.X, .int .i32 j20_n4.Y, .int .i32 j20_n4.VX, .int .i32 j20_n4.VY, .int .u8 j20_n4.Health, .int .u8 j20_n4.Cool, .int .u8 j20_n4.Face]) rfl rfl rfl (pSub (pCons Sel.hc (pCons Sel.hc (pApp Sel.ha pNil)))) (val_load tt_ok rfl (List.Mem.tail _ (List.Mem.head _)) rfl) rfl ?_
      refine k_val rfl rfl rfl (pSub (pCons Sel.hc (pCons Sel.hc (pApp Sel.ha pNil)))) (stepV_ok tt_ok rfl) rfl ?_
      refine k_val (v := .pointer (some ⟨p0b, 2, none⟩)) rfl rfl rfl (pSub (pCons Sel.hc (pCons Sel.hc (pApp Sel.ha pNil)))) (stepV_ok tt_ok rfl) rfl ?_
      refine k_val (v := .pointer (some ⟨p0b, 9, none⟩)) rfl rfl rfl (pSub (pCons Sel.hc (pCons Sel.hc (pApp Sel.ha pNil)))) (val_ia (j := 1) tt_ok rfl rfl rfl rfl (by simpa using hx131) rfl rfl) rfl ?_
      refine k_chg0 rfl rfl rfl (chg_store tt_ok rfl Upd.here rfl rfl rfl rfl rfl rfl) (.inl rfl) ?_
      rintro _ _ rfl
      refine k_end (by kernel_rfl) ?_
      simp only [Option.some.injEq] at h
      obtain rfl := h
      exact wx_spD tt_ok (.inr rfl) Tryd.results59 Res.nil ⟨p0a0, p0n0, p0c0, p0B0, p0N0, p0V0, rfl, rfl⟩ (fun F => by simp) (pSub (pCons Sel.hc (pApp (Sel.sc Sel.ha) pNil)))
    replace h := cf hx511 h
    cases h
  replace h := cf hx131 h
  cases h

theorem k_step_Step {F : Nat} {p0 : T_api_State} {p0a0 : Option Addr} {p0n0 p0c0 : Nat} {p1 : (Int × Int)} {r0 : T_api_State} (p0N0 : p0n0 = p0.Shots.length) (p0H0 : p0n0 ≤ p0c0) (h : m_step_Step F p0 p1 = some r0) :
    SpD Tryd.prog 36 [.agg #[.int .u64 p0.Frame, .int .u64 p0.Seed, .int .i32 p0.Players.1.X, .int .i32 p0.Players.1.Y, .int .i32 p0.Players.1.VX, .int .i32 p0.Players.1.VY, .int .u8 p0.Players.1.Health, .int .u8 p0.Players.1.Cool, .int .u8 p0.Players.1.Face, .int .i32 p0.Players.2.X, .int .i32 p0.Players.2.Y, .int .i32 p0.Players.2.VX, .int .i32 p0.Players.2.VY, .int .u8 p0.Players.2.Health, .int .u8 p0.Players.2.Cool, .int .u8 p0.Players.2.Face, .slice p0a0 p0n0 p0c0, .int .u16 p0.Score.1, .int .u16 p0.Score.2], .agg #[.int .u8 p1.1, .int .u8 p1.2]] [] (fun w => Rds w (ids []) [] p0a0 (flat c_T_api_Shot p0.Shots) ∧ Rds w (ids []) [] (some ⟨0, 0, none⟩) (flat (fun _ : Unit => gl_state_playerBounds) [()]) ∧ Rds w (ids []) [] (some ⟨1, 0, none⟩) (flat (fun _ : Unit => gl_state_shotBounds) [()])) (fun v D => ∃ (r0a0 : Option Addr) (r0n0 : Nat) (r0c0 : Nat) (r0B0 : List Blk), r0n0 = r0.Shots.length ∧ Own 92 6 r0a0 r0n0 r0c0 (flat c_T_api_Shot r0.Shots) r0B0 ∧ v = .agg #[.int .u64 r0.Frame, .int .u64 r0.Seed, .int .i32 r0.Players.1.X, .int .i32 r0.Players.1.Y, .int .i32 r0.Players.1.VX, .int .i32 r0.Players.1.VY, .int .u8 r0.Players.1.Health, .int .u8 r0.Players.1.Cool, .int .u8 r0.Players.1.Face, .int .i32 r0.Players.2.X, .int .i32 r0.Players.2.Y, .int .i32 r0.Players.2.VX, .int .i32 r0.Players.2.VY, .int .u8 r0.Players.2.Health, .int .u8 r0.Players.2.Cool, .int .u8 r0.Players.2.Face, .slice r0a0 r0n0 r0c0, .int .u16 r0.Score.1, .int .u16 r0.Score.2] ∧ D = fun F => (r0B0 ++ F)) := by
  unfold m_step_Step at h
  refine sp_of_wc Tryd.func36 rfl Tryd.ntmps36 rfl rfl (fun w0 hR => ?_)
  obtain ⟨p0S0, G0S, G1S⟩ := hR
  refine wc_seq (wc_region ?_)
  refine wl_box rfl rfl rfl (fun b2 => ?_)
  refine wl_box rfl rfl rfl (fun b3 => ?_)
  refine wl_alloc tt_ok rfl rfl (fun b4 => ?_)
  refine wl_nil (wx_then (wc_seq (wc_region ?_)))
  refine wl_val (v := .agg #[.int .u64 p0.Frame, .int .u64 p0.Seed, .int .i32 p0.Players.1.X, .int .i32 p0.Players.1.Y, .int .i32 p0.Players.1.VX, .int .i32 p0.Players.1.VY, .int .u8 p0.Players.1.Health, .int .u8 p0.Players.1.Cool, .int .u8 p0.Players.1.Face, .int .i32 p0.Players.2.X, .int .i32 p0.Players.2.Y, .int .i32 p0.Players.2.VX, .int .i32 p0.Players.2.VY, .int .u8 p0.Players.2.Health, .int .u8 p0.Players.2.Cool, .int .u8 p0.Players.2.Face, .slice p0a0 p0n0 p0c0, .int .u16 p0.Score.1, .int .u16 p0.Score.2]) (val_load tt_ok rfl (List.Mem.tail _ (List.Mem.tail _ (List.Mem.head _))) rfl) rfl ?_
  replace h := bsome h; obtain ⟨v12, x12, h⟩ := h
  refine wl_cs Tryd.call44 rfl rfl rfl (s_sp (k_state_Copy (p0 := p0) p0N0 p0H0 x12) pNil (Rds.call p0S0 pNil rsub_nil)) rfl ?_
  rintro _ _ ⟨_, ⟨v12a0, v12n0, v12c0, v12B0, v12N0, v12V0, rfl, rfl⟩, rfl⟩
  apply wl_store tt_ok; rfl; exact (Upd.right (Upd.there (Upd.there Upd.here))); rfl; rfl; rfl; rfl; rfl; rfl
  refine wl_nil (wx_then (wc_seq (wc_seq (wc_region ?_))))
  refine wl_val (v := .agg #[.int .u64 v12.Frame, .int .u64 v12.Seed, .int .i32 v12.Players.1.X, .int .i32 v12.Players.1.Y, .int .i32 v12.Players.1.VX, .int .i32 v12.Players.1.VY, .int .u8 v12.Players.1.Health, .int .u8 v12.Players.1.Cool, .int .u8 v12.Players.1.Face, .int .i32 v12.Players.2.X, .int .i32 v12.Players.2.Y, .int .i32 v12.Players.2.VX, .int .i32 v12.Players.2.VY, .int .u8 v12.Players.2.Health, .int .u8 v12.Players.2.Cool, .int .u8 v12.Players.2.Face, .slice v12a0 v12n0 v12c0, .int .u16 v12.Score.1, .int .u16 v12.Score.2]) (val_load tt_ok rfl (mR (List.Mem.tail _ (List.Mem.tail _ (List.Mem.head _)))) rfl) rfl ?_
  replace h := bsome h; obtain ⟨v14, x14, h⟩ := h
  refine wl_cq Tryd.call43 rfl rfl rfl (q_pf (k_state_Check (p0 := v12) v12N0 (vec_cap v12V0) x14) (fun w hI => ⟨(Rds.call (Rds.of_vec v12V0) pNil ⟨_, Sel.ha⟩) w hI, (Rds.call G0S pNil rsub_nil) w hI, (Rds.call G1S pNil rsub_nil) w hI⟩)) rfl ?_
  refine wl_pure (v := .bool (v14 != (0 : Int))) tt_ok rfl rfl ?_
  refine wl_pure tt_ok rfl rfl ?_
  replace h := bsome h; obtain ⟨v21, h, hg21⟩ := h
  refine wl_split (t := 16) rfl (fun hc => ?_) (fun hc => ?_)
  · replace h := ct hc h
    refine wl_skip rfl rfl ?_
    refine wl_skip rfl rfl ?_
    refine wl_skip rfl rfl ?_
    refine wl_skip rfl rfl ?_
    simp only [Option.some.injEq, Prod.mk.injEq] at h
    obtain rfl := h
    have h := hg21; clear hg21
    refine wl_pure (v := .bool true) tt_ok rfl rfl ?_
    refine wl_pure tt_ok rfl rfl ?_
    replace h := bsome h; obtain ⟨v27, h, hg27⟩ := h
    replace h := ct rfl h
    refine wl_skip rfl rfl ?_
    refine wl_skip rfl rfl ?_
    refine wl_skip rfl rfl ?_
    refine wl_skip rfl rfl ?_
    simp only [Option.some.injEq, Prod.mk.injEq] at h
    obtain rfl := h
    have h := hg27; clear hg27
    refine wl_pure (v := .bool true) tt_ok rfl rfl ?_
    refine wl_nil (wx_then ?_)
    replace h := ct rfl h
    refine wc_cond_true rfl ?_
    refine wc_seq (wc_region ?_)
    refine wl_val (v := .agg #[.int .u64 v12.Frame, .int .u64 v12.Seed, .int .i32 v12.Players.1.X, .int .i32 v12.Players.1.Y, .int .i32 v12.Players.1.VX, .int .i32 v12.Players.1.VY, .int .u8 v12.Players.1.Health, .int .u8 v12.Players.1.Cool, .int .u8 v12.Players.1.Face, .int .i32 v12.Players.2.X, .int .i32 v12.Players.2.Y, .int .i32 v12.Players.2.VX, .int .i32 v12.Players.2.VY, .int .u8 v12.Players.2.Health, .int .u8 v12.Players.2.Cool, .int .u8 v12.Players.2.Face, .slice v12a0 v12n0 v12c0, .int .u16 v12.Score.1, .int .u16 v12.Score.2]) (val_load tt_ok rfl (mR (List.Mem.tail _ (List.Mem.tail _ (List.Mem.head _)))) rfl) rfl ?_
    apply wl_store tt_ok; rfl; exact (Upd.right Upd.here); rfl; rfl; rfl; rfl; rfl; rfl
    refine wl_nil (wx_then (wc_ret (wx_then_ret ?_)))
    simp only [Option.some.injEq] at h
    obtain rfl := h
    exact wx_spD tt_ok (.inl rfl) Tryd.results36 (Res.cell rfl (mR (List.Mem.head _)) rfl Res.nil) ⟨v12a0, v12n0, v12c0, v12B0, v12N0, v12V0, rfl, rfl⟩ (fun F => by simp) (pSub (pApp Sel.ha pNil))
  replace h := cf hc h
  refine wl_run rfl ?_
  refine wl_val (v := .pointer (some ⟨b3, 0, none⟩)) (val_ia (j := 0) tt_ok rfl rfl rfl rfl rfl rfl rfl) rfl ?_
  refine wl_run rfl ?_
  refine wl_val (v := .int .u8 p1.1) (val_load tt_ok rfl (mR (List.Mem.tail _ (List.Mem.head _))) rfl) rfl ?_
  replace h := bsome h; obtain ⟨v19, x19, h⟩ := h
  refine wl_run rfl ?_
  refine wl_cq Tryd.call28 rfl rfl rfl (q_pf (k_input_Legal x19) (fun _ _ => trivial)) rfl ?_
  refine wl_run rfl ?_
  refine wl_pure (v := .bool (!v19)) tt_ok rfl rfl ?_
  simp only [Option.some.injEq, Prod.mk.injEq] at h
  obtain rfl := h
  have h := hg21; clear hg21
  refine wl_pure (v := .bool (!v19)) tt_ok rfl rfl ?_
  refine wl_pure tt_ok rfl rfl ?_
  replace h := bsome h; obtain ⟨v27, h, hg27⟩ := h
  refine wl_split (t := 22) rfl (fun hc => ?_) (fun hc => ?_)
  · replace h := ct hc h
    refine wl_skip rfl rfl ?_
    refine wl_skip rfl rfl ?_
    refine wl_skip rfl rfl ?_
    refine wl_skip rfl rfl ?_
    simp only [Option.some.injEq, Prod.mk.injEq] at h
    obtain rfl := h
    have h := hg27; clear hg27
    refine wl_pure (v := .bool true) tt_ok rfl rfl ?_
    refine wl_nil (wx_then ?_)
    replace h := ct rfl h
    refine wc_cond_true rfl ?_
    refine wc_seq (wc_region ?_)
    refine wl_val (v := .agg #[.int .u64 v12.Frame, .int .u64 v12.Seed, .int .i32 v12.Players.1.X, .int .i32 v12.Players.1.Y, .int .i32 v12.Players.1.VX, .int .i32 v12.Players.1.VY, .int .u8 v12.Players.1.Health, .int .u8 v12.Players.1.Cool, .int .u8 v12.Players.1.Face, .int .i32 v12.Players.2.X, .int .i32 v12.Players.2.Y, .int .i32 v12.Players.2.VX, .int .i32 v12.Players.2.VY, .int .u8 v12.Players.2.Health, .int .u8 v12.Players.2.Cool, .int .u8 v12.Players.2.Face, .slice v12a0 v12n0 v12c0, .int .u16 v12.Score.1, .int .u16 v12.Score.2]) (val_load tt_ok rfl (mR (List.Mem.tail _ (List.Mem.tail _ (List.Mem.head _)))) rfl) rfl ?_
    apply wl_store tt_ok; rfl; exact (Upd.right Upd.here); rfl; rfl; rfl; rfl; rfl; rfl
    refine wl_nil (wx_then (wc_ret (wx_then_ret ?_)))
    simp only [Option.some.injEq] at h
    obtain rfl := h
    exact wx_spD tt_ok (.inl rfl) Tryd.results36 (Res.cell rfl (mR (List.Mem.head _)) rfl Res.nil) ⟨v12a0, v12n0, v12c0, v12B0, v12N0, v12V0, rfl, rfl⟩ (fun F => by simp) (pSub (pApp Sel.ha pNil))
  replace h := cf hc h
  refine wl_run rfl ?_
  refine wl_val (v := .pointer (some ⟨b3, 1, none⟩)) (val_ia (j := 1) tt_ok rfl rfl rfl rfl rfl rfl rfl) rfl ?_
  refine wl_run rfl ?_
  refine wl_val (v := .int .u8 p1.2) (val_load tt_ok rfl (mR (List.Mem.tail _ (List.Mem.head _))) rfl) rfl ?_
  replace h := bsome h; obtain ⟨v25, x25, h⟩ := h
  refine wl_run rfl ?_
  refine wl_cq Tryd.call28 rfl rfl rfl (q_pf (k_input_Legal x25) (fun _ _ => trivial)) rfl ?_
  refine wl_run rfl ?_
  refine wl_pure (v := .bool (!v25)) tt_ok rfl rfl ?_
  simp only [Option.some.injEq, Prod.mk.injEq] at h
  obtain rfl := h
  have h := hg27; clear hg27
  refine wl_pure (v := .bool (!v25)) tt_ok rfl rfl ?_
  refine wl_nil (wx_then ?_)
  refine wc_cond rfl (fun hc => ?_) (fun hc => ?_)
  · replace h := ct hc h
    refine wc_seq (wc_region ?_)
    refine wl_val (v := .agg #[.int .u64 v12.Frame, .int .u64 v12.Seed, .int .i32 v12.Players.1.X, .int .i32 v12.Players.1.Y, .int .i32 v12.Players.1.VX, .int .i32 v12.Players.1.VY, .int .u8 v12.Players.1.Health, .int .u8 v12.Players.1.Cool, .int .u8 v12.Players.1.Face, .int .i32 v12.Players.2.X, .int .i32 v12.Players.2.Y, .int .i32 v12.Players.2.VX, .int .i32 v12.Players.2.VY, .int .u8 v12.Players.2.Health, .int .u8 v12.Players.2.Cool, .int .u8 v12.Players.2.Face, .slice v12a0 v12n0 v12c0, .int .u16 v12.Score.1, .int .u16 v12.Score.2]) (val_load tt_ok rfl (mR (List.Mem.tail _ (List.Mem.tail _ (List.Mem.head _)))) rfl) rfl ?_
    apply wl_store tt_ok; rfl; exact (Upd.right Upd.here); rfl; rfl; rfl; rfl; rfl; rfl
    refine wl_nil (wx_then (wc_ret (wx_then_ret ?_)))
    simp only [Option.some.injEq] at h
    obtain rfl := h
    exact wx_spD tt_ok (.inl rfl) Tryd.results36 (Res.cell rfl (mR (List.Mem.head _)) rfl Res.nil) ⟨v12a0, v12n0, v12c0, v12B0, v12N0, v12V0, rfl, rfl⟩ (fun F => by simp) (pSub (pApp Sel.ha pNil))
  replace h := cf hc h
  refine wc_skip (wx_then (wc_seq (wc_seq (wc_region ?_))))
  refine wl_pure tt_ok rfl rfl ?_
  refine wl_nil (wx_then (wc_block ?_))
  replace h := bsome h; obtain ⟨l17_n2_f2, h, hl17⟩ := h
  refine wc_loop (fun m E L => ∃ (j17_29 : Int) (j17_n2_f2 : (T_api_Player × T_api_Player)), m_step_Step_L16 F p1 m j17_29 j17_n2_f2 = some l17_n2_f2 ∧ E = [(2, .pointer (some ⟨b2, 0, none⟩)), (3, .pointer (some ⟨b3, 0, none⟩)), (4, .pointer (some ⟨b4, 0, none⟩)), (29, .int .i64 j17_29)] ∧ L = (⟨b2, [.int .u64 v12.Frame, .int .u64 v12.Seed, .int .i32 j17_n2_f2.1.X, .int .i32 j17_n2_f2.1.Y, .int .i32 j17_n2_f2.1.VX, .int .i32 j17_n2_f2.1.VY, .int .u8 j17_n2_f2.1.Health, .int .u8 j17_n2_f2.1.Cool, .int .u8 j17_n2_f2.1.Face, .int .i32 j17_n2_f2.2.X, .int .i32 j17_n2_f2.2.Y, .int .i32 j17_n2_f2.2.VX, .int .i32 j17_n2_f2.2.VY, .int .u8 j17_n2_f2.2.Health, .int .u8 j17_n2_f2.2.Cool, .int .u8 j17_n2_f2.2.Face, .slice v12a0 v12n0 v12c0, .int .u16 v12.Score.1, .int .u16 v12.Score.2], 61, (0, 0)⟩ :: (⟨b3, [.int .u8 p1.1, .int .u8 p1.2], 36, (0, 0)⟩ :: (⟨b4, [.int .u64 (0 : Int), .int .u64 (0 : Int), .int .i32 (0 : Int), .int .i32 (0 : Int), .int .i32 (0 : Int), .int .i32 (0 : Int), .int .u8 (0 : Int), .int .u8 (0 : Int), .int .u8 (0 : Int), .int .i32 (0 : Int), .int .i32 (0 : Int), .int .i32 (0 : Int), .int .i32 (0 : Int), .int .u8 (0 : Int), .int .u8 (0 : Int), .int .u8 (0 : Int), .slice none 0 0, .int .u16 (0 : Int), .int .u16 (0 : Int)], 61, (0, 0)⟩ :: (v12B0 ++ []))))) F ⟨(0 : Int), v12.Players, h, rfl, rfl⟩ (agree_cons rfl (agree_cons rfl (agree_cons rfl (agree_cons rfl agree_nil)))) (pSub (pCons (Sel.sa (Sel.sc (Sel.sc Sel.hc))) (pCons (Sel.sa (Sel.sc Sel.hc)) (pCons (Sel.sa Sel.hc) (pApp Sel.ha pNil))))) ?_
  clear h
  rintro m17 _ _ ⟨j17_29, j17_n2_f2, h, rfl, rfl⟩
  rcases m17 with _ | m17
  · rw [m_step_Step_L16.eq_1] at h; cases h
  rw [m_step_Step_L16.eq_2] at h
  refine wc_seq (wc_region ?_)
  refine wl_pure (v := .bool (decide (j17_29 < (2 : Int)))) tt_ok rfl rfl ?_
  refine wl_nil (wx_then (wc_seq ?_))
  refine wc_cond rfl (fun hc => ?_) (fun hc => ?_)
  · replace h := ct hc h
    refine wc_skip (wx_then (wc_seq (wc_block (wc_seq (wc_region ?_)))))
    iterate 2 refine wl_pure tt_ok rfl rfl ?_
    refine wl_nil (wx_then ?_)
    refine wc_k2 (Ls := (⟨b2, [.int .u64 v12.Frame, .int .u64 v12.Seed, .int .i32 j17_n2_f2.1.X, .int .i32 j17_n2_f2.1.Y, .int .i32 j17_n2_f2.1.VX, .int .i32 j17_n2_f2.1.VY, .int .u8 j17_n2_f2.1.Health, .int .u8 j17_n2_f2.1.Cool, .int .u8 j17_n2_f2.1.Face, .int .i32 j17_n2_f2.2.X, .int .i32 j17_n2_f2.2.Y, .int .i32 j17_n2_f2.2.VX, .int .i32 j17_n2_f2.2.VY, .int .u8 j17_n2_f2.2.Health, .int .u8 j17_n2_f2.2.Cool, .int .u8 j17_n2_f2.2.Face, .slice v12a0 v12n0 v12c0, .int .u16 v12.Score.1, .int .u16 v12.Score.2], 61, (0, 0)⟩ :: (⟨b3, [.int .u8 p1.1, .int .u8 p1.2], 36, (0, 0)⟩ :: (⟨b4, [.int .u64 (0 : Int), .int .u64 (0 : Int), .int .i32 (0 : Int), .int .i32 (0 : Int), .int .i32 (0 : Int), .int .i32 (0 : Int), .int .u8 (0 : Int), .int .u8 (0 : Int), .int .u8 (0 : Int), .int .i32 (0 : Int), .int .i32 (0 : Int), .int .i32 (0 : Int), .int .i32 (0 : Int), .int .u8 (0 : Int), .int .u8 (0 : Int), .int .u8 (0 : Int), .slice none 0 0, .int .u16 (0 : Int), .int .u16 (0 : Int)], 61, (0, 0)⟩ :: (v12B0 ++ []))))) [8, 10, 11] [10, 11] [0, 0, 0, 6, 14, 0, 32, 96, 254, 0, 1023, 2047] [0, 1, 2, 3, 4, 5, 6, 7, 9, 8, 10, 11] (by kernel_rfl) (by kernel_rfl) (by kernel_rfl) ?_
    refine k_val rfl rfl rfl (pSub (pCons Sel.hc (pCons Sel.hc (pCons Sel.hc (pApp Sel.ha pNil))))) (stepV_ok tt_ok rfl) rfl ?_
    refine k_val rfl rfl rfl (pSub (pCons Sel.hc (pCons Sel.hc (pCons Sel.hc (pApp Sel.ha pNil))))) (stepV_ok tt_ok rfl) rfl ?_
    refine k_val (v := .pointer (some ⟨b2, 2, none⟩)) rfl rfl rfl (pSub (pCons Sel.hc (pCons Sel.hc (pCons Sel.hc (pApp Sel.ha pNil))))) (stepV_ok tt_ok rfl) rfl ?_
    rcases Bool.eq_false_or_eq_true (j17_29 == (0 : Int)) with hx350 | hx350
    · replace h := ct hx350 h
      refine k_val (v := .pointer (some ⟨b2, 2, none⟩)) rfl rfl rfl (pSub (pCons Sel.hc (pCons Sel.hc (pCons Sel.hc (pApp Sel.ha pNil))))) (val_ia (j := 0) tt_ok rfl rfl rfl rfl (by simpa using hx350) rfl rfl) rfl ?_
      refine k_val (v := .agg #[.int .i32 j17_n2_f2.1.X, .int .i32 j17_n2_f2.1.Y, .int .i32 j17_n2_f2.1.VX, .int .i32 j17_n2_f2.1.VY, .int .u8 j17_n2_f2.1.Health, .int .u8 j17_n2_f2.1.Cool, .int .u8 j17_n2_f2.1.Face]) rfl rfl rfl (pSub (pCons Sel.hc (pCons Sel.hc (pCons Sel.hc (pApp Sel.ha pNil))))) (val_load tt_ok rfl (List.Mem.head _) rfl) rfl ?_
      refine k_val rfl rfl rfl (pSub (pCons Sel.hc (pCons Sel.hc (pCons Sel.hc (pApp Sel.ha pNil))))) (stepV_ok tt_ok rfl) rfl ?_
      refine k_val (v := .pointer (some ⟨b3, 0, none⟩)) rfl rfl rfl (pSub (pCons Sel.hc (pCons Sel.hc (pCons Sel.hc (pApp Sel.ha pNil))))) (val_ia (j := 0) tt_ok rfl rfl rfl rfl (by simpa using hx350) rfl rfl) rfl ?_
      refine k_val (v := .int .u8 p1.1) rfl rfl rfl (pSub (pCons Sel.hc (pCons Sel.hc (pCons Sel.hc (pApp Sel.ha pNil))))) (val_load tt_ok rfl (List.Mem.tail _ (List.Mem.head _)) rfl) rfl ?_
      refine k_val (v := .pointer (some ⟨b2, 2, none⟩)) rfl rfl rfl (pSub (pCons Sel.hc (pCons Sel.hc (pCons Sel.hc (pApp Sel.ha pNil))))) (stepV_ok tt_ok rfl) rfl ?_
      replace h := bsome h; obtain ⟨v40, x40, h⟩ := h
      refine k_cq rfl rfl rfl Tryd.call51 rfl rfl rfl (q_pf (k_step_steer x40) (fun _ _ => trivial)) rfl (pSub (pCons Sel.hc (pCons Sel.hc (pCons Sel.hc (pApp Sel.ha pNil))))) ?_
      refine k_chg rfl rfl rfl (Chg.of_val (v := .pointer (some ⟨b2, 2, none⟩)) (val_ia (j := 0) tt_ok rfl rfl rfl rfl (by simpa using hx350) rfl rfl)) rfl (.inl rfl) ?_
      rintro _ _ ⟨rfl, rfl⟩
      refine k_chg0 rfl rfl rfl (chg_store tt_ok rfl Upd.here rfl rfl rfl rfl rfl rfl) (.inl rfl) ?_
      rintro _ _ rfl
      refine k_end (by kernel_rfl) ?_
      refine wx_block (wx_then (wc_region ?_))
      refine wl_pure (v := .int .i64 (IntKind.wrap .i64 (j17_29 + (1 : Int)))) tt_ok rfl rfl ?_
      refine wl_pure tt_ok rfl rfl ?_
      refine wl_nil ?_
      exact wx_round m17 (Nat.lt_succ_self m17) ⟨(IntKind.wrap .i64 (j17_29 + (1 : Int))), (v40, j17_n2_f2.2), h, rfl, rfl⟩ (agree_cons rfl (agree_cons rfl (agree_cons rfl (agree_cons rfl agree_nil)))) (pSub (pCons Sel.hc (pCons Sel.hc (pCons Sel.hc (pApp Sel.ha pNil)))))
    replace h := cf hx350 h
    rcases Bool.eq_false_or_eq_true (j17_29 == (1 : Int)) with hx351 | hx351
    · replace h := ct hx351 h
      refine k_val (v := .pointer (some ⟨b2, 9, none⟩)) rfl rfl rfl (pSub (pCons Sel.hc (pCons Sel.hc (pCons Sel.hc (pApp Sel.ha pNil))))) (val_ia (j := 1) tt_ok rfl rfl rfl rfl (by simpa using hx351) rfl rfl) rfl ?_
      refine k_val (v := .agg #[.int .i32 j17_n2_f2.2.X, .int .i32 j17_n2_f2.2.Y, .int .i32 j17_n2_f2.2.VX, .int .i32 j17_n2_f2.2.VY, .int .u8 j17_n2_f2.2.Health, .int .u8 j17_n2_f2.2.Cool, .int .u8 j17_n2_f2.2.Face]) rfl rfl rfl (pSub (pCons Sel.hc (pCons Sel.hc (pCons Sel.hc (pApp Sel.ha pNil))))) (val_load tt_ok rfl (List.Mem.head _) rfl) rfl ?_
      refine k_val rfl rfl rfl (pSub (pCons Sel.hc (pCons Sel.hc (pCons Sel.hc (pApp Sel.ha pNil))))) (stepV_ok tt_ok rfl) rfl ?_
      refine k_val (v := .pointer (some ⟨b3, 1, none⟩)) rfl rfl rfl (pSub (pCons Sel.hc (pCons Sel.hc (pCons Sel.hc (pApp Sel.ha pNil))))) (val_ia (j := 1) tt_ok rfl rfl rfl rfl (by simpa using hx351) rfl rfl) rfl ?_
      refine k_val (v := .int .u8 p1.2) rfl rfl rfl (pSub (pCons Sel.hc (pCons Sel.hc (pCons Sel.hc (pApp Sel.ha pNil))))) (val_load tt_ok rfl (List.Mem.tail _ (List.Mem.head _)) rfl) rfl ?_
      refine k_val (v := .pointer (some ⟨b2, 2, none⟩)) rfl rfl rfl (pSub (pCons Sel.hc (pCons Sel.hc (pCons Sel.hc (pApp Sel.ha pNil))))) (stepV_ok tt_ok rfl) rfl ?_
      replace h := bsome h; obtain ⟨v40, x40, h⟩ := h
      refine k_cq rfl rfl rfl Tryd.call51 rfl rfl rfl (q_pf (k_step_steer x40) (fun _ _ => trivial)) rfl (pSub (pCons Sel.hc (pCons Sel.hc (pCons Sel.hc (pApp Sel.ha pNil))))) ?_
      refine k_chg rfl rfl rfl (Chg.of_val (v := .pointer (some ⟨b2, 9, none⟩)) (val_ia (j := 1) tt_ok rfl rfl rfl rfl (by simpa using hx351) rfl rfl)) rfl (.inl rfl) ?_
      rintro _ _ ⟨rfl, rfl⟩
      refine k_chg0 rfl rfl rfl (chg_store tt_ok rfl Upd.here rfl rfl rfl rfl rfl rfl) (.inl rfl) ?_
      rintro _ _ rfl
      refine k_end (by kernel_rfl) ?_
      refine wx_block (wx_then (wc_region ?_))
      refine wl_pure (v := .int .i64 (IntKind.wrap .i64 (j17_29 + (1 : Int)))) tt_ok rfl rfl ?_
      refine wl_pure tt_ok rfl rfl ?_
      refine wl_nil ?_
      exact wx_round m17 (Nat.lt_succ_self m17) ⟨(IntKind.wrap .i64 (j17_29 + (1 : Int))), (j17_n2_f2.1, v40), h, rfl, rfl⟩ (agree_cons rfl (agree_cons rfl (agree_cons rfl (agree_cons rfl agree_nil)))) (pSub (pCons Sel.hc (pCons Sel.hc (pCons Sel.hc (pApp Sel.ha pNil)))))
    replace h := cf hx351 h
    cases h
  replace h := cf hc h
  refine wc_exit (wx_then_exit ?_)
  simp only [Option.some.injEq] at h
  obtain rfl := h
  have h := hl17; clear hl17; try dsimp only [orE_l, orE_r] at h
  refine wx_then_exit (wx_block_exit (wx_then (wc_seq (wc_seq (wc_region ?_)))))
  refine wl_pure tt_ok rfl rfl ?_
  refine wl_nil (wx_then (wc_block ?_))
  replace h := bsome h; obtain ⟨⟨l34_n2_f2, l34_n2_f3⟩, h, hl34⟩ := h; try dsimp only at hl34
  refine wc_loop (fun m E L => ∃ (j34_44 : Int) (j34_n2_f2 : (T_api_Player × T_api_Player)) (j34_n2_f3 : (List T_api_Shot)) (j34_n2_f3a0 : Option Addr) (j34_n2_f3n0 : Nat) (j34_n2_f3c0 : Nat) (j34_n2_f3B0 : List Blk), m_step_Step_L33 F p1 m j34_44 j34_n2_f2 j34_n2_f3 = some (l34_n2_f2, l34_n2_f3) ∧ j34_n2_f3n0 = j34_n2_f3.length ∧ Own 92 6 j34_n2_f3a0 j34_n2_f3n0 j34_n2_f3c0 (flat c_T_api_Shot j34_n2_f3) j34_n2_f3B0 ∧ E = [(2, .pointer (some ⟨b2, 0, none⟩)), (3, .pointer (some ⟨b3, 0, none⟩)), (4, .pointer (some ⟨b4, 0, none⟩)), (44, .int .i64 j34_44)] ∧ L = (⟨b2, [.int .u64 v12.Frame, .int .u64 v12.Seed, .int .i32 j34_n2_f2.1.X, .int .i32 j34_n2_f2.1.Y, .int .i32 j34_n2_f2.1.VX, .int .i32 j34_n2_f2.1.VY, .int .u8 j34_n2_f2.1.Health, .int .u8 j34_n2_f2.1.Cool, .int .u8 j34_n2_f2.1.Face, .int .i32 j34_n2_f2.2.X, .int .i32 j34_n2_f2.2.Y, .int .i32 j34_n2_f2.2.VX, .int .i32 j34_n2_f2.2.VY, .int .u8 j34_n2_f2.2.Health, .int .u8 j34_n2_f2.2.Cool, .int .u8 j34_n2_f2.2.Face, .slice j34_n2_f3a0 j34_n2_f3n0 j34_n2_f3c0, .int .u16 v12.Score.1, .int .u16 v12.Score.2], 61, (0, 0)⟩ :: (⟨b3, [.int .u8 p1.1, .int .u8 p1.2], 36, (0, 0)⟩ :: (⟨b4, [.int .u64 (0 : Int), .int .u64 (0 : Int), .int .i32 (0 : Int), .int .i32 (0 : Int), .int .i32 (0 : Int), .int .i32 (0 : Int), .int .u8 (0 : Int), .int .u8 (0 : Int), .int .u8 (0 : Int), .int .i32 (0 : Int), .int .i32 (0 : Int), .int .i32 (0 : Int), .int .i32 (0 : Int), .int .u8 (0 : Int), .int .u8 (0 : Int), .int .u8 (0 : Int), .slice none 0 0, .int .u16 (0 : Int), .int .u16 (0 : Int)], 61, (0, 0)⟩ :: (j34_n2_f3B0 ++ []))))) F ⟨(0 : Int), j17_n2_f2, v12.Shots, v12a0, v12n0, v12c0, v12B0, h, v12N0, v12V0, rfl, rfl⟩ (agree_cons rfl (agree_cons rfl (agree_cons rfl (agree_cons rfl agree_nil)))) (pSub (pCons Sel.hc (pCons Sel.hc (pCons Sel.hc (pApp Sel.ha pNil))))) ?_
  clear h
  rintro m34 _ _ ⟨j34_44, j34_n2_f2, j34_n2_f3, j34_n2_f3a0, j34_n2_f3n0, j34_n2_f3c0, j34_n2_f3B0, h, j34_n2_f3N0, j34_n2_f3V0, rfl, rfl⟩
  rcases m34 with _ | m34
  · rw [m_step_Step_L33.eq_1] at h; cases h
  rw [m_step_Step_L33.eq_2] at h
  refine wc_seq (wc_region ?_)
  refine wl_pure (v := .bool (decide (j34_44 < (2 : Int)))) tt_ok rfl rfl ?_
  refine wl_nil (wx_then (wc_seq ?_))
  refine wc_cond rfl (fun hc => ?_) (fun hc => ?_)
  · replace h := ct hc h
    refine wc_skip (wx_then (wc_seq (wc_block (wc_seq (wc_region ?_)))))
    iterate 2 refine wl_pure tt_ok rfl rfl ?_
    refine wl_nil (wx_then (wc_seq (wc_region ?_)))
    refine wl_pure tt_ok rfl rfl ?_
    refine wl_pure (v := .pointer (some ⟨b2, 2, none⟩)) tt_ok rfl rfl ?_
    rcases Bool.eq_false_or_eq_true (j34_44 == (0 : Int)) with hx490 | hx490
    · replace h := ct hx490 h
      refine wl_val (v := .pointer (some ⟨b2, 2, none⟩)) (val_ia (j := 0) tt_ok rfl rfl rfl rfl (by simpa using hx490) rfl rfl) rfl ?_
      refine wl_pure tt_ok rfl rfl ?_
      refine wl_nil (wx_then (wc_seq (wc_region ?_)))
      refine wl_pure tt_ok rfl rfl ?_
      refine wl_val (v := .pointer (some ⟨b3, 0, none⟩)) (val_ia (j := 0) tt_ok rfl rfl rfl rfl (by simpa using hx490) rfl rfl) rfl ?_
      refine wl_val (v := .int .u8 p1.1) (val_load tt_ok rfl (List.Mem.tail _ (List.Mem.head _)) rfl) rfl ?_
      replace h := bsome h; obtain ⟨v53, x53, h⟩ := h
      refine wl_cq Tryd.call52 rfl rfl rfl (q_pf (k_input_Fire x53) (fun _ _ => trivial)) rfl ?_
      refine wl_pure tt_ok rfl rfl ?_
      replace h := bsome h; obtain ⟨v60, h, hg60⟩ := h
      refine wl_split (t := 54) rfl (fun hc => ?_) (fun hc => ?_)
      · replace h := ct hc h
        refine wl_run rfl ?_
        refine wl_pure tt_ok rfl rfl ?_
        refine wl_run rfl ?_
        refine wl_pure tt_ok rfl rfl ?_
        refine wl_run rfl ?_
        refine wl_pure (v := .pointer (some ⟨b2, 7, none⟩)) tt_ok rfl rfl ?_
        refine wl_run rfl ?_
        refine wl_val (v := .int .u8 j34_n2_f2.1.Cool) (val_load tt_ok rfl (List.Mem.head _) rfl) rfl ?_
        refine wl_run rfl ?_
        refine wl_pure (v := .bool (j34_n2_f2.1.Cool == (0 : Int))) tt_ok rfl rfl ?_
        simp only [Option.some.injEq, Prod.mk.injEq] at h
        obtain rfl := h
        have h := hg60; clear hg60
        refine wl_pure (v := .bool (j34_n2_f2.1.Cool == (0 : Int))) tt_ok rfl rfl ?_
        refine wl_pure tt_ok rfl rfl ?_
        replace h := bsome h; obtain ⟨v66, h, hg66⟩ := h
        refine wl_split (t := 61) rfl (fun hc => ?_) (fun hc => ?_)
        · replace h := ct hc h
          refine wl_run rfl ?_
          refine wl_pure (v := .pointer (some ⟨b2, 16, none⟩)) tt_ok rfl rfl ?_
          refine wl_run rfl ?_
          refine wl_val (v := .slice j34_n2_f3a0 j34_n2_f3n0 j34_n2_f3c0) (val_load tt_ok rfl (List.Mem.head _) rfl) rfl ?_
          refine wl_run rfl ?_
          refine wl_val (v := .int .i64 (j34_n2_f3.length : Int)) (val_len tt_ok rfl rfl j34_n2_f3N0) rfl ?_
          refine wl_run rfl ?_
          refine wl_pure (v := .bool (decide ((j34_n2_f3.length : Int) < (8 : Int)))) tt_ok rfl rfl ?_
          simp only [Option.some.injEq, Prod.mk.injEq] at h
          obtain rfl := h
          have h := hg66; clear hg66
          refine wl_pure (v := .bool (decide ((j34_n2_f3.length : Int) < (8 : Int)))) tt_ok rfl rfl ?_
          refine wl_nil (wx_then ?_)
          refine wc_cond rfl (fun hc => ?_) (fun hc => ?_)
          · replace h := ct hc h
            refine wc_seq ?_
            refine wc_k2 (Ls := (⟨b2, [.int .u64 v12.Frame, .int .u64 v12.Seed, .int .i32 j34_n2_f2.1.X, .int .i32 j34_n2_f2.1.Y, .int .i32 j34_n2_f2.1.VX, .int .i32 j34_n2_f2.1.VY, .int .u8 j34_n2_f2.1.Health, .int .u8 j34_n2_f2.1.Cool, .int .u8 j34_n2_f2.1.Face, .int .i32 j34_n2_f2.2.X, .int .i32 j34_n2_f2.2.Y, .int .i32 j34_n2_f2.2.VX, .int .i32 j34_n2_f2.2.VY, .int .u8 j34_n2_f2.2.Health, .int .u8 j34_n2_f2.2.Cool, .int .u8 j34_n2_f2.2.Face, .slice j34_n2_f3a0 j34_n2_f3n0 j34_n2_f3c0, .int .u16 v12.Score.1, .int .u16 v12.Score.2], 61, (0, 0)⟩ :: (⟨b3, [.int .u8 p1.1, .int .u8 p1.2], 36, (0, 0)⟩ :: (⟨b4, [.int .u64 (0 : Int), .int .u64 (0 : Int), .int .i32 (0 : Int), .int .i32 (0 : Int), .int .i32 (0 : Int), .int .i32 (0 : Int), .int .u8 (0 : Int), .int .u8 (0 : Int), .int .u8 (0 : Int), .int .i32 (0 : Int), .int .i32 (0 : Int), .int .i32 (0 : Int), .int .i32 (0 : Int), .int .u8 (0 : Int), .int .u8 (0 : Int), .int .u8 (0 : Int), .slice none 0 0, .int .u16 (0 : Int), .int .u16 (0 : Int)], 61, (0, 0)⟩ :: (j34_n2_f3B0 ++ []))))) [7, 8, 9, 10, 11] [9, 10, 11] [0, 1, 0, 4, 12, 0, 32, 124, 252, 511, 1023, 2047] [0, 1, 2, 3, 4, 5, 6, 7, 8, 9, 10, 11] (by kernel_rfl) (by kernel_rfl) (by kernel_rfl) ?_
            refine k_val (v := .pointer (some ⟨b2, 16, none⟩)) rfl rfl rfl (pSub (pCons Sel.hc (pCons Sel.hc (pCons Sel.hc (pApp Sel.ha pNil))))) (stepV_ok tt_ok rfl) rfl ?_
            refine k_val (v := .slice j34_n2_f3a0 j34_n2_f3n0 j34_n2_f3c0) rfl rfl rfl (pSub (pCons Sel.hc (pCons Sel.hc (pCons Sel.hc (pApp Sel.ha pNil))))) (val_load tt_ok rfl (List.Mem.head _) rfl) rfl ?_
            refine k_val rfl rfl rfl (pSub (pCons Sel.hc (pCons Sel.hc (pCons Sel.hc (pApp Sel.ha pNil))))) (stepV_ok tt_ok rfl) rfl ?_
            refine k_val rfl rfl rfl (pSub (pCons Sel.hc (pCons Sel.hc (pCons Sel.hc (pApp Sel.ha pNil))))) (stepV_ok tt_ok rfl) rfl ?_
            refine k_val (v := .agg #[.int .i32 j34_n2_f2.1.X, .int .i32 j34_n2_f2.1.Y, .int .i32 j34_n2_f2.1.VX, .int .i32 j34_n2_f2.1.VY, .int .u8 j34_n2_f2.1.Health, .int .u8 j34_n2_f2.1.Cool, .int .u8 j34_n2_f2.1.Face]) rfl rfl rfl (pSub (pCons Sel.hc (pCons Sel.hc (pCons Sel.hc (pApp Sel.ha pNil))))) (val_load tt_ok rfl (List.Mem.head _) rfl) rfl ?_
            refine k_val rfl rfl rfl (pSub (pCons Sel.hc (pCons Sel.hc (pCons Sel.hc (pApp Sel.ha pNil))))) (stepV_ok tt_ok rfl) rfl ?_
            refine k_val (v := .int .u8 (IntKind.wrap .u8 j34_44)) rfl rfl rfl (pSub (pCons Sel.hc (pCons Sel.hc (pCons Sel.hc (pApp Sel.ha pNil))))) (stepV_ok tt_ok rfl) rfl ?_
            replace h := bsome h; obtain ⟨v74, x74, h⟩ := h
            refine k_cq rfl rfl rfl Tryd.call53 rfl rfl rfl (q_pf (k_step_shoot x74) (fun _ _ => trivial)) rfl (pSub (pCons Sel.hc (pCons Sel.hc (pCons Sel.hc (pApp Sel.ha pNil))))) ?_
            refine k_chg rfl rfl rfl (chg_bsv (enc := c_T_api_Shot) (xs := ([v74] : List T_api_Shot)) tt_ok rfl rfl rfl rfl rfl rfl rfl rfl c_T_api_Shot_len) rfl (.inr (by rintro _ _ ⟨_, _, _, _, rfl, _, _, rfl⟩; exact ⟨_, (pCons (Sel.sa Sel.hc) (pCons (Sel.sa Sel.hc) (pCons (Sel.sa Sel.hc) (pApp (Sel.sa Sel.ha) pNil))))⟩)) ?_
            rintro _ _ ⟨a75, n75_, c75, B75, rfl, N75, V75, rfl⟩
            replace h := bsome h; obtain ⟨v76, x76, h⟩ := h
            refine k_chg rfl rfl rfl (chg_app (enc := c_T_api_Shot) (ys := ([v74] : List T_api_Shot)) tt_ok rfl rfl rfl rfl rfl rfl j34_n2_f3N0 N75 j34_n2_f3V0 (Sel.sa (Sel.sc (Sel.sc (Sel.sc Sel.ha)))) (Rds.of_vec V75) ⟨_, Sel.ha⟩ c_T_api_Shot_len (fun _ => rfl) rfl x76) rfl (.inl rfl) ?_
            rintro _ _ ⟨a76, n76_, c76, B76, rfl, N76, V76, rfl⟩
            refine k_chg rfl rfl rfl (Chg.of_val (v := .pointer (some ⟨b2, 16, none⟩)) (stepV_ok tt_ok rfl)) rfl (.inl rfl) ?_
            rintro _ _ ⟨rfl, rfl⟩
            refine k_chg0 rfl rfl rfl (chg_store tt_ok rfl (Upd.right (Upd.right Upd.here)) rfl rfl rfl rfl rfl rfl) (.inl rfl) ?_
            rintro _ _ rfl
            refine k_end (by kernel_rfl) ?_
            refine wx_then (wc_region ?_)
            iterate 2 refine wl_pure tt_ok rfl rfl ?_
            refine wl_pure (v := .pointer (some ⟨b2, 7, none⟩)) tt_ok rfl rfl ?_
            apply wl_store tt_ok; rfl; exact (Upd.right (Upd.right Upd.here)); rfl; rfl; rfl; rfl; rfl; rfl
            refine wl_nil (wx_block (wx_then (wc_region ?_)))
            refine wl_pure (v := .int .i64 (IntKind.wrap .i64 (j34_44 + (1 : Int)))) tt_ok rfl rfl ?_
            refine wl_pure tt_ok rfl rfl ?_
            refine wl_nil ?_
            exact wx_round m34 (Nat.lt_succ_self m34) ⟨(IntKind.wrap .i64 (j34_44 + (1 : Int))), ((T_api_Player.mk j34_n2_f2.1.X j34_n2_f2.1.Y j34_n2_f2.1.VX j34_n2_f2.1.VY j34_n2_f2.1.Health (10 : Int) j34_n2_f2.1.Face), j34_n2_f2.2), v76, a76, n76_, c76, B76, h, N76, V76, rfl, rfl⟩ (agree_cons rfl (agree_cons rfl (agree_cons rfl (agree_cons rfl agree_nil)))) (pSub (pCons (Sel.sa (Sel.sa Sel.hc)) (pCons (Sel.sa (Sel.sa Sel.hc)) (pCons (Sel.sa (Sel.sa Sel.hc)) (pApp Sel.ha pNil)))))
          replace h := cf hc h
          refine wc_skip (wx_block (wx_then (wc_region ?_)))
          refine wl_pure (v := .int .i64 (IntKind.wrap .i64 (j34_44 + (1 : Int)))) tt_ok rfl rfl ?_
          refine wl_pure tt_ok rfl rfl ?_
          refine wl_nil ?_
          exact wx_round m34 (Nat.lt_succ_self m34) ⟨(IntKind.wrap .i64 (j34_44 + (1 : Int))), j34_n2_f2, j34_n2_f3, j34_n2_f3a0, j34_n2_f3n0, j34_n2_f3c0, j34_n2_f3B0, h, j34_n2_f3N0, j34_n2_f3V0, rfl, rfl⟩ (agree_cons rfl (agree_cons rfl (agree_cons rfl (agree_cons rfl agree_nil)))) (pSub (pCons Sel.hc (pCons Sel.hc (pCons Sel.hc (pApp Sel.ha pNil)))))
        replace h := cf hc h
        refine wl_skip rfl rfl ?_
        refine wl_skip rfl rfl ?_
        refine wl_skip rfl rfl ?_
        refine wl_skip rfl rfl ?_
        simp only [Option.some.injEq, Prod.mk.injEq] at h
        obtain rfl := h
        have h := hg66; clear hg66
        refine wl_pure (v := .bool false) tt_ok rfl rfl ?_
        refine wl_nil (wx_then ?_)
        replace h := cf rfl h
        refine wc_cond_false rfl ?_
        refine wc_skip (wx_block (wx_then (wc_region ?_)))
        refine wl_pure (v := .int .i64 (IntKind.wrap .i64 (j34_44 + (1 : Int)))) tt_ok rfl rfl ?_
        refine wl_pure tt_ok rfl rfl ?_
        refine wl_nil ?_
        exact wx_round m34 (Nat.lt_succ_self m34) ⟨(IntKind.wrap .i64 (j34_44 + (1 : Int))), j34_n2_f2, j34_n2_f3, j34_n2_f3a0, j34_n2_f3n0, j34_n2_f3c0, j34_n2_f3B0, h, j34_n2_f3N0, j34_n2_f3V0, rfl, rfl⟩ (agree_cons rfl (agree_cons rfl (agree_cons rfl (agree_cons rfl agree_nil)))) (pSub (pCons Sel.hc (pCons Sel.hc (pCons Sel.hc (pApp Sel.ha pNil)))))
      replace h := cf hc h
      refine wl_skip rfl rfl ?_
      refine wl_skip rfl rfl ?_
      refine wl_skip rfl rfl ?_
      refine wl_skip rfl rfl ?_
      refine wl_skip rfl rfl ?_
      simp only [Option.some.injEq, Prod.mk.injEq] at h
      obtain rfl := h
      have h := hg60; clear hg60
      refine wl_pure (v := .bool false) tt_ok rfl rfl ?_
      refine wl_pure tt_ok rfl rfl ?_
      replace h := bsome h; obtain ⟨v66, h, hg66⟩ := h
      replace h := cf rfl h
      refine wl_skip rfl rfl ?_
      refine wl_skip rfl rfl ?_
      refine wl_skip rfl rfl ?_
      refine wl_skip rfl rfl ?_
      simp only [Option.some.injEq, Prod.mk.injEq] at h
      obtain rfl := h
      have h := hg66; clear hg66
      refine wl_pure (v := .bool false) tt_ok rfl rfl ?_
      refine wl_nil (wx_then ?_)
      replace h := cf rfl h
      refine wc_cond_false rfl ?_
      refine wc_skip (wx_block (wx_then (wc_region ?_)))
      refine wl_pure (v := .int .i64 (IntKind.wrap .i64 (j34_44 + (1 : Int)))) tt_ok rfl rfl ?_
      refine wl_pure tt_ok rfl rfl ?_
      refine wl_nil ?_
      exact wx_round m34 (Nat.lt_succ_self m34) ⟨(IntKind.wrap .i64 (j34_44 + (1 : Int))), j34_n2_f2, j34_n2_f3, j34_n2_f3a0, j34_n2_f3n0, j34_n2_f3c0, j34_n2_f3B0, h, j34_n2_f3N0, j34_n2_f3V0, rfl, rfl⟩ (agree_cons rfl (agree_cons rfl (agree_cons rfl (agree_cons rfl agree_nil)))) (pSub (pCons Sel.hc (pCons Sel.hc (pCons Sel.hc (pApp Sel.ha pNil)))))
    replace h := cf hx490 h
    rcases Bool.eq_false_or_eq_true (j34_44 == (1 : Int)) with hx491 | hx491
    · replace h := ct hx491 h
      refine wl_val (v := .pointer (some ⟨b2, 9, none⟩)) (val_ia (j := 1) tt_ok rfl rfl rfl rfl (by simpa using hx491) rfl rfl) rfl ?_
      refine wl_pure tt_ok rfl rfl ?_
      refine wl_nil (wx_then (wc_seq (wc_region ?_)))
      refine wl_pure tt_ok rfl rfl ?_
      refine wl_val (v := .pointer (some ⟨b3, 1, none⟩)) (val_ia (j := 1) tt_ok rfl rfl rfl rfl (by simpa using hx491) rfl rfl) rfl ?_
      refine wl_val (v := .int .u8 p1.2) (val_load tt_ok rfl (List.Mem.tail _ (List.Mem.head _)) rfl) rfl ?_
      replace h := bsome h; obtain ⟨v53, x53, h⟩ := h
      refine wl_cq Tryd.call52 rfl rfl rfl (q_pf (k_input_Fire x53) (fun _ _ => trivial)) rfl ?_
      refine wl_pure tt_ok rfl rfl ?_
      replace h := bsome h; obtain ⟨v60, h, hg60⟩ := h
      refine wl_split (t := 54) rfl (fun hc => ?_) (fun hc => ?_)
      · replace h := ct hc h
        refine wl_run rfl ?_
        refine wl_pure tt_ok rfl rfl ?_
        refine wl_run rfl ?_
        refine wl_pure tt_ok rfl rfl ?_
        refine wl_run rfl ?_
        refine wl_pure (v := .pointer (some ⟨b2, 14, none⟩)) tt_ok rfl rfl ?_
        refine wl_run rfl ?_
        refine wl_val (v := .int .u8 j34_n2_f2.2.Cool) (val_load tt_ok rfl (List.Mem.head _) rfl) rfl ?_
        refine wl_run rfl ?_
        refine wl_pure (v := .bool (j34_n2_f2.2.Cool == (0 : Int))) tt_ok rfl rfl ?_
        simp only [Option.some.injEq, Prod.mk.injEq] at h
        obtain rfl := h
        have h := hg60; clear hg60
        refine wl_pure (v := .bool (j34_n2_f2.2.Cool == (0 : Int))) tt_ok rfl rfl ?_
        refine wl_pure tt_ok rfl rfl ?_
        replace h := bsome h; obtain ⟨v66, h, hg66⟩ := h
        refine wl_split (t := 61) rfl (fun hc => ?_) (fun hc => ?_)
        · replace h := ct hc h
          refine wl_run rfl ?_
          refine wl_pure (v := .pointer (some ⟨b2, 16, none⟩)) tt_ok rfl rfl ?_
          refine wl_run rfl ?_
          refine wl_val (v := .slice j34_n2_f3a0 j34_n2_f3n0 j34_n2_f3c0) (val_load tt_ok rfl (List.Mem.head _) rfl) rfl ?_
          refine wl_run rfl ?_
          refine wl_val (v := .int .i64 (j34_n2_f3.length : Int)) (val_len tt_ok rfl rfl j34_n2_f3N0) rfl ?_
          refine wl_run rfl ?_
          refine wl_pure (v := .bool (decide ((j34_n2_f3.length : Int) < (8 : Int)))) tt_ok rfl rfl ?_
          simp only [Option.some.injEq, Prod.mk.injEq] at h
          obtain rfl := h
          have h := hg66; clear hg66
          refine wl_pure (v := .bool (decide ((j34_n2_f3.length : Int) < (8 : Int)))) tt_ok rfl rfl ?_
          refine wl_nil (wx_then ?_)
          refine wc_cond rfl (fun hc => ?_) (fun hc => ?_)
          · replace h := ct hc h
            refine wc_seq ?_
            refine wc_k2 (Ls := (⟨b2, [.int .u64 v12.Frame, .int .u64 v12.Seed, .int .i32 j34_n2_f2.1.X, .int .i32 j34_n2_f2.1.Y, .int .i32 j34_n2_f2.1.VX, .int .i32 j34_n2_f2.1.VY, .int .u8 j34_n2_f2.1.Health, .int .u8 j34_n2_f2.1.Cool, .int .u8 j34_n2_f2.1.Face, .int .i32 j34_n2_f2.2.X, .int .i32 j34_n2_f2.2.Y, .int .i32 j34_n2_f2.2.VX, .int .i32 j34_n2_f2.2.VY, .int .u8 j34_n2_f2.2.Health, .int .u8 j34_n2_f2.2.Cool, .int .u8 j34_n2_f2.2.Face, .slice j34_n2_f3a0 j34_n2_f3n0 j34_n2_f3c0, .int .u16 v12.Score.1, .int .u16 v12.Score.2], 61, (0, 0)⟩ :: (⟨b3, [.int .u8 p1.1, .int .u8 p1.2], 36, (0, 0)⟩ :: (⟨b4, [.int .u64 (0 : Int), .int .u64 (0 : Int), .int .i32 (0 : Int), .int .i32 (0 : Int), .int .i32 (0 : Int), .int .i32 (0 : Int), .int .u8 (0 : Int), .int .u8 (0 : Int), .int .u8 (0 : Int), .int .i32 (0 : Int), .int .i32 (0 : Int), .int .i32 (0 : Int), .int .i32 (0 : Int), .int .u8 (0 : Int), .int .u8 (0 : Int), .int .u8 (0 : Int), .slice none 0 0, .int .u16 (0 : Int), .int .u16 (0 : Int)], 61, (0, 0)⟩ :: (j34_n2_f3B0 ++ []))))) [7, 8, 9, 10, 11] [9, 10, 11] [0, 1, 0, 4, 12, 0, 32, 124, 252, 511, 1023, 2047] [0, 1, 2, 3, 4, 5, 6, 7, 8, 9, 10, 11] (by kernel_rfl) (by kernel_rfl) (by kernel_rfl) ?_
            refine k_val (v := .pointer (some ⟨b2, 16, none⟩)) rfl rfl rfl (pSub (pCons Sel.hc (pCons Sel.hc (pCons Sel.hc (pApp Sel.ha pNil))))) (stepV_ok tt_ok rfl) rfl ?_
            refine k_val (v := .slice j34_n2_f3a0 j34_n2_f3n0 j34_n2_f3c0) rfl rfl rfl (pSub (pCons Sel.hc (pCons Sel.hc (pCons Sel.hc (pApp Sel.ha pNil))))) (val_load tt_ok rfl (List.Mem.head _) rfl) rfl ?_
            refine k_val rfl rfl rfl (pSub (pCons Sel.hc (pCons Sel.hc (pCons Sel.hc (pApp Sel.ha pNil))))) (stepV_ok tt_ok rfl) rfl ?_
            refine k_val rfl rfl rfl (pSub (pCons Sel.hc (pCons Sel.hc (pCons Sel.hc (pApp Sel.ha pNil))))) (stepV_ok tt_ok rfl) rfl ?_
            refine k_val (v := .agg #[.int .i32 j34_n2_f2.2.X, .int .i32 j34_n2_f2.2.Y, .int .i32 j34_n2_f2.2.VX, .int .i32 j34_n2_f2.2.VY, .int .u8 j34_n2_f2.2.Health, .int .u8 j34_n2_f2.2.Cool, .int .u8 j34_n2_f2.2.Face]) rfl rfl rfl (pSub (pCons Sel.hc (pCons Sel.hc (pCons Sel.hc (pApp Sel.ha pNil))))) (val_load tt_ok rfl (List.Mem.head _) rfl) rfl ?_
            refine k_val rfl rfl rfl (pSub (pCons Sel.hc (pCons Sel.hc (pCons Sel.hc (pApp Sel.ha pNil))))) (stepV_ok tt_ok rfl) rfl ?_
            refine k_val (v := .int .u8 (IntKind.wrap .u8 j34_44)) rfl rfl rfl (pSub (pCons Sel.hc (pCons Sel.hc (pCons Sel.hc (pApp Sel.ha pNil))))) (stepV_ok tt_ok rfl) rfl ?_
            replace h := bsome h; obtain ⟨v74, x74, h⟩ := h
            refine k_cq rfl rfl rfl Tryd.call53 rfl rfl rfl (q_pf (k_step_shoot x74) (fun _ _ => trivial)) rfl (pSub (pCons Sel.hc (pCons Sel.hc (pCons Sel.hc (pApp Sel.ha pNil))))) ?_
            refine k_chg rfl rfl rfl (chg_bsv (enc := c_T_api_Shot) (xs := ([v74] : List T_api_Shot)) tt_ok rfl rfl rfl rfl rfl rfl rfl rfl c_T_api_Shot_len) rfl (.inr (by rintro _ _ ⟨_, _, _, _, rfl, _, _, rfl⟩; exact ⟨_, (pCons (Sel.sa Sel.hc) (pCons (Sel.sa Sel.hc) (pCons (Sel.sa Sel.hc) (pApp (Sel.sa Sel.ha) pNil))))⟩)) ?_
            rintro _ _ ⟨a75, n75_, c75, B75, rfl, N75, V75, rfl⟩
            replace h := bsome h; obtain ⟨v76, x76, h⟩ := h
            refine k_chg rfl rfl rfl (chg_app (enc := c_T_api_Shot) (ys := ([v74] : List T_api_Shot)) tt_ok rfl rfl rfl rfl rfl rfl j34_n2_f3N0 N75 j34_n2_f3V0 (Sel.sa (Sel.sc (Sel.sc (Sel.sc Sel.ha)))) (Rds.of_vec V75) ⟨_, Sel.ha⟩ c_T_api_Shot_len (fun _ => rfl) rfl x76) rfl (.inl rfl) ?_
            rintro _ _ ⟨a76, n76_, c76, B76, rfl, N76, V76, rfl⟩
            refine k_chg rfl rfl rfl (Chg.of_val (v := .pointer (some ⟨b2, 16, none⟩)) (stepV_ok tt_ok rfl)) rfl (.inl rfl) ?_
            rintro _ _ ⟨rfl, rfl⟩
            refine k_chg0 rfl rfl rfl (chg_store tt_ok rfl (Upd.right (Upd.right Upd.here)) rfl rfl rfl rfl rfl rfl) (.inl rfl) ?_
            rintro _ _ rfl
            refine k_end (by kernel_rfl) ?_
            refine wx_then (wc_region ?_)
            iterate 2 refine wl_pure tt_ok rfl rfl ?_
            refine wl_pure (v := .pointer (some ⟨b2, 14, none⟩)) tt_ok rfl rfl ?_
            apply wl_store tt_ok; rfl; exact (Upd.right (Upd.right Upd.here)); rfl; rfl; rfl; rfl; rfl; rfl
            refine wl_nil (wx_block (wx_then (wc_region ?_)))
            refine wl_pure (v := .int .i64 (IntKind.wrap .i64 (j34_44 + (1 : Int)))) tt_ok rfl rfl ?_
            refine wl_pure tt_ok rfl rfl ?_
            refine wl_nil ?_
            exact wx_round m34 (Nat.lt_succ_self m34) ⟨(IntKind.wrap .i64 (j34_44 + (1 : Int))), (j34_n2_f2.1, (T_api_Player.mk j34_n2_f2.2.X j34_n2_f2.2.Y j34_n2_f2.2.VX j34_n2_f2.2.VY j34_n2_f2.2.Health (10 : Int) j34_n2_f2.2.Face)), v76, a76, n76_, c76, B76, h, N76, V76, rfl, rfl⟩ (agree_cons rfl (agree_cons rfl (agree_cons rfl (agree_cons rfl agree_nil)))) (pSub (pCons (Sel.sa (Sel.sa Sel.hc)) (pCons (Sel.sa (Sel.sa Sel.hc)) (pCons (Sel.sa (Sel.sa Sel.hc)) (pApp Sel.ha pNil)))))
          replace h := cf hc h
          refine wc_skip (wx_block (wx_then (wc_region ?_)))
          refine wl_pure (v := .int .i64 (IntKind.wrap .i64 (j34_44 + (1 : Int)))) tt_ok rfl rfl ?_
          refine wl_pure tt_ok rfl rfl ?_
          refine wl_nil ?_
          exact wx_round m34 (Nat.lt_succ_self m34) ⟨(IntKind.wrap .i64 (j34_44 + (1 : Int))), j34_n2_f2, j34_n2_f3, j34_n2_f3a0, j34_n2_f3n0, j34_n2_f3c0, j34_n2_f3B0, h, j34_n2_f3N0, j34_n2_f3V0, rfl, rfl⟩ (agree_cons rfl (agree_cons rfl (agree_cons rfl (agree_cons rfl agree_nil)))) (pSub (pCons Sel.hc (pCons Sel.hc (pCons Sel.hc (pApp Sel.ha pNil)))))
        replace h := cf hc h
        refine wl_skip rfl rfl ?_
        refine wl_skip rfl rfl ?_
        refine wl_skip rfl rfl ?_
        refine wl_skip rfl rfl ?_
        simp only [Option.some.injEq, Prod.mk.injEq] at h
        obtain rfl := h
        have h := hg66; clear hg66
        refine wl_pure (v := .bool false) tt_ok rfl rfl ?_
        refine wl_nil (wx_then ?_)
        replace h := cf rfl h
        refine wc_cond_false rfl ?_
        refine wc_skip (wx_block (wx_then (wc_region ?_)))
        refine wl_pure (v := .int .i64 (IntKind.wrap .i64 (j34_44 + (1 : Int)))) tt_ok rfl rfl ?_
        refine wl_pure tt_ok rfl rfl ?_
        refine wl_nil ?_
        exact wx_round m34 (Nat.lt_succ_self m34) ⟨(IntKind.wrap .i64 (j34_44 + (1 : Int))), j34_n2_f2, j34_n2_f3, j34_n2_f3a0, j34_n2_f3n0, j34_n2_f3c0, j34_n2_f3B0, h, j34_n2_f3N0, j34_n2_f3V0, rfl, rfl⟩ (agree_cons rfl (agree_cons rfl (agree_cons rfl (agree_cons rfl agree_nil)))) (pSub (pCons Sel.hc (pCons Sel.hc (pCons Sel.hc (pApp Sel.ha pNil)))))
      replace h := cf hc h
      refine wl_skip rfl rfl ?_
      refine wl_skip rfl rfl ?_
      refine wl_skip rfl rfl ?_
      refine wl_skip rfl rfl ?_
      refine wl_skip rfl rfl ?_
      simp only [Option.some.injEq, Prod.mk.injEq] at h
      obtain rfl := h
      have h := hg60; clear hg60
      refine wl_pure (v := .bool false) tt_ok rfl rfl ?_
      refine wl_pure tt_ok rfl rfl ?_
      replace h := bsome h; obtain ⟨v66, h, hg66⟩ := h
      replace h := cf rfl h
      refine wl_skip rfl rfl ?_
      refine wl_skip rfl rfl ?_
      refine wl_skip rfl rfl ?_
      refine wl_skip rfl rfl ?_
      simp only [Option.some.injEq, Prod.mk.injEq] at h
      obtain rfl := h
      have h := hg66; clear hg66
      refine wl_pure (v := .bool false) tt_ok rfl rfl ?_
      refine wl_nil (wx_then ?_)
      replace h := cf rfl h
      refine wc_cond_false rfl ?_
      refine wc_skip (wx_block (wx_then (wc_region ?_)))
      refine wl_pure (v := .int .i64 (IntKind.wrap .i64 (j34_44 + (1 : Int)))) tt_ok rfl rfl ?_
      refine wl_pure tt_ok rfl rfl ?_
      refine wl_nil ?_
      exact wx_round m34 (Nat.lt_succ_self m34) ⟨(IntKind.wrap .i64 (j34_44 + (1 : Int))), j34_n2_f2, j34_n2_f3, j34_n2_f3a0, j34_n2_f3n0, j34_n2_f3c0, j34_n2_f3B0, h, j34_n2_f3N0, j34_n2_f3V0, rfl, rfl⟩ (agree_cons rfl (agree_cons rfl (agree_cons rfl (agree_cons rfl agree_nil)))) (pSub (pCons Sel.hc (pCons Sel.hc (pCons Sel.hc (pApp Sel.ha pNil)))))
    replace h := cf hx491 h
    cases h
  replace h := cf hc h
  refine wc_exit (wx_then_exit ?_)
  simp only [Option.some.injEq, Prod.mk.injEq] at h
  obtain ⟨rfl, rfl⟩ := h
  have h := hl34; clear hl34; try dsimp only [orE_l, orE_r] at h
  refine wx_then_exit (wx_block_exit (wx_then (wc_seq ?_)))
  replace h := bsome h; obtain ⟨v85, x85, h⟩ := h
  replace h := bsome h; obtain ⟨v89, x89, h⟩ := h
  refine wc_join2 (fun E L => ∃ (b8 : Nat) (b9 : Nat), E = [(2, .pointer (some ⟨b2, 0, none⟩)), (4, .pointer (some ⟨b4, 0, none⟩)), (8, .pointer (some ⟨b8, 0, none⟩)), (9, .pointer (some ⟨b9, 0, none⟩))] ∧ L = (⟨b2, [.int .u64 v12.Frame, .int .u64 v12.Seed, .int .i32 j34_n2_f2.1.X, .int .i32 j34_n2_f2.1.Y, .int .i32 j34_n2_f2.1.VX, .int .i32 j34_n2_f2.1.VY, .int .u8 j34_n2_f2.1.Health, .int .u8 j34_n2_f2.1.Cool, .int .u8 j34_n2_f2.1.Face, .int .i32 j34_n2_f2.2.X, .int .i32 j34_n2_f2.2.Y, .int .i32 j34_n2_f2.2.VX, .int .i32 j34_n2_f2.2.VY, .int .u8 j34_n2_f2.2.Health, .int .u8 j34_n2_f2.2.Cool, .int .u8 j34_n2_f2.2.Face, .slice j34_n2_f3a0 j34_n2_f3n0 j34_n2_f3c0, .int .u16 v12.Score.1, .int .u16 v12.Score.2], 61, (0, 0)⟩ :: (⟨b4, [.int .u64 (0 : Int), .int .u64 (0 : Int), .int .i32 (0 : Int), .int .i32 (0 : Int), .int .i32 (0 : Int), .int .i32 (0 : Int), .int .u8 (0 : Int), .int .u8 (0 : Int), .int .u8 (0 : Int), .int .i32 (0 : Int), .int .i32 (0 : Int), .int .i32 (0 : Int), .int .i32 (0 : Int), .int .u8 (0 : Int), .int .u8 (0 : Int), .int .u8 (0 : Int), .slice none 0 0, .int .u16 (0 : Int), .int .u16 (0 : Int)], 61, (0, 0)⟩ :: (⟨b8, [.int .i32 v85.X, .int .i32 v85.Y, .int .i32 v85.VX, .int .i32 v85.VY, .int .u8 v85.Health, .int .u8 v85.Cool, .int .u8 v85.Face], 55, (0, 0)⟩ :: (⟨b9, [.int .i32 v89.X, .int .i32 v89.Y, .int .i32 v89.VX, .int .i32 v89.VY, .int .u8 v89.Health, .int .u8 v89.Cool, .int .u8 v89.Face], 55, (0, 0)⟩ :: (j34_n2_f3B0 ++ [])))))) ?_ ?_
  · refine wc_k2 (Ls := (⟨b2, [.int .u64 v12.Frame, .int .u64 v12.Seed, .int .i32 j34_n2_f2.1.X, .int .i32 j34_n2_f2.1.Y, .int .i32 j34_n2_f2.1.VX, .int .i32 j34_n2_f2.1.VY, .int .u8 j34_n2_f2.1.Health, .int .u8 j34_n2_f2.1.Cool, .int .u8 j34_n2_f2.1.Face, .int .i32 j34_n2_f2.2.X, .int .i32 j34_n2_f2.2.Y, .int .i32 j34_n2_f2.2.VX, .int .i32 j34_n2_f2.2.VY, .int .u8 j34_n2_f2.2.Health, .int .u8 j34_n2_f2.2.Cool, .int .u8 j34_n2_f2.2.Face, .slice j34_n2_f3a0 j34_n2_f3n0 j34_n2_f3c0, .int .u16 v12.Score.1, .int .u16 v12.Score.2], 61, (0, 0)⟩ :: (⟨b3, [.int .u8 p1.1, .int .u8 p1.2], 36, (0, 0)⟩ :: (⟨b4, [.int .u64 (0 : Int), .int .u64 (0 : Int), .int .i32 (0 : Int), .int .i32 (0 : Int), .int .i32 (0 : Int), .int .i32 (0 : Int), .int .u8 (0 : Int), .int .u8 (0 : Int), .int .u8 (0 : Int), .int .i32 (0 : Int), .int .i32 (0 : Int), .int .i32 (0 : Int), .int .i32 (0 : Int), .int .u8 (0 : Int), .int .u8 (0 : Int), .int .u8 (0 : Int), .slice none 0 0, .int .u16 (0 : Int), .int .u16 (0 : Int)], 61, (0, 0)⟩ :: (j34_n2_f3B0 ++ []))))) [3, 7, 8, 9, 10, 11] [7, 10, 11] [0, 1, 3, 7, 0, 16, 48, 127, 0, 0, 1023, 2047] [0, 1, 2, 4, 5, 6] (by kernel_rfl) (by kernel_rfl) (by kernel_rfl) ?_
    refine k_val (v := .pointer (some ⟨b2, 2, none⟩)) rfl rfl rfl (pSub (pCons Sel.hc (pCons Sel.hc (pCons Sel.hc (pApp Sel.ha pNil))))) (stepV_ok tt_ok rfl) rfl ?_
    refine k_val (v := .pointer (some ⟨b2, 2, none⟩)) rfl rfl rfl (pSub (pCons Sel.hc (pCons Sel.hc (pCons Sel.hc (pApp Sel.ha pNil))))) (val_ia (j := 0) tt_ok rfl rfl rfl rfl rfl rfl rfl) rfl ?_
    refine k_val (v := .agg #[.int .i32 j34_n2_f2.1.X, .int .i32 j34_n2_f2.1.Y, .int .i32 j34_n2_f2.1.VX, .int .i32 j34_n2_f2.1.VY, .int .u8 j34_n2_f2.1.Health, .int .u8 j34_n2_f2.1.Cool, .int .u8 j34_n2_f2.1.Face]) rfl rfl rfl (pSub (pCons Sel.hc (pCons Sel.hc (pCons Sel.hc (pApp Sel.ha pNil))))) (val_load tt_ok rfl (List.Mem.head _) rfl) rfl ?_
    refine k_val (v := .pointer (some ⟨b2, 2, none⟩)) rfl rfl rfl (pSub (pCons Sel.hc (pCons Sel.hc (pCons Sel.hc (pApp Sel.ha pNil))))) (stepV_ok tt_ok rfl) rfl ?_
    refine k_val (v := .pointer (some ⟨b2, 9, none⟩)) rfl rfl rfl (pSub (pCons Sel.hc (pCons Sel.hc (pCons Sel.hc (pApp Sel.ha pNil))))) (val_ia (j := 1) tt_ok rfl rfl rfl rfl rfl rfl rfl) rfl ?_
    refine k_val (v := .agg #[.int .i32 j34_n2_f2.2.X, .int .i32 j34_n2_f2.2.Y, .int .i32 j34_n2_f2.2.VX, .int .i32 j34_n2_f2.2.VY, .int .u8 j34_n2_f2.2.Health, .int .u8 j34_n2_f2.2.Cool, .int .u8 j34_n2_f2.2.Face]) rfl rfl rfl (pSub (pCons Sel.hc (pCons Sel.hc (pCons Sel.hc (pApp Sel.ha pNil))))) (val_load tt_ok rfl (List.Mem.head _) rfl) rfl ?_
    refine k_three (i := 3) (j := 8) (k := 9) (t1 := []) (t2 := []) (t3 := []) (by kernel_rfl) (by kernel_rfl) (by kernel_rfl) (by kernel_rfl) (by kernel_rfl) ?_ ?_ ?_
    · refine k_cqf rfl rfl Tryd.call54 rfl rfl rfl (q_pf (k_step_moved x85) (fun _ _ => trivial)) rfl (pSub (pCons Sel.hc (pCons Sel.hc (pCons Sel.hc (pApp Sel.ha pNil))))) ?_
      refine k_three (i := 7) (j := 8) (k := 9) (t1 := []) (t2 := []) (t3 := []) (by kernel_rfl) (by kernel_rfl) (by kernel_rfl) (by kernel_rfl) (by kernel_rfl) ?_ ?_ ?_
      · refine k_cqf rfl rfl Tryd.call54 rfl rfl rfl (q_pf (k_step_moved x89) (fun _ _ => trivial)) rfl (pSub (pCons Sel.hc (pCons Sel.hc (pCons Sel.hc (pApp Sel.ha pNil))))) ?_
        refine k_two (i := 8) (j := 9) (t1 := [9, 10, 11]) (t2 := [8, 10, 11]) (by kernel_rfl) (by kernel_rfl) (by kernel_rfl) (by kernel_rfl) ?_ ?_
        · refine k_chgf rfl rfl (chg_alloc tt_ok rfl) rfl (.inr (by rintro _ _ ⟨_, rfl, rfl⟩; exact ⟨_, (pCons (Sel.sc Sel.hc) (pCons (Sel.sc Sel.hc) (pCons (Sel.sc Sel.hc) (pApp (Sel.sc Sel.ha) pNil))))⟩)) ?_
          rintro _ _ ⟨b8, rfl, rfl⟩
          refine k_chg rfl rfl rfl (chg_alloc tt_ok rfl) rfl (.inr (by rintro _ _ ⟨_, rfl, rfl⟩; exact ⟨_, (pCons (Sel.sc (Sel.sc Sel.hc)) (pCons (Sel.sc (Sel.sc Sel.hc)) (pCons (Sel.sc (Sel.sc Sel.hc)) (pApp (Sel.sc (Sel.sc Sel.ha)) pNil))))⟩)) ?_
          rintro _ _ ⟨b9, rfl, rfl⟩
          refine k_chg0 rfl rfl rfl (chg_store tt_ok rfl (Upd.there Upd.here) rfl rfl rfl rfl rfl rfl) (.inl rfl) ?_
          rintro _ _ rfl
          refine k_chg0 rfl rfl rfl (chg_store tt_ok rfl Upd.here rfl rfl rfl rfl rfl rfl) (.inl rfl) ?_
          rintro _ _ rfl
          refine k_end (by kernel_rfl) ?_
          exact wx_join ⟨b8, b9, rfl, rfl⟩ (agree_cons rfl (agree_cons rfl (agree_cons rfl (agree_cons rfl agree_nil)))) (pSub (pCons (Sel.sc (Sel.sc Sel.hc)) (pCons (Sel.sc (Sel.sc (Sel.sc Sel.hc))) (pCons (Sel.sc Sel.hc) (pCons Sel.hc (pApp (Sel.sc Sel.ha) pNil))))))
        refine k_chgf rfl rfl (chg_alloc tt_ok rfl) rfl (.inr (by rintro _ _ ⟨_, rfl, rfl⟩; exact ⟨_, (pCons (Sel.sc Sel.hc) (pCons (Sel.sc Sel.hc) (pCons (Sel.sc Sel.hc) (pApp (Sel.sc Sel.ha) pNil))))⟩)) ?_
        rintro _ _ ⟨b9, rfl, rfl⟩
        refine k_chg rfl rfl rfl (chg_alloc tt_ok rfl) rfl (.inr (by rintro _ _ ⟨_, rfl, rfl⟩; exact ⟨_, (pCons (Sel.sc (Sel.sc Sel.hc)) (pCons (Sel.sc (Sel.sc Sel.hc)) (pCons (Sel.sc (Sel.sc Sel.hc)) (pApp (Sel.sc (Sel.sc Sel.ha)) pNil))))⟩)) ?_
        rintro _ _ ⟨b8, rfl, rfl⟩
        refine k_chg0 rfl rfl rfl (chg_store tt_ok rfl Upd.here rfl rfl rfl rfl rfl rfl) (.inl rfl) ?_
        rintro _ _ rfl
        refine k_chg0 rfl rfl rfl (chg_store tt_ok rfl (Upd.there Upd.here) rfl rfl rfl rfl rfl rfl) (.inl rfl) ?_
        rintro _ _ rfl
        refine k_end (by kernel_rfl) ?_
        exact wx_join ⟨b8, b9, rfl, rfl⟩ (agree_cons rfl (agree_cons rfl (agree_cons rfl (agree_cons rfl agree_nil)))) (pSub (pCons (Sel.sc (Sel.sc Sel.hc)) (pCons (Sel.sc (Sel.sc (Sel.sc Sel.hc))) (pCons Sel.hc (pCons Sel.hc (pApp (Sel.sc Sel.ha) pNil))))))
      · refine k_chgf rfl rfl (chg_alloc tt_ok rfl) rfl (.inr (by rintro _ _ ⟨_, rfl, rfl⟩; exact ⟨_, (pCons (Sel.sc Sel.hc) (pCons (Sel.sc Sel.hc) (pCons (Sel.sc Sel.hc) (pApp (Sel.sc Sel.ha) pNil))))⟩)) ?_
        rintro _ _ ⟨b8, rfl, rfl⟩
        refine k_two (i := 7) (j := 9) (t1 := [9, 10, 11]) (t2 := [7, 10, 11]) (by kernel_rfl) (by kernel_rfl) (by kernel_rfl) (by kernel_rfl) ?_ ?_
        · refine k_cqf rfl rfl Tryd.call54 rfl rfl rfl (q_pf (k_step_moved x89) (fun _ _ => trivial)) rfl (pSub (pCons (Sel.sc Sel.hc) (pCons (Sel.sc Sel.hc) (pCons (Sel.sc Sel.hc) (pApp (Sel.sc Sel.ha) pNil))))) ?_
          refine k_chg rfl rfl rfl (chg_alloc tt_ok rfl) rfl (.inr (by rintro _ _ ⟨_, rfl, rfl⟩; exact ⟨_, (pCons (Sel.sc (Sel.sc Sel.hc)) (pCons (Sel.sc (Sel.sc Sel.hc)) (pCons (Sel.sc (Sel.sc Sel.hc)) (pApp (Sel.sc (Sel.sc Sel.ha)) pNil))))⟩)) ?_
          rintro _ _ ⟨b9, rfl, rfl⟩
          refine k_chg0 rfl rfl rfl (chg_store tt_ok rfl (Upd.there Upd.here) rfl rfl rfl rfl rfl rfl) (.inl rfl) ?_
          rintro _ _ rfl
          refine k_chg0 rfl rfl rfl (chg_store tt_ok rfl Upd.here rfl rfl rfl rfl rfl rfl) (.inl rfl) ?_
          rintro _ _ rfl
          refine k_end (by kernel_rfl) ?_
          exact wx_join ⟨b8, b9, rfl, rfl⟩ (agree_cons rfl (agree_cons rfl (agree_cons rfl (agree_cons rfl agree_nil)))) (pSub (pCons (Sel.sc (Sel.sc Sel.hc)) (pCons (Sel.sc (Sel.sc (Sel.sc Sel.hc))) (pCons (Sel.sc Sel.hc) (pCons Sel.hc (pApp (Sel.sc Sel.ha) pNil))))))
        refine k_chgf rfl rfl (chg_alloc tt_ok rfl) rfl (.inr (by rintro _ _ ⟨_, rfl, rfl⟩; exact ⟨_, (pCons (Sel.sc (Sel.sc Sel.hc)) (pCons (Sel.sc (Sel.sc Sel.hc)) (pCons (Sel.sc (Sel.sc Sel.hc)) (pApp (Sel.sc (Sel.sc Sel.ha)) pNil))))⟩)) ?_
        rintro _ _ ⟨b9, rfl, rfl⟩
        refine k_cq rfl rfl rfl Tryd.call54 rfl rfl rfl (q_pf (k_step_moved x89) (fun _ _ => trivial)) rfl (pSub (pCons (Sel.sc (Sel.sc Sel.hc)) (pCons (Sel.sc (Sel.sc Sel.hc)) (pCons (Sel.sc (Sel.sc Sel.hc)) (pApp (Sel.sc (Sel.sc Sel.ha)) pNil))))) ?_
        refine k_chg0 rfl rfl rfl (chg_store tt_ok rfl (Upd.there Upd.here) rfl rfl rfl rfl rfl rfl) (.inl rfl) ?_
        rintro _ _ rfl
        refine k_chg0 rfl rfl rfl (chg_store tt_ok rfl Upd.here rfl rfl rfl rfl rfl rfl) (.inl rfl) ?_
        rintro _ _ rfl
        refine k_end (by kernel_rfl) ?_
        exact wx_join ⟨b8, b9, rfl, rfl⟩ (agree_cons rfl (agree_cons rfl (agree_cons rfl (agree_cons rfl agree_nil)))) (pSub (pCons (Sel.sc (Sel.sc Sel.hc)) (pCons (Sel.sc (Sel.sc (Sel.sc Sel.hc))) (pCons (Sel.sc Sel.hc) (pCons Sel.hc (pApp (Sel.sc Sel.ha) pNil))))))
      refine k_chgf rfl rfl (chg_alloc tt_ok rfl) rfl (.inr (by rintro _ _ ⟨_, rfl, rfl⟩; exact ⟨_, (pCons (Sel.sc Sel.hc) (pCons (Sel.sc Sel.hc) (pCons (Sel.sc Sel.hc) (pApp (Sel.sc Sel.ha) pNil))))⟩)) ?_
      rintro _ _ ⟨b9, rfl, rfl⟩
      refine k_two (i := 7) (j := 8) (t1 := [8, 10, 11]) (t2 := [7, 10, 11]) (by kernel_rfl) (by kernel_rfl) (by kernel_rfl) (by kernel_rfl) ?_ ?_
      · refine k_cqf rfl rfl Tryd.call54 rfl rfl rfl (q_pf (k_step_moved x89) (fun _ _ => trivial)) rfl (pSub (pCons (Sel.sc Sel.hc) (pCons (Sel.sc Sel.hc) (pCons (Sel.sc Sel.hc) (pApp (Sel.sc Sel.ha) pNil))))) ?_
        refine k_chg rfl rfl rfl (chg_alloc tt_ok rfl) rfl (.inr (by rintro _ _ ⟨_, rfl, rfl⟩; exact ⟨_, (pCons (Sel.sc (Sel.sc Sel.hc)) (pCons (Sel.sc (Sel.sc Sel.hc)) (pCons (Sel.sc (Sel.sc Sel.hc)) (pApp (Sel.sc (Sel.sc Sel.ha)) pNil))))⟩)) ?_
        rintro _ _ ⟨b8, rfl, rfl⟩
        refine k_chg0 rfl rfl rfl (chg_store tt_ok rfl Upd.here rfl rfl rfl rfl rfl rfl) (.inl rfl) ?_
        rintro _ _ rfl
        refine k_chg0 rfl rfl rfl (chg_store tt_ok rfl (Upd.there Upd.here) rfl rfl rfl rfl rfl rfl) (.inl rfl) ?_
        rintro _ _ rfl
        refine k_end (by kernel_rfl) ?_
        exact wx_join ⟨b8, b9, rfl, rfl⟩ (agree_cons rfl (agree_cons rfl (agree_cons rfl (agree_cons rfl agree_nil)))) (pSub (pCons (Sel.sc (Sel.sc Sel.hc)) (pCons (Sel.sc (Sel.sc (Sel.sc Sel.hc))) (pCons Sel.hc (pCons Sel.hc (pApp (Sel.sc Sel.ha) pNil))))))
      refine k_chgf rfl rfl (chg_alloc tt_ok rfl) rfl (.inr (by rintro _ _ ⟨_, rfl, rfl⟩; exact ⟨_, (pCons (Sel.sc (Sel.sc Sel.hc)) (pCons (Sel.sc (Sel.sc Sel.hc)) (pCons (Sel.sc (Sel.sc Sel.hc)) (pApp (Sel.sc (Sel.sc Sel.ha)) pNil))))⟩)) ?_
      rintro _ _ ⟨b8, rfl, rfl⟩
      refine k_cq rfl rfl rfl Tryd.call54 rfl rfl rfl (q_pf (k_step_moved x89) (fun _ _ => trivial)) rfl (pSub (pCons (Sel.sc (Sel.sc Sel.hc)) (pCons (Sel.sc (Sel.sc Sel.hc)) (pCons (Sel.sc (Sel.sc Sel.hc)) (pApp (Sel.sc (Sel.sc Sel.ha)) pNil))))) ?_
      refine k_chg0 rfl rfl rfl (chg_store tt_ok rfl Upd.here rfl rfl rfl rfl rfl rfl) (.inl rfl) ?_
      rintro _ _ rfl
      refine k_chg0 rfl rfl rfl (chg_store tt_ok rfl (Upd.there Upd.here) rfl rfl rfl rfl rfl rfl) (.inl rfl) ?_
      rintro _ _ rfl
      refine k_end (by kernel_rfl) ?_
      exact wx_join ⟨b8, b9, rfl, rfl⟩ (agree_cons rfl (agree_cons rfl (agree_cons rfl (agree_cons rfl agree_nil)))) (pSub (pCons (Sel.sc (Sel.sc Sel.hc)) (pCons (Sel.sc (Sel.sc (Sel.sc Sel.hc))) (pCons Sel.hc (pCons Sel.hc (pApp (Sel.sc Sel.ha) pNil))))))
    · refine k_chgf rfl rfl (chg_alloc tt_ok rfl) rfl (.inr (by rintro _ _ ⟨_, rfl, rfl⟩; exact ⟨_, (pCons (Sel.sc Sel.hc) (pCons (Sel.sc Sel.hc) (pCons (Sel.sc Sel.hc) (pApp (Sel.sc Sel.ha) pNil))))⟩)) ?_
      rintro _ _ ⟨b8, rfl, rfl⟩
      refine k_two (i := 3) (j := 9) (t1 := []) (t2 := [3, 7, 10, 11]) (by kernel_rfl) (by kernel_rfl) (by kernel_rfl) (by kernel_rfl) ?_ ?_
      · refine k_cqf rfl rfl Tryd.call54 rfl rfl rfl (q_pf (k_step_moved x85) (fun _ _ => trivial)) rfl (pSub (pCons (Sel.sc Sel.hc) (pCons (Sel.sc Sel.hc) (pCons (Sel.sc Sel.hc) (pApp (Sel.sc Sel.ha) pNil))))) ?_
        refine k_two (i := 7) (j := 9) (t1 := [9, 10, 11]) (t2 := [7, 10, 11]) (by kernel_rfl) (by kernel_rfl) (by kernel_rfl) (by kernel_rfl) ?_ ?_
        · refine k_cqf rfl rfl Tryd.call54 rfl rfl rfl (q_pf (k_step_moved x89) (fun _ _ => trivial)) rfl (pSub (pCons (Sel.sc Sel.hc) (pCons (Sel.sc Sel.hc) (pCons (Sel.sc Sel.hc) (pApp (Sel.sc Sel.ha) pNil))))) ?_
          refine k_chg rfl rfl rfl (chg_alloc tt_ok rfl) rfl (.inr (by rintro _ _ ⟨_, rfl, rfl⟩; exact ⟨_, (pCons (Sel.sc (Sel.sc Sel.hc)) (pCons (Sel.sc (Sel.sc Sel.hc)) (pCons (Sel.sc (Sel.sc Sel.hc)) (pApp (Sel.sc (Sel.sc Sel.ha)) pNil))))⟩)) ?_
          rintro _ _ ⟨b9, rfl, rfl⟩
          refine k_chg0 rfl rfl rfl (chg_store tt_ok rfl (Upd.there Upd.here) rfl rfl rfl rfl rfl rfl) (.inl rfl) ?_
          rintro _ _ rfl
          refine k_chg0 rfl rfl rfl (chg_store tt_ok rfl Upd.here rfl rfl rfl rfl rfl rfl) (.inl rfl) ?_
          rintro _ _ rfl
          refine k_end (by kernel_rfl) ?_
          exact wx_join ⟨b8, b9, rfl, rfl⟩ (agree_cons rfl (agree_cons rfl (agree_cons rfl (agree_cons rfl agree_nil)))) (pSub (pCons (Sel.sc (Sel.sc Sel.hc)) (pCons (Sel.sc (Sel.sc (Sel.sc Sel.hc))) (pCons (Sel.sc Sel.hc) (pCons Sel.hc (pApp (Sel.sc Sel.ha) pNil))))))
        refine k_chgf rfl rfl (chg_alloc tt_ok rfl) rfl (.inr (by rintro _ _ ⟨_, rfl, rfl⟩; exact ⟨_, (pCons (Sel.sc (Sel.sc Sel.hc)) (pCons (Sel.sc (Sel.sc Sel.hc)) (pCons (Sel.sc (Sel.sc Sel.hc)) (pApp (Sel.sc (Sel.sc Sel.ha)) pNil))))⟩)) ?_
        rintro _ _ ⟨b9, rfl, rfl⟩
        refine k_cq rfl rfl rfl Tryd.call54 rfl rfl rfl (q_pf (k_step_moved x89) (fun _ _ => trivial)) rfl (pSub (pCons (Sel.sc (Sel.sc Sel.hc)) (pCons (Sel.sc (Sel.sc Sel.hc)) (pCons (Sel.sc (Sel.sc Sel.hc)) (pApp (Sel.sc (Sel.sc Sel.ha)) pNil))))) ?_
        refine k_chg0 rfl rfl rfl (chg_store tt_ok rfl (Upd.there Upd.here) rfl rfl rfl rfl rfl rfl) (.inl rfl) ?_
        rintro _ _ rfl
        refine k_chg0 rfl rfl rfl (chg_store tt_ok rfl Upd.here rfl rfl rfl rfl rfl rfl) (.inl rfl) ?_
        rintro _ _ rfl
        refine k_end (by kernel_rfl) ?_
        exact wx_join ⟨b8, b9, rfl, rfl⟩ (agree_cons rfl (agree_cons rfl (agree_cons rfl (agree_cons rfl agree_nil)))) (pSub (pCons (Sel.sc (Sel.sc Sel.hc)) (pCons (Sel.sc (Sel.sc (Sel.sc Sel.hc))) (pCons (Sel.sc Sel.hc) (pCons Sel.hc (pApp (Sel.sc Sel.ha) pNil))))))
      refine k_chgf rfl rfl (chg_alloc tt_ok rfl) rfl (.inr (by rintro _ _ ⟨_, rfl, rfl⟩; exact ⟨_, (pCons (Sel.sc (Sel.sc Sel.hc)) (pCons (Sel.sc (Sel.sc Sel.hc)) (pCons (Sel.sc (Sel.sc Sel.hc)) (pApp (Sel.sc (Sel.sc Sel.ha)) pNil))))⟩)) ?_
      rintro _ _ ⟨b9, rfl, rfl⟩
      refine k_cq rfl rfl rfl Tryd.call54 rfl rfl rfl (q_pf (k_step_moved x85) (fun _ _ => trivial)) rfl (pSub (pCons (Sel.sc (Sel.sc Sel.hc)) (pCons (Sel.sc (Sel.sc Sel.hc)) (pCons (Sel.sc (Sel.sc Sel.hc)) (pApp (Sel.sc (Sel.sc Sel.ha)) pNil))))) ?_
      refine k_cq rfl rfl rfl Tryd.call54 rfl rfl rfl (q_pf (k_step_moved x89) (fun _ _ => trivial)) rfl (pSub (pCons (Sel.sc (Sel.sc Sel.hc)) (pCons (Sel.sc (Sel.sc Sel.hc)) (pCons (Sel.sc (Sel.sc Sel.hc)) (pApp (Sel.sc (Sel.sc Sel.ha)) pNil))))) ?_
      refine k_chg0 rfl rfl rfl (chg_store tt_ok rfl (Upd.there Upd.here) rfl rfl rfl rfl rfl rfl) (.inl rfl) ?_
      rintro _ _ rfl
      refine k_chg0 rfl rfl rfl (chg_store tt_ok rfl Upd.here rfl rfl rfl rfl rfl rfl) (.inl rfl) ?_
      rintro _ _ rfl
      refine k_end (by kernel_rfl) ?_
      exact wx_join ⟨b8, b9, rfl, rfl⟩ (agree_cons rfl (agree_cons rfl (agree_cons rfl (agree_cons rfl agree_nil)))) (pSub (pCons (Sel.sc (Sel.sc Sel.hc)) (pCons (Sel.sc (Sel.sc (Sel.sc Sel.hc))) (pCons (Sel.sc Sel.hc) (pCons Sel.hc (pApp (Sel.sc Sel.ha) pNil))))))
    refine k_chgf rfl rfl (chg_alloc tt_ok rfl) rfl (.inr (by rintro _ _ ⟨_, rfl, rfl⟩; exact ⟨_, (pCons (Sel.sc Sel.hc) (pCons (Sel.sc Sel.hc) (pCons (Sel.sc Sel.hc) (pApp (Sel.sc Sel.ha) pNil))))⟩)) ?_
    rintro _ _ ⟨b9, rfl, rfl⟩
    refine k_two (i := 3) (j := 8) (t1 := []) (t2 := [3, 7, 10, 11]) (by kernel_rfl) (by kernel_rfl) (by kernel_rfl) (by kernel_rfl) ?_ ?_
    · refine k_cqf rfl rfl Tryd.call54 rfl rfl rfl (q_pf (k_step_moved x85) (fun _ _ => trivial)) rfl (pSub (pCons (Sel.sc Sel.hc) (pCons (Sel.sc Sel.hc) (pCons (Sel.sc Sel.hc) (pApp (Sel.sc Sel.ha) pNil))))) ?_
      refine k_two (i := 7) (j := 8) (t1 := [8, 10, 11]) (t2 := [7, 10, 11]) (by kernel_rfl) (by kernel_rfl) (by kernel_rfl) (by kernel_rfl) ?_ ?_
      · refine k_cqf rfl rfl Tryd.call54 rfl rfl rfl (q_pf (k_step_moved x89) (fun _ _ => trivial)) rfl (pSub (pCons (Sel.sc Sel.hc) (pCons (Sel.sc Sel.hc) (pCons (Sel.sc Sel.hc) (pApp (Sel.sc Sel.ha) pNil))))) ?_
        refine k_chg rfl rfl rfl (chg_alloc tt_ok rfl) rfl (.inr (by rintro _ _ ⟨_, rfl, rfl⟩; exact ⟨_, (pCons (Sel.sc (Sel.sc Sel.hc)) (pCons (Sel.sc (Sel.sc Sel.hc)) (pCons (Sel.sc (Sel.sc Sel.hc)) (pApp (Sel.sc (Sel.sc Sel.ha)) pNil))))⟩)) ?_
        rintro _ _ ⟨b8, rfl, rfl⟩
        refine k_chg0 rfl rfl rfl (chg_store tt_ok rfl Upd.here rfl rfl rfl rfl rfl rfl) (.inl rfl) ?_
        rintro _ _ rfl
        refine k_chg0 rfl rfl rfl (chg_store tt_ok rfl (Upd.there Upd.here) rfl rfl rfl rfl rfl rfl) (.inl rfl) ?_
        rintro _ _ rfl
        refine k_end (by kernel_rfl) ?_
        exact wx_join ⟨b8, b9, rfl, rfl⟩ (agree_cons rfl (agree_cons rfl (agree_cons rfl (agree_cons rfl agree_nil)))) (pSub (pCons (Sel.sc (Sel.sc Sel.hc)) (pCons (Sel.sc (Sel.sc (Sel.sc Sel.hc))) (pCons Sel.hc (pCons Sel.hc (pApp (Sel.sc Sel.ha) pNil))))))
      refine k_chgf rfl rfl (chg_alloc tt_ok rfl) rfl (.inr (by rintro _ _ ⟨_, rfl, rfl⟩; exact ⟨_, (pCons (Sel.sc (Sel.sc Sel.hc)) (pCons (Sel.sc (Sel.sc Sel.hc)) (pCons (Sel.sc (Sel.sc Sel.hc)) (pApp (Sel.sc (Sel.sc Sel.ha)) pNil))))⟩)) ?_
      rintro _ _ ⟨b8, rfl, rfl⟩
      refine k_cq rfl rfl rfl Tryd.call54 rfl rfl rfl (q_pf (k_step_moved x89) (fun _ _ => trivial)) rfl (pSub (pCons (Sel.sc (Sel.sc Sel.hc)) (pCons (Sel.sc (Sel.sc Sel.hc)) (pCons (Sel.sc (Sel.sc Sel.hc)) (pApp (Sel.sc (Sel.sc Sel.ha)) pNil))))) ?_
      refine k_chg0 rfl rfl rfl (chg_store tt_ok rfl Upd.here rfl rfl rfl rfl rfl rfl) (.inl rfl) ?_
      rintro _ _ rfl
      refine k_chg0 rfl rfl rfl (chg_store tt_ok rfl (Upd.there Upd.here) rfl rfl rfl rfl rfl rfl) (.inl rfl) ?_
      rintro _ _ rfl
      refine k_end (by kernel_rfl) ?_
      exact wx_join ⟨b8, b9, rfl, rfl⟩ (agree_cons rfl (agree_cons rfl (agree_cons rfl (agree_cons rfl agree_nil)))) (pSub (pCons (Sel.sc (Sel.sc Sel.hc)) (pCons (Sel.sc (Sel.sc (Sel.sc Sel.hc))) (pCons Sel.hc (pCons Sel.hc (pApp (Sel.sc Sel.ha) pNil))))))
    refine k_chgf rfl rfl (chg_alloc tt_ok rfl) rfl (.inr (by rintro _ _ ⟨_, rfl, rfl⟩; exact ⟨_, (pCons (Sel.sc (Sel.sc Sel.hc)) (pCons (Sel.sc (Sel.sc Sel.hc)) (pCons (Sel.sc (Sel.sc Sel.hc)) (pApp (Sel.sc (Sel.sc Sel.ha)) pNil))))⟩)) ?_
    rintro _ _ ⟨b8, rfl, rfl⟩
    refine k_cq rfl rfl rfl Tryd.call54 rfl rfl rfl (q_pf (k_step_moved x85) (fun _ _ => trivial)) rfl (pSub (pCons (Sel.sc (Sel.sc Sel.hc)) (pCons (Sel.sc (Sel.sc Sel.hc)) (pCons (Sel.sc (Sel.sc Sel.hc)) (pApp (Sel.sc (Sel.sc Sel.ha)) pNil))))) ?_
    refine k_cq rfl rfl rfl Tryd.call54 rfl rfl rfl (q_pf (k_step_moved x89) (fun _ _ => trivial)) rfl (pSub (pCons (Sel.sc (Sel.sc Sel.hc)) (pCons (Sel.sc (Sel.sc Sel.hc)) (pCons (Sel.sc (Sel.sc Sel.hc)) (pApp (Sel.sc (Sel.sc Sel.ha)) pNil))))) ?_
    refine k_chg0 rfl rfl rfl (chg_store tt_ok rfl Upd.here rfl rfl rfl rfl rfl rfl) (.inl rfl) ?_
    rintro _ _ rfl
    refine k_chg0 rfl rfl rfl (chg_store tt_ok rfl (Upd.there Upd.here) rfl rfl rfl rfl rfl rfl) (.inl rfl) ?_
    rintro _ _ rfl
    refine k_end (by kernel_rfl) ?_
    exact wx_join ⟨b8, b9, rfl, rfl⟩ (agree_cons rfl (agree_cons rfl (agree_cons rfl (agree_cons rfl agree_nil)))) (pSub (pCons (Sel.sc (Sel.sc Sel.hc)) (pCons (Sel.sc (Sel.sc (Sel.sc Sel.hc))) (pCons Sel.hc (pCons Sel.hc (pApp (Sel.sc Sel.ha) pNil))))))
  rintro _ _ ⟨b8, b9, rfl, rfl⟩
  refine wc_seq (wc_seq ?_)
  refine wc_quiet (by kernel_rfl) (by kernel_rfl) ?_
  refine wq_val (v := .agg #[.int .i32 v85.X, .int .i32 v85.Y, .int .i32 v85.VX, .int .i32 v85.VY, .int .u8 v85.Health, .int .u8 v85.Cool, .int .u8 v85.Face]) (val_load tt_ok rfl (List.Mem.tail _ (List.Mem.tail _ (List.Mem.head _))) rfl) rfl ?_
  replace h := bsome h; obtain ⟨v91, x91, h⟩ := h
  refine wq_cq Tryd.call56 rfl rfl rfl (q_pf (k_step_box x91) (fun _ _ => trivial)) rfl ?_
  refine wq_val (v := .agg #[.int .i32 v89.X, .int .i32 v89.Y, .int .i32 v89.VX, .int .i32 v89.VY, .int .u8 v89.Health, .int .u8 v89.Cool, .int .u8 v89.Face]) (val_load tt_ok rfl (List.Mem.tail _ (List.Mem.tail _ (List.Mem.tail _ (List.Mem.head _)))) rfl) rfl ?_
  replace h := bsome h; obtain ⟨v93, x93, h⟩ := h
  refine wq_cq Tryd.call56 rfl rfl rfl (q_pf (k_step_box x93) (fun _ _ => trivial)) rfl ?_
  replace h := bsome h; obtain ⟨v94, x94, h⟩ := h
  refine wq_cq Tryd.call55 rfl rfl rfl (q_pf (k_geom_Over x94) (fun _ _ => trivial)) rfl ?_
  refine wq_nil ?_
  refine wx_then ?_
  replace h := bsome h; obtain ⟨⟨j60_n8, j60_n9⟩, h, hj60⟩ := h; try dsimp only at hj60
  refine wc_join2 (fun E L => E = [(2, .pointer (some ⟨b2, 0, none⟩)), (4, .pointer (some ⟨b4, 0, none⟩)), (8, .pointer (some ⟨b8, 0, none⟩)), (9, .pointer (some ⟨b9, 0, none⟩))] ∧ L = (⟨b2, [.int .u64 v12.Frame, .int .u64 v12.Seed, .int .i32 j34_n2_f2.1.X, .int .i32 j34_n2_f2.1.Y, .int .i32 j34_n2_f2.1.VX, .int .i32 j34_n2_f2.1.VY, .int .u8 j34_n2_f2.1.Health, .int .u8 j34_n2_f2.1.Cool, .int .u8 j34_n2_f2.1.Face, .int .i32 j34_n2_f2.2.X, .int .i32 j34_n2_f2.2.Y, .int .i32 j34_n2_f2.2.VX, .int .i32 j34_n2_f2.2.VY, .int .u8 j34_n2_f2.2.Health, .int .u8 j34_n2_f2.2.Cool, .int .u8 j34_n2_f2.2.Face, .slice j34_n2_f3a0 j34_n2_f3n0 j34_n2_f3c0, .int .u16 v12.Score.1, .int .u16 v12.Score.2], 61, (0, 0)⟩ :: (⟨b4, [.int .u64 (0 : Int), .int .u64 (0 : Int), .int .i32 (0 : Int), .int .i32 (0 : Int), .int .i32 (0 : Int), .int .i32 (0 : Int), .int .u8 (0 : Int), .int .u8 (0 : Int), .int .u8 (0 : Int), .int .i32 (0 : Int), .int .i32 (0 : Int), .int .i32 (0 : Int), .int .i32 (0 : Int), .int .u8 (0 : Int), .int .u8 (0 : Int), .int .u8 (0 : Int), .slice none 0 0, .int .u16 (0 : Int), .int .u16 (0 : Int)], 61, (0, 0)⟩ :: (⟨b8, [.int .i32 j60_n8.X, .int .i32 j60_n8.Y, .int .i32 j60_n8.VX, .int .i32 j60_n8.VY, .int .u8 j60_n8.Health, .int .u8 j60_n8.Cool, .int .u8 j60_n8.Face], 55, (0, 0)⟩ :: (⟨b9, [.int .i32 j60_n9.X, .int .i32 j60_n9.Y, .int .i32 j60_n9.VX, .int .i32 j60_n9.VY, .int .u8 j60_n9.Health, .int .u8 j60_n9.Cool, .int .u8 j60_n9.Face], 55, (0, 0)⟩ :: (j34_n2_f3B0 ++ [])))))) ?_ ?_
  · refine wc_cond rfl (fun hc => ?_) (fun hc => ?_)
    · replace h := ct hc h
      refine wc_k2 (Ls := (⟨b2, [.int .u64 v12.Frame, .int .u64 v12.Seed, .int .i32 j34_n2_f2.1.X, .int .i32 j34_n2_f2.1.Y, .int .i32 j34_n2_f2.1.VX, .int .i32 j34_n2_f2.1.VY, .int .u8 j34_n2_f2.1.Health, .int .u8 j34_n2_f2.1.Cool, .int .u8 j34_n2_f2.1.Face, .int .i32 j34_n2_f2.2.X, .int .i32 j34_n2_f2.2.Y, .int .i32 j34_n2_f2.2.VX, .int .i32 j34_n2_f2.2.VY, .int .u8 j34_n2_f2.2.Health, .int .u8 j34_n2_f2.2.Cool, .int .u8 j34_n2_f2.2.Face, .slice j34_n2_f3a0 j34_n2_f3n0 j34_n2_f3c0, .int .u16 v12.Score.1, .int .u16 v12.Score.2], 61, (0, 0)⟩ :: (⟨b4, [.int .u64 (0 : Int), .int .u64 (0 : Int), .int .i32 (0 : Int), .int .i32 (0 : Int), .int .i32 (0 : Int), .int .i32 (0 : Int), .int .u8 (0 : Int), .int .u8 (0 : Int), .int .u8 (0 : Int), .int .i32 (0 : Int), .int .i32 (0 : Int), .int .i32 (0 : Int), .int .i32 (0 : Int), .int .u8 (0 : Int), .int .u8 (0 : Int), .int .u8 (0 : Int), .slice none 0 0, .int .u16 (0 : Int), .int .u16 (0 : Int)], 61, (0, 0)⟩ :: (⟨b8, [.int .i32 v85.X, .int .i32 v85.Y, .int .i32 v85.VX, .int .i32 v85.VY, .int .u8 v85.Health, .int .u8 v85.Cool, .int .u8 v85.Face], 55, (0, 0)⟩ :: (⟨b9, [.int .i32 v89.X, .int .i32 v89.Y, .int .i32 v89.VX, .int .i32 v89.VY, .int .u8 v89.Health, .int .u8 v89.Cool, .int .u8 v89.Face], 55, (0, 0)⟩ :: (j34_n2_f3B0 ++ [])))))) [3, 7, 8, 9] [7, 8, 9] [0, 1, 3, 7, 0, 16, 48, 127, 255, 511] [0, 1, 2, 4, 5, 6, 3, 7, 8, 9] (by kernel_rfl) (by kernel_rfl) (by kernel_rfl) ?_
      refine k_val (v := .pointer (some ⟨b2, 2, none⟩)) rfl rfl rfl (pSub (pCons Sel.hc (pCons Sel.hc (pCons Sel.hc (pCons Sel.hc (pApp Sel.ha pNil)))))) (stepV_ok tt_ok rfl) rfl ?_
      refine k_val (v := .pointer (some ⟨b2, 2, none⟩)) rfl rfl rfl (pSub (pCons Sel.hc (pCons Sel.hc (pCons Sel.hc (pCons Sel.hc (pApp Sel.ha pNil)))))) (val_ia (j := 0) tt_ok rfl rfl rfl rfl rfl rfl rfl) rfl ?_
      refine k_val (v := .agg #[.int .i32 j34_n2_f2.1.X, .int .i32 j34_n2_f2.1.Y, .int .i32 j34_n2_f2.1.VX, .int .i32 j34_n2_f2.1.VY, .int .u8 j34_n2_f2.1.Health, .int .u8 j34_n2_f2.1.Cool, .int .u8 j34_n2_f2.1.Face]) rfl rfl rfl (pSub (pCons Sel.hc (pCons Sel.hc (pCons Sel.hc (pCons Sel.hc (pApp Sel.ha pNil)))))) (val_load tt_ok rfl (List.Mem.head _) rfl) rfl ?_
      refine k_val (v := .pointer (some ⟨b2, 2, none⟩)) rfl rfl rfl (pSub (pCons Sel.hc (pCons Sel.hc (pCons Sel.hc (pCons Sel.hc (pApp Sel.ha pNil)))))) (stepV_ok tt_ok rfl) rfl ?_
      refine k_val (v := .pointer (some ⟨b2, 9, none⟩)) rfl rfl rfl (pSub (pCons Sel.hc (pCons Sel.hc (pCons Sel.hc (pCons Sel.hc (pApp Sel.ha pNil)))))) (val_ia (j := 1) tt_ok rfl rfl rfl rfl rfl rfl rfl) rfl ?_
      refine k_val (v := .agg #[.int .i32 j34_n2_f2.2.X, .int .i32 j34_n2_f2.2.Y, .int .i32 j34_n2_f2.2.VX, .int .i32 j34_n2_f2.2.VY, .int .u8 j34_n2_f2.2.Health, .int .u8 j34_n2_f2.2.Cool, .int .u8 j34_n2_f2.2.Face]) rfl rfl rfl (pSub (pCons Sel.hc (pCons Sel.hc (pCons Sel.hc (pCons Sel.hc (pApp Sel.ha pNil)))))) (val_load tt_ok rfl (List.Mem.head _) rfl) rfl ?_
      replace h := bsome h; obtain ⟨v98, x98, h⟩ := h
      refine k_cq rfl rfl rfl Tryd.call57 rfl rfl rfl (q_pf (k_step_stopped x98) (fun _ _ => trivial)) rfl (pSub (pCons Sel.hc (pCons Sel.hc (pCons Sel.hc (pCons Sel.hc (pApp Sel.ha pNil)))))) ?_
      replace h := bsome h; obtain ⟨v102, x102, h⟩ := h
      refine k_cq rfl rfl rfl Tryd.call57 rfl rfl rfl (q_pf (k_step_stopped x102) (fun _ _ => trivial)) rfl (pSub (pCons Sel.hc (pCons Sel.hc (pCons Sel.hc (pCons Sel.hc (pApp Sel.ha pNil)))))) ?_
      refine k_chg0 rfl rfl rfl (chg_store tt_ok rfl (Upd.there (Upd.there Upd.here)) rfl rfl rfl rfl rfl rfl) (.inl rfl) ?_
      rintro _ _ rfl
      refine k_chg0 rfl rfl rfl (chg_store tt_ok rfl (Upd.there (Upd.there (Upd.there Upd.here))) rfl rfl rfl rfl rfl rfl) (.inl rfl) ?_
      rintro _ _ rfl
      refine k_end (by kernel_rfl) ?_
      simp only [Option.some.injEq, Prod.mk.injEq] at h
      obtain ⟨rfl, rfl⟩ := h
      exact wx_join ⟨rfl, rfl⟩ (agree_cons rfl (agree_cons rfl (agree_cons rfl (agree_cons rfl agree_nil)))) (pSub (pCons Sel.hc (pCons Sel.hc (pCons Sel.hc (pCons Sel.hc (pApp Sel.ha pNil))))))
    replace h := cf hc h
    refine wc_skip ?_
    simp only [Option.some.injEq, Prod.mk.injEq] at h
    obtain ⟨rfl, rfl⟩ := h
    exact wx_join ⟨rfl, rfl⟩ (agree_cons rfl (agree_cons rfl (agree_cons rfl (agree_cons rfl agree_nil)))) (pSub (pCons Sel.hc (pCons Sel.hc (pCons Sel.hc (pCons Sel.hc (pApp Sel.ha pNil))))))
  rintro _ _ ⟨rfl, rfl⟩
  have h := hj60; clear hj60
  refine wc_seq (wc_region ?_)
  refine wl_val (v := .agg #[.int .i32 j60_n8.X, .int .i32 j60_n8.Y, .int .i32 j60_n8.VX, .int .i32 j60_n8.VY, .int .u8 j60_n8.Health, .int .u8 j60_n8.Cool, .int .u8 j60_n8.Face]) (val_load tt_ok rfl (List.Mem.tail _ (List.Mem.tail _ (List.Mem.head _))) rfl) rfl ?_
  refine wl_val (v := .agg #[.int .i32 j60_n9.X, .int .i32 j60_n9.Y, .int .i32 j60_n9.VX, .int .i32 j60_n9.VY, .int .u8 j60_n9.Health, .int .u8 j60_n9.Cool, .int .u8 j60_n9.Face]) (val_load tt_ok rfl (List.Mem.tail _ (List.Mem.tail _ (List.Mem.tail _ (List.Mem.head _)))) rfl) rfl ?_
  refine wl_pure (v := .agg #[.int .i32 j60_n8.X, .int .i32 j60_n8.Y, .int .i32 j60_n8.VX, .int .i32 j60_n8.VY, .int .u8 j60_n8.Health, .int .u8 j60_n8.Cool, .int .u8 j60_n8.Face, .int .i32 j60_n9.X, .int .i32 j60_n9.Y, .int .i32 j60_n9.VX, .int .i32 j60_n9.VY, .int .u8 j60_n9.Health, .int .u8 j60_n9.Cool, .int .u8 j60_n9.Face]) tt_ok rfl rfl ?_
  refine wl_pure (v := .pointer (some ⟨b2, 2, none⟩)) tt_ok rfl rfl ?_
  apply wl_store tt_ok; rfl; exact Upd.here; rfl; rfl; rfl; rfl; rfl; rfl
  refine wl_nil (wx_then (wc_seq (wc_region ?_)))
  replace h := bsome h; obtain ⟨o107_0, x107, h⟩ := h
  refine wl_cs Tryd.call58 rfl rfl rfl (s_sp (k_step_fly (p0 := (T_api_State.mk v12.Frame v12.Seed (j60_n8, j60_n9) j34_n2_f3 v12.Score)) j34_n2_f3N0 j34_n2_f3V0 x107) (pCons Sel.hc (pApp (Sel.sc (Sel.sc (Sel.sc Sel.ha))) pNil)) (fun _ _ => trivial)) rfl ?_
  rintro _ _ ⟨_, ⟨o107_0a0, o107_0n0, o107_0c0, o107_0B0, o107_0N0, o107_0V0, rfl, rfl⟩, rfl⟩
  refine wl_nil (wx_then (wc_seq (wc_seq (wc_region ?_))))
  refine wl_pure tt_ok rfl rfl ?_
  refine wl_nil (wx_then (wc_block ?_))
  replace h := bsome h; obtain ⟨⟨l71_n2_f0, l71_n2_f1, l71_n2_f2, l71_n2_f3, l71_n2_f4⟩, h, hl71⟩ := h; try dsimp only at hl71
  refine wc_loop (fun m E L => ∃ (j71_108 : Int) (j71_n2_f0 : Int) (j71_n2_f1 : Int) (j71_n2_f2 : (T_api_Player × T_api_Player)) (j71_n2_f3 : (List T_api_Shot)) (j71_n2_f4 : (Int × Int)) (j71_n2_f3a0 : Option Addr) (j71_n2_f3n0 : Nat) (j71_n2_f3c0 : Nat) (j71_n2_f3B0 : List Blk), m_step_Step_L70 F m j71_108 j71_n2_f0 j71_n2_f1 j71_n2_f2 j71_n2_f3 j71_n2_f4 = some (l71_n2_f0, l71_n2_f1, l71_n2_f2, l71_n2_f3, l71_n2_f4) ∧ j71_n2_f3n0 = j71_n2_f3.length ∧ Own 92 6 j71_n2_f3a0 j71_n2_f3n0 j71_n2_f3c0 (flat c_T_api_Shot j71_n2_f3) j71_n2_f3B0 ∧ E = [(2, .pointer (some ⟨b2, 0, none⟩)), (4, .pointer (some ⟨b4, 0, none⟩)), (108, .int .i64 j71_108)] ∧ L = (⟨b2, [.int .u64 j71_n2_f0, .int .u64 j71_n2_f1, .int .i32 j71_n2_f2.1.X, .int .i32 j71_n2_f2.1.Y, .int .i32 j71_n2_f2.1.VX, .int .i32 j71_n2_f2.1.VY, .int .u8 j71_n2_f2.1.Health, .int .u8 j71_n2_f2.1.Cool, .int .u8 j71_n2_f2.1.Face, .int .i32 j71_n2_f2.2.X, .int .i32 j71_n2_f2.2.Y, .int .i32 j71_n2_f2.2.VX, .int .i32 j71_n2_f2.2.VY, .int .u8 j71_n2_f2.2.Health, .int .u8 j71_n2_f2.2.Cool, .int .u8 j71_n2_f2.2.Face, .slice j71_n2_f3a0 j71_n2_f3n0 j71_n2_f3c0, .int .u16 j71_n2_f4.1, .int .u16 j71_n2_f4.2], 61, (0, 0)⟩ :: (⟨b4, [.int .u64 (0 : Int), .int .u64 (0 : Int), .int .i32 (0 : Int), .int .i32 (0 : Int), .int .i32 (0 : Int), .int .i32 (0 : Int), .int .u8 (0 : Int), .int .u8 (0 : Int), .int .u8 (0 : Int), .int .i32 (0 : Int), .int .i32 (0 : Int), .int .i32 (0 : Int), .int .i32 (0 : Int), .int .u8 (0 : Int), .int .u8 (0 : Int), .int .u8 (0 : Int), .slice none 0 0, .int .u16 (0 : Int), .int .u16 (0 : Int)], 61, (0, 0)⟩ :: (j71_n2_f3B0 ++ [])))) F ⟨(0 : Int), o107_0.Frame, o107_0.Seed, o107_0.Players, o107_0.Shots, o107_0.Score, o107_0a0, o107_0n0, o107_0c0, o107_0B0, h, o107_0N0, o107_0V0, rfl, rfl⟩ (agree_cons rfl (agree_cons rfl (agree_cons rfl agree_nil))) (pSub (pCons Sel.hc (pCons (Sel.sa Sel.hc) (pApp Sel.ha pNil)))) ?_
  clear h
  rintro m71 _ _ ⟨j71_108, j71_n2_f0, j71_n2_f1, j71_n2_f2, j71_n2_f3, j71_n2_f4, j71_n2_f3a0, j71_n2_f3n0, j71_n2_f3c0, j71_n2_f3B0, h, j71_n2_f3N0, j71_n2_f3V0, rfl, rfl⟩
  rcases m71 with _ | m71
  · rw [m_step_Step_L70.eq_1] at h; cases h
  rw [m_step_Step_L70.eq_2] at h
  refine wc_seq (wc_region ?_)
  refine wl_pure (v := .bool (decide (j71_108 < (2 : Int)))) tt_ok rfl rfl ?_
  refine wl_nil (wx_then (wc_seq ?_))
  refine wc_cond rfl (fun hc => ?_) (fun hc => ?_)
  · replace h := ct hc h
    refine wc_skip (wx_then (wc_seq (wc_block (wc_seq (wc_region ?_)))))
    iterate 2 refine wl_pure tt_ok rfl rfl ?_
    refine wl_nil (wx_then (wc_seq (wc_region ?_)))
    refine wl_pure tt_ok rfl rfl ?_
    refine wl_pure (v := .pointer (some ⟨b2, 2, none⟩)) tt_ok rfl rfl ?_
    rcases Bool.eq_false_or_eq_true (j71_108 == (0 : Int)) with hx1130 | hx1130
    · replace h := ct hx1130 h
      refine wl_val (v := .pointer (some ⟨b2, 2, none⟩)) (val_ia (j := 0) tt_ok rfl rfl rfl rfl (by simpa using hx1130) rfl rfl) rfl ?_
      refine wl_pure (v := .pointer (some ⟨b2, 6, none⟩)) tt_ok rfl rfl ?_
      refine wl_val (v := .int .u8 j71_n2_f2.1.Health) (val_load tt_ok rfl (List.Mem.head _) rfl) rfl ?_
      refine wl_pure (v := .bool (j71_n2_f2.1.Health == (0 : Int))) tt_ok rfl rfl ?_
      refine wl_nil (wx_then ?_)
      refine wc_cond rfl (fun hc => ?_) (fun hc => ?_)
      · replace h := ct hc h
        refine wc_region ?_
        refine wl_pure tt_ok rfl rfl ?_
        replace h := bsome h; obtain ⟨o118_0, x118, h⟩ := h
        refine wl_cs Tryd.call59 rfl rfl rfl (s_sp (k_step_revive (p0 := (T_api_State.mk j71_n2_f0 j71_n2_f1 j71_n2_f2 j71_n2_f3 j71_n2_f4)) j71_n2_f3N0 j71_n2_f3V0 x118) (pCons Sel.hc (pApp (Sel.sc Sel.ha) pNil)) (fun _ _ => trivial)) rfl ?_
        rintro _ _ ⟨_, ⟨o118_0a0, o118_0n0, o118_0c0, o118_0B0, o118_0N0, o118_0V0, rfl, rfl⟩, rfl⟩
        refine wl_nil (wx_block (wx_then (wc_region ?_)))
        refine wl_pure (v := .int .i64 (IntKind.wrap .i64 (j71_108 + (1 : Int)))) tt_ok rfl rfl ?_
        refine wl_pure tt_ok rfl rfl ?_
        refine wl_nil ?_
        exact wx_round m71 (Nat.lt_succ_self m71) ⟨(IntKind.wrap .i64 (j71_108 + (1 : Int))), o118_0.Frame, o118_0.Seed, o118_0.Players, o118_0.Shots, o118_0.Score, o118_0a0, o118_0n0, o118_0c0, o118_0B0, h, o118_0N0, o118_0V0, rfl, rfl⟩ (agree_cons rfl (agree_cons rfl (agree_cons rfl agree_nil))) (pSub (pCons Sel.hc (pCons (Sel.sa Sel.hc) (pApp Sel.ha pNil))))
      replace h := cf hc h
      refine wc_skip (wx_block (wx_then (wc_region ?_)))
      refine wl_pure (v := .int .i64 (IntKind.wrap .i64 (j71_108 + (1 : Int)))) tt_ok rfl rfl ?_
      refine wl_pure tt_ok rfl rfl ?_
      refine wl_nil ?_
      exact wx_round m71 (Nat.lt_succ_self m71) ⟨(IntKind.wrap .i64 (j71_108 + (1 : Int))), j71_n2_f0, j71_n2_f1, j71_n2_f2, j71_n2_f3, j71_n2_f4, j71_n2_f3a0, j71_n2_f3n0, j71_n2_f3c0, j71_n2_f3B0, h, j71_n2_f3N0, j71_n2_f3V0, rfl, rfl⟩ (agree_cons rfl (agree_cons rfl (agree_cons rfl agree_nil))) (pSub (pCons Sel.hc (pCons Sel.hc (pApp Sel.ha pNil))))
    replace h := cf hx1130 h
    rcases Bool.eq_false_or_eq_true (j71_108 == (1 : Int)) with hx1131 | hx1131
    · replace h := ct hx1131 h
      refine wl_val (v := .pointer (some ⟨b2, 9, none⟩)) (val_ia (j := 1) tt_ok rfl rfl rfl rfl (by simpa using hx1131) rfl rfl) rfl ?_
      refine wl_pure (v := .pointer (some ⟨b2, 13, none⟩)) tt_ok rfl rfl ?_
      refine wl_val (v := .int .u8 j71_n2_f2.2.Health) (val_load tt_ok rfl (List.Mem.head _) rfl) rfl ?_
      refine wl_pure (v := .bool (j71_n2_f2.2.Health == (0 : Int))) tt_ok rfl rfl ?_
      refine wl_nil (wx_then ?_)
      refine wc_cond rfl (fun hc => ?_) (fun hc => ?_)
      · replace h := ct hc h
        refine wc_region ?_
        refine wl_pure tt_ok rfl rfl ?_
        replace h := bsome h; obtain ⟨o118_0, x118, h⟩ := h
        refine wl_cs Tryd.call59 rfl rfl rfl (s_sp (k_step_revive (p0 := (T_api_State.mk j71_n2_f0 j71_n2_f1 j71_n2_f2 j71_n2_f3 j71_n2_f4)) j71_n2_f3N0 j71_n2_f3V0 x118) (pCons Sel.hc (pApp (Sel.sc Sel.ha) pNil)) (fun _ _ => trivial)) rfl ?_
        rintro _ _ ⟨_, ⟨o118_0a0, o118_0n0, o118_0c0, o118_0B0, o118_0N0, o118_0V0, rfl, rfl⟩, rfl⟩
        refine wl_nil (wx_block (wx_then (wc_region ?_)))
        refine wl_pure (v := .int .i64 (IntKind.wrap .i64 (j71_108 + (1 : Int)))) tt_ok rfl rfl ?_
        refine wl_pure tt_ok rfl rfl ?_
        refine wl_nil ?_
        exact wx_round m71 (Nat.lt_succ_self m71) ⟨(IntKind.wrap .i64 (j71_108 + (1 : Int))), o118_0.Frame, o118_0.Seed, o118_0.Players, o118_0.Shots, o118_0.Score, o118_0a0, o118_0n0, o118_0c0, o118_0B0, h, o118_0N0, o118_0V0, rfl, rfl⟩ (agree_cons rfl (agree_cons rfl (agree_cons rfl agree_nil))) (pSub (pCons Sel.hc (pCons (Sel.sa Sel.hc) (pApp Sel.ha pNil))))
      replace h := cf hc h
      refine wc_skip (wx_block (wx_then (wc_region ?_)))
      refine wl_pure (v := .int .i64 (IntKind.wrap .i64 (j71_108 + (1 : Int)))) tt_ok rfl rfl ?_
      refine wl_pure tt_ok rfl rfl ?_
      refine wl_nil ?_
      exact wx_round m71 (Nat.lt_succ_self m71) ⟨(IntKind.wrap .i64 (j71_108 + (1 : Int))), j71_n2_f0, j71_n2_f1, j71_n2_f2, j71_n2_f3, j71_n2_f4, j71_n2_f3a0, j71_n2_f3n0, j71_n2_f3c0, j71_n2_f3B0, h, j71_n2_f3N0, j71_n2_f3V0, rfl, rfl⟩ (agree_cons rfl (agree_cons rfl (agree_cons rfl agree_nil))) (pSub (pCons Sel.hc (pCons Sel.hc (pApp Sel.ha pNil))))
    replace h := cf hx1131 h
    cases h
  replace h := cf hc h
  refine wc_exit (wx_then_exit ?_)
  simp only [Option.some.injEq, Prod.mk.injEq] at h
  obtain ⟨rfl, rfl, rfl, rfl, rfl⟩ := h
  have h := hl71; clear hl71; try dsimp only [orE_l, orE_r] at h
  refine wx_then_exit (wx_block_exit (wx_then (wc_seq (wc_region ?_))))
  refine wl_pure (v := .pointer (some ⟨b2, 0, none⟩)) tt_ok rfl rfl ?_
  refine wl_val (v := .int .u64 j71_n2_f0) (val_load tt_ok rfl (List.Mem.head _) rfl) rfl ?_
  refine wl_pure (v := .int .u64 (IntKind.wrap .u64 (j71_n2_f0 + (1 : Int)))) tt_ok rfl rfl ?_
  refine wl_pure (v := .pointer (some ⟨b2, 0, none⟩)) tt_ok rfl rfl ?_
  apply wl_store tt_ok; rfl; exact Upd.here; rfl; rfl; rfl; rfl; rfl; rfl
  refine wl_nil (wx_then (wc_seq (wc_region ?_)))
  refine wl_val (v := .agg #[.int .u64 (IntKind.wrap .u64 (j71_n2_f0 + (1 : Int))), .int .u64 j71_n2_f1, .int .i32 j71_n2_f2.1.X, .int .i32 j71_n2_f2.1.Y, .int .i32 j71_n2_f2.1.VX, .int .i32 j71_n2_f2.1.VY, .int .u8 j71_n2_f2.1.Health, .int .u8 j71_n2_f2.1.Cool, .int .u8 j71_n2_f2.1.Face, .int .i32 j71_n2_f2.2.X, .int .i32 j71_n2_f2.2.Y, .int .i32 j71_n2_f2.2.VX, .int .i32 j71_n2_f2.2.VY, .int .u8 j71_n2_f2.2.Health, .int .u8 j71_n2_f2.2.Cool, .int .u8 j71_n2_f2.2.Face, .slice j71_n2_f3a0 j71_n2_f3n0 j71_n2_f3c0, .int .u16 j71_n2_f4.1, .int .u16 j71_n2_f4.2]) (val_load tt_ok rfl (List.Mem.head _) rfl) rfl ?_
  apply wl_store tt_ok; rfl; exact (Upd.there Upd.here); rfl; rfl; rfl; rfl; rfl; rfl
  refine wl_nil (wx_then (wc_ret ?_))
  simp only [Option.some.injEq] at h
  obtain rfl := h
  exact wx_spD tt_ok (.inl rfl) Tryd.results36 (Res.cell rfl (List.Mem.tail _ (List.Mem.head _)) rfl Res.nil) ⟨j71_n2_f3a0, j71_n2_f3n0, j71_n2_f3c0, j71_n2_f3B0, j71_n2_f3N0, j71_n2_f3V0, rfl, rfl⟩ (fun F => by simp) (pSub (pApp (Sel.sc (Sel.sc Sel.ha)) pNil))

theorem k_rollback_Engine_Confirm_nil0 {F : Nat} {p1 : Int} {r0 : (Int × Int)} {r1 : Bool} (h : m_rollback_Engine_Confirm_nil0 F p1 = some (r0, r1)) :
    Pf Tryd.prog 14 [.pointer none, .int .u64 p1] (fun w => True) (.tuple #[.agg #[.int .u8 r0.1, .int .u8 r0.2], .bool r1]) := by
  unfold m_rollback_Engine_Confirm_nil0 at h
  refine pf_of_wc Tryd.func14 rfl Tryd.ntmps14 rfl rfl (fun w0 hR => ?_)
  refine wc_seq (wc_region ?_)
  refine wl_alloc tt_ok rfl rfl (fun b4 => ?_)
  refine wl_pure tt_ok rfl rfl ?_
  refine wl_nil (wx_then (wc_seq (wc_region ?_)))
  refine wl_pure tt_ok rfl rfl ?_
  replace h := bsome h; obtain ⟨⟨v10_0, v10_1⟩, x10, h⟩ := h; try dsimp only at h
  refine wl_cq Tryd.call35 rfl rfl rfl (q_pf (k_rollback_Engine_Next_nil0 x10) (fun _ _ => trivial)) rfl ?_
  iterate 3 refine wl_pure tt_ok rfl rfl ?_
  refine wl_alloc tt_ok rfl rfl (fun b6 => ?_)
  apply wl_store tt_ok; rfl; exact Upd.here; rfl; rfl; rfl; rfl; rfl; rfl
  refine wl_pure tt_ok rfl rfl ?_
  refine wl_nil (wx_then (wc_seq (wc_seq (wc_region ?_))))
  refine wl_pure tt_ok rfl rfl ?_
  refine wl_pure (v := .bool (!v10_1)) tt_ok rfl rfl ?_
  refine wl_pure tt_ok rfl rfl ?_
  replace h := bsome h; obtain ⟨v23, h, hg23⟩ := h
  refine wl_split (t := 15) rfl (fun hc => ?_) (fun hc => ?_)
  · replace h := ct hc h
    refine wl_skip rfl rfl ?_
    refine wl_skip rfl rfl ?_
    refine wl_skip rfl rfl ?_
    refine wl_skip rfl rfl ?_
    refine wl_skip rfl rfl ?_
    refine wl_skip rfl rfl ?_
    refine wl_skip rfl rfl ?_
    simp only [Option.some.injEq, Prod.mk.injEq] at h
    obtain rfl := h
    have h := hg23; clear hg23
    refine wl_pure (v := .bool true) tt_ok rfl rfl ?_
    refine wl_nil (wx_then ?_)
    replace h := ct rfl h
    refine wc_cond_true rfl ?_
    refine wc_seq (wc_region ?_)
    refine wl_pure (v := .agg #[.int .u8 (0 : Int), .int .u8 (0 : Int)]) tt_ok rfl rfl ?_
    apply wl_store tt_ok; rfl; exact (Upd.there Upd.here); rfl; rfl; rfl; rfl; rfl; rfl
    refine wl_pure tt_ok rfl rfl ?_
    refine wl_nil (wx_then (wc_ret (wx_then_ret ?_)))
    simp only [Option.some.injEq, Prod.mk.injEq] at h
    obtain ⟨rfl, rfl⟩ := h
    exact wx_pf tt_ok (.inl rfl) Tryd.results14 (Res.cell rfl (List.Mem.tail _ (List.Mem.head _)) rfl (Res.tmp rfl Res.nil)) rfl
  replace h := cf hc h
  refine wl_run rfl ?_
  refine wl_pure tt_ok rfl rfl ?_
  cases h

theorem k_fold_History_is_nil0 {F : Nat} {r0 : Bool} (h : m_fold_History_is_nil0 F = some r0) :
    Pf Tryd.prog 27 [.pointer none] (fun w => True) (.bool r0) := by
  unfold m_fold_History_is_nil0 at h
  refine pf_of_wc Tryd.func27 rfl Tryd.ntmps27 rfl rfl (fun w0 hR => ?_)
  refine wc_seq (wc_region ?_)
  refine wl_pure tt_ok rfl rfl ?_
  refine wl_nil (wx_then (wc_seq (wc_region ?_)))
  refine wl_pure tt_ok rfl rfl ?_
  refine wl_pure (v := .bool false) tt_ok rfl rfl ?_
  refine wl_pure tt_ok rfl rfl ?_
  refine wl_skip rfl rfl ?_
  refine wl_skip rfl rfl ?_
  refine wl_skip rfl rfl ?_
  refine wl_skip rfl rfl ?_
  refine wl_skip rfl rfl ?_
  refine wl_pure (v := .bool false) tt_ok rfl rfl ?_
  refine wl_pure tt_ok rfl rfl ?_
  refine wl_nil (wx_then (wc_ret ?_))
  simp only [Option.some.injEq] at h
  obtain rfl := h
  exact wx_pf tt_ok (.inl rfl) Tryd.results27 (Res.tmp rfl Res.nil) rfl

theorem k_fold_History_Add_nil0 {F : Nat} {p1 : (Int × Int)} {r0 : Int} (h : m_fold_History_Add_nil0 F p1 = some r0) :
    Pf Tryd.prog 8 [.pointer none, .agg #[.int .u8 p1.1, .int .u8 p1.2]] (fun w => True) (.int .i64 r0) := by
  unfold m_fold_History_Add_nil0 at h
  refine pf_of_wc Tryd.func8 rfl Tryd.ntmps8 rfl rfl (fun w0 hR => ?_)
  refine wc_seq (wc_region ?_)
  refine wl_box rfl rfl rfl (fun b3 => ?_)
  refine wl_pure tt_ok rfl rfl ?_
  refine wl_nil (wx_then (wc_seq (wc_block (wc_seq (wc_region ?_)))))
  refine wl_pure tt_ok rfl rfl ?_
  replace h := bsome h; obtain ⟨v7, x7, h⟩ := h
  refine wl_cq Tryd.call27 rfl rfl rfl (q_pf (k_fold_History_is_nil0 x7) (fun _ _ => trivial)) rfl ?_
  refine wl_pure (v := .bool (!v7)) tt_ok rfl rfl ?_
  refine wl_pure tt_ok rfl rfl ?_
  refine wl_nil (wx_then ?_)
  refine wc_cond rfl (fun hc => ?_) (fun hc => ?_)
  · replace h := ct hc h
    refine wc_seq (wc_region ?_)
    refine wl_pure tt_ok rfl rfl ?_
    refine wl_nil (wx_then (wc_ret (wx_block_ret (wx_then_ret ?_))))
    simp only [Option.some.injEq] at h
    obtain rfl := h
    exact wx_pf tt_ok (.inl rfl) Tryd.results8 (Res.tmp rfl Res.nil) rfl
  replace h := cf hc h
  refine wc_seq (wc_region ?_)
  refine wl_val (v := .pointer (some ⟨b3, 0, none⟩)) (val_ia (j := 0) tt_ok rfl rfl rfl rfl rfl rfl rfl) rfl ?_
  refine wl_val (v := .int .u8 p1.1) (val_load tt_ok rfl (List.Mem.head _) rfl) rfl ?_
  replace h := bsome h; obtain ⟨v12, x12, h⟩ := h
  refine wl_cq Tryd.call28 rfl rfl rfl (q_pf (k_input_Legal x12) (fun _ _ => trivial)) rfl ?_
  refine wl_pure (v := .bool (!v12)) tt_ok rfl rfl ?_
  refine wl_pure tt_ok rfl rfl ?_
  replace h := bsome h; obtain ⟨v19, h, hg19⟩ := h
  refine wl_split (t := 14) rfl (fun hc => ?_) (fun hc => ?_)
  · replace h := ct hc h
    refine wl_skip rfl rfl ?_
    refine wl_skip rfl rfl ?_
    refine wl_skip rfl rfl ?_
    refine wl_skip rfl rfl ?_
    simp only [Option.some.injEq, Prod.mk.injEq] at h
    obtain rfl := h
    have h := hg19; clear hg19
    refine wl_pure (v := .bool true) tt_ok rfl rfl ?_
    refine wl_pure tt_ok rfl rfl ?_
    refine wl_nil (wx_then ?_)
    replace h := ct rfl h
    refine wc_cond_true rfl ?_
    refine wc_seq (wc_region ?_)
    refine wl_pure tt_ok rfl rfl ?_
    refine wl_nil (wx_then (wc_ret (wx_block_ret (wx_then_ret ?_))))
    simp only [Option.some.injEq] at h
    obtain rfl := h
    exact wx_pf tt_ok (.inl rfl) Tryd.results8 (Res.tmp rfl Res.nil) rfl
  replace h := cf hc h
  refine wl_run rfl ?_
  refine wl_val (v := .pointer (some ⟨b3, 1, none⟩)) (val_ia (j := 1) tt_ok rfl rfl rfl rfl rfl rfl rfl) rfl ?_
  refine wl_run rfl ?_
  refine wl_val (v := .int .u8 p1.2) (val_load tt_ok rfl (List.Mem.head _) rfl) rfl ?_
  replace h := bsome h; obtain ⟨v17, x17, h⟩ := h
  refine wl_run rfl ?_
  refine wl_cq Tryd.call28 rfl rfl rfl (q_pf (k_input_Legal x17) (fun _ _ => trivial)) rfl ?_
  refine wl_run rfl ?_
  refine wl_pure (v := .bool (!v17)) tt_ok rfl rfl ?_
  simp only [Option.some.injEq, Prod.mk.injEq] at h
  obtain rfl := h
  have h := hg19; clear hg19
  refine wl_pure (v := .bool (!v17)) tt_ok rfl rfl ?_
  refine wl_pure tt_ok rfl rfl ?_
  refine wl_nil (wx_then ?_)
  refine wc_cond rfl (fun hc => ?_) (fun hc => ?_)
  · replace h := ct hc h
    refine wc_seq (wc_region ?_)
    refine wl_pure tt_ok rfl rfl ?_
    refine wl_nil (wx_then (wc_ret (wx_block_ret (wx_then_ret ?_))))
    simp only [Option.some.injEq] at h
    obtain rfl := h
    exact wx_pf tt_ok (.inl rfl) Tryd.results8 (Res.tmp rfl Res.nil) rfl
  replace h := cf hc h
  refine wc_seq ?_
  refine wc_quiet (by kernel_rfl) (by kernel_rfl) ?_
  refine wq_pure tt_ok rfl rfl ?_
  cases h

theorem k_fold_History_is {F : Nat} {p0 : T_fold_History} {p0b p0t : Nat} {r0 : Bool} (h : m_fold_History_is F p0 = some r0) :
    Rd2 Tryd.prog 27 [.pointer (some ⟨p0b, 0, none⟩)] (⟨p0b, ([.int .u64 p0.from_, .int .u64 p0.count, .int .u64 p0.most] ++ flat (e2 .u8) p0.ring.1), p0t, (0, 0)⟩ :: []) (fun w => True) (.bool r0) := by
  unfold m_fold_History_is at h
  refine sp_of_wc Tryd.func27 rfl Tryd.ntmps27 rfl rfl (fun w0 hR => ?_)
  refine wc_seq (wc_region ?_)
  refine wl_pure tt_ok rfl rfl ?_
  refine wl_nil (wx_then (wc_seq (wc_region ?_)))
  refine wl_pure tt_ok rfl rfl ?_
  refine wl_pure (v := .bool true) tt_ok rfl rfl ?_
  refine wl_pure tt_ok rfl rfl ?_
  refine wl_run rfl ?_
  refine wl_pure tt_ok rfl rfl ?_
  refine wl_run rfl ?_
  refine wl_pure tt_ok rfl rfl ?_
  refine wl_run rfl ?_
  refine wl_pure (v := .pointer (some ⟨p0b, 2, none⟩)) tt_ok rfl rfl ?_
  refine wl_run rfl ?_
  refine wl_val (v := .int .u64 p0.most) (val_load tt_ok rfl (List.Mem.head _) rfl) rfl ?_
  refine wl_run rfl ?_
  refine wl_pure (v := .bool (decide ((0 : Int) < p0.most))) tt_ok rfl rfl ?_
  refine wl_pure (v := .bool (decide ((0 : Int) < p0.most))) tt_ok rfl rfl ?_
  refine wl_pure tt_ok rfl rfl ?_
  refine wl_nil (wx_then (wc_ret ?_))
  simp only [Option.some.injEq] at h
  obtain rfl := h
  exact wx_rd tt_ok (.inl rfl) Tryd.results27 (Res.tmp rfl Res.nil) (pSub (pCons Sel.hc pNil)) rfl

theorem k_fold_History_Add {F : Nat} {p0 : T_fold_History} {p0b p0t : Nat} {p1 : (Int × Int)} {r0 : T_fold_History} {r1 : Int} (h : m_fold_History_Add F p0 p1 = some (r0, r1)) :
    SpD Tryd.prog 8 [.pointer (some ⟨p0b, 0, none⟩), .agg #[.int .u8 p1.1, .int .u8 p1.2]] (⟨p0b, ([.int .u64 p0.from_, .int .u64 p0.count, .int .u64 p0.most] ++ flat (e2 .u8) p0.ring.1), p0t, (0, 0)⟩ :: []) (fun w => True) (fun v D => v = .int .i64 r1 ∧ D = fun F => (⟨p0b, ([.int .u64 r0.from_, .int .u64 r0.count, .int .u64 r0.most] ++ flat (e2 .u8) r0.ring.1), p0t, (0, 0)⟩ :: F)) := by
  unfold m_fold_History_Add at h
  refine sp_of_wc Tryd.func8 rfl Tryd.ntmps8 rfl rfl (fun w0 hR => ?_)
  refine wc_seq (wc_region ?_)
  refine wl_box rfl rfl rfl (fun b3 => ?_)
  refine wl_pure tt_ok rfl rfl ?_
  refine wl_nil (wx_then (wc_seq (wc_block (wc_seq (wc_region ?_)))))
  refine wl_pure tt_ok rfl rfl ?_
  replace h := bsome h; obtain ⟨v7, x7, h⟩ := h
  refine wl_cq Tryd.call27 rfl rfl rfl (q_rd (k_fold_History_is x7) (pCons (Sel.sc Sel.hc) pNil) (fun _ _ => trivial)) rfl ?_
  refine wl_pure (v := .bool (!v7)) tt_ok rfl rfl ?_
  refine wl_pure tt_ok rfl rfl ?_
  refine wl_nil (wx_then ?_)
  refine wc_cond rfl (fun hc => ?_) (fun hc => ?_)
  · replace h := ct hc h
    refine wc_seq (wc_region ?_)
    refine wl_pure tt_ok rfl rfl ?_
    refine wl_nil (wx_then (wc_ret (wx_block_ret (wx_then_ret ?_))))
    simp only [Option.some.injEq, Prod.mk.injEq] at h
    obtain ⟨rfl, rfl⟩ := h
    exact wx_spD tt_ok (.inl rfl) Tryd.results8 (Res.tmp rfl Res.nil) ⟨rfl, rfl⟩ (fun F => by simp) (pSub (pCons (Sel.sc Sel.hc) pNil))
  replace h := cf hc h
  refine wc_seq (wc_region ?_)
  refine wl_val (v := .pointer (some ⟨b3, 0, none⟩)) (val_ia (j := 0) tt_ok rfl rfl rfl rfl rfl rfl rfl) rfl ?_
  refine wl_val (v := .int .u8 p1.1) (val_load tt_ok rfl (List.Mem.head _) rfl) rfl ?_
  replace h := bsome h; obtain ⟨v12, x12, h⟩ := h
  refine wl_cq Tryd.call28 rfl rfl rfl (q_pf (k_input_Legal x12) (fun _ _ => trivial)) rfl ?_
  refine wl_pure (v := .bool (!v12)) tt_ok rfl rfl ?_
  refine wl_pure tt_ok rfl rfl ?_
  replace h := bsome h; obtain ⟨v19, h, hg19⟩ := h
  refine wl_split (t := 14) rfl (fun hc => ?_) (fun hc => ?_)
  · replace h := ct hc h
    refine wl_skip rfl rfl ?_
    refine wl_skip rfl rfl ?_
    refine wl_skip rfl rfl ?_
    refine wl_skip rfl rfl ?_
    simp only [Option.some.injEq, Prod.mk.injEq] at h
    obtain rfl := h
    have h := hg19; clear hg19
    refine wl_pure (v := .bool true) tt_ok rfl rfl ?_
    refine wl_pure tt_ok rfl rfl ?_
    refine wl_nil (wx_then ?_)
    replace h := ct rfl h
    refine wc_cond_true rfl ?_
    refine wc_seq (wc_region ?_)
    refine wl_pure tt_ok rfl rfl ?_
    refine wl_nil (wx_then (wc_ret (wx_block_ret (wx_then_ret ?_))))
    simp only [Option.some.injEq, Prod.mk.injEq] at h
    obtain ⟨rfl, rfl⟩ := h
    exact wx_spD tt_ok (.inl rfl) Tryd.results8 (Res.tmp rfl Res.nil) ⟨rfl, rfl⟩ (fun F => by simp) (pSub (pCons (Sel.sc Sel.hc) pNil))
  replace h := cf hc h
  refine wl_run rfl ?_
  refine wl_val (v := .pointer (some ⟨b3, 1, none⟩)) (val_ia (j := 1) tt_ok rfl rfl rfl rfl rfl rfl rfl) rfl ?_
  refine wl_run rfl ?_
  refine wl_val (v := .int .u8 p1.2) (val_load tt_ok rfl (List.Mem.head _) rfl) rfl ?_
  replace h := bsome h; obtain ⟨v17, x17, h⟩ := h
  refine wl_run rfl ?_
  refine wl_cq Tryd.call28 rfl rfl rfl (q_pf (k_input_Legal x17) (fun _ _ => trivial)) rfl ?_
  refine wl_run rfl ?_
  refine wl_pure (v := .bool (!v17)) tt_ok rfl rfl ?_
  simp only [Option.some.injEq, Prod.mk.injEq] at h
  obtain rfl := h
  have h := hg19; clear hg19
  refine wl_pure (v := .bool (!v17)) tt_ok rfl rfl ?_
  refine wl_pure tt_ok rfl rfl ?_
  refine wl_nil (wx_then ?_)
  refine wc_cond rfl (fun hc => ?_) (fun hc => ?_)
  · replace h := ct hc h
    refine wc_seq (wc_region ?_)
    refine wl_pure tt_ok rfl rfl ?_
    refine wl_nil (wx_then (wc_ret (wx_block_ret (wx_then_ret ?_))))
    simp only [Option.some.injEq, Prod.mk.injEq] at h
    obtain ⟨rfl, rfl⟩ := h
    exact wx_spD tt_ok (.inl rfl) Tryd.results8 (Res.tmp rfl Res.nil) ⟨rfl, rfl⟩ (fun F => by simp) (pSub (pCons (Sel.sc Sel.hc) pNil))
  replace h := cf hc h
  refine wc_seq ?_
  refine wc_quiet (by kernel_rfl) (by kernel_rfl) ?_
  refine wq_pure tt_ok rfl rfl ?_
  refine wq_pure tt_ok rfl rfl ?_
  refine wq_pure (v := .pointer (some ⟨p0b, 1, none⟩)) tt_ok rfl rfl ?_
  refine wq_val (v := .int .u64 p0.count) (val_load tt_ok rfl (List.Mem.tail _ (List.Mem.head _)) rfl) rfl ?_
  refine wq_pure tt_ok rfl rfl ?_
  refine wq_pure tt_ok rfl rfl ?_
  refine wq_pure (v := .pointer (some ⟨p0b, 0, none⟩)) tt_ok rfl rfl ?_
  refine wq_val (v := .int .u64 p0.from_) (val_load tt_ok rfl (List.Mem.tail _ (List.Mem.head _)) rfl) rfl ?_
  refine wq_pure (v := .int .u64 (IntKind.wrap .u64 (p0.count - p0.from_))) tt_ok rfl rfl ?_
  refine wq_pure tt_ok rfl rfl ?_
  refine wq_pure tt_ok rfl rfl ?_
  refine wq_pure (v := .pointer (some ⟨p0b, 2, none⟩)) tt_ok rfl rfl ?_
  refine wq_val (v := .int .u64 p0.most) (val_load tt_ok rfl (List.Mem.tail _ (List.Mem.head _)) rfl) rfl ?_
  refine wq_pure (v := .bool ((IntKind.wrap .u64 (p0.count - p0.from_)) == p0.most)) tt_ok rfl rfl ?_
  refine wq_pure tt_ok rfl rfl ?_
  replace h := bsome h; obtain ⟨v41, h, hg41⟩ := h
  refine wq_split (t := 35) rfl (fun hc => ?_) (fun hc => ?_)
  · replace h := ct hc h
    refine wq_skip rfl rfl ?_
    refine wq_skip rfl rfl ?_
    refine wq_skip rfl rfl ?_
    refine wq_skip rfl rfl ?_
    refine wq_skip rfl rfl ?_
    simp only [Option.some.injEq, Prod.mk.injEq] at h
    obtain rfl := h
    have h := hg41; clear hg41
    refine wq_pure (v := .bool true) tt_ok rfl rfl ?_
    refine wq_pure tt_ok rfl rfl ?_
    refine wq_nil ?_
    refine wx_then ?_
    replace h := ct rfl h
    refine wc_cond_true rfl ?_
    refine wc_seq (wc_region ?_)
    refine wl_pure tt_ok rfl rfl ?_
    refine wl_nil (wx_then (wc_ret (wx_block_ret (wx_then_ret ?_))))
    simp only [Option.some.injEq, Prod.mk.injEq] at h
    obtain ⟨rfl, rfl⟩ := h
    exact wx_spD tt_ok (.inl rfl) Tryd.results8 (Res.tmp rfl Res.nil) ⟨rfl, rfl⟩ (fun F => by simp) (pSub (pCons (Sel.sc Sel.hc) pNil))
  replace h := cf hc h
  refine wq_run rfl ?_
  refine wq_pure tt_ok rfl rfl ?_
  refine wq_run rfl ?_
  refine wq_pure tt_ok rfl rfl ?_
  refine wq_run rfl ?_
  refine wq_pure (v := .pointer (some ⟨p0b, 1, none⟩)) tt_ok rfl rfl ?_
  refine wq_run rfl ?_
  refine wq_val (v := .int .u64 p0.count) (val_load tt_ok rfl (List.Mem.tail _ (List.Mem.head _)) rfl) rfl ?_
  refine wq_run rfl ?_
  refine wq_pure (v := .bool (p0.count == (18446744073709551615 : Int))) tt_ok rfl rfl ?_
  simp only [Option.some.injEq, Prod.mk.injEq] at h
  obtain rfl := h
  have h := hg41; clear hg41
  refine wq_pure (v := .bool (p0.count == (18446744073709551615 : Int))) tt_ok rfl rfl ?_
  refine wq_pure tt_ok rfl rfl ?_
  refine wq_nil ?_
  refine wx_then ?_
  refine wc_cond rfl (fun hc => ?_) (fun hc => ?_)
  · replace h := ct hc h
    refine wc_seq (wc_region ?_)
    refine wl_pure tt_ok rfl rfl ?_
    refine wl_nil (wx_then (wc_ret (wx_block_ret (wx_then_ret ?_))))
    simp only [Option.some.injEq, Prod.mk.injEq] at h
    obtain ⟨rfl, rfl⟩ := h
    exact wx_spD tt_ok (.inl rfl) Tryd.results8 (Res.tmp rfl Res.nil) ⟨rfl, rfl⟩ (fun F => by simp) (pSub (pCons (Sel.sc Sel.hc) pNil))
  replace h := cf hc h
  refine wc_skip (wx_block (wx_then (wc_seq ?_)))
  refine wc_k2 (Ls := (⟨b3, [.int .u8 p1.1, .int .u8 p1.2], 36, (0, 0)⟩ :: (⟨p0b, ([.int .u64 p0.from_, .int .u64 p0.count, .int .u64 p0.most] ++ flat (e2 .u8) p0.ring.1), p0t, (0, 0)⟩ :: []))) [10] [10] [0, 0, 2, 6, 14, 30, 0, 1, 129, 511, 1023] [0, 1, 2, 3, 4, 5, 6, 7, 8, 9, 10] (by kernel_rfl) (by kernel_rfl) (by kernel_rfl) ?_
  refine k_val rfl rfl rfl (pSub (pCons Sel.hc (pCons Sel.hc pNil))) (stepV_ok tt_ok rfl) rfl ?_
  refine k_val rfl rfl rfl (pSub (pCons Sel.hc (pCons Sel.hc pNil))) (stepV_ok tt_ok rfl) rfl ?_
  refine k_val rfl rfl rfl (pSub (pCons Sel.hc (pCons Sel.hc pNil))) (stepV_ok tt_ok rfl) rfl ?_
  refine k_val (v := .pointer (some ⟨p0b, 1, none⟩)) rfl rfl rfl (pSub (pCons Sel.hc (pCons Sel.hc pNil))) (stepV_ok tt_ok rfl) rfl ?_
  refine k_val (v := .int .u64 p0.count) rfl rfl rfl (pSub (pCons Sel.hc (pCons Sel.hc pNil))) (val_load tt_ok rfl (List.Mem.tail _ (List.Mem.head _)) rfl) rfl ?_
  refine k_val (v := .int .u64 (Int.tmod p0.count 256)) rfl rfl rfl (pSub (pCons Sel.hc (pCons Sel.hc pNil))) (stepV_ok tt_ok rfl) rfl ?_
  refine k_val (v := .agg #[.int .u8 p1.1, .int .u8 p1.2]) rfl rfl rfl (pSub (pCons Sel.hc (pCons Sel.hc pNil))) (val_load tt_ok rfl (List.Mem.head _) rfl) rfl ?_
  refine k_val rfl rfl rfl (pSub (pCons Sel.hc (pCons Sel.hc pNil))) (stepV_ok tt_ok rfl) rfl ?_
  refine k_val (v := .pointer (some ⟨p0b, 3, none⟩)) rfl rfl rfl (pSub (pCons Sel.hc (pCons Sel.hc pNil))) (stepV_ok tt_ok rfl) rfl ?_
  replace h := bsome h; obtain ⟨v51, x51, h⟩ := h
  refine k_val (v := .pointer (some ⟨p0b, 3 + (Int.tmod p0.count 256).toNat * 2 + 0, none⟩)) rfl rfl rfl (pSub (pCons Sel.hc (pCons Sel.hc pNil))) (val_xa (a := p0.ring) tt_ok rfl rfl rfl rfl x51) rfl ?_
  refine k_chg0 rfl rfl rfl (chg_stx (enc := (e2 .u8)) (pre := [.int .u64 p0.from_, .int .u64 p0.count, .int .u64 p0.most]) (post := []) (xs := p0.ring.1) (y' := p1) (c' := ([.int .u64 p0.from_, .int .u64 p0.count, .int .u64 p0.most] ++ flat (e2 .u8) ((Arr.set p0.ring (Int.tmod p0.count 256) p1).1))) tt_ok rfl rfl rfl rfl rfl rfl (Upd.there Upd.here) c_np c_np rfl (e2_len _) x51 rfl (by intro h; cases h)) (.inl rfl) ?_
  rintro _ _ rfl
  refine k_end (by kernel_rfl) ?_
  refine wx_then (wc_seq (wc_region ?_))
  iterate 2 refine wl_pure tt_ok rfl rfl ?_
  refine wl_pure (v := .pointer (some ⟨p0b, 1, none⟩)) tt_ok rfl rfl ?_
  refine wl_val (v := .int .u64 p0.count) (val_load tt_ok rfl (List.Mem.tail _ (List.Mem.head _)) rfl) rfl ?_
  refine wl_pure (v := .int .u64 (IntKind.wrap .u64 (p0.count + (1 : Int)))) tt_ok rfl rfl ?_
  refine wl_pure tt_ok rfl rfl ?_
  refine wl_pure (v := .pointer (some ⟨p0b, 1, none⟩)) tt_ok rfl rfl ?_
  refine wl_chg0 (chg_storep (pre := [.int .u64 p0.from_, .int .u64 p0.count, .int .u64 p0.most]) (pre' := [.int .u64 p0.from_, .int .u64 (IntKind.wrap .u64 (p0.count + (1 : Int))), .int .u64 p0.most]) tt_ok rfl (Upd.there Upd.here) rfl rfl rfl rfl rfl rfl (by intro h; cases h)) ?_
  rintro _ _ rfl
  refine wl_nil (wx_then (wc_seq (wc_region ?_)))
  refine wl_pure tt_ok rfl rfl ?_
  refine wl_nil (wx_then (wc_ret ?_))
  simp only [Option.some.injEq, Prod.mk.injEq] at h
  obtain ⟨rfl, rfl⟩ := h
  exact wx_spD tt_ok (.inl rfl) Tryd.results8 (Res.tmp rfl Res.nil) ⟨rfl, rfl⟩ (fun F => by simp) (pSub (pCons (Sel.sc Sel.hc) pNil))

theorem k_rollback_Engine_is {F : Nat} {p0 : T_rollback_Engine} {p0b p0t : Nat} {p0a0 : Option Addr} {p0n0 : Nat} {p0c0 : Nat} {p0B0 : List Blk} {p0a1 : Option Addr} {p0n1 : Nat} {p0c1 : Nat} {p0B1 : List Blk} {p0_4 : T_queue_Queue} {p0_4b p0_4t : Nat} {p0_4a0 : Option Addr} {p0_4n0 : Nat} {p0_4c0 : Nat} {p0_4B0 : List Blk} {p0_5 : T_ring_Ring} {p0_5b p0_5t : Nat} {p0_5g0 : List (T_ring_place × G)} {p0_5P0 : List Blk} {r0 : Bool} (p0N0 : p0n0 = p0.sure.Shots.length) (p0V0 : Own 92 6 p0a0 p0n0 p0c0 (flat c_T_api_Shot p0.sure.Shots) p0B0) (p0N1 : p0n1 = p0.own.length) (p0V1 : Own 34 1 p0a1 p0n1 p0c1 (flat (e1 .u8) p0.own) p0B1) (p0_4N0 : p0_4n0 = p0_4.l.length) (p0_4V0 : Own 34 1 p0_4a0 p0_4n0 p0_4c0 (flat (e1 .u8) p0_4.l) p0_4B0) (p0_5G0 : p0_5.places.1 = unG p0_5g0) (p0_5A0 : AllP sh_T_ring_place c_T_api_Shot p0_5P0 p0_5g0) (h : m_rollback_Engine_is F p0 p0_4 p0_5 = some r0) :
    Rd2 Tryd.prog 29 [.pointer (some ⟨p0b, 0, none⟩)] (⟨p0b, [.int .u8 p0.player, .int .i64 p0.window, .int .u64 p0.sure.Frame, .int .u64 p0.sure.Seed, .int .i32 p0.sure.Players.1.X, .int .i32 p0.sure.Players.1.Y, .int .i32 p0.sure.Players.1.VX, .int .i32 p0.sure.Players.1.VY, .int .u8 p0.sure.Players.1.Health, .int .u8 p0.sure.Players.1.Cool, .int .u8 p0.sure.Players.1.Face, .int .i32 p0.sure.Players.2.X, .int .i32 p0.sure.Players.2.Y, .int .i32 p0.sure.Players.2.VX, .int .i32 p0.sure.Players.2.VY, .int .u8 p0.sure.Players.2.Health, .int .u8 p0.sure.Players.2.Cool, .int .u8 p0.sure.Players.2.Face, .slice p0a0 p0n0 p0c0, .int .u16 p0.sure.Score.1, .int .u16 p0.sure.Score.2, .slice p0a1 p0n1 p0c1, .pointer (some ⟨p0_4b, 0, none⟩), .pointer (some ⟨p0_5b, 0, none⟩)], p0t, (0, 0)⟩ :: (p0B0 ++ (p0B1 ++ (⟨p0_4b, [.int .u64 p0_4.first_, .slice p0_4a0 p0_4n0 p0_4c0, .int .u8 p0_4.last], p0_4t, (0, 0)⟩ :: (p0_4B0 ++ (⟨p0_5b, ([.int .i64 p0_5.size] ++ flat cg_T_ring_place p0_5g0), p0_5t, (0, 0)⟩ :: (p0_5P0 ++ []))))))) (fun w => True) (.bool r0) := by
  unfold m_rollback_Engine_is at h
  refine sp_of_wc Tryd.func29 rfl Tryd.ntmps29 rfl rfl (fun w0 hR => ?_)
  refine wc_seq (wc_region ?_)
  refine wl_pure tt_ok rfl rfl ?_
  refine wl_nil (wx_then (wc_seq (wc_region ?_)))
  refine wl_pure tt_ok rfl rfl ?_
  refine wl_pure (v := .bool true) tt_ok rfl rfl ?_
  refine wl_pure tt_ok rfl rfl ?_
  refine wl_run rfl ?_
  refine wl_pure tt_ok rfl rfl ?_
  refine wl_run rfl ?_
  refine wl_pure tt_ok rfl rfl ?_
  refine wl_run rfl ?_
  refine wl_pure (v := .pointer (some ⟨p0b, 22, none⟩)) tt_ok rfl rfl ?_
  refine wl_run rfl ?_
  refine wl_val (v := .pointer (some ⟨p0_4b, 0, none⟩)) (val_load tt_ok rfl (List.Mem.head _) rfl) rfl ?_
  refine wl_run rfl ?_
  refine wl_pure (v := .bool true) tt_ok rfl rfl ?_
  refine wl_pure (v := .bool true) tt_ok rfl rfl ?_
  refine wl_pure tt_ok rfl rfl ?_
  refine wl_nil (wx_then (wc_ret ?_))
  simp only [Option.some.injEq] at h
  obtain rfl := h
  exact wx_rd tt_ok (.inl rfl) Tryd.results29 (Res.tmp rfl Res.nil) (pSub (pCons Sel.hc (pApp Sel.ha (pApp Sel.ha (pCons Sel.hc (pApp Sel.ha (pCons Sel.hc (pApp Sel.ha pNil)))))))) rfl

theorem k_rollback_Engine_Local {F : Nat} {p0 : T_rollback_Engine} {p0b p0t : Nat} {p0a0 : Option Addr} {p0n0 : Nat} {p0c0 : Nat} {p0B0 : List Blk} {p0a1 : Option Addr} {p0n1 : Nat} {p0c1 : Nat} {p0B1 : List Blk} {p0_4 : T_queue_Queue} {p0_4b p0_4t : Nat} {p0_4a0 : Option Addr} {p0_4n0 : Nat} {p0_4c0 : Nat} {p0_4B0 : List Blk} {p0_5 : T_ring_Ring} {p0_5b p0_5t : Nat} {p0_5g0 : List (T_ring_place × G)} {p0_5P0 : List Blk} {p1 : Int} {r0 : T_rollback_Engine} {r1 : Int} (p0N0 : p0n0 = p0.sure.Shots.length) (p0V0 : Own 92 6 p0a0 p0n0 p0c0 (flat c_T_api_Shot p0.sure.Shots) p0B0) (p0N1 : p0n1 = p0.own.length) (p0V1 : Own 34 1 p0a1 p0n1 p0c1 (flat (e1 .u8) p0.own) p0B1) (p0_4N0 : p0_4n0 = p0_4.l.length) (p0_4V0 : Own 34 1 p0_4a0 p0_4n0 p0_4c0 (flat (e1 .u8) p0_4.l) p0_4B0) (p0_5G0 : p0_5.places.1 = unG p0_5g0) (p0_5A0 : AllP sh_T_ring_place c_T_api_Shot p0_5P0 p0_5g0) (h : m_rollback_Engine_Local F p0 p0_4 p0_5 p1 = some (r0, r1)) :
    SpD Tryd.prog 24 [.pointer (some ⟨p0b, 0, none⟩), .int .u8 p1] (⟨p0b, [.int .u8 p0.player, .int .i64 p0.window, .int .u64 p0.sure.Frame, .int .u64 p0.sure.Seed, .int .i32 p0.sure.Players.1.X, .int .i32 p0.sure.Players.1.Y, .int .i32 p0.sure.Players.1.VX, .int .i32 p0.sure.Players.1.VY, .int .u8 p0.sure.Players.1.Health, .int .u8 p0.sure.Players.1.Cool, .int .u8 p0.sure.Players.1.Face, .int .i32 p0.sure.Players.2.X, .int .i32 p0.sure.Players.2.Y, .int .i32 p0.sure.Players.2.VX, .int .i32 p0.sure.Players.2.VY, .int .u8 p0.sure.Players.2.Health, .int .u8 p0.sure.Players.2.Cool, .int .u8 p0.sure.Players.2.Face, .slice p0a0 p0n0 p0c0, .int .u16 p0.sure.Score.1, .int .u16 p0.sure.Score.2, .slice p0a1 p0n1 p0c1, .pointer (some ⟨p0_4b, 0, none⟩), .pointer (some ⟨p0_5b, 0, none⟩)], p0t, (0, 0)⟩ :: (p0B0 ++ (p0B1 ++ (⟨p0_4b, [.int .u64 p0_4.first_, .slice p0_4a0 p0_4n0 p0_4c0, .int .u8 p0_4.last], p0_4t, (0, 0)⟩ :: (p0_4B0 ++ (⟨p0_5b, ([.int .i64 p0_5.size] ++ flat cg_T_ring_place p0_5g0), p0_5t, (0, 0)⟩ :: (p0_5P0 ++ []))))))) (fun w => True) (fun v D => ∃ (r0a0 : Option Addr) (r0n0 : Nat) (r0c0 : Nat) (r0B0 : List Blk) (r0a1 : Option Addr) (r0n1 : Nat) (r0c1 : Nat) (r0B1 : List Blk), r0n0 = r0.sure.Shots.length ∧ Own 92 6 r0a0 r0n0 r0c0 (flat c_T_api_Shot r0.sure.Shots) r0B0 ∧ r0n1 = r0.own.length ∧ Own 34 1 r0a1 r0n1 r0c1 (flat (e1 .u8) r0.own) r0B1 ∧ v = .int .i64 r1 ∧ D = fun F => (⟨p0b, [.int .u8 r0.player, .int .i64 r0.window, .int .u64 r0.sure.Frame, .int .u64 r0.sure.Seed, .int .i32 r0.sure.Players.1.X, .int .i32 r0.sure.Players.1.Y, .int .i32 r0.sure.Players.1.VX, .int .i32 r0.sure.Players.1.VY, .int .u8 r0.sure.Players.1.Health, .int .u8 r0.sure.Players.1.Cool, .int .u8 r0.sure.Players.1.Face, .int .i32 r0.sure.Players.2.X, .int .i32 r0.sure.Players.2.Y, .int .i32 r0.sure.Players.2.VX, .int .i32 r0.sure.Players.2.VY, .int .u8 r0.sure.Players.2.Health, .int .u8 r0.sure.Players.2.Cool, .int .u8 r0.sure.Players.2.Face, .slice r0a0 r0n0 r0c0, .int .u16 r0.sure.Score.1, .int .u16 r0.sure.Score.2, .slice r0a1 r0n1 r0c1, .pointer (some ⟨p0_4b, 0, none⟩), .pointer (some ⟨p0_5b, 0, none⟩)], p0t, (0, 0)⟩ :: (r0B0 ++ (r0B1 ++ (⟨p0_4b, [.int .u64 p0_4.first_, .slice p0_4a0 p0_4n0 p0_4c0, .int .u8 p0_4.last], p0_4t, (0, 0)⟩ :: (p0_4B0 ++ (⟨p0_5b, ([.int .i64 p0_5.size] ++ flat cg_T_ring_place p0_5g0), p0_5t, (0, 0)⟩ :: (p0_5P0 ++ F)))))))) := by
  unfold m_rollback_Engine_Local at h
  refine sp_of_wc Tryd.func24 rfl Tryd.ntmps24 rfl rfl (fun w0 hR => ?_)
  refine wc_seq (wc_region ?_)
  refine wl_pure tt_ok rfl rfl ?_
  refine wl_nil (wx_then (wc_seq (wc_block (wc_seq (wc_region ?_)))))
  refine wl_pure tt_ok rfl rfl ?_
  replace h := bsome h; obtain ⟨v7, x7, h⟩ := h
  refine wl_cq Tryd.call29 rfl rfl rfl (q_rd (k_rollback_Engine_is (p0 := p0) (p0_4 := p0_4) (p0_5 := p0_5) p0N0 p0V0 p0N1 p0V1 p0_4N0 p0_4V0 p0_5G0 p0_5A0 x7) (pCons Sel.hc (pApp Sel.ha (pApp Sel.ha (pCons Sel.hc (pApp Sel.ha (pCons Sel.hc (pApp Sel.ha pNil))))))) (fun _ _ => trivial)) rfl ?_
  refine wl_pure (v := .bool (!v7)) tt_ok rfl rfl ?_
  refine wl_pure tt_ok rfl rfl ?_
  refine wl_nil (wx_then ?_)
  refine wc_cond rfl (fun hc => ?_) (fun hc => ?_)
  · replace h := ct hc h
    refine wc_seq (wc_region ?_)
    refine wl_pure tt_ok rfl rfl ?_
    refine wl_nil (wx_then (wc_ret (wx_block_ret (wx_then_ret ?_))))
    simp only [Option.some.injEq, Prod.mk.injEq] at h
    obtain ⟨rfl, rfl⟩ := h
    exact wx_spD tt_ok (.inl rfl) Tryd.results24 (Res.tmp rfl Res.nil) ⟨p0a0, p0n0, p0c0, p0B0, p0a1, p0n1, p0c1, p0B1, p0N0, p0V0, p0N1, p0V1, rfl, rfl⟩ (fun F => by simp) (pSub (pCons Sel.hc (pApp Sel.ha (pApp Sel.ha (pCons Sel.hc (pApp Sel.ha (pCons Sel.hc (pApp Sel.ha pNil))))))))
  replace h := cf hc h
  refine wc_seq (wc_region ?_)
  refine wl_pure tt_ok rfl rfl ?_
  replace h := bsome h; obtain ⟨v11, x11, h⟩ := h
  refine wl_cq Tryd.call28 rfl rfl rfl (q_pf (k_input_Legal x11) (fun _ _ => trivial)) rfl ?_
  refine wl_pure (v := .bool (!v11)) tt_ok rfl rfl ?_
  refine wl_pure tt_ok rfl rfl ?_
  refine wl_nil (wx_then ?_)
  refine wc_cond rfl (fun hc => ?_) (fun hc => ?_)
  · replace h := ct hc h
    refine wc_seq (wc_region ?_)
    refine wl_pure tt_ok rfl rfl ?_
    refine wl_nil (wx_then (wc_ret (wx_block_ret (wx_then_ret ?_))))
    simp only [Option.some.injEq, Prod.mk.injEq] at h
    obtain ⟨rfl, rfl⟩ := h
    exact wx_spD tt_ok (.inl rfl) Tryd.results24 (Res.tmp rfl Res.nil) ⟨p0a0, p0n0, p0c0, p0B0, p0a1, p0n1, p0c1, p0B1, p0N0, p0V0, p0N1, p0V1, rfl, rfl⟩ (fun F => by simp) (pSub (pCons Sel.hc (pApp Sel.ha (pApp Sel.ha (pCons Sel.hc (pApp Sel.ha (pCons Sel.hc (pApp Sel.ha pNil))))))))
  replace h := cf hc h
  refine wc_seq ?_
  refine wc_quiet (by kernel_rfl) (by kernel_rfl) ?_
  refine wq_pure tt_ok rfl rfl ?_
  refine wq_pure tt_ok rfl rfl ?_
  refine wq_pure (v := .pointer (some ⟨p0b, 21, none⟩)) tt_ok rfl rfl ?_
  refine wq_val (v := .slice p0a1 p0n1 p0c1) (val_load tt_ok rfl (List.Mem.head _) rfl) rfl ?_
  refine wq_val (v := .int .i64 (p0.own.length : Int)) (val_len tt_ok rfl rfl p0N1) rfl ?_
  refine wq_pure tt_ok rfl rfl ?_
  refine wq_pure tt_ok rfl rfl ?_
  refine wq_pure (v := .pointer (some ⟨p0b, 1, none⟩)) tt_ok rfl rfl ?_
  refine wq_val (v := .int .i64 p0.window) (val_load tt_ok rfl (List.Mem.head _) rfl) rfl ?_
  refine wq_pure (v := .bool (decide (p0.window ≤ (p0.own.length : Int)))) tt_ok rfl rfl ?_
  refine wq_pure tt_ok rfl rfl ?_
  refine wq_nil ?_
  refine wx_then ?_
  refine wc_cond rfl (fun hc => ?_) (fun hc => ?_)
  · replace h := ct hc h
    refine wc_seq (wc_region ?_)
    refine wl_pure tt_ok rfl rfl ?_
    refine wl_nil (wx_then (wc_ret (wx_block_ret (wx_then_ret ?_))))
    simp only [Option.some.injEq, Prod.mk.injEq] at h
    obtain ⟨rfl, rfl⟩ := h
    exact wx_spD tt_ok (.inl rfl) Tryd.results24 (Res.tmp rfl Res.nil) ⟨p0a0, p0n0, p0c0, p0B0, p0a1, p0n1, p0c1, p0B1, p0N0, p0V0, p0N1, p0V1, rfl, rfl⟩ (fun F => by simp) (pSub (pCons Sel.hc (pApp Sel.ha (pApp Sel.ha (pCons Sel.hc (pApp Sel.ha (pCons Sel.hc (pApp Sel.ha pNil))))))))
  replace h := cf hc h
  refine wc_skip (wx_block (wx_then (wc_seq (wc_region ?_))))
  iterate 3 refine wl_pure tt_ok rfl rfl ?_
  refine wl_pure (v := .pointer (some ⟨p0b, 21, none⟩)) tt_ok rfl rfl ?_
  refine wl_val (v := .slice p0a1 p0n1 p0c1) (val_load tt_ok rfl (List.Mem.head _) rfl) rfl ?_
  refine wl_pure tt_ok rfl rfl ?_
  refine wl_chg (chg_bsv (enc := (e1 .u8)) (xs := ([p1] : List Int)) tt_ok rfl rfl rfl rfl rfl rfl rfl rfl (e1_len _)) rfl ?_
  rintro _ _ ⟨a30, n30_, c30, B30, rfl, N30, V30, rfl⟩
  replace h := bsome h; obtain ⟨v31, x31, h⟩ := h
  refine wl_chg (chg_app (enc := (e1 .u8)) (ys := ([p1] : List Int)) tt_ok rfl rfl rfl rfl rfl rfl p0N1 N30 p0V1 (Sel.sa (Sel.sc (Sel.sa Sel.ha))) (Rds.of_vec V30) ⟨_, Sel.ha⟩ (e1_len _) (fun _ => rfl) rfl x31) rfl ?_
  rintro _ _ ⟨a31, n31_, c31, B31, rfl, N31, V31, rfl⟩
  refine wl_pure tt_ok rfl rfl ?_
  refine wl_pure (v := .pointer (some ⟨p0b, 21, none⟩)) tt_ok rfl rfl ?_
  apply wl_store tt_ok; rfl; exact (Upd.right (Upd.right Upd.here)); rfl; rfl; rfl; rfl; rfl; rfl
  refine wl_nil (wx_then (wc_seq (wc_region ?_)))
  refine wl_pure tt_ok rfl rfl ?_
  refine wl_nil (wx_then (wc_ret ?_))
  simp only [Option.some.injEq, Prod.mk.injEq] at h
  obtain ⟨rfl, rfl⟩ := h
  exact wx_spD tt_ok (.inl rfl) Tryd.results24 (Res.tmp rfl Res.nil) ⟨p0a0, p0n0, p0c0, p0B0, a31, n31_, c31, B31, p0N0, p0V0, N31, V31, rfl, rfl⟩ (fun F => by simp) (pSub (pCons (Sel.sa (Sel.sa Sel.hc)) (pApp (Sel.sa (Sel.sa Sel.ha)) (pApp Sel.ha (pCons (Sel.sa Sel.hc) (pApp (Sel.sa Sel.ha) (pCons (Sel.sa Sel.hc) (pApp (Sel.sa Sel.ha) pNil))))))))

end Go.Proofs.YtkdbpenjkcjimaaDoor
