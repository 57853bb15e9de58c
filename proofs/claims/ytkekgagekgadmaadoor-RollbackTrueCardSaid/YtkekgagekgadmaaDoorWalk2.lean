/-
  Each function computes what its model says. Printed by a program of this claim's own.
-/
import Derived.Test.YtkekgagekgadmaaDoorTab
import Derived.Test.YtkekgagekgadmaaDoorMod
import Derived.Test.YtkekgagekgadmaaDoorWalk1
namespace Go.Proofs.YtkekgagekgadmaaDoor
open Go.Proofs.YtkekgagekgadmaaDoor.Eng
set_option linter.unusedVariables false
set_option linter.unusedSimpArgs false
set_option maxHeartbeats 4000000
set_option maxRecDepth 20000

theorem k_step_moved {F : Nat} {p0 : T_api_Player} {r0 : T_api_Player} (h : m_step_moved F p0 = some r0) :
    Pf Tryd.prog 57 [.agg #[.int .i32 p0.X, .int .i32 p0.Y, .int .i32 p0.VX, .int .i32 p0.VY, .int .u8 p0.Health, .int .u8 p0.Cool, .int .u8 p0.Face]] (fun w => True) (.agg #[.int .i32 r0.X, .int .i32 r0.Y, .int .i32 r0.VX, .int .i32 r0.VY, .int .u8 r0.Health, .int .u8 r0.Cool, .int .u8 r0.Face]) := by
  unfold m_step_moved at h
  refine pf_of_wc Tryd.func57 rfl Tryd.ntmps57 rfl rfl (fun w0 hR => ?_)
  refine wc_seq (wc_region (wl_box rfl rfl rfl (fun b1 => (wl_alloc tt_ok rfl rfl (fun b2 => (wl_nil (wx_then (wc_seq (wc_region (wP (v := .pointer (some ⟨b1, 0, none⟩)) rfl rfl (wl_val (v := .int .i32 p0.X) (val_load tt_ok rfl (mT (mH)) rfl) rfl (wP (v := .pointer (some ⟨b1, 2, none⟩)) rfl rfl (wl_val (v := .int .i32 p0.VX) (val_load tt_ok rfl (mT (mH)) rfl) rfl ?_)))))))))))))
  replace h := bsome h; obtain ⟨⟨zc, zd⟩, x8, h⟩ := h; try dsimp only at h
  refine wl_cq Tryd.call69 rfl rfl rfl (q_pf (k_geom_Move x8) (fun _ _ => trivial)) rfl ?_
  iterate 3 refine wP rfl rfl ?_
  refine wP (v := .pointer (some ⟨b1, 0, none⟩)) rfl rfl ?_
  apply wl_store tt_ok; rfl; exact (Upd.there Upd.here); rfl; rfl; rfl; rfl; rfl; rfl
  refine wP (v := .pointer (some ⟨b1, 2, none⟩)) rfl rfl ?_
  apply wl_store tt_ok; rfl; exact (Upd.there Upd.here); rfl; rfl; rfl; rfl; rfl; rfl
  refine wl_nil (wx_then (wc_seq (wc_region (wP (v := .pointer (some ⟨b1, 1, none⟩)) rfl rfl (wl_val (v := .int .i32 p0.Y) (val_load tt_ok rfl (mT (mH)) rfl) rfl (wP (v := .pointer (some ⟨b1, 3, none⟩)) rfl rfl (wl_val (v := .int .i32 p0.VY) (val_load tt_ok rfl (mT (mH)) rfl) rfl ?_)))))))
  replace h := bsome h; obtain ⟨⟨za, zb⟩, x18, h⟩ := h; try dsimp only at h
  refine wl_cq Tryd.call69 rfl rfl rfl (q_pf (k_geom_Move x18) (fun _ _ => trivial)) rfl ?_
  iterate 3 refine wP rfl rfl ?_
  refine wP (v := .pointer (some ⟨b1, 1, none⟩)) rfl rfl ?_
  apply wl_store tt_ok; rfl; exact (Upd.there Upd.here); rfl; rfl; rfl; rfl; rfl; rfl
  refine wP (v := .pointer (some ⟨b1, 3, none⟩)) rfl rfl ?_
  apply wl_store tt_ok; rfl; exact (Upd.there Upd.here); rfl; rfl; rfl; rfl; rfl; rfl
  refine wl_nil (wx_then (wc_seq (wc_region (wl_val (v := .agg #[.int .i32 zc, .int .i32 za, .int .i32 zd, .int .i32 zb, .int .u8 p0.Health, .int .u8 p0.Cool, .int .u8 p0.Face]) (val_load tt_ok rfl (mT (mH)) rfl) rfl ?_))))
  apply wl_store tt_ok; rfl; exact Upd.here; rfl; rfl; rfl; rfl; rfl; rfl
  refine wl_nil (wx_then (wc_ret ?_))
  obtain rfl := sI h
  exact wx_pf tt_ok (.inl rfl) Tryd.results57 (Res.cell rfl (mH) rfl Res.nil) rfl

theorem k_step_box {F : Nat} {p0 : T_api_Player} {r0 : T_api_Box} (h : m_step_box F p0 = some r0) :
    Pf Tryd.prog 59 [.agg #[.int .i32 p0.X, .int .i32 p0.Y, .int .i32 p0.VX, .int .i32 p0.VY, .int .u8 p0.Health, .int .u8 p0.Cool, .int .u8 p0.Face]] (fun w => True) (.agg #[.int .i32 r0.X, .int .i32 r0.Y, .int .i32 r0.W, .int .i32 r0.H]) := by
  unfold m_step_box at h
  refine pf_of_wc Tryd.func59 rfl Tryd.ntmps59 rfl rfl (fun w0 hR => ?_)
  refine wc_seq (wc_region (wl_box rfl rfl rfl (fun b1 => (wl_alloc tt_ok rfl rfl (fun b2 => (wl_nil (wx_then (wc_seq (wc_region (wP (v := .pointer (some ⟨b1, 0, none⟩)) rfl rfl (wl_val (v := .int .i32 p0.X) (val_load tt_ok rfl (mT (mH)) rfl) rfl (wP (v := .pointer (some ⟨b1, 1, none⟩)) rfl rfl (wl_val (v := .int .i32 p0.Y) (val_load tt_ok rfl (mT (mH)) rfl) rfl (wP (v := .agg #[.int .i32 p0.X, .int .i32 p0.Y, .int .i32 (4096 : Int), .int .i32 (4096 : Int)]) rfl rfl ?_))))))))))))))
  apply wl_store tt_ok; rfl; exact Upd.here; rfl; rfl; rfl; rfl; rfl; rfl
  refine wl_nil (wx_then (wc_ret ?_))
  obtain rfl := sI h
  exact wx_pf tt_ok (.inl rfl) Tryd.results59 (Res.cell rfl (mH) rfl Res.nil) rfl

theorem k_geom_of {F : Nat} {p0 : Int} {p1 : Int} {r0 : T_geom_row} (h : m_geom_of F p0 p1 = some r0) :
    Pf Tryd.prog 78 [.int .i32 p0, .int .i32 p1] (fun w => True) (.agg #[.int .i64 r0.from_, .int .i64 r0.to_]) := by
  unfold m_geom_of at h
  refine pf_of_wc Tryd.func78 rfl Tryd.ntmps78 rfl rfl (fun w0 hR => ?_)
  refine wc_seq (wc_region (wl_alloc tt_ok rfl rfl (fun b4 => (wl_nil (wx_then (wc_seq (wc_region (wP rfl rfl (wP (v := .int .i64 (IntKind.wrap .i64 p0)) rfl rfl (wP rfl rfl (wP (v := .int .i64 (IntKind.wrap .i64 p0)) rfl rfl (wP rfl rfl (wP (v := .int .i32 (max (0 : Int) p1)) rfl rfl (wP (v := .int .i64 (IntKind.wrap .i64 (max (0 : Int) p1))) rfl rfl (wP (v := .int .i64 (IntKind.wrap .i64 ((IntKind.wrap .i64 p0) + (IntKind.wrap .i64 (max (0 : Int) p1))))) rfl rfl (wP (v := .agg #[.int .i64 (IntKind.wrap .i64 p0), .int .i64 (IntKind.wrap .i64 ((IntKind.wrap .i64 p0) + (IntKind.wrap .i64 (max (0 : Int) p1))))]) rfl rfl ?_))))))))))))))))
  apply wl_store tt_ok; rfl; exact Upd.here; rfl; rfl; rfl; rfl; rfl; rfl
  refine wl_nil (wx_then (wc_ret ?_))
  obtain rfl := sI h
  exact wx_pf tt_ok (.inl rfl) Tryd.results78 (Res.cell rfl (mH) rfl Res.nil) rfl

theorem k_geom_rows {F : Nat} {p0 : T_api_Box} {r0 : T_geom_row} {r1 : T_geom_row} (h : m_geom_rows F p0 = some (r0, r1)) :
    Pf Tryd.prog 75 [.agg #[.int .i32 p0.X, .int .i32 p0.Y, .int .i32 p0.W, .int .i32 p0.H]] (fun w => True) (.tuple #[.agg #[.int .i64 r0.from_, .int .i64 r0.to_], .agg #[.int .i64 r1.from_, .int .i64 r1.to_]]) := by
  unfold m_geom_rows at h
  refine pf_of_wc Tryd.func75 rfl Tryd.ntmps75 rfl rfl (fun w0 hR => ?_)
  refine wc_seq (wc_region (wl_box rfl rfl rfl (fun b1 => (wl_alloc tt_ok rfl rfl (fun b2 => (wl_alloc tt_ok rfl rfl (fun b3 => (wl_nil (wx_then (wc_seq (wc_k2 (Ls := (⟨b3, [.int .i64 (0 : Int), .int .i64 (0 : Int)], 127, (0, 0)⟩ :: (⟨b2, [.int .i64 (0 : Int), .int .i64 (0 : Int)], 127, (0, 0)⟩ :: (⟨b1, [.int .i32 p0.X, .int .i32 p0.Y, .int .i32 p0.W, .int .i32 p0.H], 111, (0, 0)⟩ :: [])))) [4, 9, 10, 11] [9, 10, 11] [0, 1, 0, 4, 15, 0, 32, 0, 128, 511, 1023, 2047] [0, 1, 2, 3, 5, 6, 7, 8, 4, 9, 10, 11] (by kernel_rfl) (by kernel_rfl) (by kernel_rfl) (k_val (v := .pointer (some ⟨b1, 0, none⟩)) rfl rfl rfl (pSub (pH (pH (pH pNil)))) (stepV_ok tt_ok rfl) rfl ?_))))))))))))
  refine k_val (v := .int .i32 p0.X) rfl rfl rfl (pSub (pH (pH (pH pNil)))) (val_load tt_ok rfl (mT (mT (mH))) rfl) rfl ?_
  refine k_val (v := .pointer (some ⟨b1, 2, none⟩)) rfl rfl rfl (pSub (pH (pH (pH pNil)))) (stepV_ok tt_ok rfl) rfl ?_
  refine k_val (v := .int .i32 p0.W) rfl rfl rfl (pSub (pH (pH (pH pNil)))) (val_load tt_ok rfl (mT (mT (mH))) rfl) rfl ?_
  refine k_val (v := .pointer (some ⟨b1, 1, none⟩)) rfl rfl rfl (pSub (pH (pH (pH pNil)))) (stepV_ok tt_ok rfl) rfl ?_
  refine k_val (v := .int .i32 p0.Y) rfl rfl rfl (pSub (pH (pH (pH pNil)))) (val_load tt_ok rfl (mT (mT (mH))) rfl) rfl ?_
  refine k_val (v := .pointer (some ⟨b1, 3, none⟩)) rfl rfl rfl (pSub (pH (pH (pH pNil)))) (stepV_ok tt_ok rfl) rfl ?_
  refine k_val (v := .int .i32 p0.H) rfl rfl rfl (pSub (pH (pH (pH pNil)))) (val_load tt_ok rfl (mT (mT (mH))) rfl) rfl ?_
  replace h := bsome h; obtain ⟨v8, x8, h⟩ := h
  refine k_cq rfl rfl rfl Tryd.call78 rfl rfl rfl (q_pf (k_geom_of x8) (fun _ _ => trivial)) rfl (pSub (pH (pH (pH pNil)))) ?_
  replace h := bsome h; obtain ⟨v13, x13, h⟩ := h
  refine k_cq rfl rfl rfl Tryd.call78 rfl rfl rfl (q_pf (k_geom_of x13) (fun _ _ => trivial)) rfl (pSub (pH (pH (pH pNil)))) ?_
  refine k_chg0 rfl rfl rfl (chg_store tt_ok rfl (Upd.there Upd.here) rfl rfl rfl rfl rfl rfl) (.inl rfl) ?_
  rintro _ _ rfl
  refine k_chg0 rfl rfl rfl (chg_store tt_ok rfl Upd.here rfl rfl rfl rfl rfl rfl) (.inl rfl) ?_
  rintro _ _ rfl
  refine k_end (by kernel_rfl) ?_
  refine wx_then (wc_ret ?_)
  simp only [Option.some.injEq, Prod.mk.injEq] at h
  obtain ⟨rfl, rfl⟩ := h
  exact wx_pf tt_ok (.inl rfl) Tryd.results75 (Res.cell rfl (mT (mH)) rfl (Res.cell rfl (mH) rfl Res.nil)) rfl

theorem k_geom_row_over {F : Nat} {p0 : T_geom_row} {p1 : T_geom_row} {r0 : Bool} (h : m_geom_row_over F p0 p1 = some r0) :
    Pf Tryd.prog 71 [.agg #[.int .i64 p0.from_, .int .i64 p0.to_], .agg #[.int .i64 p1.from_, .int .i64 p1.to_]] (fun w => True) (.bool r0) := by
  unfold m_geom_row_over at h
  refine pf_of_wc Tryd.func71 rfl Tryd.ntmps71 rfl rfl (fun w0 hR => ?_)
  refine wc_seq (wc_region (wl_box rfl rfl rfl (fun b2 => (wl_box rfl rfl rfl (fun b3 => (wP rfl rfl (wl_nil (wx_then (wc_seq (wc_region (wP (v := .pointer (some ⟨b2, 0, none⟩)) rfl rfl (wl_val (v := .int .i64 p0.from_) (val_load tt_ok rfl (mT (mH)) rfl) rfl (wP (v := .pointer (some ⟨b3, 0, none⟩)) rfl rfl (wl_val (v := .int .i64 p1.from_) (val_load tt_ok rfl (mH) rfl) rfl (wP (v := .int .i64 (max p0.from_ p1.from_)) rfl rfl (wP (v := .pointer (some ⟨b2, 1, none⟩)) rfl rfl (wl_val (v := .int .i64 p0.to_) (val_load tt_ok rfl (mT (mH)) rfl) rfl (wP (v := .pointer (some ⟨b3, 1, none⟩)) rfl rfl ?_))))))))))))))))))
  refine wl_val (v := .int .i64 p1.to_) (val_load tt_ok rfl (mH) rfl) rfl ?_
  refine wP (v := .int .i64 (min p0.to_ p1.to_)) rfl rfl (wP (v := .bool (decide ((max p0.from_ p1.from_) < (min p0.to_ p1.to_)))) rfl rfl (wP rfl rfl (wl_nil (wx_then (wc_ret ?_)))))
  obtain rfl := sI h
  exact wx_pf tt_ok (.inl rfl) Tryd.results71 (Res.tmp rfl Res.nil) rfl

theorem k_geom_both_f2_geom_row_over {F : Nat} {p0 : T_api_Box} {p1 : T_api_Box} {r0 : Bool} (h : m_geom_both_f2_geom_row_over F p0 p1 = some r0) :
    Pf Tryd.prog 70 [.agg #[.int .i32 p0.X, .int .i32 p0.Y, .int .i32 p0.W, .int .i32 p0.H], .agg #[.int .i32 p1.X, .int .i32 p1.Y, .int .i32 p1.W, .int .i32 p1.H], .func (.func 71) #[] #[]] (fun w => True) (.bool r0) := by
  unfold m_geom_both_f2_geom_row_over at h
  refine pf_of_wc Tryd.func70 rfl Tryd.ntmps70 rfl rfl (fun w0 hR => ?_)
  refine wc_seq (wc_region (wl_box rfl rfl rfl (fun b3 => (wl_box rfl rfl rfl (fun b4 => (wP rfl rfl (wl_nil (wx_then (wc_seq (wc_region (wl_val (v := .agg #[.int .i32 p0.X, .int .i32 p0.Y, .int .i32 p0.W, .int .i32 p0.H]) (val_load tt_ok rfl (mT (mH)) rfl) rfl ?_)))))))))))
  replace h := bsome h; obtain ⟨⟨za, zb⟩, x13, h⟩ := h; try dsimp only at h
  refine wl_cq Tryd.call75 rfl rfl rfl (q_pf (k_geom_rows x13) (fun _ _ => trivial)) rfl ?_
  iterate 3 refine wP rfl rfl ?_
  refine wl_alloc tt_ok rfl rfl (fun b7 => ?_)
  refine wl_alloc tt_ok rfl rfl (fun b8 => ?_)
  apply wl_store tt_ok; rfl; exact (Upd.there Upd.here); rfl; rfl; rfl; rfl; rfl; rfl
  apply wl_store tt_ok; rfl; exact Upd.here; rfl; rfl; rfl; rfl; rfl; rfl
  refine wl_nil (wx_then (wc_seq (wc_region (wl_val (v := .agg #[.int .i32 p1.X, .int .i32 p1.Y, .int .i32 p1.W, .int .i32 p1.H]) (val_load tt_ok rfl (mT (mT (mH))) rfl) rfl ?_))))
  replace h := bsome h; obtain ⟨⟨zc, zd⟩, x18, h⟩ := h; try dsimp only at h
  refine wl_cq Tryd.call75 rfl rfl rfl (q_pf (k_geom_rows x18) (fun _ _ => trivial)) rfl ?_
  iterate 3 refine wP rfl rfl ?_
  refine wl_alloc tt_ok rfl rfl (fun b9 => ?_)
  refine wl_alloc tt_ok rfl rfl (fun b10 => ?_)
  apply wl_store tt_ok; rfl; exact (Upd.there Upd.here); rfl; rfl; rfl; rfl; rfl; rfl
  apply wl_store tt_ok; rfl; exact Upd.here; rfl; rfl; rfl; rfl; rfl; rfl
  refine wl_nil (wx_then (wc_seq (wc_region (wP rfl rfl (wl_val (v := .agg #[.int .i64 za.from_, .int .i64 za.to_]) (val_load tt_ok rfl (mT (mT (mT (mH)))) rfl) rfl (wl_val (v := .agg #[.int .i64 zc.from_, .int .i64 zc.to_]) (val_load tt_ok rfl (mT (mH)) rfl) rfl ?_))))))
  replace h := bsome h; obtain ⟨v24, x24, h⟩ := h
  refine wl_cq Tryd.call71 rfl rfl rfl (q_pf (k_geom_row_over x24) (fun _ _ => trivial)) rfl ?_
  refine wP rfl rfl ?_
  replace h := bsome h; obtain ⟨v30, h, hg30⟩ := h
  refine wl_split (t := 25) rfl (fun hc => ?_) (fun hc => ?_)
  · replace h := ct hc h
    refine wl_run rfl (wP rfl rfl (wl_run rfl (wl_val (v := .agg #[.int .i64 zb.from_, .int .i64 zb.to_]) (val_load tt_ok rfl (mT (mT (mH))) rfl) rfl (wl_run rfl (wl_val (v := .agg #[.int .i64 zd.from_, .int .i64 zd.to_]) (val_load tt_ok rfl (mH) rfl) rfl ?_)))))
    replace h := bsome h; obtain ⟨v29, x29, h⟩ := h
    refine wl_run rfl (wl_cq Tryd.call71 rfl rfl rfl (q_pf (k_geom_row_over x29) (fun _ _ => trivial)) rfl ?_)
    obtain rfl := sI h
    have h := hg30; clear hg30
    refine wP (v := .bool v29) rfl rfl (wP rfl rfl (wl_nil (wx_then (wc_ret ?_))))
    obtain rfl := sI h
    exact wx_pf tt_ok (.inl rfl) Tryd.results70 (Res.tmp rfl Res.nil) rfl
  replace h := cf hc h
  refine wl_skip rfl rfl (wl_skip rfl rfl (wl_skip rfl rfl (wl_skip rfl rfl ?_)))
  obtain rfl := sI h
  have h := hg30; clear hg30
  refine wP (v := .bool false) rfl rfl (wP rfl rfl (wl_nil (wx_then (wc_ret ?_))))
  obtain rfl := sI h
  exact wx_pf tt_ok (.inl rfl) Tryd.results70 (Res.tmp rfl Res.nil) rfl

theorem k_geom_Over {F : Nat} {p0 : T_api_Box} {p1 : T_api_Box} {r0 : Bool} (h : m_geom_Over F p0 p1 = some r0) :
    Pf Tryd.prog 58 [.agg #[.int .i32 p0.X, .int .i32 p0.Y, .int .i32 p0.W, .int .i32 p0.H], .agg #[.int .i32 p1.X, .int .i32 p1.Y, .int .i32 p1.W, .int .i32 p1.H]] (fun w => True) (.bool r0) := by
  unfold m_geom_Over at h
  refine pf_of_wc Tryd.func58 rfl Tryd.ntmps58 rfl rfl (fun w0 hR => ?_)
  refine wc_seq (wc_region (wl_box rfl rfl rfl (fun b2 => (wl_box rfl rfl rfl (fun b3 => (wP rfl rfl (wl_nil (wx_then (wc_seq (wc_region (wl_val (v := .agg #[.int .i32 p0.X, .int .i32 p0.Y, .int .i32 p0.W, .int .i32 p0.H]) (val_load tt_ok rfl (mT (mH)) rfl) rfl (wl_val (v := .agg #[.int .i32 p1.X, .int .i32 p1.Y, .int .i32 p1.W, .int .i32 p1.H]) (val_load tt_ok rfl (mH) rfl) rfl ?_))))))))))))
  replace h := bsome h; obtain ⟨v7, x7, h⟩ := h
  refine wl_cq Tryd.call70 rfl rfl rfl (q_pf (k_geom_both_f2_geom_row_over x7) (fun _ _ => trivial)) rfl ?_
  refine wP rfl rfl (wl_nil (wx_then (wc_ret ?_)))
  obtain rfl := sI h
  exact wx_pf tt_ok (.inl rfl) Tryd.results58 (Res.tmp rfl Res.nil) rfl

theorem k_step_stopped {F : Nat} {p0 : T_api_Player} {r0 : T_api_Player} (h : m_step_stopped F p0 = some r0) :
    Pf Tryd.prog 60 [.agg #[.int .i32 p0.X, .int .i32 p0.Y, .int .i32 p0.VX, .int .i32 p0.VY, .int .u8 p0.Health, .int .u8 p0.Cool, .int .u8 p0.Face]] (fun w => True) (.agg #[.int .i32 r0.X, .int .i32 r0.Y, .int .i32 r0.VX, .int .i32 r0.VY, .int .u8 r0.Health, .int .u8 r0.Cool, .int .u8 r0.Face]) := by
  unfold m_step_stopped at h
  refine pf_of_wc Tryd.func60 rfl Tryd.ntmps60 rfl rfl (fun w0 hR => ?_)
  refine wc_seq (wc_region (wl_box rfl rfl rfl (fun b1 => (wl_alloc tt_ok rfl rfl (fun b2 => (wl_nil (wx_then (wc_seq (wc_region (wP (v := .pointer (some ⟨b1, 2, none⟩)) rfl rfl ?_))))))))))
  apply wl_store tt_ok; rfl; exact (Upd.there Upd.here); rfl; rfl; rfl; rfl; rfl; rfl
  refine wP (v := .pointer (some ⟨b1, 3, none⟩)) rfl rfl ?_
  apply wl_store tt_ok; rfl; exact (Upd.there Upd.here); rfl; rfl; rfl; rfl; rfl; rfl
  refine wl_nil (wx_then (wc_seq (wc_region (wl_val (v := .agg #[.int .i32 p0.X, .int .i32 p0.Y, .int .i32 (0 : Int), .int .i32 (0 : Int), .int .u8 p0.Health, .int .u8 p0.Cool, .int .u8 p0.Face]) (val_load tt_ok rfl (mT (mH)) rfl) rfl ?_))))
  apply wl_store tt_ok; rfl; exact Upd.here; rfl; rfl; rfl; rfl; rfl; rfl
  refine wl_nil (wx_then (wc_ret ?_))
  obtain rfl := sI h
  exact wx_pf tt_ok (.inl rfl) Tryd.results60 (Res.cell rfl (mH) rfl Res.nil) rfl

theorem k_geom_row_inside {F : Nat} {p0 : T_geom_row} {p1 : T_geom_row} {r0 : Bool} (h : m_geom_row_inside F p0 p1 = some r0) :
    Pf Tryd.prog 76 [.agg #[.int .i64 p0.from_, .int .i64 p0.to_], .agg #[.int .i64 p1.from_, .int .i64 p1.to_]] (fun w => True) (.bool r0) := by
  unfold m_geom_row_inside at h
  refine pf_of_wc Tryd.func76 rfl Tryd.ntmps76 rfl rfl (fun w0 hR => ?_)
  refine wc_seq (wc_region (wl_box rfl rfl rfl (fun b2 => (wl_box rfl rfl rfl (fun b3 => (wP rfl rfl (wl_nil (wx_then (wc_seq (wc_region (wP (v := .pointer (some ⟨b2, 0, none⟩)) rfl rfl (wl_val (v := .int .i64 p0.from_) (val_load tt_ok rfl (mT (mH)) rfl) rfl (wP (v := .pointer (some ⟨b2, 1, none⟩)) rfl rfl (wl_val (v := .int .i64 p0.to_) (val_load tt_ok rfl (mT (mH)) rfl) rfl (wP (v := .bool (decide (p0.from_ < p0.to_))) rfl rfl (wP rfl rfl ?_))))))))))))))))
  replace h := bsome h; obtain ⟨v16, h, hg16⟩ := h
  refine wl_split (t := 10) rfl (fun hc => ?_) (fun hc => ?_)
  · replace h := ct hc h
    refine wl_run rfl (wP (v := .pointer (some ⟨b2, 0, none⟩)) rfl rfl (wl_run rfl (wl_val (v := .int .i64 p0.from_) (val_load tt_ok rfl (mT (mH)) rfl) rfl (wl_run rfl (wP (v := .pointer (some ⟨b3, 0, none⟩)) rfl rfl (wl_run rfl (wl_val (v := .int .i64 p1.from_) (val_load tt_ok rfl (mH) rfl) rfl (wl_run rfl (wP (v := .bool (decide (p1.from_ ≤ p0.from_))) rfl rfl ?_)))))))))
    obtain rfl := sI h
    have h := hg16; clear hg16
    refine wP (v := .bool (decide (p1.from_ ≤ p0.from_))) rfl rfl (wP rfl rfl ?_)
    replace h := bsome h; obtain ⟨v23, h, hg23⟩ := h
    refine wl_split (t := 17) rfl (fun hc => ?_) (fun hc => ?_)
    · replace h := ct hc h
      refine wl_run rfl (wP (v := .pointer (some ⟨b2, 1, none⟩)) rfl rfl (wl_run rfl (wl_val (v := .int .i64 p0.to_) (val_load tt_ok rfl (mT (mH)) rfl) rfl (wl_run rfl (wP (v := .pointer (some ⟨b3, 1, none⟩)) rfl rfl (wl_run rfl (wl_val (v := .int .i64 p1.to_) (val_load tt_ok rfl (mH) rfl) rfl (wl_run rfl (wP (v := .bool (decide (p0.to_ ≤ p1.to_))) rfl rfl ?_)))))))))
      obtain rfl := sI h
      have h := hg23; clear hg23
      refine wP (v := .bool (decide (p0.to_ ≤ p1.to_))) rfl rfl (wP rfl rfl (wl_nil (wx_then (wc_ret ?_))))
      obtain rfl := sI h
      exact wx_pf tt_ok (.inl rfl) Tryd.results76 (Res.tmp rfl Res.nil) rfl
    replace h := cf hc h
    refine wl_skip rfl rfl (wl_skip rfl rfl (wl_skip rfl rfl (wl_skip rfl rfl (wl_skip rfl rfl ?_))))
    obtain rfl := sI h
    have h := hg23; clear hg23
    refine wP (v := .bool false) rfl rfl (wP rfl rfl (wl_nil (wx_then (wc_ret ?_))))
    obtain rfl := sI h
    exact wx_pf tt_ok (.inl rfl) Tryd.results76 (Res.tmp rfl Res.nil) rfl
  replace h := cf hc h
  refine wl_skip rfl rfl (wl_skip rfl rfl (wl_skip rfl rfl (wl_skip rfl rfl (wl_skip rfl rfl ?_))))
  obtain rfl := sI h
  have h := hg16; clear hg16
  refine wP (v := .bool false) rfl rfl (wP rfl rfl ?_)
  replace h := bsome h; obtain ⟨v23, h, hg23⟩ := h
  replace h := cf rfl h
  refine wl_skip rfl rfl (wl_skip rfl rfl (wl_skip rfl rfl (wl_skip rfl rfl (wl_skip rfl rfl ?_))))
  obtain rfl := sI h
  have h := hg23; clear hg23
  refine wP (v := .bool false) rfl rfl (wP rfl rfl (wl_nil (wx_then (wc_ret ?_))))
  obtain rfl := sI h
  exact wx_pf tt_ok (.inl rfl) Tryd.results76 (Res.tmp rfl Res.nil) rfl

theorem k_geom_both_f2_geom_row_inside {F : Nat} {p0 : T_api_Box} {p1 : T_api_Box} {r0 : Bool} (h : m_geom_both_f2_geom_row_inside F p0 p1 = some r0) :
    Pf Tryd.prog 70 [.agg #[.int .i32 p0.X, .int .i32 p0.Y, .int .i32 p0.W, .int .i32 p0.H], .agg #[.int .i32 p1.X, .int .i32 p1.Y, .int .i32 p1.W, .int .i32 p1.H], .func (.func 76) #[] #[]] (fun w => True) (.bool r0) := by
  unfold m_geom_both_f2_geom_row_inside at h
  refine pf_of_wc Tryd.func70 rfl Tryd.ntmps70 rfl rfl (fun w0 hR => ?_)
  refine wc_seq (wc_region (wl_box rfl rfl rfl (fun b3 => (wl_box rfl rfl rfl (fun b4 => (wP rfl rfl (wl_nil (wx_then (wc_seq (wc_region (wl_val (v := .agg #[.int .i32 p0.X, .int .i32 p0.Y, .int .i32 p0.W, .int .i32 p0.H]) (val_load tt_ok rfl (mT (mH)) rfl) rfl ?_)))))))))))
  replace h := bsome h; obtain ⟨⟨za, zb⟩, x13, h⟩ := h; try dsimp only at h
  refine wl_cq Tryd.call75 rfl rfl rfl (q_pf (k_geom_rows x13) (fun _ _ => trivial)) rfl ?_
  iterate 3 refine wP rfl rfl ?_
  refine wl_alloc tt_ok rfl rfl (fun b7 => ?_)
  refine wl_alloc tt_ok rfl rfl (fun b8 => ?_)
  apply wl_store tt_ok; rfl; exact (Upd.there Upd.here); rfl; rfl; rfl; rfl; rfl; rfl
  apply wl_store tt_ok; rfl; exact Upd.here; rfl; rfl; rfl; rfl; rfl; rfl
  refine wl_nil (wx_then (wc_seq (wc_region (wl_val (v := .agg #[.int .i32 p1.X, .int .i32 p1.Y, .int .i32 p1.W, .int .i32 p1.H]) (val_load tt_ok rfl (mT (mT (mH))) rfl) rfl ?_))))
  replace h := bsome h; obtain ⟨⟨zc, zd⟩, x18, h⟩ := h; try dsimp only at h
  refine wl_cq Tryd.call75 rfl rfl rfl (q_pf (k_geom_rows x18) (fun _ _ => trivial)) rfl ?_
  iterate 3 refine wP rfl rfl ?_
  refine wl_alloc tt_ok rfl rfl (fun b9 => ?_)
  refine wl_alloc tt_ok rfl rfl (fun b10 => ?_)
  apply wl_store tt_ok; rfl; exact (Upd.there Upd.here); rfl; rfl; rfl; rfl; rfl; rfl
  apply wl_store tt_ok; rfl; exact Upd.here; rfl; rfl; rfl; rfl; rfl; rfl
  refine wl_nil (wx_then (wc_seq (wc_region (wP rfl rfl (wl_val (v := .agg #[.int .i64 za.from_, .int .i64 za.to_]) (val_load tt_ok rfl (mT (mT (mT (mH)))) rfl) rfl (wl_val (v := .agg #[.int .i64 zc.from_, .int .i64 zc.to_]) (val_load tt_ok rfl (mT (mH)) rfl) rfl ?_))))))
  replace h := bsome h; obtain ⟨v24, x24, h⟩ := h
  refine wl_cq Tryd.call76 rfl rfl rfl (q_pf (k_geom_row_inside x24) (fun _ _ => trivial)) rfl ?_
  refine wP rfl rfl ?_
  replace h := bsome h; obtain ⟨v30, h, hg30⟩ := h
  refine wl_split (t := 25) rfl (fun hc => ?_) (fun hc => ?_)
  · replace h := ct hc h
    refine wl_run rfl (wP rfl rfl (wl_run rfl (wl_val (v := .agg #[.int .i64 zb.from_, .int .i64 zb.to_]) (val_load tt_ok rfl (mT (mT (mH))) rfl) rfl (wl_run rfl (wl_val (v := .agg #[.int .i64 zd.from_, .int .i64 zd.to_]) (val_load tt_ok rfl (mH) rfl) rfl ?_)))))
    replace h := bsome h; obtain ⟨v29, x29, h⟩ := h
    refine wl_run rfl (wl_cq Tryd.call76 rfl rfl rfl (q_pf (k_geom_row_inside x29) (fun _ _ => trivial)) rfl ?_)
    obtain rfl := sI h
    have h := hg30; clear hg30
    refine wP (v := .bool v29) rfl rfl (wP rfl rfl (wl_nil (wx_then (wc_ret ?_))))
    obtain rfl := sI h
    exact wx_pf tt_ok (.inl rfl) Tryd.results70 (Res.tmp rfl Res.nil) rfl
  replace h := cf hc h
  refine wl_skip rfl rfl (wl_skip rfl rfl (wl_skip rfl rfl (wl_skip rfl rfl ?_)))
  obtain rfl := sI h
  have h := hg30; clear hg30
  refine wP (v := .bool false) rfl rfl (wP rfl rfl (wl_nil (wx_then (wc_ret ?_))))
  obtain rfl := sI h
  exact wx_pf tt_ok (.inl rfl) Tryd.results70 (Res.tmp rfl Res.nil) rfl

theorem k_geom_Inside {F : Nat} {p0 : T_api_Box} {p1 : T_api_Box} {r0 : Bool} (h : m_geom_Inside F p0 p1 = some r0) :
    Pf Tryd.prog 72 [.agg #[.int .i32 p0.X, .int .i32 p0.Y, .int .i32 p0.W, .int .i32 p0.H], .agg #[.int .i32 p1.X, .int .i32 p1.Y, .int .i32 p1.W, .int .i32 p1.H]] (fun w => True) (.bool r0) := by
  unfold m_geom_Inside at h
  refine pf_of_wc Tryd.func72 rfl Tryd.ntmps72 rfl rfl (fun w0 hR => ?_)
  refine wc_seq (wc_region (wl_box rfl rfl rfl (fun b2 => (wl_box rfl rfl rfl (fun b3 => (wP rfl rfl (wl_nil (wx_then (wc_seq (wc_region (wl_val (v := .agg #[.int .i32 p0.X, .int .i32 p0.Y, .int .i32 p0.W, .int .i32 p0.H]) (val_load tt_ok rfl (mT (mH)) rfl) rfl (wl_val (v := .agg #[.int .i32 p1.X, .int .i32 p1.Y, .int .i32 p1.W, .int .i32 p1.H]) (val_load tt_ok rfl (mH) rfl) rfl ?_))))))))))))
  replace h := bsome h; obtain ⟨v7, x7, h⟩ := h
  refine wl_cq Tryd.call70 rfl rfl rfl (q_pf (k_geom_both_f2_geom_row_inside x7) (fun _ _ => trivial)) rfl ?_
  refine wP rfl rfl (wl_nil (wx_then (wc_ret ?_)))
  obtain rfl := sI h
  exact wx_pf tt_ok (.inl rfl) Tryd.results72 (Res.tmp rfl Res.nil) rfl

theorem k_step_fly {F : Nat} {p0 : T_api_State} {p0b p0t : Nat} {p0a0 : Option Addr} {p0n0 : Nat} {p0c0 : Nat} {p0B0 : List Blk} {r0 : T_api_State} (p0N0 : p0n0 = p0.Shots.length) (p0V0 : Own 80 6 p0a0 p0n0 p0c0 (flat c_T_api_Shot p0.Shots) p0B0) (h : m_step_fly F p0 = some r0) :
    SpD Tryd.prog 61 [.pointer (some ⟨p0b, 0, none⟩)] (⟨p0b, (.int .u64 p0.Frame :: .int .u64 p0.Seed :: pl14 p0.Players [.slice p0a0 p0n0 p0c0, .int .u16 p0.Score.1, .int .u16 p0.Score.2]), p0t, (0, 0)⟩ :: (p0B0 ++ [])) (fun w => True) (fun v D => ∃ (r0a0 : Option Addr) (r0n0 : Nat) (r0c0 : Nat) (r0B0 : List Blk), r0n0 = r0.Shots.length ∧ Own 80 6 r0a0 r0n0 r0c0 (flat c_T_api_Shot r0.Shots) r0B0 ∧ v = .tuple #[] ∧ D = fun F => (⟨p0b, (.int .u64 r0.Frame :: .int .u64 r0.Seed :: pl14 r0.Players [.slice r0a0 r0n0 r0c0, .int .u16 r0.Score.1, .int .u16 r0.Score.2]), p0t, (0, 0)⟩ :: (r0B0 ++ F))) := by
  unfold m_step_fly at h
  refine sp_of_wc Tryd.func61 rfl Tryd.ntmps61 rfl rfl (fun w0 hR => ?_)
  refine wc_seq (wc_region (wP (v := .agg #[.int .i32 (0 : Int), .int .i32 (0 : Int), .int .i32 (65536 : Int), .int .i32 (32768 : Int)]) rfl rfl (wl_alloc tt_ok rfl rfl (fun b2 => ?_))))
  apply wl_store tt_ok; rfl; exact Upd.here; rfl; rfl; rfl; rfl; rfl; rfl
  refine wl_nil (wx_then (wc_seq (wc_region (wP rfl rfl (wl_nil (wx_then (wc_seq (wc_seq (wc_region ?_)))))))))
  iterate 2 refine wP rfl rfl ?_
  refine wP (v := .pointer (some ⟨p0b, 16, none⟩)) rfl rfl (wl_val (v := .slice p0a0 p0n0 p0c0) (val_load tt_ok rfl (mT (mH)) rfl) rfl (wl_val (v := .int .i64 (p0.Shots.length : Int)) (val_len tt_ok rfl rfl p0N0) rfl (wP rfl rfl (wl_nil (wx_then (wc_block ?_))))))
  replace h := bsome h; obtain ⟨⟨zm, zk, zl⟩, h, hl9⟩ := h; try dsimp only at hl9
  refine wc_loop (fun m E L => ∃ (zb : (List T_api_Shot)) (zd : Int) (za : (T_api_Player × T_api_Player)) (zc : (Int × Int)) (zg : Option Addr) (zf : Nat) (zh : Nat) (ze : List Blk), m_step_fly_L8 F p0 m zb zd za zc = some (zm, zk, zl) ∧ zf = zb.length ∧ Own 80 6 zg zf zh (flat c_T_api_Shot zb) ze ∧ E = [(0, .pointer (some ⟨p0b, 0, none⟩)), (2, .pointer (some ⟨b2, 0, none⟩)), (3, .slice zg zf zh), (12, .slice p0a0 p0n0 p0c0), (13, .int .i64 (p0.Shots.length : Int)), (14, .int .i64 zd)] ∧ L = (⟨p0b, (.int .u64 p0.Frame :: .int .u64 p0.Seed :: pl14 za [.slice p0a0 p0n0 p0c0, .int .u16 zc.1, .int .u16 zc.2]), p0t, (0, 0)⟩ :: (⟨b2, [.int .i32 (0 : Int), .int .i32 (0 : Int), .int .i32 (65536 : Int), .int .i32 (32768 : Int)], 111, (0, 0)⟩ :: (p0B0 ++ (ze ++ []))))) F ⟨([] : List T_api_Shot), (0 : Int), p0.Players, p0.Score, none, 0, 0, [], h, rfl, Own.zero, rfl, rfl⟩ (agree_cons rfl (agree_cons rfl (agree_cons rfl (agree_cons rfl (agree_cons rfl (agree_cons rfl agree_nil)))))) (pSub (pCons (sC hC) (pH (pA (pNo pNil))))) ?_
  clear h
  rintro m9 _ _ ⟨zb, zd, za, zc, zg, zf, zh, ze, h, zi, zj, rfl, rfl⟩
  rcases m9 with _ | m9
  · rw [m_step_fly_L8.eq_1] at h; cases h
  rw [m_step_fly_L8.eq_2] at h
  refine wc_seq (wc_region (wP (v := .bool (decide (zd < (p0.Shots.length : Int)))) rfl rfl (wl_nil (wx_then (wc_seq (wc_cond rfl (fun hc => ?_) (fun hc => ?_)))))))
  · replace h := ct hc h
    refine wc_skip (wx_then (wc_seq (wc_block (wc_seq (wc_region ?_)))))
    replace h := bsome h; obtain ⟨v16, x16, h⟩ := h
    refine wl_val (v := .pointer (some ((adOf p0a0).add (zd.toNat * 6 + 0)))) (val_ix (enc := c_T_api_Shot) tt_ok rfl rfl rfl rfl p0N0 (Rds.of_vec p0V0) c_T_api_Shot_len rfl x16) rfl ?_
    refine wl_val (v := .agg #[.int .i32 v16.X, .int .i32 v16.Y, .int .i32 v16.VX, .int .i32 v16.VY, .int .u8 v16.Owner, .int .u8 v16.Life]) (val_le (enc := c_T_api_Shot) (xs := p0.Shots) tt_ok rfl (Rds.of_vec p0V0) ⟨_, (sC (sC hA'))⟩ c_T_api_Shot_len x16 rfl) rfl ?_
    refine wl_alloc tt_ok rfl rfl (fun b5 => ?_)
    apply wl_store tt_ok; rfl; exact Upd.here; rfl; rfl; rfl; rfl; rfl; rfl
    refine wl_nil (wx_then (wc_seq (wc_region (wP (v := .pointer (some ⟨b5, 0, none⟩)) rfl rfl (wl_val (v := .int .i32 v16.X) (val_load tt_ok rfl (mH) rfl) rfl (wP (v := .pointer (some ⟨b5, 2, none⟩)) rfl rfl (wl_val (v := .int .i32 v16.VX) (val_load tt_ok rfl (mH) rfl) rfl (wP (v := .int .i32 (IntKind.wrap .i32 (v16.X + v16.VX))) rfl rfl (wP (v := .pointer (some ⟨b5, 1, none⟩)) rfl rfl (wl_val (v := .int .i32 v16.Y) (val_load tt_ok rfl (mH) rfl) rfl (wP (v := .pointer (some ⟨b5, 3, none⟩)) rfl rfl (wl_val (v := .int .i32 v16.VY) (val_load tt_ok rfl (mH) rfl) rfl (wP (v := .int .i32 (IntKind.wrap .i32 (v16.Y + v16.VY))) rfl rfl ?_)))))))))))))
    refine wP (v := .pointer (some ⟨b5, 0, none⟩)) rfl rfl ?_
    apply wl_store tt_ok; rfl; exact Upd.here; rfl; rfl; rfl; rfl; rfl; rfl
    refine wP (v := .pointer (some ⟨b5, 1, none⟩)) rfl rfl ?_
    apply wl_store tt_ok; rfl; exact Upd.here; rfl; rfl; rfl; rfl; rfl; rfl
    refine wl_nil (wx_then (wc_seq (wc_region (wP (v := .pointer (some ⟨b5, 5, none⟩)) rfl rfl (wl_val (v := .int .u8 v16.Life) (val_load tt_ok rfl (mH) rfl) rfl (wP (v := .int .u8 (IntKind.wrap .u8 (v16.Life - (1 : Int)))) rfl rfl (wP (v := .pointer (some ⟨b5, 5, none⟩)) rfl rfl ?_)))))))
    apply wl_store tt_ok; rfl; exact Upd.here; rfl; rfl; rfl; rfl; rfl; rfl
    refine wl_nil (wx_then (wc_seq (wc_region (wP (v := .pointer (some ⟨b5, 0, none⟩)) rfl rfl (wl_val (v := .int .i32 (IntKind.wrap .i32 (v16.X + v16.VX))) (val_load tt_ok rfl (mH) rfl) rfl (wP (v := .pointer (some ⟨b5, 1, none⟩)) rfl rfl (wl_val (v := .int .i32 (IntKind.wrap .i32 (v16.Y + v16.VY))) (val_load tt_ok rfl (mH) rfl) rfl (wP (v := .agg #[.int .i32 (IntKind.wrap .i32 (v16.X + v16.VX)), .int .i32 (IntKind.wrap .i32 (v16.Y + v16.VY)), .int .i32 (512 : Int), .int .i32 (512 : Int)]) rfl rfl (wl_alloc tt_ok rfl rfl (fun b6 => ?_))))))))))
    apply wl_store tt_ok; rfl; exact Upd.here; rfl; rfl; rfl; rfl; rfl; rfl
    refine wl_nil (wx_then (wc_seq (wc_quiet (by kernel_rfl) (by kernel_rfl) (qP rfl rfl (qP (v := .pointer (some ⟨b5, 4, none⟩)) rfl rfl (wq_val (v := .int .u8 v16.Owner) (val_load tt_ok rfl (mT (mH)) rfl) rfl (qP (v := .int .u8 (IntKind.wrap .u8 ((1 : Int) - v16.Owner))) rfl rfl (qP rfl rfl (qP (v := .pointer (some ⟨p0b, 2, none⟩)) rfl rfl ?_)))))))))
    rcases Bool.eq_false_or_eq_true ((IntKind.wrap .u8 ((1 : Int) - v16.Owner)) == (0 : Int)) with hx450 | hx450
    · replace h := ct hx450 h
      refine wq_val (v := .pointer (some ⟨p0b, 2, none⟩)) (val_ia (j := 0) tt_ok rfl rfl rfl rfl (by simpa using hx450) rfl rfl) rfl ?_
      refine qP rfl rfl (wq_nil (wx_then (wc_block (wc_seq (wc_region (wl_val (v := .agg #[.int .i32 (IntKind.wrap .i32 (v16.X + v16.VX)), .int .i32 (IntKind.wrap .i32 (v16.Y + v16.VY)), .int .i32 (512 : Int), .int .i32 (512 : Int)]) (val_load tt_ok rfl (mH) rfl) rfl (wl_val (v := .agg #[.int .i32 (0 : Int), .int .i32 (0 : Int), .int .i32 (65536 : Int), .int .i32 (32768 : Int)]) (val_load tt_ok rfl (mT (mT (mT (mH)))) rfl) rfl ?_)))))))
      replace h := bsome h; obtain ⟨v49, x49, h⟩ := h
      refine wl_cq Tryd.call72 rfl rfl rfl (q_pf (k_geom_Inside x49) (fun _ _ => trivial)) rfl ?_
      refine wP (v := .bool (!v49)) rfl rfl (wP rfl rfl (wl_nil (wx_then (wc_cond rfl (fun hc => ?_) (fun hc => ?_)))))
      · replace h := ct hc h
        refine wc_skip (wx_block (wx_block (wx_then (wc_region (wP (v := .int .i64 (IntKind.wrap .i64 (zd + (1 : Int)))) rfl rfl (wP rfl rfl (wl_nil ?_)))))))
        exact wx_round m9 (Nat.lt_succ_self m9) ⟨zb, (IntKind.wrap .i64 (zd + (1 : Int))), za, zc, zg, zf, zh, ze, h, zi, zj, rfl, rfl⟩ (agree_cons rfl (agree_cons rfl (agree_cons rfl (agree_cons rfl (agree_cons rfl (agree_cons rfl agree_nil)))))) (pSub (pCons (sC (sC hC)) (pCons (sC (sC hC)) (pApp (sC (sC hA')) (pApp (sC (sC hA')) pNil)))))
      replace h := cf hc h
      refine wc_seq (wc_quiet (by kernel_rfl) (by kernel_rfl) (wq_val (v := .agg #[.int .i32 (IntKind.wrap .i32 (v16.X + v16.VX)), .int .i32 (IntKind.wrap .i32 (v16.Y + v16.VY)), .int .i32 (512 : Int), .int .i32 (512 : Int)]) (val_load tt_ok rfl (mH) rfl) rfl (qP rfl rfl (qP rfl rfl (wq_val (v := .agg #[.int .i32 za.1.X, .int .i32 za.1.Y, .int .i32 za.1.VX, .int .i32 za.1.VY, .int .u8 za.1.Health, .int .u8 za.1.Cool, .int .u8 za.1.Face]) (val_load tt_ok rfl (mT (mT (mH))) rfl) rfl ?_)))))
      replace h := bsome h; obtain ⟨v56, x56, h⟩ := h
      refine wq_cq Tryd.call59 rfl rfl rfl (q_pf (k_step_box x56) (fun _ _ => trivial)) rfl ?_
      replace h := bsome h; obtain ⟨v57, x57, h⟩ := h
      refine wq_cq Tryd.call58 rfl rfl rfl (q_pf (k_geom_Over x57) (fun _ _ => trivial)) rfl ?_
      refine qP rfl rfl (wq_nil (wx_then (wc_cond rfl (fun hc => ?_) (fun hc => ?_))))
      · replace h := ct hc h
        refine wc_seq (wc_k2 (Ls := (⟨b6, [.int .i32 (IntKind.wrap .i32 (v16.X + v16.VX)), .int .i32 (IntKind.wrap .i32 (v16.Y + v16.VY)), .int .i32 (512 : Int), .int .i32 (512 : Int)], 111, (0, 0)⟩ :: (⟨b5, [.int .i32 (IntKind.wrap .i32 (v16.X + v16.VX)), .int .i32 (IntKind.wrap .i32 (v16.Y + v16.VY)), .int .i32 v16.VX, .int .i32 v16.VY, .int .u8 v16.Owner, .int .u8 (IntKind.wrap .u8 (v16.Life - (1 : Int)))], 80, (0, 0)⟩ :: (⟨p0b, (.int .u64 p0.Frame :: .int .u64 p0.Seed :: pl14 za [.slice p0a0 p0n0 p0c0, .int .u16 zc.1, .int .u16 zc.2]), p0t, (0, 0)⟩ :: (⟨b2, [.int .i32 (0 : Int), .int .i32 (0 : Int), .int .i32 (65536 : Int), .int .i32 (32768 : Int)], 111, (0, 0)⟩ :: (p0B0 ++ (ze ++ []))))))) [12] [12] [0, 1, 3, 7, 0, 16, 48, 112, 240, 511, 1023, 2047, 4095] [0, 1, 2, 3, 4, 5, 6, 7, 8, 9, 10, 11, 12] (by kernel_rfl) (by kernel_rfl) (by kernel_rfl) ?_)
        refine k_val rfl rfl rfl (pSub (pH (pH (pH (pH (pA (pA pNil))))))) (stepV_ok tt_ok rfl) rfl ?_
        refine k_val rfl rfl rfl (pSub (pH (pH (pH (pH (pA (pA pNil))))))) (stepV_ok tt_ok rfl) rfl ?_
        refine k_val (v := .pointer (some ⟨p0b, 6, none⟩)) rfl rfl rfl (pSub (pH (pH (pH (pH (pA (pA pNil))))))) (stepV_ok tt_ok rfl) rfl ?_
        refine k_val (v := .int .u8 za.1.Health) rfl rfl rfl (pSub (pH (pH (pH (pH (pA (pA pNil))))))) (val_load tt_ok rfl (mT (mT (mH))) rfl) rfl ?_
        refine k_val rfl rfl rfl (pSub (pH (pH (pH (pH (pA (pA pNil))))))) (stepV_ok tt_ok rfl) rfl ?_
        refine k_val rfl rfl rfl (pSub (pH (pH (pH (pH (pA (pA pNil))))))) (stepV_ok tt_ok rfl) rfl ?_
        refine k_val (v := .pointer (some ⟨p0b, 6, none⟩)) rfl rfl rfl (pSub (pH (pH (pH (pH (pA (pA pNil))))))) (stepV_ok tt_ok rfl) rfl ?_
        refine k_val (v := .int .u8 za.1.Health) rfl rfl rfl (pSub (pH (pH (pH (pH (pA (pA pNil))))))) (val_load tt_ok rfl (mT (mT (mH))) rfl) rfl ?_
        refine k_val (v := .int .u8 (min za.1.Health (10 : Int))) rfl rfl rfl (pSub (pH (pH (pH (pH (pA (pA pNil))))))) (stepV_ok tt_ok rfl) rfl ?_
        refine k_val (v := .int .u8 (IntKind.wrap .u8 (za.1.Health - (min za.1.Health (10 : Int))))) rfl rfl rfl (pSub (pH (pH (pH (pH (pA (pA pNil))))))) (stepV_ok tt_ok rfl) rfl ?_
        refine k_val rfl rfl rfl (pSub (pH (pH (pH (pH (pA (pA pNil))))))) (stepV_ok tt_ok rfl) rfl ?_
        refine k_val (v := .pointer (some ⟨p0b, 6, none⟩)) rfl rfl rfl (pSub (pH (pH (pH (pH (pA (pA pNil))))))) (stepV_ok tt_ok rfl) rfl ?_
        refine k_chg0 rfl rfl rfl (chg_store tt_ok rfl (Upd.there (Upd.there Upd.here)) rfl rfl rfl rfl rfl rfl) (.inl rfl) ?_
        rintro _ _ rfl
        refine k_end (by kernel_rfl) ?_
        refine wx_then (wc_k2 (Ls := (⟨b6, [.int .i32 (IntKind.wrap .i32 (v16.X + v16.VX)), .int .i32 (IntKind.wrap .i32 (v16.Y + v16.VY)), .int .i32 (512 : Int), .int .i32 (512 : Int)], 111, (0, 0)⟩ :: (⟨b5, [.int .i32 (IntKind.wrap .i32 (v16.X + v16.VX)), .int .i32 (IntKind.wrap .i32 (v16.Y + v16.VY)), .int .i32 v16.VX, .int .i32 v16.VY, .int .u8 v16.Owner, .int .u8 (IntKind.wrap .u8 (v16.Life - (1 : Int)))], 80, (0, 0)⟩ :: (⟨p0b, (.int .u64 p0.Frame :: .int .u64 p0.Seed :: .int .i32 za.1.X :: .int .i32 za.1.Y :: .int .i32 za.1.VX :: .int .i32 za.1.VY :: .int .u8 (IntKind.wrap .u8 (za.1.Health - (min za.1.Health (10 : Int)))) :: .int .u8 za.1.Cool :: .int .u8 za.1.Face :: pl7 za.2 [.slice p0a0 p0n0 p0c0, .int .u16 zc.1, .int .u16 zc.2]), p0t, (0, 0)⟩ :: (⟨b2, [.int .i32 (0 : Int), .int .i32 (0 : Int), .int .i32 (65536 : Int), .int .i32 (32768 : Int)], 111, (0, 0)⟩ :: (p0B0 ++ (ze ++ []))))))) [15] [15] [0, 0, 2, 0, 0, 16, 8, 72, 248, 504, 1016, 2040, 1, 4097, 16383, 32767] [0, 1, 2, 3, 4, 5, 6, 7, 8, 9, 10, 11, 12, 13, 14, 15] (by kernel_rfl) (by kernel_rfl) (by kernel_rfl) ?_)
        refine k_val rfl rfl rfl (pSub (pH (pH (pH (pH (pA (pA pNil))))))) (stepV_ok tt_ok rfl) rfl ?_
        refine k_val (v := .pointer (some ⟨b5, 4, none⟩)) rfl rfl rfl (pSub (pH (pH (pH (pH (pA (pA pNil))))))) (stepV_ok tt_ok rfl) rfl ?_
        refine k_val (v := .int .u8 v16.Owner) rfl rfl rfl (pSub (pH (pH (pH (pH (pA (pA pNil))))))) (val_load tt_ok rfl (mT (mH)) rfl) rfl ?_
        refine k_val rfl rfl rfl (pSub (pH (pH (pH (pH (pA (pA pNil))))))) (stepV_ok tt_ok rfl) rfl ?_
        refine k_val (v := .pointer (some ⟨b5, 4, none⟩)) rfl rfl rfl (pSub (pH (pH (pH (pH (pA (pA pNil))))))) (stepV_ok tt_ok rfl) rfl ?_
        refine k_val (v := .int .u8 v16.Owner) rfl rfl rfl (pSub (pH (pH (pH (pH (pA (pA pNil))))))) (val_load tt_ok rfl (mT (mH)) rfl) rfl ?_
        refine k_val rfl rfl rfl (pSub (pH (pH (pH (pH (pA (pA pNil))))))) (stepV_ok tt_ok rfl) rfl ?_
        refine k_val (v := .pointer (some ⟨p0b, 17, none⟩)) rfl rfl rfl (pSub (pH (pH (pH (pH (pA (pA pNil))))))) (stepV_ok tt_ok rfl) rfl ?_
        rcases Bool.eq_false_or_eq_true (v16.Owner == (0 : Int)) with hx780 | hx780
        · replace h := ct hx780 h
          refine k_val (v := .pointer (some ⟨p0b, 17, none⟩)) rfl rfl rfl (pSub (pH (pH (pH (pH (pA (pA pNil))))))) (val_ia (j := 0) tt_ok rfl rfl rfl rfl (by simpa using hx780) rfl rfl) rfl ?_
          refine k_val (v := .int .u16 zc.1) rfl rfl rfl (pSub (pH (pH (pH (pH (pA (pA pNil))))))) (val_load tt_ok rfl (mT (mT (mH))) rfl) rfl ?_
          refine k_val (v := .int .u16 (min zc.1 (65534 : Int))) rfl rfl rfl (pSub (pH (pH (pH (pH (pA (pA pNil))))))) (stepV_ok tt_ok rfl) rfl ?_
          refine k_val (v := .int .u16 (IntKind.wrap .u16 ((min zc.1 (65534 : Int)) + (1 : Int)))) rfl rfl rfl (pSub (pH (pH (pH (pH (pA (pA pNil))))))) (stepV_ok tt_ok rfl) rfl ?_
          refine k_val rfl rfl rfl (pSub (pH (pH (pH (pH (pA (pA pNil))))))) (stepV_ok tt_ok rfl) rfl ?_
          refine k_val (v := .pointer (some ⟨p0b, 17, none⟩)) rfl rfl rfl (pSub (pH (pH (pH (pH (pA (pA pNil))))))) (stepV_ok tt_ok rfl) rfl ?_
          refine k_val (v := .pointer (some ⟨p0b, 17, none⟩)) rfl rfl rfl (pSub (pH (pH (pH (pH (pA (pA pNil))))))) (val_ia (j := 0) tt_ok rfl rfl rfl rfl (by simpa using hx780) rfl rfl) rfl ?_
          refine k_chg0 rfl rfl rfl (chg_store tt_ok rfl (Upd.there (Upd.there Upd.here)) rfl rfl rfl rfl rfl rfl) (.inl rfl) ?_
          rintro _ _ rfl
          refine k_end (by kernel_rfl) ?_
          refine wx_block (wx_block (wx_then (wc_region (wP (v := .int .i64 (IntKind.wrap .i64 (zd + (1 : Int)))) rfl rfl (wP rfl rfl (wl_nil ?_))))))
          exact wx_round m9 (Nat.lt_succ_self m9) ⟨zb, (IntKind.wrap .i64 (zd + (1 : Int))), ((T_api_Player.mk za.1.X za.1.Y za.1.VX za.1.VY (IntKind.wrap .u8 (za.1.Health - (min za.1.Health (10 : Int)))) za.1.Cool za.1.Face), za.2), ((IntKind.wrap .u16 ((min zc.1 (65534 : Int)) + (1 : Int))), zc.2), zg, zf, zh, ze, h, zi, zj, rfl, rfl⟩ (agree_cons rfl (agree_cons rfl (agree_cons rfl (agree_cons rfl (agree_cons rfl (agree_cons rfl agree_nil)))))) (pSub (pCons (sC (sC hC)) (pCons (sC (sC hC)) (pApp (sC (sC hA')) (pApp (sC (sC hA')) pNil)))))
        replace h := cf hx780 h
        rcases Bool.eq_false_or_eq_true (v16.Owner == (1 : Int)) with hx781 | hx781
        · replace h := ct hx781 h
          refine k_val (v := .pointer (some ⟨p0b, 18, none⟩)) rfl rfl rfl (pSub (pH (pH (pH (pH (pA (pA pNil))))))) (val_ia (j := 1) tt_ok rfl rfl rfl rfl (by simpa using hx781) rfl rfl) rfl ?_
          refine k_val (v := .int .u16 zc.2) rfl rfl rfl (pSub (pH (pH (pH (pH (pA (pA pNil))))))) (val_load tt_ok rfl (mT (mT (mH))) rfl) rfl ?_
          refine k_val (v := .int .u16 (min zc.2 (65534 : Int))) rfl rfl rfl (pSub (pH (pH (pH (pH (pA (pA pNil))))))) (stepV_ok tt_ok rfl) rfl ?_
          refine k_val (v := .int .u16 (IntKind.wrap .u16 ((min zc.2 (65534 : Int)) + (1 : Int)))) rfl rfl rfl (pSub (pH (pH (pH (pH (pA (pA pNil))))))) (stepV_ok tt_ok rfl) rfl ?_
          refine k_val rfl rfl rfl (pSub (pH (pH (pH (pH (pA (pA pNil))))))) (stepV_ok tt_ok rfl) rfl ?_
          refine k_val (v := .pointer (some ⟨p0b, 17, none⟩)) rfl rfl rfl (pSub (pH (pH (pH (pH (pA (pA pNil))))))) (stepV_ok tt_ok rfl) rfl ?_
          refine k_val (v := .pointer (some ⟨p0b, 18, none⟩)) rfl rfl rfl (pSub (pH (pH (pH (pH (pA (pA pNil))))))) (val_ia (j := 1) tt_ok rfl rfl rfl rfl (by simpa using hx781) rfl rfl) rfl ?_
          refine k_chg0 rfl rfl rfl (chg_store tt_ok rfl (Upd.there (Upd.there Upd.here)) rfl rfl rfl rfl rfl rfl) (.inl rfl) ?_
          rintro _ _ rfl
          refine k_end (by kernel_rfl) ?_
          refine wx_block (wx_block (wx_then (wc_region (wP (v := .int .i64 (IntKind.wrap .i64 (zd + (1 : Int)))) rfl rfl (wP rfl rfl (wl_nil ?_))))))
          exact wx_round m9 (Nat.lt_succ_self m9) ⟨zb, (IntKind.wrap .i64 (zd + (1 : Int))), ((T_api_Player.mk za.1.X za.1.Y za.1.VX za.1.VY (IntKind.wrap .u8 (za.1.Health - (min za.1.Health (10 : Int)))) za.1.Cool za.1.Face), za.2), (zc.1, (IntKind.wrap .u16 ((min zc.2 (65534 : Int)) + (1 : Int)))), zg, zf, zh, ze, h, zi, zj, rfl, rfl⟩ (agree_cons rfl (agree_cons rfl (agree_cons rfl (agree_cons rfl (agree_cons rfl (agree_cons rfl agree_nil)))))) (pSub (pCons (sC (sC hC)) (pCons (sC (sC hC)) (pApp (sC (sC hA')) (pApp (sC (sC hA')) pNil)))))
        replace h := cf hx781 h
        cases h
      replace h := cf hc h
      refine wc_seq (wc_region (wP (v := .pointer (some ⟨b5, 5, none⟩)) rfl rfl (wl_val (v := .int .u8 (IntKind.wrap .u8 (v16.Life - (1 : Int)))) (val_load tt_ok rfl (mT (mH)) rfl) rfl (wP (v := .bool (decide ((0 : Int) < (IntKind.wrap .u8 (v16.Life - (1 : Int)))))) rfl rfl (wP rfl rfl (wl_nil (wx_then (wc_cond rfl (fun hc => ?_) (fun hc => ?_)))))))))
      · replace h := ct hc h
        refine wc_region (wP rfl rfl (wl_val (v := .agg #[.int .i32 (IntKind.wrap .i32 (v16.X + v16.VX)), .int .i32 (IntKind.wrap .i32 (v16.Y + v16.VY)), .int .i32 v16.VX, .int .i32 v16.VY, .int .u8 v16.Owner, .int .u8 (IntKind.wrap .u8 (v16.Life - (1 : Int)))]) (val_load tt_ok rfl (mT (mH)) rfl) rfl (wl_chg (chg_bsv (enc := c_T_api_Shot) (xs := ([(T_api_Shot.mk (IntKind.wrap .i32 (v16.X + v16.VX)) (IntKind.wrap .i32 (v16.Y + v16.VY)) v16.VX v16.VY v16.Owner (IntKind.wrap .u8 (v16.Life - (1 : Int))))] : List T_api_Shot)) tt_ok rfl rfl rfl rfl rfl rfl rfl rfl c_T_api_Shot_len) rfl ?_)))
        rintro _ _ ⟨a91, n91_, c91, B91, rfl, N91, V91, rfl⟩
        replace h := bsome h; obtain ⟨v92, x92, h⟩ := h
        refine wl_chg (chg_app (enc := c_T_api_Shot) (ys := ([(T_api_Shot.mk (IntKind.wrap .i32 (v16.X + v16.VX)) (IntKind.wrap .i32 (v16.Y + v16.VY)) v16.VX v16.VY v16.Owner (IntKind.wrap .u8 (v16.Life - (1 : Int))))] : List T_api_Shot)) tt_ok rfl rfl rfl rfl rfl rfl zi N91 zj (sA (sC (sC (sC (sC (sA hA')))))) (Rds.of_vec V91) ⟨_, hA'⟩ c_T_api_Shot_len (fun _ => rfl) rfl x92) rfl ?_
        rintro _ _ ⟨a92, n92_, c92, B92, rfl, N92, V92, rfl⟩
        refine wP rfl rfl (wl_nil (wx_block (wx_block (wx_then (wc_region (wP (v := .int .i64 (IntKind.wrap .i64 (zd + (1 : Int)))) rfl rfl (wP rfl rfl (wl_nil ?_))))))))
        exact wx_round m9 (Nat.lt_succ_self m9) ⟨v92, (IntKind.wrap .i64 (zd + (1 : Int))), za, zc, a92, n92_, c92, B92, h, N92, V92, rfl, rfl⟩ (agree_cons rfl (agree_cons rfl (agree_cons rfl (agree_cons rfl (agree_cons rfl (agree_cons rfl agree_nil)))))) (pSub (pCons (sA (sA (sC (sC hC)))) (pCons (sA (sA (sC (sC hC)))) (pApp (sA (sA (sC (sC hA')))) (pA pNil)))))
      replace h := cf hc h
      refine wc_skip (wx_block (wx_block (wx_then (wc_region (wP (v := .int .i64 (IntKind.wrap .i64 (zd + (1 : Int)))) rfl rfl (wP rfl rfl (wl_nil ?_)))))))
      exact wx_round m9 (Nat.lt_succ_self m9) ⟨zb, (IntKind.wrap .i64 (zd + (1 : Int))), za, zc, zg, zf, zh, ze, h, zi, zj, rfl, rfl⟩ (agree_cons rfl (agree_cons rfl (agree_cons rfl (agree_cons rfl (agree_cons rfl (agree_cons rfl agree_nil)))))) (pSub (pCons (sC (sC hC)) (pCons (sC (sC hC)) (pApp (sC (sC hA')) (pApp (sC (sC hA')) pNil)))))
    replace h := cf hx450 h
    rcases Bool.eq_false_or_eq_true ((IntKind.wrap .u8 ((1 : Int) - v16.Owner)) == (1 : Int)) with hx451 | hx451
    · replace h := ct hx451 h
      refine wq_val (v := .pointer (some ⟨p0b, 9, none⟩)) (val_ia (j := 1) tt_ok rfl rfl rfl rfl (by simpa using hx451) rfl rfl) rfl ?_
      refine qP rfl rfl (wq_nil (wx_then (wc_block (wc_seq (wc_region (wl_val (v := .agg #[.int .i32 (IntKind.wrap .i32 (v16.X + v16.VX)), .int .i32 (IntKind.wrap .i32 (v16.Y + v16.VY)), .int .i32 (512 : Int), .int .i32 (512 : Int)]) (val_load tt_ok rfl (mH) rfl) rfl (wl_val (v := .agg #[.int .i32 (0 : Int), .int .i32 (0 : Int), .int .i32 (65536 : Int), .int .i32 (32768 : Int)]) (val_load tt_ok rfl (mT (mT (mT (mH)))) rfl) rfl ?_)))))))
      replace h := bsome h; obtain ⟨v49, x49, h⟩ := h
      refine wl_cq Tryd.call72 rfl rfl rfl (q_pf (k_geom_Inside x49) (fun _ _ => trivial)) rfl ?_
      refine wP (v := .bool (!v49)) rfl rfl (wP rfl rfl (wl_nil (wx_then (wc_cond rfl (fun hc => ?_) (fun hc => ?_)))))
      · replace h := ct hc h
        refine wc_skip (wx_block (wx_block (wx_then (wc_region (wP (v := .int .i64 (IntKind.wrap .i64 (zd + (1 : Int)))) rfl rfl (wP rfl rfl (wl_nil ?_)))))))
        exact wx_round m9 (Nat.lt_succ_self m9) ⟨zb, (IntKind.wrap .i64 (zd + (1 : Int))), za, zc, zg, zf, zh, ze, h, zi, zj, rfl, rfl⟩ (agree_cons rfl (agree_cons rfl (agree_cons rfl (agree_cons rfl (agree_cons rfl (agree_cons rfl agree_nil)))))) (pSub (pCons (sC (sC hC)) (pCons (sC (sC hC)) (pApp (sC (sC hA')) (pApp (sC (sC hA')) pNil)))))
      replace h := cf hc h
      refine wc_seq (wc_quiet (by kernel_rfl) (by kernel_rfl) (wq_val (v := .agg #[.int .i32 (IntKind.wrap .i32 (v16.X + v16.VX)), .int .i32 (IntKind.wrap .i32 (v16.Y + v16.VY)), .int .i32 (512 : Int), .int .i32 (512 : Int)]) (val_load tt_ok rfl (mH) rfl) rfl (qP rfl rfl (qP rfl rfl (wq_val (v := .agg #[.int .i32 za.2.X, .int .i32 za.2.Y, .int .i32 za.2.VX, .int .i32 za.2.VY, .int .u8 za.2.Health, .int .u8 za.2.Cool, .int .u8 za.2.Face]) (val_load tt_ok rfl (mT (mT (mH))) rfl) rfl ?_)))))
      replace h := bsome h; obtain ⟨v56, x56, h⟩ := h
      refine wq_cq Tryd.call59 rfl rfl rfl (q_pf (k_step_box x56) (fun _ _ => trivial)) rfl ?_
      replace h := bsome h; obtain ⟨v57, x57, h⟩ := h
      refine wq_cq Tryd.call58 rfl rfl rfl (q_pf (k_geom_Over x57) (fun _ _ => trivial)) rfl ?_
      refine qP rfl rfl (wq_nil (wx_then (wc_cond rfl (fun hc => ?_) (fun hc => ?_))))
      · replace h := ct hc h
        refine wc_seq (wc_k2 (Ls := (⟨b6, [.int .i32 (IntKind.wrap .i32 (v16.X + v16.VX)), .int .i32 (IntKind.wrap .i32 (v16.Y + v16.VY)), .int .i32 (512 : Int), .int .i32 (512 : Int)], 111, (0, 0)⟩ :: (⟨b5, [.int .i32 (IntKind.wrap .i32 (v16.X + v16.VX)), .int .i32 (IntKind.wrap .i32 (v16.Y + v16.VY)), .int .i32 v16.VX, .int .i32 v16.VY, .int .u8 v16.Owner, .int .u8 (IntKind.wrap .u8 (v16.Life - (1 : Int)))], 80, (0, 0)⟩ :: (⟨p0b, (.int .u64 p0.Frame :: .int .u64 p0.Seed :: pl14 za [.slice p0a0 p0n0 p0c0, .int .u16 zc.1, .int .u16 zc.2]), p0t, (0, 0)⟩ :: (⟨b2, [.int .i32 (0 : Int), .int .i32 (0 : Int), .int .i32 (65536 : Int), .int .i32 (32768 : Int)], 111, (0, 0)⟩ :: (p0B0 ++ (ze ++ []))))))) [12] [12] [0, 1, 3, 7, 0, 16, 48, 112, 240, 511, 1023, 2047, 4095] [0, 1, 2, 3, 4, 5, 6, 7, 8, 9, 10, 11, 12] (by kernel_rfl) (by kernel_rfl) (by kernel_rfl) ?_)
        refine k_val rfl rfl rfl (pSub (pH (pH (pH (pH (pA (pA pNil))))))) (stepV_ok tt_ok rfl) rfl ?_
        refine k_val rfl rfl rfl (pSub (pH (pH (pH (pH (pA (pA pNil))))))) (stepV_ok tt_ok rfl) rfl ?_
        refine k_val (v := .pointer (some ⟨p0b, 13, none⟩)) rfl rfl rfl (pSub (pH (pH (pH (pH (pA (pA pNil))))))) (stepV_ok tt_ok rfl) rfl ?_
        refine k_val (v := .int .u8 za.2.Health) rfl rfl rfl (pSub (pH (pH (pH (pH (pA (pA pNil))))))) (val_load tt_ok rfl (mT (mT (mH))) rfl) rfl ?_
        refine k_val rfl rfl rfl (pSub (pH (pH (pH (pH (pA (pA pNil))))))) (stepV_ok tt_ok rfl) rfl ?_
        refine k_val rfl rfl rfl (pSub (pH (pH (pH (pH (pA (pA pNil))))))) (stepV_ok tt_ok rfl) rfl ?_
        refine k_val (v := .pointer (some ⟨p0b, 13, none⟩)) rfl rfl rfl (pSub (pH (pH (pH (pH (pA (pA pNil))))))) (stepV_ok tt_ok rfl) rfl ?_
        refine k_val (v := .int .u8 za.2.Health) rfl rfl rfl (pSub (pH (pH (pH (pH (pA (pA pNil))))))) (val_load tt_ok rfl (mT (mT (mH))) rfl) rfl ?_
        refine k_val (v := .int .u8 (min za.2.Health (10 : Int))) rfl rfl rfl (pSub (pH (pH (pH (pH (pA (pA pNil))))))) (stepV_ok tt_ok rfl) rfl ?_
        refine k_val (v := .int .u8 (IntKind.wrap .u8 (za.2.Health - (min za.2.Health (10 : Int))))) rfl rfl rfl (pSub (pH (pH (pH (pH (pA (pA pNil))))))) (stepV_ok tt_ok rfl) rfl ?_
        refine k_val rfl rfl rfl (pSub (pH (pH (pH (pH (pA (pA pNil))))))) (stepV_ok tt_ok rfl) rfl ?_
        refine k_val (v := .pointer (some ⟨p0b, 13, none⟩)) rfl rfl rfl (pSub (pH (pH (pH (pH (pA (pA pNil))))))) (stepV_ok tt_ok rfl) rfl ?_
        refine k_chg0 rfl rfl rfl (chg_store tt_ok rfl (Upd.there (Upd.there Upd.here)) rfl rfl rfl rfl rfl rfl) (.inl rfl) ?_
        rintro _ _ rfl
        refine k_end (by kernel_rfl) ?_
        refine wx_then (wc_k2 (Ls := (⟨b6, [.int .i32 (IntKind.wrap .i32 (v16.X + v16.VX)), .int .i32 (IntKind.wrap .i32 (v16.Y + v16.VY)), .int .i32 (512 : Int), .int .i32 (512 : Int)], 111, (0, 0)⟩ :: (⟨b5, [.int .i32 (IntKind.wrap .i32 (v16.X + v16.VX)), .int .i32 (IntKind.wrap .i32 (v16.Y + v16.VY)), .int .i32 v16.VX, .int .i32 v16.VY, .int .u8 v16.Owner, .int .u8 (IntKind.wrap .u8 (v16.Life - (1 : Int)))], 80, (0, 0)⟩ :: (⟨p0b, (.int .u64 p0.Frame :: .int .u64 p0.Seed :: pl7 za.1 [.int .i32 za.2.X, .int .i32 za.2.Y, .int .i32 za.2.VX, .int .i32 za.2.VY, .int .u8 (IntKind.wrap .u8 (za.2.Health - (min za.2.Health (10 : Int)))), .int .u8 za.2.Cool, .int .u8 za.2.Face, .slice p0a0 p0n0 p0c0, .int .u16 zc.1, .int .u16 zc.2]), p0t, (0, 0)⟩ :: (⟨b2, [.int .i32 (0 : Int), .int .i32 (0 : Int), .int .i32 (65536 : Int), .int .i32 (32768 : Int)], 111, (0, 0)⟩ :: (p0B0 ++ (ze ++ []))))))) [15] [15] [0, 0, 2, 0, 0, 16, 8, 72, 248, 504, 1016, 2040, 1, 4097, 16383, 32767] [0, 1, 2, 3, 4, 5, 6, 7, 8, 9, 10, 11, 12, 13, 14, 15] (by kernel_rfl) (by kernel_rfl) (by kernel_rfl) ?_)
        refine k_val rfl rfl rfl (pSub (pH (pH (pH (pH (pA (pA pNil))))))) (stepV_ok tt_ok rfl) rfl ?_
        refine k_val (v := .pointer (some ⟨b5, 4, none⟩)) rfl rfl rfl (pSub (pH (pH (pH (pH (pA (pA pNil))))))) (stepV_ok tt_ok rfl) rfl ?_
        refine k_val (v := .int .u8 v16.Owner) rfl rfl rfl (pSub (pH (pH (pH (pH (pA (pA pNil))))))) (val_load tt_ok rfl (mT (mH)) rfl) rfl ?_
        refine k_val rfl rfl rfl (pSub (pH (pH (pH (pH (pA (pA pNil))))))) (stepV_ok tt_ok rfl) rfl ?_
        refine k_val (v := .pointer (some ⟨b5, 4, none⟩)) rfl rfl rfl (pSub (pH (pH (pH (pH (pA (pA pNil))))))) (stepV_ok tt_ok rfl) rfl ?_
        refine k_val (v := .int .u8 v16.Owner) rfl rfl rfl (pSub (pH (pH (pH (pH (pA (pA pNil))))))) (val_load tt_ok rfl (mT (mH)) rfl) rfl ?_
        refine k_val rfl rfl rfl (pSub (pH (pH (pH (pH (pA (pA pNil))))))) (stepV_ok tt_ok rfl) rfl ?_
        refine k_val (v := .pointer (some ⟨p0b, 17, none⟩)) rfl rfl rfl (pSub (pH (pH (pH (pH (pA (pA pNil))))))) (stepV_ok tt_ok rfl) rfl ?_
        rcases Bool.eq_false_or_eq_true (v16.Owner == (0 : Int)) with hx780 | hx780
        · replace h := ct hx780 h
          refine k_val (v := .pointer (some ⟨p0b, 17, none⟩)) rfl rfl rfl (pSub (pH (pH (pH (pH (pA (pA pNil))))))) (val_ia (j := 0) tt_ok rfl rfl rfl rfl (by simpa using hx780) rfl rfl) rfl ?_
          refine k_val (v := .int .u16 zc.1) rfl rfl rfl (pSub (pH (pH (pH (pH (pA (pA pNil))))))) (val_load tt_ok rfl (mT (mT (mH))) rfl) rfl ?_
          refine k_val (v := .int .u16 (min zc.1 (65534 : Int))) rfl rfl rfl (pSub (pH (pH (pH (pH (pA (pA pNil))))))) (stepV_ok tt_ok rfl) rfl ?_
          refine k_val (v := .int .u16 (IntKind.wrap .u16 ((min zc.1 (65534 : Int)) + (1 : Int)))) rfl rfl rfl (pSub (pH (pH (pH (pH (pA (pA pNil))))))) (stepV_ok tt_ok rfl) rfl ?_
          refine k_val rfl rfl rfl (pSub (pH (pH (pH (pH (pA (pA pNil))))))) (stepV_ok tt_ok rfl) rfl ?_
          refine k_val (v := .pointer (some ⟨p0b, 17, none⟩)) rfl rfl rfl (pSub (pH (pH (pH (pH (pA (pA pNil))))))) (stepV_ok tt_ok rfl) rfl ?_
          refine k_val (v := .pointer (some ⟨p0b, 17, none⟩)) rfl rfl rfl (pSub (pH (pH (pH (pH (pA (pA pNil))))))) (val_ia (j := 0) tt_ok rfl rfl rfl rfl (by simpa using hx780) rfl rfl) rfl ?_
          refine k_chg0 rfl rfl rfl (chg_store tt_ok rfl (Upd.there (Upd.there Upd.here)) rfl rfl rfl rfl rfl rfl) (.inl rfl) ?_
          rintro _ _ rfl
          refine k_end (by kernel_rfl) ?_
          refine wx_block (wx_block (wx_then (wc_region (wP (v := .int .i64 (IntKind.wrap .i64 (zd + (1 : Int)))) rfl rfl (wP rfl rfl (wl_nil ?_))))))
          exact wx_round m9 (Nat.lt_succ_self m9) ⟨zb, (IntKind.wrap .i64 (zd + (1 : Int))), (za.1, (T_api_Player.mk za.2.X za.2.Y za.2.VX za.2.VY (IntKind.wrap .u8 (za.2.Health - (min za.2.Health (10 : Int)))) za.2.Cool za.2.Face)), ((IntKind.wrap .u16 ((min zc.1 (65534 : Int)) + (1 : Int))), zc.2), zg, zf, zh, ze, h, zi, zj, rfl, rfl⟩ (agree_cons rfl (agree_cons rfl (agree_cons rfl (agree_cons rfl (agree_cons rfl (agree_cons rfl agree_nil)))))) (pSub (pCons (sC (sC hC)) (pCons (sC (sC hC)) (pApp (sC (sC hA')) (pApp (sC (sC hA')) pNil)))))
        replace h := cf hx780 h
        rcases Bool.eq_false_or_eq_true (v16.Owner == (1 : Int)) with hx781 | hx781
        · replace h := ct hx781 h
          refine k_val (v := .pointer (some ⟨p0b, 18, none⟩)) rfl rfl rfl (pSub (pH (pH (pH (pH (pA (pA pNil))))))) (val_ia (j := 1) tt_ok rfl rfl rfl rfl (by simpa using hx781) rfl rfl) rfl ?_
          refine k_val (v := .int .u16 zc.2) rfl rfl rfl (pSub (pH (pH (pH (pH (pA (pA pNil))))))) (val_load tt_ok rfl (mT (mT (mH))) rfl) rfl ?_
          refine k_val (v := .int .u16 (min zc.2 (65534 : Int))) rfl rfl rfl (pSub (pH (pH (pH (pH (pA (pA pNil))))))) (stepV_ok tt_ok rfl) rfl ?_
          refine k_val (v := .int .u16 (IntKind.wrap .u16 ((min zc.2 (65534 : Int)) + (1 : Int)))) rfl rfl rfl (pSub (pH (pH (pH (pH (pA (pA pNil))))))) (stepV_ok tt_ok rfl) rfl ?_
          refine k_val rfl rfl rfl (pSub (pH (pH (pH (pH (pA (pA pNil))))))) (stepV_ok tt_ok rfl) rfl ?_
          refine k_val (v := .pointer (some ⟨p0b, 17, none⟩)) rfl rfl rfl (pSub (pH (pH (pH (pH (pA (pA pNil))))))) (stepV_ok tt_ok rfl) rfl ?_
          refine k_val (v := .pointer (some ⟨p0b, 18, none⟩)) rfl rfl rfl (pSub (pH (pH (pH (pH (pA (pA pNil))))))) (val_ia (j := 1) tt_ok rfl rfl rfl rfl (by simpa using hx781) rfl rfl) rfl ?_
          refine k_chg0 rfl rfl rfl (chg_store tt_ok rfl (Upd.there (Upd.there Upd.here)) rfl rfl rfl rfl rfl rfl) (.inl rfl) ?_
          rintro _ _ rfl
          refine k_end (by kernel_rfl) ?_
          refine wx_block (wx_block (wx_then (wc_region (wP (v := .int .i64 (IntKind.wrap .i64 (zd + (1 : Int)))) rfl rfl (wP rfl rfl (wl_nil ?_))))))
          exact wx_round m9 (Nat.lt_succ_self m9) ⟨zb, (IntKind.wrap .i64 (zd + (1 : Int))), (za.1, (T_api_Player.mk za.2.X za.2.Y za.2.VX za.2.VY (IntKind.wrap .u8 (za.2.Health - (min za.2.Health (10 : Int)))) za.2.Cool za.2.Face)), (zc.1, (IntKind.wrap .u16 ((min zc.2 (65534 : Int)) + (1 : Int)))), zg, zf, zh, ze, h, zi, zj, rfl, rfl⟩ (agree_cons rfl (agree_cons rfl (agree_cons rfl (agree_cons rfl (agree_cons rfl (agree_cons rfl agree_nil)))))) (pSub (pCons (sC (sC hC)) (pCons (sC (sC hC)) (pApp (sC (sC hA')) (pApp (sC (sC hA')) pNil)))))
        replace h := cf hx781 h
        cases h
      replace h := cf hc h
      refine wc_seq (wc_region (wP (v := .pointer (some ⟨b5, 5, none⟩)) rfl rfl (wl_val (v := .int .u8 (IntKind.wrap .u8 (v16.Life - (1 : Int)))) (val_load tt_ok rfl (mT (mH)) rfl) rfl (wP (v := .bool (decide ((0 : Int) < (IntKind.wrap .u8 (v16.Life - (1 : Int)))))) rfl rfl (wP rfl rfl (wl_nil (wx_then (wc_cond rfl (fun hc => ?_) (fun hc => ?_)))))))))
      · replace h := ct hc h
        refine wc_region (wP rfl rfl (wl_val (v := .agg #[.int .i32 (IntKind.wrap .i32 (v16.X + v16.VX)), .int .i32 (IntKind.wrap .i32 (v16.Y + v16.VY)), .int .i32 v16.VX, .int .i32 v16.VY, .int .u8 v16.Owner, .int .u8 (IntKind.wrap .u8 (v16.Life - (1 : Int)))]) (val_load tt_ok rfl (mT (mH)) rfl) rfl (wl_chg (chg_bsv (enc := c_T_api_Shot) (xs := ([(T_api_Shot.mk (IntKind.wrap .i32 (v16.X + v16.VX)) (IntKind.wrap .i32 (v16.Y + v16.VY)) v16.VX v16.VY v16.Owner (IntKind.wrap .u8 (v16.Life - (1 : Int))))] : List T_api_Shot)) tt_ok rfl rfl rfl rfl rfl rfl rfl rfl c_T_api_Shot_len) rfl ?_)))
        rintro _ _ ⟨a91, n91_, c91, B91, rfl, N91, V91, rfl⟩
        replace h := bsome h; obtain ⟨v92, x92, h⟩ := h
        refine wl_chg (chg_app (enc := c_T_api_Shot) (ys := ([(T_api_Shot.mk (IntKind.wrap .i32 (v16.X + v16.VX)) (IntKind.wrap .i32 (v16.Y + v16.VY)) v16.VX v16.VY v16.Owner (IntKind.wrap .u8 (v16.Life - (1 : Int))))] : List T_api_Shot)) tt_ok rfl rfl rfl rfl rfl rfl zi N91 zj (sA (sC (sC (sC (sC (sA hA')))))) (Rds.of_vec V91) ⟨_, hA'⟩ c_T_api_Shot_len (fun _ => rfl) rfl x92) rfl ?_
        rintro _ _ ⟨a92, n92_, c92, B92, rfl, N92, V92, rfl⟩
        refine wP rfl rfl (wl_nil (wx_block (wx_block (wx_then (wc_region (wP (v := .int .i64 (IntKind.wrap .i64 (zd + (1 : Int)))) rfl rfl (wP rfl rfl (wl_nil ?_))))))))
        exact wx_round m9 (Nat.lt_succ_self m9) ⟨v92, (IntKind.wrap .i64 (zd + (1 : Int))), za, zc, a92, n92_, c92, B92, h, N92, V92, rfl, rfl⟩ (agree_cons rfl (agree_cons rfl (agree_cons rfl (agree_cons rfl (agree_cons rfl (agree_cons rfl agree_nil)))))) (pSub (pCons (sA (sA (sC (sC hC)))) (pCons (sA (sA (sC (sC hC)))) (pApp (sA (sA (sC (sC hA')))) (pA pNil)))))
      replace h := cf hc h
      refine wc_skip (wx_block (wx_block (wx_then (wc_region (wP (v := .int .i64 (IntKind.wrap .i64 (zd + (1 : Int)))) rfl rfl (wP rfl rfl (wl_nil ?_)))))))
      exact wx_round m9 (Nat.lt_succ_self m9) ⟨zb, (IntKind.wrap .i64 (zd + (1 : Int))), za, zc, zg, zf, zh, ze, h, zi, zj, rfl, rfl⟩ (agree_cons rfl (agree_cons rfl (agree_cons rfl (agree_cons rfl (agree_cons rfl (agree_cons rfl agree_nil)))))) (pSub (pCons (sC (sC hC)) (pCons (sC (sC hC)) (pApp (sC (sC hA')) (pApp (sC (sC hA')) pNil)))))
    replace h := cf hx451 h
    cases h
  replace h := cf hc h
  refine wc_exit (wx_then_exit ?_)
  simp only [Option.some.injEq, Prod.mk.injEq] at h
  obtain ⟨rfl, rfl, rfl⟩ := h
  have h := hl9; clear hl9; try dsimp only [orE_l, orE_r] at h
  refine wx_then_exit (wx_block_exit (wx_then (wc_region ?_)))
  iterate 3 refine wP rfl rfl ?_
  refine wP (v := .pointer (some ⟨p0b, 16, none⟩)) rfl rfl ?_
  apply wl_store tt_ok; rfl; exact Upd.here; rfl; rfl; rfl; rfl; rfl; rfl
  refine wl_nil ?_
  obtain rfl := sI h
  exact wx_spD tt_ok (.inr rfl) Tryd.results61 Res.nil ⟨zg, zf, zh, ze, zi, zj, rfl, rfl⟩ (fun F => by simp) (pSub (pH (pApp (sC (sA hA')) pNil)))

theorem k_rng_Source_Skip {F : Nat} {p0 : T_rng_Source} {p1 : Int} {r0 : T_rng_Source} (h : m_rng_Source_Skip F p0 p1 = some r0) :
    Pf Tryd.prog 79 [.agg #[.int .u64 p0.S], .int .u64 p1] (fun w => True) (.agg #[.int .u64 r0.S]) := by
  unfold m_rng_Source_Skip at h
  refine pf_of_wc Tryd.func79 rfl Tryd.ntmps79 rfl rfl (fun w0 hR => ?_)
  refine wc_seq (wc_region (wl_box rfl rfl rfl (fun b2 => (wl_alloc tt_ok rfl rfl (fun b4 => (wl_nil (wx_then (wc_seq (wc_region (wP (v := .pointer (some ⟨b2, 0, none⟩)) rfl rfl (wl_val (v := .int .u64 p0.S) (val_load tt_ok rfl (mT (mH)) rfl) rfl (wP rfl rfl (wP (v := .int .u64 (IntKind.wrap .u64 (p1 * (11400714819323198485 : Int)))) rfl rfl (wP (v := .int .u64 (IntKind.wrap .u64 (p0.S + (IntKind.wrap .u64 (p1 * (11400714819323198485 : Int)))))) rfl rfl (wP (v := .agg #[.int .u64 (IntKind.wrap .u64 (p0.S + (IntKind.wrap .u64 (p1 * (11400714819323198485 : Int)))))]) rfl rfl ?_)))))))))))))))
  apply wl_store tt_ok; rfl; exact Upd.here; rfl; rfl; rfl; rfl; rfl; rfl
  refine wl_nil (wx_then (wc_ret ?_))
  obtain rfl := sI h
  exact wx_pf tt_ok (.inl rfl) Tryd.results79 (Res.cell rfl (mH) rfl Res.nil) rfl

theorem k_rng_Mix {F : Nat} {p0 : Int} {r0 : Int} (h : m_rng_Mix F p0 = some r0) :
    Pf Tryd.prog 80 [.int .u64 p0] (fun w => True) (.int .u64 r0) := by
  unfold m_rng_Mix at h
  refine pf_of_wc Tryd.func80 rfl Tryd.ntmps80 rfl rfl (fun w0 hR => ?_)
  refine wc_seq (wc_region (wP rfl rfl (wl_nil (wx_then (wc_seq (wc_region ?_))))))
  iterate 2 refine wP rfl rfl ?_
  refine wP (v := .int .u64 (p0 / 2 ^ (min 30 (IntKind.bits .u64)))) rfl rfl (wP (v := .int .u64 (bits .xor .u64 p0 (p0 / 2 ^ (min 30 (IntKind.bits .u64))))) rfl rfl (wP (v := .int .u64 (IntKind.wrap .u64 ((bits .xor .u64 p0 (p0 / 2 ^ (min 30 (IntKind.bits .u64)))) * (13787848793156543929 : Int)))) rfl rfl (wP rfl rfl (wl_nil (wx_then (wc_seq (wc_region ?_)))))))
  iterate 2 refine wP rfl rfl ?_
  refine wP (v := .int .u64 ((IntKind.wrap .u64 ((bits .xor .u64 p0 (p0 / 2 ^ (min 30 (IntKind.bits .u64)))) * (13787848793156543929 : Int))) / 2 ^ (min 27 (IntKind.bits .u64)))) rfl rfl (wP (v := .int .u64 (bits .xor .u64 (IntKind.wrap .u64 ((bits .xor .u64 p0 (p0 / 2 ^ (min 30 (IntKind.bits .u64)))) * (13787848793156543929 : Int))) ((IntKind.wrap .u64 ((bits .xor .u64 p0 (p0 / 2 ^ (min 30 (IntKind.bits .u64)))) * (13787848793156543929 : Int))) / 2 ^ (min 27 (IntKind.bits .u64))))) rfl rfl (wP (v := .int .u64 (IntKind.wrap .u64 ((bits .xor .u64 (IntKind.wrap .u64 ((bits .xor .u64 p0 (p0 / 2 ^ (min 30 (IntKind.bits .u64)))) * (13787848793156543929 : Int))) ((IntKind.wrap .u64 ((bits .xor .u64 p0 (p0 / 2 ^ (min 30 (IntKind.bits .u64)))) * (13787848793156543929 : Int))) / 2 ^ (min 27 (IntKind.bits .u64)))) * (10723151780598845931 : Int)))) rfl rfl ?_))
  refine wP rfl rfl (wl_nil (wx_then (wc_seq (wc_region ?_))))
  iterate 2 refine wP rfl rfl ?_
  refine wP (v := .int .u64 ((IntKind.wrap .u64 ((bits .xor .u64 (IntKind.wrap .u64 ((bits .xor .u64 p0 (p0 / 2 ^ (min 30 (IntKind.bits .u64)))) * (13787848793156543929 : Int))) ((IntKind.wrap .u64 ((bits .xor .u64 p0 (p0 / 2 ^ (min 30 (IntKind.bits .u64)))) * (13787848793156543929 : Int))) / 2 ^ (min 27 (IntKind.bits .u64)))) * (10723151780598845931 : Int))) / 2 ^ (min 31 (IntKind.bits .u64)))) rfl rfl (wP (v := .int .u64 (bits .xor .u64 (IntKind.wrap .u64 ((bits .xor .u64 (IntKind.wrap .u64 ((bits .xor .u64 p0 (p0 / 2 ^ (min 30 (IntKind.bits .u64)))) * (13787848793156543929 : Int))) ((IntKind.wrap .u64 ((bits .xor .u64 p0 (p0 / 2 ^ (min 30 (IntKind.bits .u64)))) * (13787848793156543929 : Int))) / 2 ^ (min 27 (IntKind.bits .u64)))) * (10723151780598845931 : Int))) ((IntKind.wrap .u64 ((bits .xor .u64 (IntKind.wrap .u64 ((bits .xor .u64 p0 (p0 / 2 ^ (min 30 (IntKind.bits .u64)))) * (13787848793156543929 : Int))) ((IntKind.wrap .u64 ((bits .xor .u64 p0 (p0 / 2 ^ (min 30 (IntKind.bits .u64)))) * (13787848793156543929 : Int))) / 2 ^ (min 27 (IntKind.bits .u64)))) * (10723151780598845931 : Int))) / 2 ^ (min 31 (IntKind.bits .u64))))) rfl rfl ?_)
  refine wP rfl rfl (wl_nil (wx_then (wc_ret ?_)))
  obtain rfl := sI h
  exact wx_pf tt_ok (.inl rfl) Tryd.results80 (Res.tmp rfl Res.nil) rfl

theorem k_rng_Source_Next {F : Nat} {p0 : T_rng_Source} {r0 : Int} {r1 : T_rng_Source} (h : m_rng_Source_Next F p0 = some (r0, r1)) :
    Pf Tryd.prog 77 [.agg #[.int .u64 p0.S]] (fun w => True) (.tuple #[.int .u64 r0, .agg #[.int .u64 r1.S]]) := by
  unfold m_rng_Source_Next at h
  refine pf_of_wc Tryd.func77 rfl Tryd.ntmps77 rfl rfl (fun w0 hR => ?_)
  refine wc_seq (wc_region (wl_box rfl rfl rfl (fun b1 => (wP rfl rfl (wl_alloc tt_ok rfl rfl (fun b3 => (wl_nil (wx_then (wc_seq (wc_region (wl_val (v := .agg #[.int .u64 p0.S]) (val_load tt_ok rfl (mT (mH)) rfl) rfl ?_)))))))))))
  replace h := bsome h; obtain ⟨v5, x5, h⟩ := h
  refine wl_cq Tryd.call79 rfl rfl rfl (q_pf (k_rng_Source_Skip x5) (fun _ _ => trivial)) rfl ?_
  apply wl_store tt_ok; rfl; exact (Upd.there Upd.here); rfl; rfl; rfl; rfl; rfl; rfl
  refine wl_nil (wx_then (wc_seq (wc_k2 (Ls := (⟨b3, [.int .u64 (0 : Int)], 129, (0, 0)⟩ :: (⟨b1, [.int .u64 v5.S], 129, (0, 0)⟩ :: []))) [2, 4, 5] [5] [0, 1, 3, 0, 7, 31] [0, 1, 3, 2, 4, 5] (by kernel_rfl) (by kernel_rfl) (by kernel_rfl) (k_val (v := .pointer (some ⟨b1, 0, none⟩)) rfl rfl rfl (pSub (pH (pH pNil))) (stepV_ok tt_ok rfl) rfl (k_val (v := .int .u64 v5.S) rfl rfl rfl (pSub (pH (pH pNil))) (val_load tt_ok rfl (mT (mH)) rfl) rfl (k_val (v := .agg #[.int .u64 v5.S]) rfl rfl rfl (pSub (pH (pH pNil))) (val_load tt_ok rfl (mT (mH)) rfl) rfl ?_))))))
  replace h := bsome h; obtain ⟨v8, x8, h⟩ := h
  refine k_cq rfl rfl rfl Tryd.call80 rfl rfl rfl (q_pf (k_rng_Mix x8) (fun _ _ => trivial)) rfl (pSub (pH (pH pNil))) ?_
  refine k_chg rfl rfl rfl (Chg.of_val (stepV_ok tt_ok rfl)) rfl (.inr (by rintro _ _ ⟨rfl, rfl⟩; exact (pSub (pH (pH pNil))))) ?_
  rintro _ _ ⟨rfl, rfl⟩
  refine k_chg0 rfl rfl rfl (chg_store tt_ok rfl Upd.here rfl rfl rfl rfl rfl rfl) (.inl rfl) ?_
  rintro _ _ rfl
  refine k_end (by kernel_rfl) ?_
  refine wx_then (wc_ret ?_)
  simp only [Option.some.injEq, Prod.mk.injEq] at h
  obtain ⟨rfl, rfl⟩ := h
  exact wx_pf tt_ok (.inl rfl) Tryd.results77 (Res.tmp rfl (Res.cell rfl (mH) rfl Res.nil)) rfl

theorem k_rng_Source_Below {F : Nat} {p0 : T_rng_Source} {p1 : Int} {r0 : Int} {r1 : T_rng_Source} (h : m_rng_Source_Below F p0 p1 = some (r0, r1)) :
    Pf Tryd.prog 73 [.agg #[.int .u64 p0.S], .int .i64 p1] (fun w => True) (.tuple #[.int .i64 r0, .agg #[.int .u64 r1.S]]) := by
  unfold m_rng_Source_Below at h
  refine pf_of_wc Tryd.func73 rfl Tryd.ntmps73 rfl rfl (fun w0 hR => ?_)
  refine wc_seq (wc_region (wl_box rfl rfl rfl (fun b2 => (wP rfl rfl (wl_alloc tt_ok rfl rfl (fun b5 => (wl_nil (wx_then (wc_seq (wc_seq (wc_region (wP rfl rfl (wP (v := .bool (decide (p1 < (1 : Int)))) rfl rfl (wl_nil (wx_then (wc_cond rfl (fun hc => ?_) (fun hc => ?_)))))))))))))))))
  · replace h := ct hc h
    refine wc_seq (wc_k2 (Ls := (⟨b5, [.int .u64 (0 : Int)], 129, (0, 0)⟩ :: (⟨b2, [.int .u64 p0.S], 129, (0, 0)⟩ :: []))) [2] [2] [0, 0, 3] [0, 1, 2] (by kernel_rfl) (by kernel_rfl) (by kernel_rfl) (k_val (v := .agg #[.int .u64 p0.S]) rfl rfl rfl (pSub (pH (pH pNil))) (val_load tt_ok rfl (mT (mH)) rfl) rfl (k_val rfl rfl rfl (pSub (pH (pH pNil))) (stepV_ok tt_ok rfl) rfl (k_chg0 rfl rfl rfl (chg_store tt_ok rfl Upd.here rfl rfl rfl rfl rfl rfl) (.inl rfl) ?_))))
    rintro _ _ rfl
    refine k_end (by kernel_rfl) ?_
    refine wx_then (wc_ret (wx_then_ret ?_))
    simp only [Option.some.injEq, Prod.mk.injEq] at h
    obtain ⟨rfl, rfl⟩ := h
    exact wx_pf tt_ok (.inl rfl) Tryd.results73 (Res.tmp rfl (Res.cell rfl (mH) rfl Res.nil)) rfl
  replace h := cf hc h
  refine wc_skip (wx_then (wc_seq (wc_region (wl_val (v := .agg #[.int .u64 p0.S]) (val_load tt_ok rfl (mT (mH)) rfl) rfl ?_))))
  replace h := bsome h; obtain ⟨⟨za, zb⟩, x13, h⟩ := h; try dsimp only at h
  refine wl_cq Tryd.call77 rfl rfl rfl (q_pf (k_rng_Source_Next x13) (fun _ _ => trivial)) rfl ?_
  iterate 3 refine wP rfl rfl ?_
  refine wl_alloc tt_ok rfl rfl (fun b7 => ?_)
  refine wP rfl rfl ?_
  apply wl_store tt_ok; rfl; exact Upd.here; rfl; rfl; rfl; rfl; rfl; rfl
  refine wl_nil (wx_then (wc_seq (wc_k2 (Ls := (⟨b7, [.int .u64 zb.S], 129, (0, 0)⟩ :: (⟨b5, [.int .u64 (0 : Int)], 129, (0, 0)⟩ :: (⟨b2, [.int .u64 p0.S], 129, (0, 0)⟩ :: [])))) [10] [10] [0, 1, 0, 4, 12, 31, 63, 127, 0, 255, 1023] [0, 1, 2, 3, 4, 5, 6, 7, 8, 9, 10] (by kernel_rfl) (by kernel_rfl) (by kernel_rfl) (k_val rfl rfl rfl (pSub (pH (pH (pH pNil)))) (stepV_ok tt_ok rfl) rfl (k_val (v := .int .u64 (za / 2 ^ (min 32 (IntKind.bits .u64)))) rfl rfl rfl (pSub (pH (pH (pH pNil)))) (stepV_ok tt_ok rfl) rfl (k_val rfl rfl rfl (pSub (pH (pH (pH pNil)))) (stepV_ok tt_ok rfl) rfl (k_val (v := .int .i64 (min p1 (2147483648 : Int))) rfl rfl rfl (pSub (pH (pH (pH pNil)))) (stepV_ok tt_ok rfl) rfl ?_)))))))
  refine k_val (v := .int .u64 (IntKind.wrap .u64 (min p1 (2147483648 : Int)))) rfl rfl rfl (pSub (pH (pH (pH pNil)))) (stepV_ok tt_ok rfl) rfl ?_
  refine k_val (v := .int .u64 (IntKind.wrap .u64 ((za / 2 ^ (min 32 (IntKind.bits .u64))) * (IntKind.wrap .u64 (min p1 (2147483648 : Int)))))) rfl rfl rfl (pSub (pH (pH (pH pNil)))) (stepV_ok tt_ok rfl) rfl ?_
  refine k_val (v := .int .u64 ((IntKind.wrap .u64 ((za / 2 ^ (min 32 (IntKind.bits .u64))) * (IntKind.wrap .u64 (min p1 (2147483648 : Int))))) / 2 ^ (min 32 (IntKind.bits .u64)))) rfl rfl rfl (pSub (pH (pH (pH pNil)))) (stepV_ok tt_ok rfl) rfl ?_
  refine k_val (v := .int .i64 (IntKind.wrap .i64 ((IntKind.wrap .u64 ((za / 2 ^ (min 32 (IntKind.bits .u64))) * (IntKind.wrap .u64 (min p1 (2147483648 : Int))))) / 2 ^ (min 32 (IntKind.bits .u64))))) rfl rfl rfl (pSub (pH (pH (pH pNil)))) (stepV_ok tt_ok rfl) rfl ?_
  refine k_val (v := .agg #[.int .u64 zb.S]) rfl rfl rfl (pSub (pH (pH (pH pNil)))) (val_load tt_ok rfl (mH) rfl) rfl ?_
  refine k_val rfl rfl rfl (pSub (pH (pH (pH pNil)))) (stepV_ok tt_ok rfl) rfl ?_
  refine k_chg0 rfl rfl rfl (chg_store tt_ok rfl (Upd.there Upd.here) rfl rfl rfl rfl rfl rfl) (.inl rfl) ?_
  rintro _ _ rfl
  refine k_end (by kernel_rfl) ?_
  refine wx_then (wc_ret ?_)
  simp only [Option.some.injEq, Prod.mk.injEq] at h
  obtain ⟨rfl, rfl⟩ := h
  exact wx_pf tt_ok (.inl rfl) Tryd.results73 (Res.tmp rfl (Res.cell rfl (mT (mH)) rfl Res.nil)) rfl

theorem k_step_revive {F : Nat} {p0 : T_api_State} {p0b p0t : Nat} {p0a0 : Option Addr} {p0n0 : Nat} {p0c0 : Nat} {p0B0 : List Blk} {p1 : Int} {r0 : T_api_State} (p0N0 : p0n0 = p0.Shots.length) (p0V0 : Own 80 6 p0a0 p0n0 p0c0 (flat c_T_api_Shot p0.Shots) p0B0) (h : m_step_revive F p0 p1 = some r0) :
    SpD Tryd.prog 62 [.pointer (some ⟨p0b, 0, none⟩), .int .i64 p1] (⟨p0b, (.int .u64 p0.Frame :: .int .u64 p0.Seed :: pl14 p0.Players [.slice p0a0 p0n0 p0c0, .int .u16 p0.Score.1, .int .u16 p0.Score.2]), p0t, (0, 0)⟩ :: (p0B0 ++ [])) (fun w => True) (fun v D => ∃ (r0a0 : Option Addr) (r0n0 : Nat) (r0c0 : Nat) (r0B0 : List Blk), r0n0 = r0.Shots.length ∧ Own 80 6 r0a0 r0n0 r0c0 (flat c_T_api_Shot r0.Shots) r0B0 ∧ v = .tuple #[] ∧ D = fun F => (⟨p0b, (.int .u64 r0.Frame :: .int .u64 r0.Seed :: pl14 r0.Players [.slice r0a0 r0n0 r0c0, .int .u16 r0.Score.1, .int .u16 r0.Score.2]), p0t, (0, 0)⟩ :: (r0B0 ++ F))) := by
  unfold m_step_revive at h
  refine sp_of_wc Tryd.func62 rfl Tryd.ntmps62 rfl rfl (fun w0 hR => ?_)
  refine wc_seq (wc_region ?_)
  iterate 3 refine wP rfl rfl ?_
  refine wP (v := .pointer (some ⟨p0b, 2, none⟩)) rfl rfl ?_
  rcases Bool.eq_false_or_eq_true (p1 == (0 : Int)) with hx130 | hx130
  · replace h := ct hx130 h
    refine wl_val (v := .pointer (some ⟨p0b, 2, none⟩)) (val_ia (j := 0) tt_ok rfl rfl rfl rfl (by simpa using hx130) rfl rfl) rfl ?_
    refine wl_val (v := .agg #[.int .i32 p0.Players.1.X, .int .i32 p0.Players.1.Y, .int .i32 p0.Players.1.VX, .int .i32 p0.Players.1.VY, .int .u8 p0.Players.1.Health, .int .u8 p0.Players.1.Cool, .int .u8 p0.Players.1.Face]) (val_load tt_ok rfl (mH) rfl) rfl ?_
    replace h := bsome h; obtain ⟨v15, x15, h⟩ := h
    refine wl_cq Tryd.call60 rfl rfl rfl (q_pf (k_step_stopped x15) (fun _ _ => trivial)) rfl ?_
    refine wl_alloc tt_ok rfl rfl (fun b4 => ?_)
    apply wl_store tt_ok; rfl; exact Upd.here; rfl; rfl; rfl; rfl; rfl; rfl
    refine wl_nil (wx_then (wc_seq (wc_region (wP (v := .pointer (some ⟨b4, 4, none⟩)) rfl rfl ?_))))
    apply wl_store tt_ok; rfl; exact Upd.here; rfl; rfl; rfl; rfl; rfl; rfl
    refine wl_nil (wx_then (wc_seq (wc_region ?_)))
    iterate 2 refine wP rfl rfl ?_
    refine wP (v := .pointer (some ⟨p0b, 1, none⟩)) rfl rfl (wl_val (v := .int .u64 p0.Seed) (val_load tt_ok rfl (mT (mH)) rfl) rfl (wP (v := .agg #[.int .u64 p0.Seed]) rfl rfl (wl_alloc tt_ok rfl rfl (fun b5 => ?_))))
    apply wl_store tt_ok; rfl; exact Upd.here; rfl; rfl; rfl; rfl; rfl; rfl
    refine wl_nil (wx_then (wc_seq (wc_region (wl_val (v := .agg #[.int .u64 p0.Seed]) (val_load tt_ok rfl (mH) rfl) rfl ?_))))
    replace h := bsome h; obtain ⟨⟨zc, ze⟩, x24, h⟩ := h; try dsimp only at h
    refine wl_cq Tryd.call73 rfl rfl rfl (q_pf (k_rng_Source_Below x24) (fun _ _ => trivial)) rfl ?_
    iterate 4 refine wP rfl rfl ?_
    apply wl_store tt_ok; rfl; exact Upd.here; rfl; rfl; rfl; rfl; rfl; rfl
    refine wl_nil (wx_then (wc_seq (wc_region (wl_val (v := .agg #[.int .u64 ze.S]) (val_load tt_ok rfl (mH) rfl) rfl ?_))))
    replace h := bsome h; obtain ⟨⟨zd, zb⟩, x29, h⟩ := h; try dsimp only at h
    refine wl_cq Tryd.call73 rfl rfl rfl (q_pf (k_rng_Source_Below x29) (fun _ _ => trivial)) rfl ?_
    iterate 4 refine wP rfl rfl ?_
    apply wl_store tt_ok; rfl; exact Upd.here; rfl; rfl; rfl; rfl; rfl; rfl
    refine wl_nil (wx_then (wc_seq (wc_region (wP rfl rfl (wP (v := .pointer (some ⟨b5, 0, none⟩)) rfl rfl (wl_val (v := .int .u64 zb.S) (val_load tt_ok rfl (mH) rfl) rfl (wP rfl rfl (wP (v := .pointer (some ⟨p0b, 1, none⟩)) rfl rfl ?_))))))))
    apply wl_store tt_ok; rfl; exact (Upd.there (Upd.there Upd.here)); rfl; rfl; rfl; rfl; rfl; rfl
    refine wl_nil (wx_then (wc_seq (wc_region (wl_val (v := .agg #[.int .i32 v15.X, .int .i32 v15.Y, .int .i32 v15.VX, .int .i32 v15.VY, .int .u8 (100 : Int), .int .u8 v15.Cool, .int .u8 v15.Face]) (val_load tt_ok rfl (mT (mH)) rfl) rfl (wl_alloc tt_ok rfl rfl (fun b8 => ?_))))))
    apply wl_store tt_ok; rfl; exact Upd.here; rfl; rfl; rfl; rfl; rfl; rfl
    refine wl_nil (wx_then (wc_seq (wc_region (wP rfl rfl (wP (v := .int .i32 (IntKind.wrap .i32 zc)) rfl rfl (wP rfl rfl (wP (v := .int .i32 (IntKind.wrap .i32 zd)) rfl rfl (wP (v := .pointer (some ⟨b8, 0, none⟩)) rfl rfl ?_))))))))
    apply wl_store tt_ok; rfl; exact Upd.here; rfl; rfl; rfl; rfl; rfl; rfl
    refine wP (v := .pointer (some ⟨b8, 1, none⟩)) rfl rfl ?_
    apply wl_store tt_ok; rfl; exact Upd.here; rfl; rfl; rfl; rfl; rfl; rfl
    refine wl_nil (wx_then (wc_seq (wc_seq (wc_quiet (by kernel_rfl) (by kernel_rfl) (wq_val (v := .agg #[.int .i32 (IntKind.wrap .i32 zc), .int .i32 (IntKind.wrap .i32 zd), .int .i32 v15.VX, .int .i32 v15.VY, .int .u8 (100 : Int), .int .u8 v15.Cool, .int .u8 v15.Face]) (val_load tt_ok rfl (mH) rfl) rfl ?_)))))
    replace h := bsome h; obtain ⟨v45, x45, h⟩ := h
    refine wq_cq Tryd.call59 rfl rfl rfl (q_pf (k_step_box x45) (fun _ _ => trivial)) rfl ?_
    refine qP rfl rfl (qP rfl rfl (qP (v := .int .i64 (IntKind.wrap .i64 ((1 : Int) - p1))) rfl rfl (qP rfl rfl (qP (v := .pointer (some ⟨p0b, 2, none⟩)) rfl rfl ?_))))
    rcases Bool.eq_false_or_eq_true ((IntKind.wrap .i64 ((1 : Int) - p1)) == (0 : Int)) with hx510 | hx510
    · replace h := ct hx510 h
      refine wq_val (v := .pointer (some ⟨p0b, 2, none⟩)) (val_ia (j := 0) tt_ok rfl rfl rfl rfl (by simpa using hx510) rfl rfl) rfl ?_
      refine wq_val (v := .agg #[.int .i32 p0.Players.1.X, .int .i32 p0.Players.1.Y, .int .i32 p0.Players.1.VX, .int .i32 p0.Players.1.VY, .int .u8 p0.Players.1.Health, .int .u8 p0.Players.1.Cool, .int .u8 p0.Players.1.Face]) (val_load tt_ok rfl (mT (mT (mT (mH)))) rfl) rfl ?_
      replace h := bsome h; obtain ⟨v53, x53, h⟩ := h
      refine wq_cq Tryd.call59 rfl rfl rfl (q_pf (k_step_box x53) (fun _ _ => trivial)) rfl ?_
      replace h := bsome h; obtain ⟨v54, x54, h⟩ := h
      refine wq_cq Tryd.call58 rfl rfl rfl (q_pf (k_geom_Over x54) (fun _ _ => trivial)) rfl ?_
      refine qP (v := .bool (!v54)) rfl rfl (wq_nil (wx_then ?_))
      replace h := bsome h; obtain ⟨za, h, hj20⟩ := h
      refine wc_join2 (fun E L => E = [(0, .pointer (some ⟨p0b, 0, none⟩)), (1, .int .i64 p1), (4, .pointer (some ⟨b4, 0, none⟩))] ∧ L = (⟨p0b, (.int .u64 p0.Frame :: .int .u64 zb.S :: pl14 p0.Players [.slice p0a0 p0n0 p0c0, .int .u16 p0.Score.1, .int .u16 p0.Score.2]), p0t, (0, 0)⟩ :: (⟨b4, (pl7 za []), 30, (0, 0)⟩ :: (p0B0 ++ [])))) ?_ ?_
      · refine wc_cond rfl (fun hc => ?_) (fun hc => ?_)
        · replace h := ct hc h
          refine wc_region (wl_val (v := .agg #[.int .i32 (IntKind.wrap .i32 zc), .int .i32 (IntKind.wrap .i32 zd), .int .i32 v15.VX, .int .i32 v15.VY, .int .u8 (100 : Int), .int .u8 v15.Cool, .int .u8 v15.Face]) (val_load tt_ok rfl (mH) rfl) rfl ?_)
          apply wl_store tt_ok; rfl; exact (Upd.there (Upd.there Upd.here)); rfl; rfl; rfl; rfl; rfl; rfl
          refine wl_nil ?_
          obtain rfl := sI h
          exact wx_join ⟨rfl, rfl⟩ (agree_cons rfl (agree_cons rfl (agree_cons rfl agree_nil))) (pSub (pCons (sC (sC (sC hC))) (pCons (sC (sC hC)) (pApp (sC (sC hA')) pNil))))
        replace h := cf hc h
        refine wc_skip ?_
        obtain rfl := sI h
        exact wx_join ⟨rfl, rfl⟩ (agree_cons rfl (agree_cons rfl (agree_cons rfl agree_nil))) (pSub (pCons (sC (sC (sC hC))) (pCons (sC (sC hC)) (pApp (sC (sC hA')) pNil))))
      rintro _ _ ⟨rfl, rfl⟩
      have h := hj20; clear hj20
      refine wc_k2 (Ls := (⟨p0b, (.int .u64 p0.Frame :: .int .u64 zb.S :: pl14 p0.Players [.slice p0a0 p0n0 p0c0, .int .u16 p0.Score.1, .int .u16 p0.Score.2]), p0t, (0, 0)⟩ :: (⟨b4, (pl7 za []), 30, (0, 0)⟩ :: (p0B0 ++ [])))) [6] [6] [0, 0, 0, 1, 9, 31, 63] [0, 1, 2, 3, 4, 5, 6] (by kernel_rfl) (by kernel_rfl) (by kernel_rfl) ?_
      refine k_val rfl rfl rfl (pSub (pH (pH (pA pNil)))) (stepV_ok tt_ok rfl) rfl ?_
      refine k_val rfl rfl rfl (pSub (pH (pH (pA pNil)))) (stepV_ok tt_ok rfl) rfl ?_
      refine k_val (v := .agg #[.int .i32 za.X, .int .i32 za.Y, .int .i32 za.VX, .int .i32 za.VY, .int .u8 za.Health, .int .u8 za.Cool, .int .u8 za.Face]) rfl rfl rfl (pSub (pH (pH (pA pNil)))) (val_load tt_ok rfl (mT (mH)) rfl) rfl ?_
      refine k_val rfl rfl rfl (pSub (pH (pH (pA pNil)))) (stepV_ok tt_ok rfl) rfl ?_
      refine k_val (v := .pointer (some ⟨p0b, 2, none⟩)) rfl rfl rfl (pSub (pH (pH (pA pNil)))) (stepV_ok tt_ok rfl) rfl ?_
      refine k_val (v := .pointer (some ⟨p0b, 2, none⟩)) rfl rfl rfl (pSub (pH (pH (pA pNil)))) (val_ia (j := 0) tt_ok rfl rfl rfl rfl (by simpa using hx130) rfl rfl) rfl ?_
      refine k_chg0 rfl rfl rfl (chg_store tt_ok rfl Upd.here rfl rfl rfl rfl rfl rfl) (.inl rfl) ?_
      rintro _ _ rfl
      refine k_end (by kernel_rfl) ?_
      obtain rfl := sI h
      exact wx_spD tt_ok (.inr rfl) Tryd.results62 Res.nil ⟨p0a0, p0n0, p0c0, p0B0, p0N0, p0V0, rfl, rfl⟩ (fun F => by simp) (pSub (pH (pApp (sC hA') pNil)))
    replace h := cf hx510 h
    rcases Bool.eq_false_or_eq_true ((IntKind.wrap .i64 ((1 : Int) - p1)) == (1 : Int)) with hx511 | hx511
    · replace h := ct hx511 h
      refine wq_val (v := .pointer (some ⟨p0b, 9, none⟩)) (val_ia (j := 1) tt_ok rfl rfl rfl rfl (by simpa using hx511) rfl rfl) rfl ?_
      refine wq_val (v := .agg #[.int .i32 p0.Players.2.X, .int .i32 p0.Players.2.Y, .int .i32 p0.Players.2.VX, .int .i32 p0.Players.2.VY, .int .u8 p0.Players.2.Health, .int .u8 p0.Players.2.Cool, .int .u8 p0.Players.2.Face]) (val_load tt_ok rfl (mT (mT (mT (mH)))) rfl) rfl ?_
      replace h := bsome h; obtain ⟨v53, x53, h⟩ := h
      refine wq_cq Tryd.call59 rfl rfl rfl (q_pf (k_step_box x53) (fun _ _ => trivial)) rfl ?_
      replace h := bsome h; obtain ⟨v54, x54, h⟩ := h
      refine wq_cq Tryd.call58 rfl rfl rfl (q_pf (k_geom_Over x54) (fun _ _ => trivial)) rfl ?_
      refine qP (v := .bool (!v54)) rfl rfl (wq_nil (wx_then ?_))
      replace h := bsome h; obtain ⟨za, h, hj20⟩ := h
      refine wc_join2 (fun E L => E = [(0, .pointer (some ⟨p0b, 0, none⟩)), (1, .int .i64 p1), (4, .pointer (some ⟨b4, 0, none⟩))] ∧ L = (⟨p0b, (.int .u64 p0.Frame :: .int .u64 zb.S :: pl14 p0.Players [.slice p0a0 p0n0 p0c0, .int .u16 p0.Score.1, .int .u16 p0.Score.2]), p0t, (0, 0)⟩ :: (⟨b4, (pl7 za []), 30, (0, 0)⟩ :: (p0B0 ++ [])))) ?_ ?_
      · refine wc_cond rfl (fun hc => ?_) (fun hc => ?_)
        · replace h := ct hc h
          refine wc_region (wl_val (v := .agg #[.int .i32 (IntKind.wrap .i32 zc), .int .i32 (IntKind.wrap .i32 zd), .int .i32 v15.VX, .int .i32 v15.VY, .int .u8 (100 : Int), .int .u8 v15.Cool, .int .u8 v15.Face]) (val_load tt_ok rfl (mH) rfl) rfl ?_)
          apply wl_store tt_ok; rfl; exact (Upd.there (Upd.there Upd.here)); rfl; rfl; rfl; rfl; rfl; rfl
          refine wl_nil ?_
          obtain rfl := sI h
          exact wx_join ⟨rfl, rfl⟩ (agree_cons rfl (agree_cons rfl (agree_cons rfl agree_nil))) (pSub (pCons (sC (sC (sC hC))) (pCons (sC (sC hC)) (pApp (sC (sC hA')) pNil))))
        replace h := cf hc h
        refine wc_skip ?_
        obtain rfl := sI h
        exact wx_join ⟨rfl, rfl⟩ (agree_cons rfl (agree_cons rfl (agree_cons rfl agree_nil))) (pSub (pCons (sC (sC (sC hC))) (pCons (sC (sC hC)) (pApp (sC (sC hA')) pNil))))
      rintro _ _ ⟨rfl, rfl⟩
      have h := hj20; clear hj20
      refine wc_k2 (Ls := (⟨p0b, (.int .u64 p0.Frame :: .int .u64 zb.S :: pl14 p0.Players [.slice p0a0 p0n0 p0c0, .int .u16 p0.Score.1, .int .u16 p0.Score.2]), p0t, (0, 0)⟩ :: (⟨b4, (pl7 za []), 30, (0, 0)⟩ :: (p0B0 ++ [])))) [6] [6] [0, 0, 0, 1, 9, 31, 63] [0, 1, 2, 3, 4, 5, 6] (by kernel_rfl) (by kernel_rfl) (by kernel_rfl) ?_
      refine k_val rfl rfl rfl (pSub (pH (pH (pA pNil)))) (stepV_ok tt_ok rfl) rfl ?_
      refine k_val rfl rfl rfl (pSub (pH (pH (pA pNil)))) (stepV_ok tt_ok rfl) rfl ?_
      refine k_val (v := .agg #[.int .i32 za.X, .int .i32 za.Y, .int .i32 za.VX, .int .i32 za.VY, .int .u8 za.Health, .int .u8 za.Cool, .int .u8 za.Face]) rfl rfl rfl (pSub (pH (pH (pA pNil)))) (val_load tt_ok rfl (mT (mH)) rfl) rfl ?_
      refine k_val rfl rfl rfl (pSub (pH (pH (pA pNil)))) (stepV_ok tt_ok rfl) rfl ?_
      refine k_val (v := .pointer (some ⟨p0b, 2, none⟩)) rfl rfl rfl (pSub (pH (pH (pA pNil)))) (stepV_ok tt_ok rfl) rfl ?_
      refine k_val (v := .pointer (some ⟨p0b, 2, none⟩)) rfl rfl rfl (pSub (pH (pH (pA pNil)))) (val_ia (j := 0) tt_ok rfl rfl rfl rfl (by simpa using hx130) rfl rfl) rfl ?_
      refine k_chg0 rfl rfl rfl (chg_store tt_ok rfl Upd.here rfl rfl rfl rfl rfl rfl) (.inl rfl) ?_
      rintro _ _ rfl
      refine k_end (by kernel_rfl) ?_
      obtain rfl := sI h
      exact wx_spD tt_ok (.inr rfl) Tryd.results62 Res.nil ⟨p0a0, p0n0, p0c0, p0B0, p0N0, p0V0, rfl, rfl⟩ (fun F => by simp) (pSub (pH (pApp (sC hA') pNil)))
    replace h := cf hx511 h
    cases h
  replace h := cf hx130 h
  rcases Bool.eq_false_or_eq_true (p1 == (1 : Int)) with hx131 | hx131
  · replace h := ct hx131 h
    refine wl_val (v := .pointer (some ⟨p0b, 9, none⟩)) (val_ia (j := 1) tt_ok rfl rfl rfl rfl (by simpa using hx131) rfl rfl) rfl ?_
    refine wl_val (v := .agg #[.int .i32 p0.Players.2.X, .int .i32 p0.Players.2.Y, .int .i32 p0.Players.2.VX, .int .i32 p0.Players.2.VY, .int .u8 p0.Players.2.Health, .int .u8 p0.Players.2.Cool, .int .u8 p0.Players.2.Face]) (val_load tt_ok rfl (mH) rfl) rfl ?_
    replace h := bsome h; obtain ⟨v15, x15, h⟩ := h
    refine wl_cq Tryd.call60 rfl rfl rfl (q_pf (k_step_stopped x15) (fun _ _ => trivial)) rfl ?_
    refine wl_alloc tt_ok rfl rfl (fun b4 => ?_)
    apply wl_store tt_ok; rfl; exact Upd.here; rfl; rfl; rfl; rfl; rfl; rfl
    refine wl_nil (wx_then (wc_seq (wc_region (wP (v := .pointer (some ⟨b4, 4, none⟩)) rfl rfl ?_))))
    apply wl_store tt_ok; rfl; exact Upd.here; rfl; rfl; rfl; rfl; rfl; rfl
    refine wl_nil (wx_then (wc_seq (wc_region ?_)))
    iterate 2 refine wP rfl rfl ?_
    refine wP (v := .pointer (some ⟨p0b, 1, none⟩)) rfl rfl (wl_val (v := .int .u64 p0.Seed) (val_load tt_ok rfl (mT (mH)) rfl) rfl (wP (v := .agg #[.int .u64 p0.Seed]) rfl rfl (wl_alloc tt_ok rfl rfl (fun b5 => ?_))))
    apply wl_store tt_ok; rfl; exact Upd.here; rfl; rfl; rfl; rfl; rfl; rfl
    refine wl_nil (wx_then (wc_seq (wc_region (wl_val (v := .agg #[.int .u64 p0.Seed]) (val_load tt_ok rfl (mH) rfl) rfl ?_))))
    replace h := bsome h; obtain ⟨⟨zc, ze⟩, x24, h⟩ := h; try dsimp only at h
    refine wl_cq Tryd.call73 rfl rfl rfl (q_pf (k_rng_Source_Below x24) (fun _ _ => trivial)) rfl ?_
    iterate 4 refine wP rfl rfl ?_
    apply wl_store tt_ok; rfl; exact Upd.here; rfl; rfl; rfl; rfl; rfl; rfl
    refine wl_nil (wx_then (wc_seq (wc_region (wl_val (v := .agg #[.int .u64 ze.S]) (val_load tt_ok rfl (mH) rfl) rfl ?_))))
    replace h := bsome h; obtain ⟨⟨zd, zb⟩, x29, h⟩ := h; try dsimp only at h
    refine wl_cq Tryd.call73 rfl rfl rfl (q_pf (k_rng_Source_Below x29) (fun _ _ => trivial)) rfl ?_
    iterate 4 refine wP rfl rfl ?_
    apply wl_store tt_ok; rfl; exact Upd.here; rfl; rfl; rfl; rfl; rfl; rfl
    refine wl_nil (wx_then (wc_seq (wc_region (wP rfl rfl (wP (v := .pointer (some ⟨b5, 0, none⟩)) rfl rfl (wl_val (v := .int .u64 zb.S) (val_load tt_ok rfl (mH) rfl) rfl (wP rfl rfl (wP (v := .pointer (some ⟨p0b, 1, none⟩)) rfl rfl ?_))))))))
    apply wl_store tt_ok; rfl; exact (Upd.there (Upd.there Upd.here)); rfl; rfl; rfl; rfl; rfl; rfl
    refine wl_nil (wx_then (wc_seq (wc_region (wl_val (v := .agg #[.int .i32 v15.X, .int .i32 v15.Y, .int .i32 v15.VX, .int .i32 v15.VY, .int .u8 (100 : Int), .int .u8 v15.Cool, .int .u8 v15.Face]) (val_load tt_ok rfl (mT (mH)) rfl) rfl (wl_alloc tt_ok rfl rfl (fun b8 => ?_))))))
    apply wl_store tt_ok; rfl; exact Upd.here; rfl; rfl; rfl; rfl; rfl; rfl
    refine wl_nil (wx_then (wc_seq (wc_region (wP rfl rfl (wP (v := .int .i32 (IntKind.wrap .i32 zc)) rfl rfl (wP rfl rfl (wP (v := .int .i32 (IntKind.wrap .i32 zd)) rfl rfl (wP (v := .pointer (some ⟨b8, 0, none⟩)) rfl rfl ?_))))))))
    apply wl_store tt_ok; rfl; exact Upd.here; rfl; rfl; rfl; rfl; rfl; rfl
    refine wP (v := .pointer (some ⟨b8, 1, none⟩)) rfl rfl ?_
    apply wl_store tt_ok; rfl; exact Upd.here; rfl; rfl; rfl; rfl; rfl; rfl
    refine wl_nil (wx_then (wc_seq (wc_seq (wc_quiet (by kernel_rfl) (by kernel_rfl) (wq_val (v := .agg #[.int .i32 (IntKind.wrap .i32 zc), .int .i32 (IntKind.wrap .i32 zd), .int .i32 v15.VX, .int .i32 v15.VY, .int .u8 (100 : Int), .int .u8 v15.Cool, .int .u8 v15.Face]) (val_load tt_ok rfl (mH) rfl) rfl ?_)))))
    replace h := bsome h; obtain ⟨v45, x45, h⟩ := h
    refine wq_cq Tryd.call59 rfl rfl rfl (q_pf (k_step_box x45) (fun _ _ => trivial)) rfl ?_
    refine qP rfl rfl (qP rfl rfl (qP (v := .int .i64 (IntKind.wrap .i64 ((1 : Int) - p1))) rfl rfl (qP rfl rfl (qP (v := .pointer (some ⟨p0b, 2, none⟩)) rfl rfl ?_))))
    rcases Bool.eq_false_or_eq_true ((IntKind.wrap .i64 ((1 : Int) - p1)) == (0 : Int)) with hx510 | hx510
    · replace h := ct hx510 h
      refine wq_val (v := .pointer (some ⟨p0b, 2, none⟩)) (val_ia (j := 0) tt_ok rfl rfl rfl rfl (by simpa using hx510) rfl rfl) rfl ?_
      refine wq_val (v := .agg #[.int .i32 p0.Players.1.X, .int .i32 p0.Players.1.Y, .int .i32 p0.Players.1.VX, .int .i32 p0.Players.1.VY, .int .u8 p0.Players.1.Health, .int .u8 p0.Players.1.Cool, .int .u8 p0.Players.1.Face]) (val_load tt_ok rfl (mT (mT (mT (mH)))) rfl) rfl ?_
      replace h := bsome h; obtain ⟨v53, x53, h⟩ := h
      refine wq_cq Tryd.call59 rfl rfl rfl (q_pf (k_step_box x53) (fun _ _ => trivial)) rfl ?_
      replace h := bsome h; obtain ⟨v54, x54, h⟩ := h
      refine wq_cq Tryd.call58 rfl rfl rfl (q_pf (k_geom_Over x54) (fun _ _ => trivial)) rfl ?_
      refine qP (v := .bool (!v54)) rfl rfl (wq_nil (wx_then ?_))
      replace h := bsome h; obtain ⟨za, h, hj20⟩ := h
      refine wc_join2 (fun E L => E = [(0, .pointer (some ⟨p0b, 0, none⟩)), (1, .int .i64 p1), (4, .pointer (some ⟨b4, 0, none⟩))] ∧ L = (⟨p0b, (.int .u64 p0.Frame :: .int .u64 zb.S :: pl14 p0.Players [.slice p0a0 p0n0 p0c0, .int .u16 p0.Score.1, .int .u16 p0.Score.2]), p0t, (0, 0)⟩ :: (⟨b4, (pl7 za []), 30, (0, 0)⟩ :: (p0B0 ++ [])))) ?_ ?_
      · refine wc_cond rfl (fun hc => ?_) (fun hc => ?_)
        · replace h := ct hc h
          refine wc_region (wl_val (v := .agg #[.int .i32 (IntKind.wrap .i32 zc), .int .i32 (IntKind.wrap .i32 zd), .int .i32 v15.VX, .int .i32 v15.VY, .int .u8 (100 : Int), .int .u8 v15.Cool, .int .u8 v15.Face]) (val_load tt_ok rfl (mH) rfl) rfl ?_)
          apply wl_store tt_ok; rfl; exact (Upd.there (Upd.there Upd.here)); rfl; rfl; rfl; rfl; rfl; rfl
          refine wl_nil ?_
          obtain rfl := sI h
          exact wx_join ⟨rfl, rfl⟩ (agree_cons rfl (agree_cons rfl (agree_cons rfl agree_nil))) (pSub (pCons (sC (sC (sC hC))) (pCons (sC (sC hC)) (pApp (sC (sC hA')) pNil))))
        replace h := cf hc h
        refine wc_skip ?_
        obtain rfl := sI h
        exact wx_join ⟨rfl, rfl⟩ (agree_cons rfl (agree_cons rfl (agree_cons rfl agree_nil))) (pSub (pCons (sC (sC (sC hC))) (pCons (sC (sC hC)) (pApp (sC (sC hA')) pNil))))
      rintro _ _ ⟨rfl, rfl⟩
      have h := hj20; clear hj20
      refine wc_k2 (Ls := (⟨p0b, (.int .u64 p0.Frame :: .int .u64 zb.S :: pl14 p0.Players [.slice p0a0 p0n0 p0c0, .int .u16 p0.Score.1, .int .u16 p0.Score.2]), p0t, (0, 0)⟩ :: (⟨b4, (pl7 za []), 30, (0, 0)⟩ :: (p0B0 ++ [])))) [6] [6] [0, 0, 0, 1, 9, 31, 63] [0, 1, 2, 3, 4, 5, 6] (by kernel_rfl) (by kernel_rfl) (by kernel_rfl) ?_
      refine k_val rfl rfl rfl (pSub (pH (pH (pA pNil)))) (stepV_ok tt_ok rfl) rfl ?_
      refine k_val rfl rfl rfl (pSub (pH (pH (pA pNil)))) (stepV_ok tt_ok rfl) rfl ?_
      refine k_val (v := .agg #[.int .i32 za.X, .int .i32 za.Y, .int .i32 za.VX, .int .i32 za.VY, .int .u8 za.Health, .int .u8 za.Cool, .int .u8 za.Face]) rfl rfl rfl (pSub (pH (pH (pA pNil)))) (val_load tt_ok rfl (mT (mH)) rfl) rfl ?_
      refine k_val rfl rfl rfl (pSub (pH (pH (pA pNil)))) (stepV_ok tt_ok rfl) rfl ?_
      refine k_val (v := .pointer (some ⟨p0b, 2, none⟩)) rfl rfl rfl (pSub (pH (pH (pA pNil)))) (stepV_ok tt_ok rfl) rfl ?_
      refine k_val (v := .pointer (some ⟨p0b, 9, none⟩)) rfl rfl rfl (pSub (pH (pH (pA pNil)))) (val_ia (j := 1) tt_ok rfl rfl rfl rfl (by simpa using hx131) rfl rfl) rfl ?_
      refine k_chg0 rfl rfl rfl (chg_store tt_ok rfl Upd.here rfl rfl rfl rfl rfl rfl) (.inl rfl) ?_
      rintro _ _ rfl
      refine k_end (by kernel_rfl) ?_
      obtain rfl := sI h
      exact wx_spD tt_ok (.inr rfl) Tryd.results62 Res.nil ⟨p0a0, p0n0, p0c0, p0B0, p0N0, p0V0, rfl, rfl⟩ (fun F => by simp) (pSub (pH (pApp (sC hA') pNil)))
    replace h := cf hx510 h
    rcases Bool.eq_false_or_eq_true ((IntKind.wrap .i64 ((1 : Int) - p1)) == (1 : Int)) with hx511 | hx511
    · replace h := ct hx511 h
      refine wq_val (v := .pointer (some ⟨p0b, 9, none⟩)) (val_ia (j := 1) tt_ok rfl rfl rfl rfl (by simpa using hx511) rfl rfl) rfl ?_
      refine wq_val (v := .agg #[.int .i32 p0.Players.2.X, .int .i32 p0.Players.2.Y, .int .i32 p0.Players.2.VX, .int .i32 p0.Players.2.VY, .int .u8 p0.Players.2.Health, .int .u8 p0.Players.2.Cool, .int .u8 p0.Players.2.Face]) (val_load tt_ok rfl (mT (mT (mT (mH)))) rfl) rfl ?_
      replace h := bsome h; obtain ⟨v53, x53, h⟩ := h
      refine wq_cq Tryd.call59 rfl rfl rfl (q_pf (k_step_box x53) (fun _ _ => trivial)) rfl ?_
      replace h := bsome h; obtain ⟨v54, x54, h⟩ := h
      refine wq_cq Tryd.call58 rfl rfl rfl (q_pf (k_geom_Over x54) (fun _ _ => trivial)) rfl ?_
      refine qP (v := .bool (!v54)) rfl rfl (wq_nil (wx_then ?_))
      replace h := bsome h; obtain ⟨za, h, hj20⟩ := h
      refine wc_join2 (fun E L => E = [(0, .pointer (some ⟨p0b, 0, none⟩)), (1, .int .i64 p1), (4, .pointer (some ⟨b4, 0, none⟩))] ∧ L = (⟨p0b, (.int .u64 p0.Frame :: .int .u64 zb.S :: pl14 p0.Players [.slice p0a0 p0n0 p0c0, .int .u16 p0.Score.1, .int .u16 p0.Score.2]), p0t, (0, 0)⟩ :: (⟨b4, (pl7 za []), 30, (0, 0)⟩ :: (p0B0 ++ [])))) ?_ ?_
      · refine wc_cond rfl (fun hc => ?_) (fun hc => ?_)
        · replace h := ct hc h
          refine wc_region (wl_val (v := .agg #[.int .i32 (IntKind.wrap .i32 zc), .int .i32 (IntKind.wrap .i32 zd), .int .i32 v15.VX, .int .i32 v15.VY, .int .u8 (100 : Int), .int .u8 v15.Cool, .int .u8 v15.Face]) (val_load tt_ok rfl (mH) rfl) rfl ?_)
          apply wl_store tt_ok; rfl; exact (Upd.there (Upd.there Upd.here)); rfl; rfl; rfl; rfl; rfl; rfl
          refine wl_nil ?_
          obtain rfl := sI h
          exact wx_join ⟨rfl, rfl⟩ (agree_cons rfl (agree_cons rfl (agree_cons rfl agree_nil))) (pSub (pCons (sC (sC (sC hC))) (pCons (sC (sC hC)) (pApp (sC (sC hA')) pNil))))
        replace h := cf hc h
        refine wc_skip ?_
        obtain rfl := sI h
        exact wx_join ⟨rfl, rfl⟩ (agree_cons rfl (agree_cons rfl (agree_cons rfl agree_nil))) (pSub (pCons (sC (sC (sC hC))) (pCons (sC (sC hC)) (pApp (sC (sC hA')) pNil))))
      rintro _ _ ⟨rfl, rfl⟩
      have h := hj20; clear hj20
      refine wc_k2 (Ls := (⟨p0b, (.int .u64 p0.Frame :: .int .u64 zb.S :: pl14 p0.Players [.slice p0a0 p0n0 p0c0, .int .u16 p0.Score.1, .int .u16 p0.Score.2]), p0t, (0, 0)⟩ :: (⟨b4, (pl7 za []), 30, (0, 0)⟩ :: (p0B0 ++ [])))) [6] [6] [0, 0, 0, 1, 9, 31, 63] [0, 1, 2, 3, 4, 5, 6] (by kernel_rfl) (by kernel_rfl) (by kernel_rfl) ?_
      refine k_val rfl rfl rfl (pSub (pH (pH (pA pNil)))) (stepV_ok tt_ok rfl) rfl ?_
      refine k_val rfl rfl rfl (pSub (pH (pH (pA pNil)))) (stepV_ok tt_ok rfl) rfl ?_
      refine k_val (v := .agg #[.int .i32 za.X, .int .i32 za.Y, .int .i32 za.VX, .int .i32 za.VY, .int .u8 za.Health, .int .u8 za.Cool, .int .u8 za.Face]) rfl rfl rfl (pSub (pH (pH (pA pNil)))) (val_load tt_ok rfl (mT (mH)) rfl) rfl ?_
      refine k_val rfl rfl rfl (pSub (pH (pH (pA pNil)))) (stepV_ok tt_ok rfl) rfl ?_
      refine k_val (v := .pointer (some ⟨p0b, 2, none⟩)) rfl rfl rfl (pSub (pH (pH (pA pNil)))) (stepV_ok tt_ok rfl) rfl ?_
      refine k_val (v := .pointer (some ⟨p0b, 9, none⟩)) rfl rfl rfl (pSub (pH (pH (pA pNil)))) (val_ia (j := 1) tt_ok rfl rfl rfl rfl (by simpa using hx131) rfl rfl) rfl ?_
      refine k_chg0 rfl rfl rfl (chg_store tt_ok rfl Upd.here rfl rfl rfl rfl rfl rfl) (.inl rfl) ?_
      rintro _ _ rfl
      refine k_end (by kernel_rfl) ?_
      obtain rfl := sI h
      exact wx_spD tt_ok (.inr rfl) Tryd.results62 Res.nil ⟨p0a0, p0n0, p0c0, p0B0, p0N0, p0V0, rfl, rfl⟩ (fun F => by simp) (pSub (pH (pApp (sC hA') pNil)))
    replace h := cf hx511 h
    cases h
  replace h := cf hx131 h
  cases h

theorem k_step_Step {F : Nat} {p0 : T_api_State} {p0a0 : Option Addr} {p0n0 p0c0 : Nat} {p1 : (Int × Int)} {r0 : T_api_State} (p0N0 : p0n0 = p0.Shots.length) (p0H0 : p0n0 ≤ p0c0) (h : m_step_Step F p0 p1 = some r0) :
    SpD Tryd.prog 38 [.agg #[.int .u64 p0.Frame, .int .u64 p0.Seed, .int .i32 p0.Players.1.X, .int .i32 p0.Players.1.Y, .int .i32 p0.Players.1.VX, .int .i32 p0.Players.1.VY, .int .u8 p0.Players.1.Health, .int .u8 p0.Players.1.Cool, .int .u8 p0.Players.1.Face, .int .i32 p0.Players.2.X, .int .i32 p0.Players.2.Y, .int .i32 p0.Players.2.VX, .int .i32 p0.Players.2.VY, .int .u8 p0.Players.2.Health, .int .u8 p0.Players.2.Cool, .int .u8 p0.Players.2.Face, .slice p0a0 p0n0 p0c0, .int .u16 p0.Score.1, .int .u16 p0.Score.2], .agg #[.int .u8 p1.1, .int .u8 p1.2]] [] (fun w => Rds w (ids []) [] p0a0 (flat c_T_api_Shot p0.Shots) ∧ Rds w (ids []) [] (some ⟨0, 0, none⟩) (flat (fun _ : Unit => gl_state_playerBounds) [()]) ∧ Rds w (ids []) [] (some ⟨1, 0, none⟩) (flat (fun _ : Unit => gl_state_shotBounds) [()])) (fun v D => ∃ (r0a0 : Option Addr) (r0n0 : Nat) (r0c0 : Nat) (r0B0 : List Blk), r0n0 = r0.Shots.length ∧ Own 80 6 r0a0 r0n0 r0c0 (flat c_T_api_Shot r0.Shots) r0B0 ∧ v = .agg #[.int .u64 r0.Frame, .int .u64 r0.Seed, .int .i32 r0.Players.1.X, .int .i32 r0.Players.1.Y, .int .i32 r0.Players.1.VX, .int .i32 r0.Players.1.VY, .int .u8 r0.Players.1.Health, .int .u8 r0.Players.1.Cool, .int .u8 r0.Players.1.Face, .int .i32 r0.Players.2.X, .int .i32 r0.Players.2.Y, .int .i32 r0.Players.2.VX, .int .i32 r0.Players.2.VY, .int .u8 r0.Players.2.Health, .int .u8 r0.Players.2.Cool, .int .u8 r0.Players.2.Face, .slice r0a0 r0n0 r0c0, .int .u16 r0.Score.1, .int .u16 r0.Score.2] ∧ D = fun F => (r0B0 ++ F)) := by
  unfold m_step_Step at h
  refine sp_of_wc Tryd.func38 rfl Tryd.ntmps38 rfl rfl (fun w0 hR => ?_)
  obtain ⟨p0S0, G0S, G1S⟩ := hR
  refine wc_seq (wc_region (wl_box rfl rfl rfl (fun b2 => (wl_box rfl rfl rfl (fun b3 => (wl_alloc tt_ok rfl rfl (fun b4 => (wl_nil (wx_then (wc_seq (wc_region (wl_val (v := .agg #[.int .u64 p0.Frame, .int .u64 p0.Seed, .int .i32 p0.Players.1.X, .int .i32 p0.Players.1.Y, .int .i32 p0.Players.1.VX, .int .i32 p0.Players.1.VY, .int .u8 p0.Players.1.Health, .int .u8 p0.Players.1.Cool, .int .u8 p0.Players.1.Face, .int .i32 p0.Players.2.X, .int .i32 p0.Players.2.Y, .int .i32 p0.Players.2.VX, .int .i32 p0.Players.2.VY, .int .u8 p0.Players.2.Health, .int .u8 p0.Players.2.Cool, .int .u8 p0.Players.2.Face, .slice p0a0 p0n0 p0c0, .int .u16 p0.Score.1, .int .u16 p0.Score.2]) (val_load tt_ok rfl (mT (mT (mH))) rfl) rfl ?_))))))))))))
  replace h := bsome h; obtain ⟨v12, x12, h⟩ := h
  refine wl_cs Tryd.call26 rfl rfl rfl (s_sp (k_state_Copy (p0 := p0) p0N0 p0H0 x12) pNil (Rds.call p0S0 pNil rsub_nil)) rfl ?_
  rintro _ _ ⟨_, ⟨v12a0, v12n0, v12c0, v12B0, v12N0, v12V0, rfl, rfl⟩, rfl⟩
  apply wl_store tt_ok; rfl; exact (Upd.right (Upd.there (Upd.there Upd.here))); rfl; rfl; rfl; rfl; rfl; rfl
  refine wl_nil (wx_then (wc_seq (wc_seq (wc_region (wl_val (v := .agg #[.int .u64 v12.Frame, .int .u64 v12.Seed, .int .i32 v12.Players.1.X, .int .i32 v12.Players.1.Y, .int .i32 v12.Players.1.VX, .int .i32 v12.Players.1.VY, .int .u8 v12.Players.1.Health, .int .u8 v12.Players.1.Cool, .int .u8 v12.Players.1.Face, .int .i32 v12.Players.2.X, .int .i32 v12.Players.2.Y, .int .i32 v12.Players.2.VX, .int .i32 v12.Players.2.VY, .int .u8 v12.Players.2.Health, .int .u8 v12.Players.2.Cool, .int .u8 v12.Players.2.Face, .slice v12a0 v12n0 v12c0, .int .u16 v12.Score.1, .int .u16 v12.Score.2]) (val_load tt_ok rfl (mR (mT (mT (mH)))) rfl) rfl ?_)))))
  replace h := bsome h; obtain ⟨v14, x14, h⟩ := h
  refine wl_cq Tryd.call25 rfl rfl rfl (q_pf (k_state_Check (p0 := v12) v12N0 (vec_cap v12V0) x14) (fun w hI => ⟨(Rds.call (Rds.of_vec v12V0) pNil ⟨_, hA'⟩) w hI, (Rds.call G0S pNil rsub_nil) w hI, (Rds.call G1S pNil rsub_nil) w hI⟩)) rfl ?_
  refine wP (v := .bool (v14 != (0 : Int))) rfl rfl (wP rfl rfl ?_)
  replace h := bsome h; obtain ⟨v21, h, hg21⟩ := h
  refine wl_split (t := 16) rfl (fun hc => ?_) (fun hc => ?_)
  · replace h := ct hc h
    refine wl_skip rfl rfl (wl_skip rfl rfl (wl_skip rfl rfl (wl_skip rfl rfl ?_)))
    obtain rfl := sI h
    have h := hg21; clear hg21
    refine wP (v := .bool true) rfl rfl (wP rfl rfl ?_)
    replace h := bsome h; obtain ⟨v27, h, hg27⟩ := h
    replace h := ct rfl h
    refine wl_skip rfl rfl (wl_skip rfl rfl (wl_skip rfl rfl (wl_skip rfl rfl ?_)))
    obtain rfl := sI h
    have h := hg27; clear hg27
    refine wP (v := .bool true) rfl rfl (wl_nil (wx_then ?_))
    replace h := ct rfl h
    refine wc_cond_true rfl ?_
    refine wc_seq (wc_region (wl_val (v := .agg #[.int .u64 v12.Frame, .int .u64 v12.Seed, .int .i32 v12.Players.1.X, .int .i32 v12.Players.1.Y, .int .i32 v12.Players.1.VX, .int .i32 v12.Players.1.VY, .int .u8 v12.Players.1.Health, .int .u8 v12.Players.1.Cool, .int .u8 v12.Players.1.Face, .int .i32 v12.Players.2.X, .int .i32 v12.Players.2.Y, .int .i32 v12.Players.2.VX, .int .i32 v12.Players.2.VY, .int .u8 v12.Players.2.Health, .int .u8 v12.Players.2.Cool, .int .u8 v12.Players.2.Face, .slice v12a0 v12n0 v12c0, .int .u16 v12.Score.1, .int .u16 v12.Score.2]) (val_load tt_ok rfl (mR (mT (mT (mH)))) rfl) rfl ?_))
    apply wl_store tt_ok; rfl; exact (Upd.right Upd.here); rfl; rfl; rfl; rfl; rfl; rfl
    refine wl_nil (wx_then (wc_ret (wx_then_ret ?_)))
    obtain rfl := sI h
    exact wx_spD tt_ok (.inl rfl) Tryd.results38 (Res.cell rfl (mR (mH)) rfl Res.nil) ⟨v12a0, v12n0, v12c0, v12B0, v12N0, v12V0, rfl, rfl⟩ (fun F => by simp) (pSub (pA pNil))
  replace h := cf hc h
  refine wl_run rfl (wl_val (v := .pointer (some ⟨b3, 0, none⟩)) (val_ia (j := 0) tt_ok rfl rfl rfl rfl rfl rfl rfl) rfl (wl_run rfl (wl_val (v := .int .u8 p1.1) (val_load tt_ok rfl (mR (mT (mH))) rfl) rfl ?_)))
  replace h := bsome h; obtain ⟨v19, x19, h⟩ := h
  refine wl_run rfl (wl_cq Tryd.call31 rfl rfl rfl (q_pf (k_input_Legal x19) (fun _ _ => trivial)) rfl (wl_run rfl (wP (v := .bool (!v19)) rfl rfl ?_)))
  obtain rfl := sI h
  have h := hg21; clear hg21
  refine wP (v := .bool (!v19)) rfl rfl (wP rfl rfl ?_)
  replace h := bsome h; obtain ⟨v27, h, hg27⟩ := h
  refine wl_split (t := 22) rfl (fun hc => ?_) (fun hc => ?_)
  · replace h := ct hc h
    refine wl_skip rfl rfl (wl_skip rfl rfl (wl_skip rfl rfl (wl_skip rfl rfl ?_)))
    obtain rfl := sI h
    have h := hg27; clear hg27
    refine wP (v := .bool true) rfl rfl (wl_nil (wx_then ?_))
    replace h := ct rfl h
    refine wc_cond_true rfl ?_
    refine wc_seq (wc_region (wl_val (v := .agg #[.int .u64 v12.Frame, .int .u64 v12.Seed, .int .i32 v12.Players.1.X, .int .i32 v12.Players.1.Y, .int .i32 v12.Players.1.VX, .int .i32 v12.Players.1.VY, .int .u8 v12.Players.1.Health, .int .u8 v12.Players.1.Cool, .int .u8 v12.Players.1.Face, .int .i32 v12.Players.2.X, .int .i32 v12.Players.2.Y, .int .i32 v12.Players.2.VX, .int .i32 v12.Players.2.VY, .int .u8 v12.Players.2.Health, .int .u8 v12.Players.2.Cool, .int .u8 v12.Players.2.Face, .slice v12a0 v12n0 v12c0, .int .u16 v12.Score.1, .int .u16 v12.Score.2]) (val_load tt_ok rfl (mR (mT (mT (mH)))) rfl) rfl ?_))
    apply wl_store tt_ok; rfl; exact (Upd.right Upd.here); rfl; rfl; rfl; rfl; rfl; rfl
    refine wl_nil (wx_then (wc_ret (wx_then_ret ?_)))
    obtain rfl := sI h
    exact wx_spD tt_ok (.inl rfl) Tryd.results38 (Res.cell rfl (mR (mH)) rfl Res.nil) ⟨v12a0, v12n0, v12c0, v12B0, v12N0, v12V0, rfl, rfl⟩ (fun F => by simp) (pSub (pA pNil))
  replace h := cf hc h
  refine wl_run rfl (wl_val (v := .pointer (some ⟨b3, 1, none⟩)) (val_ia (j := 1) tt_ok rfl rfl rfl rfl rfl rfl rfl) rfl (wl_run rfl (wl_val (v := .int .u8 p1.2) (val_load tt_ok rfl (mR (mT (mH))) rfl) rfl ?_)))
  replace h := bsome h; obtain ⟨v25, x25, h⟩ := h
  refine wl_run rfl (wl_cq Tryd.call31 rfl rfl rfl (q_pf (k_input_Legal x25) (fun _ _ => trivial)) rfl (wl_run rfl (wP (v := .bool (!v25)) rfl rfl ?_)))
  obtain rfl := sI h
  have h := hg27; clear hg27
  refine wP (v := .bool (!v25)) rfl rfl (wl_nil (wx_then (wc_cond rfl (fun hc => ?_) (fun hc => ?_))))
  · replace h := ct hc h
    refine wc_seq (wc_region (wl_val (v := .agg #[.int .u64 v12.Frame, .int .u64 v12.Seed, .int .i32 v12.Players.1.X, .int .i32 v12.Players.1.Y, .int .i32 v12.Players.1.VX, .int .i32 v12.Players.1.VY, .int .u8 v12.Players.1.Health, .int .u8 v12.Players.1.Cool, .int .u8 v12.Players.1.Face, .int .i32 v12.Players.2.X, .int .i32 v12.Players.2.Y, .int .i32 v12.Players.2.VX, .int .i32 v12.Players.2.VY, .int .u8 v12.Players.2.Health, .int .u8 v12.Players.2.Cool, .int .u8 v12.Players.2.Face, .slice v12a0 v12n0 v12c0, .int .u16 v12.Score.1, .int .u16 v12.Score.2]) (val_load tt_ok rfl (mR (mT (mT (mH)))) rfl) rfl ?_))
    apply wl_store tt_ok; rfl; exact (Upd.right Upd.here); rfl; rfl; rfl; rfl; rfl; rfl
    refine wl_nil (wx_then (wc_ret (wx_then_ret ?_)))
    obtain rfl := sI h
    exact wx_spD tt_ok (.inl rfl) Tryd.results38 (Res.cell rfl (mR (mH)) rfl Res.nil) ⟨v12a0, v12n0, v12c0, v12B0, v12N0, v12V0, rfl, rfl⟩ (fun F => by simp) (pSub (pA pNil))
  replace h := cf hc h
  refine wc_skip (wx_then (wc_seq (wc_seq (wc_region (wP rfl rfl (wl_nil (wx_then (wc_block ?_))))))))
  replace h := bsome h; obtain ⟨zah, h, hl17⟩ := h
  refine wc_loop (fun m E L => ∃ (zy : Int) (zi : (T_api_Player × T_api_Player)), m_step_Step_L16 F p1 m zy zi = some zah ∧ E = [(2, .pointer (some ⟨b2, 0, none⟩)), (3, .pointer (some ⟨b3, 0, none⟩)), (4, .pointer (some ⟨b4, 0, none⟩)), (29, .int .i64 zy)] ∧ L = (⟨b2, (.int .u64 v12.Frame :: .int .u64 v12.Seed :: pl14 zi [.slice v12a0 v12n0 v12c0, .int .u16 v12.Score.1, .int .u16 v12.Score.2]), 36, (0, 0)⟩ :: (⟨b3, [.int .u8 p1.1, .int .u8 p1.2], 45, (0, 0)⟩ :: (⟨b4, [.int .u64 (0 : Int), .int .u64 (0 : Int), .int .i32 (0 : Int), .int .i32 (0 : Int), .int .i32 (0 : Int), .int .i32 (0 : Int), .int .u8 (0 : Int), .int .u8 (0 : Int), .int .u8 (0 : Int), .int .i32 (0 : Int), .int .i32 (0 : Int), .int .i32 (0 : Int), .int .i32 (0 : Int), .int .u8 (0 : Int), .int .u8 (0 : Int), .int .u8 (0 : Int), .slice none 0 0, .int .u16 (0 : Int), .int .u16 (0 : Int)], 36, (0, 0)⟩ :: (v12B0 ++ []))))) F ⟨(0 : Int), v12.Players, h, rfl, rfl⟩ (agree_cons rfl (agree_cons rfl (agree_cons rfl (agree_cons rfl agree_nil)))) (pSub (pCons (sA (sC (sC hC))) (pCons (sA (sC hC)) (pCons (sA hC) (pA pNil))))) ?_
  clear h
  rintro m17 _ _ ⟨zy, zi, h, rfl, rfl⟩
  rcases m17 with _ | m17
  · rw [m_step_Step_L16.eq_1] at h; cases h
  rw [m_step_Step_L16.eq_2] at h
  refine wc_seq (wc_region (wP (v := .bool (decide (zy < (2 : Int)))) rfl rfl (wl_nil (wx_then (wc_seq (wc_cond rfl (fun hc => ?_) (fun hc => ?_)))))))
  · replace h := ct hc h
    refine wc_skip (wx_then (wc_seq (wc_block (wc_seq (wc_region ?_)))))
    iterate 2 refine wP rfl rfl ?_
    refine wl_nil (wx_then (wc_k2 (Ls := (⟨b2, (.int .u64 v12.Frame :: .int .u64 v12.Seed :: pl14 zi [.slice v12a0 v12n0 v12c0, .int .u16 v12.Score.1, .int .u16 v12.Score.2]), 36, (0, 0)⟩ :: (⟨b3, [.int .u8 p1.1, .int .u8 p1.2], 45, (0, 0)⟩ :: (⟨b4, [.int .u64 (0 : Int), .int .u64 (0 : Int), .int .i32 (0 : Int), .int .i32 (0 : Int), .int .i32 (0 : Int), .int .i32 (0 : Int), .int .u8 (0 : Int), .int .u8 (0 : Int), .int .u8 (0 : Int), .int .i32 (0 : Int), .int .i32 (0 : Int), .int .i32 (0 : Int), .int .i32 (0 : Int), .int .u8 (0 : Int), .int .u8 (0 : Int), .int .u8 (0 : Int), .slice none 0 0, .int .u16 (0 : Int), .int .u16 (0 : Int)], 36, (0, 0)⟩ :: (v12B0 ++ []))))) [8, 10, 11] [10, 11] [0, 0, 0, 6, 14, 0, 32, 96, 254, 0, 1023, 2047] [0, 1, 2, 3, 4, 5, 6, 7, 9, 8, 10, 11] (by kernel_rfl) (by kernel_rfl) (by kernel_rfl) ?_))
    refine k_val rfl rfl rfl (pSub (pH (pH (pH (pA pNil))))) (stepV_ok tt_ok rfl) rfl ?_
    refine k_val rfl rfl rfl (pSub (pH (pH (pH (pA pNil))))) (stepV_ok tt_ok rfl) rfl ?_
    refine k_val (v := .pointer (some ⟨b2, 2, none⟩)) rfl rfl rfl (pSub (pH (pH (pH (pA pNil))))) (stepV_ok tt_ok rfl) rfl ?_
    rcases Bool.eq_false_or_eq_true (zy == (0 : Int)) with hx350 | hx350
    · replace h := ct hx350 h
      refine k_val (v := .pointer (some ⟨b2, 2, none⟩)) rfl rfl rfl (pSub (pH (pH (pH (pA pNil))))) (val_ia (j := 0) tt_ok rfl rfl rfl rfl (by simpa using hx350) rfl rfl) rfl ?_
      refine k_val (v := .agg #[.int .i32 zi.1.X, .int .i32 zi.1.Y, .int .i32 zi.1.VX, .int .i32 zi.1.VY, .int .u8 zi.1.Health, .int .u8 zi.1.Cool, .int .u8 zi.1.Face]) rfl rfl rfl (pSub (pH (pH (pH (pA pNil))))) (val_load tt_ok rfl (mH) rfl) rfl ?_
      refine k_val rfl rfl rfl (pSub (pH (pH (pH (pA pNil))))) (stepV_ok tt_ok rfl) rfl ?_
      refine k_val (v := .pointer (some ⟨b3, 0, none⟩)) rfl rfl rfl (pSub (pH (pH (pH (pA pNil))))) (val_ia (j := 0) tt_ok rfl rfl rfl rfl (by simpa using hx350) rfl rfl) rfl ?_
      refine k_val (v := .int .u8 p1.1) rfl rfl rfl (pSub (pH (pH (pH (pA pNil))))) (val_load tt_ok rfl (mT (mH)) rfl) rfl ?_
      refine k_val (v := .pointer (some ⟨b2, 2, none⟩)) rfl rfl rfl (pSub (pH (pH (pH (pA pNil))))) (stepV_ok tt_ok rfl) rfl ?_
      replace h := bsome h; obtain ⟨v40, x40, h⟩ := h
      refine k_cq rfl rfl rfl Tryd.call54 rfl rfl rfl (q_pf (k_step_steer x40) (fun _ _ => trivial)) rfl (pSub (pH (pH (pH (pA pNil))))) ?_
      refine k_chg rfl rfl rfl (Chg.of_val (v := .pointer (some ⟨b2, 2, none⟩)) (val_ia (j := 0) tt_ok rfl rfl rfl rfl (by simpa using hx350) rfl rfl)) rfl (.inl rfl) ?_
      rintro _ _ ⟨rfl, rfl⟩
      refine k_chg0 rfl rfl rfl (chg_store tt_ok rfl Upd.here rfl rfl rfl rfl rfl rfl) (.inl rfl) ?_
      rintro _ _ rfl
      refine k_end (by kernel_rfl) ?_
      refine wx_block (wx_then (wc_region (wP (v := .int .i64 (IntKind.wrap .i64 (zy + (1 : Int)))) rfl rfl (wP rfl rfl (wl_nil ?_)))))
      exact wx_round m17 (Nat.lt_succ_self m17) ⟨(IntKind.wrap .i64 (zy + (1 : Int))), (v40, zi.2), h, rfl, rfl⟩ (agree_cons rfl (agree_cons rfl (agree_cons rfl (agree_cons rfl agree_nil)))) (pSub (pH (pH (pH (pA pNil)))))
    replace h := cf hx350 h
    rcases Bool.eq_false_or_eq_true (zy == (1 : Int)) with hx351 | hx351
    · replace h := ct hx351 h
      refine k_val (v := .pointer (some ⟨b2, 9, none⟩)) rfl rfl rfl (pSub (pH (pH (pH (pA pNil))))) (val_ia (j := 1) tt_ok rfl rfl rfl rfl (by simpa using hx351) rfl rfl) rfl ?_
      refine k_val (v := .agg #[.int .i32 zi.2.X, .int .i32 zi.2.Y, .int .i32 zi.2.VX, .int .i32 zi.2.VY, .int .u8 zi.2.Health, .int .u8 zi.2.Cool, .int .u8 zi.2.Face]) rfl rfl rfl (pSub (pH (pH (pH (pA pNil))))) (val_load tt_ok rfl (mH) rfl) rfl ?_
      refine k_val rfl rfl rfl (pSub (pH (pH (pH (pA pNil))))) (stepV_ok tt_ok rfl) rfl ?_
      refine k_val (v := .pointer (some ⟨b3, 1, none⟩)) rfl rfl rfl (pSub (pH (pH (pH (pA pNil))))) (val_ia (j := 1) tt_ok rfl rfl rfl rfl (by simpa using hx351) rfl rfl) rfl ?_
      refine k_val (v := .int .u8 p1.2) rfl rfl rfl (pSub (pH (pH (pH (pA pNil))))) (val_load tt_ok rfl (mT (mH)) rfl) rfl ?_
      refine k_val (v := .pointer (some ⟨b2, 2, none⟩)) rfl rfl rfl (pSub (pH (pH (pH (pA pNil))))) (stepV_ok tt_ok rfl) rfl ?_
      replace h := bsome h; obtain ⟨v40, x40, h⟩ := h
      refine k_cq rfl rfl rfl Tryd.call54 rfl rfl rfl (q_pf (k_step_steer x40) (fun _ _ => trivial)) rfl (pSub (pH (pH (pH (pA pNil))))) ?_
      refine k_chg rfl rfl rfl (Chg.of_val (v := .pointer (some ⟨b2, 9, none⟩)) (val_ia (j := 1) tt_ok rfl rfl rfl rfl (by simpa using hx351) rfl rfl)) rfl (.inl rfl) ?_
      rintro _ _ ⟨rfl, rfl⟩
      refine k_chg0 rfl rfl rfl (chg_store tt_ok rfl Upd.here rfl rfl rfl rfl rfl rfl) (.inl rfl) ?_
      rintro _ _ rfl
      refine k_end (by kernel_rfl) ?_
      refine wx_block (wx_then (wc_region (wP (v := .int .i64 (IntKind.wrap .i64 (zy + (1 : Int)))) rfl rfl (wP rfl rfl (wl_nil ?_)))))
      exact wx_round m17 (Nat.lt_succ_self m17) ⟨(IntKind.wrap .i64 (zy + (1 : Int))), (zi.1, v40), h, rfl, rfl⟩ (agree_cons rfl (agree_cons rfl (agree_cons rfl (agree_cons rfl agree_nil)))) (pSub (pH (pH (pH (pA pNil)))))
    replace h := cf hx351 h
    cases h
  replace h := cf hc h
  refine wc_exit (wx_then_exit ?_)
  obtain rfl := sI h
  have h := hl17; clear hl17; try dsimp only [orE_l, orE_r] at h
  refine wx_then_exit (wx_block_exit (wx_then (wc_seq (wc_seq (wc_region ?_)))))
  refine wP rfl rfl (wl_nil (wx_then (wc_block ?_)))
  replace h := bsome h; obtain ⟨⟨zai, zaj⟩, h, hl34⟩ := h; try dsimp only at hl34
  refine wc_loop (fun m E L => ∃ (zk : Int) (zb : (T_api_Player × T_api_Player)) (za : (List T_api_Shot)) (zf : Option Addr) (ze : Nat) (zg : Nat) (zj : List Blk), m_step_Step_L33 F p1 m zk zb za = some (zai, zaj) ∧ ze = za.length ∧ Own 80 6 zf ze zg (flat c_T_api_Shot za) zj ∧ E = [(2, .pointer (some ⟨b2, 0, none⟩)), (3, .pointer (some ⟨b3, 0, none⟩)), (4, .pointer (some ⟨b4, 0, none⟩)), (44, .int .i64 zk)] ∧ L = (⟨b2, (.int .u64 v12.Frame :: .int .u64 v12.Seed :: pl14 zb [.slice zf ze zg, .int .u16 v12.Score.1, .int .u16 v12.Score.2]), 36, (0, 0)⟩ :: (⟨b3, [.int .u8 p1.1, .int .u8 p1.2], 45, (0, 0)⟩ :: (⟨b4, [.int .u64 (0 : Int), .int .u64 (0 : Int), .int .i32 (0 : Int), .int .i32 (0 : Int), .int .i32 (0 : Int), .int .i32 (0 : Int), .int .u8 (0 : Int), .int .u8 (0 : Int), .int .u8 (0 : Int), .int .i32 (0 : Int), .int .i32 (0 : Int), .int .i32 (0 : Int), .int .i32 (0 : Int), .int .u8 (0 : Int), .int .u8 (0 : Int), .int .u8 (0 : Int), .slice none 0 0, .int .u16 (0 : Int), .int .u16 (0 : Int)], 36, (0, 0)⟩ :: (zj ++ []))))) F ⟨(0 : Int), zi, v12.Shots, v12a0, v12n0, v12c0, v12B0, h, v12N0, v12V0, rfl, rfl⟩ (agree_cons rfl (agree_cons rfl (agree_cons rfl (agree_cons rfl agree_nil)))) (pSub (pH (pH (pH (pA pNil))))) ?_
  clear h
  rintro m34 _ _ ⟨zk, zb, za, zf, ze, zg, zj, h, zl, zm, rfl, rfl⟩
  rcases m34 with _ | m34
  · rw [m_step_Step_L33.eq_1] at h; cases h
  rw [m_step_Step_L33.eq_2] at h
  refine wc_seq (wc_region (wP (v := .bool (decide (zk < (2 : Int)))) rfl rfl (wl_nil (wx_then (wc_seq (wc_cond rfl (fun hc => ?_) (fun hc => ?_)))))))
  · replace h := ct hc h
    refine wc_skip (wx_then (wc_seq (wc_block (wc_seq (wc_region ?_)))))
    iterate 2 refine wP rfl rfl ?_
    refine wl_nil (wx_then (wc_seq (wc_region (wP rfl rfl (wP (v := .pointer (some ⟨b2, 2, none⟩)) rfl rfl ?_)))))
    rcases Bool.eq_false_or_eq_true (zk == (0 : Int)) with hx490 | hx490
    · replace h := ct hx490 h
      refine wl_val (v := .pointer (some ⟨b2, 2, none⟩)) (val_ia (j := 0) tt_ok rfl rfl rfl rfl (by simpa using hx490) rfl rfl) rfl ?_
      refine wP rfl rfl (wl_nil (wx_then (wc_seq (wc_region (wP rfl rfl (wl_val (v := .pointer (some ⟨b3, 0, none⟩)) (val_ia (j := 0) tt_ok rfl rfl rfl rfl (by simpa using hx490) rfl rfl) rfl (wl_val (v := .int .u8 p1.1) (val_load tt_ok rfl (mT (mH)) rfl) rfl ?_)))))))
      replace h := bsome h; obtain ⟨v53, x53, h⟩ := h
      refine wl_cq Tryd.call55 rfl rfl rfl (q_pf (k_input_Fire x53) (fun _ _ => trivial)) rfl ?_
      refine wP rfl rfl ?_
      replace h := bsome h; obtain ⟨v60, h, hg60⟩ := h
      refine wl_split (t := 54) rfl (fun hc => ?_) (fun hc => ?_)
      · replace h := ct hc h
        refine wl_run rfl (wP rfl rfl (wl_run rfl (wP rfl rfl (wl_run rfl (wP (v := .pointer (some ⟨b2, 7, none⟩)) rfl rfl (wl_run rfl (wl_val (v := .int .u8 zb.1.Cool) (val_load tt_ok rfl (mH) rfl) rfl (wl_run rfl (wP (v := .bool (zb.1.Cool == (0 : Int))) rfl rfl ?_)))))))))
        obtain rfl := sI h
        have h := hg60; clear hg60
        refine wP (v := .bool (zb.1.Cool == (0 : Int))) rfl rfl (wP rfl rfl ?_)
        replace h := bsome h; obtain ⟨v66, h, hg66⟩ := h
        refine wl_split (t := 61) rfl (fun hc => ?_) (fun hc => ?_)
        · replace h := ct hc h
          refine wl_run rfl (wP (v := .pointer (some ⟨b2, 16, none⟩)) rfl rfl (wl_run rfl (wl_val (v := .slice zf ze zg) (val_load tt_ok rfl (mH) rfl) rfl (wl_run rfl (wl_val (v := .int .i64 (za.length : Int)) (val_len tt_ok rfl rfl zl) rfl (wl_run rfl (wP (v := .bool (decide ((za.length : Int) < (8 : Int)))) rfl rfl ?_)))))))
          obtain rfl := sI h
          have h := hg66; clear hg66
          refine wP (v := .bool (decide ((za.length : Int) < (8 : Int)))) rfl rfl (wl_nil (wx_then (wc_cond rfl (fun hc => ?_) (fun hc => ?_))))
          · replace h := ct hc h
            refine wc_seq (wc_k2 (Ls := (⟨b2, (.int .u64 v12.Frame :: .int .u64 v12.Seed :: pl14 zb [.slice zf ze zg, .int .u16 v12.Score.1, .int .u16 v12.Score.2]), 36, (0, 0)⟩ :: (⟨b3, [.int .u8 p1.1, .int .u8 p1.2], 45, (0, 0)⟩ :: (⟨b4, [.int .u64 (0 : Int), .int .u64 (0 : Int), .int .i32 (0 : Int), .int .i32 (0 : Int), .int .i32 (0 : Int), .int .i32 (0 : Int), .int .u8 (0 : Int), .int .u8 (0 : Int), .int .u8 (0 : Int), .int .i32 (0 : Int), .int .i32 (0 : Int), .int .i32 (0 : Int), .int .i32 (0 : Int), .int .u8 (0 : Int), .int .u8 (0 : Int), .int .u8 (0 : Int), .slice none 0 0, .int .u16 (0 : Int), .int .u16 (0 : Int)], 36, (0, 0)⟩ :: (zj ++ []))))) [7, 8, 9, 10, 11] [9, 10, 11] [0, 1, 0, 4, 12, 0, 32, 124, 252, 511, 1023, 2047] [0, 1, 2, 3, 4, 5, 6, 7, 8, 9, 10, 11] (by kernel_rfl) (by kernel_rfl) (by kernel_rfl) ?_)
            refine k_val (v := .pointer (some ⟨b2, 16, none⟩)) rfl rfl rfl (pSub (pH (pH (pH (pA pNil))))) (stepV_ok tt_ok rfl) rfl ?_
            refine k_val (v := .slice zf ze zg) rfl rfl rfl (pSub (pH (pH (pH (pA pNil))))) (val_load tt_ok rfl (mH) rfl) rfl ?_
            refine k_val rfl rfl rfl (pSub (pH (pH (pH (pA pNil))))) (stepV_ok tt_ok rfl) rfl ?_
            refine k_val rfl rfl rfl (pSub (pH (pH (pH (pA pNil))))) (stepV_ok tt_ok rfl) rfl ?_
            refine k_val (v := .agg #[.int .i32 zb.1.X, .int .i32 zb.1.Y, .int .i32 zb.1.VX, .int .i32 zb.1.VY, .int .u8 zb.1.Health, .int .u8 zb.1.Cool, .int .u8 zb.1.Face]) rfl rfl rfl (pSub (pH (pH (pH (pA pNil))))) (val_load tt_ok rfl (mH) rfl) rfl ?_
            refine k_val rfl rfl rfl (pSub (pH (pH (pH (pA pNil))))) (stepV_ok tt_ok rfl) rfl ?_
            refine k_val (v := .int .u8 (IntKind.wrap .u8 zk)) rfl rfl rfl (pSub (pH (pH (pH (pA pNil))))) (stepV_ok tt_ok rfl) rfl ?_
            replace h := bsome h; obtain ⟨v74, x74, h⟩ := h
            refine k_cq rfl rfl rfl Tryd.call56 rfl rfl rfl (q_pf (k_step_shoot x74) (fun _ _ => trivial)) rfl (pSub (pH (pH (pH (pA pNil))))) ?_
            refine k_chg rfl rfl rfl (chg_bsv (enc := c_T_api_Shot) (xs := ([v74] : List T_api_Shot)) tt_ok rfl rfl rfl rfl rfl rfl rfl rfl c_T_api_Shot_len) rfl (.inr (by rintro _ _ ⟨_, _, _, _, rfl, _, _, rfl⟩; exact ⟨_, (pCons (sA hC) (pCons (sA hC) (pCons (sA hC) (pApp (sA hA') pNil))))⟩)) ?_
            rintro _ _ ⟨a75, n75_, c75, B75, rfl, N75, V75, rfl⟩
            replace h := bsome h; obtain ⟨v76, x76, h⟩ := h
            refine k_chg rfl rfl rfl (chg_app (enc := c_T_api_Shot) (ys := ([v74] : List T_api_Shot)) tt_ok rfl rfl rfl rfl rfl rfl zl N75 zm (sA (sC (sC (sC hA')))) (Rds.of_vec V75) ⟨_, hA'⟩ c_T_api_Shot_len (fun _ => rfl) rfl x76) rfl (.inl rfl) ?_
            rintro _ _ ⟨a76, n76_, c76, B76, rfl, N76, V76, rfl⟩
            refine k_chg rfl rfl rfl (Chg.of_val (v := .pointer (some ⟨b2, 16, none⟩)) (stepV_ok tt_ok rfl)) rfl (.inl rfl) ?_
            rintro _ _ ⟨rfl, rfl⟩
            refine k_chg0 rfl rfl rfl (chg_store tt_ok rfl (Upd.right (Upd.right Upd.here)) rfl rfl rfl rfl rfl rfl) (.inl rfl) ?_
            rintro _ _ rfl
            refine k_end (by kernel_rfl) ?_
            refine wx_then (wc_region ?_)
            iterate 2 refine wP rfl rfl ?_
            refine wP (v := .pointer (some ⟨b2, 7, none⟩)) rfl rfl ?_
            apply wl_store tt_ok; rfl; exact (Upd.right (Upd.right Upd.here)); rfl; rfl; rfl; rfl; rfl; rfl
            refine wl_nil (wx_block (wx_then (wc_region (wP (v := .int .i64 (IntKind.wrap .i64 (zk + (1 : Int)))) rfl rfl (wP rfl rfl (wl_nil ?_))))))
            exact wx_round m34 (Nat.lt_succ_self m34) ⟨(IntKind.wrap .i64 (zk + (1 : Int))), ((T_api_Player.mk zb.1.X zb.1.Y zb.1.VX zb.1.VY zb.1.Health (10 : Int) zb.1.Face), zb.2), v76, a76, n76_, c76, B76, h, N76, V76, rfl, rfl⟩ (agree_cons rfl (agree_cons rfl (agree_cons rfl (agree_cons rfl agree_nil)))) (pSub (pCons (sA (sA hC)) (pCons (sA (sA hC)) (pCons (sA (sA hC)) (pA pNil)))))
          replace h := cf hc h
          refine wc_skip (wx_block (wx_then (wc_region (wP (v := .int .i64 (IntKind.wrap .i64 (zk + (1 : Int)))) rfl rfl (wP rfl rfl (wl_nil ?_))))))
          exact wx_round m34 (Nat.lt_succ_self m34) ⟨(IntKind.wrap .i64 (zk + (1 : Int))), zb, za, zf, ze, zg, zj, h, zl, zm, rfl, rfl⟩ (agree_cons rfl (agree_cons rfl (agree_cons rfl (agree_cons rfl agree_nil)))) (pSub (pH (pH (pH (pA pNil)))))
        replace h := cf hc h
        refine wl_skip rfl rfl (wl_skip rfl rfl (wl_skip rfl rfl (wl_skip rfl rfl ?_)))
        obtain rfl := sI h
        have h := hg66; clear hg66
        refine wP (v := .bool false) rfl rfl (wl_nil (wx_then ?_))
        replace h := cf rfl h
        refine wc_cond_false rfl ?_
        refine wc_skip (wx_block (wx_then (wc_region (wP (v := .int .i64 (IntKind.wrap .i64 (zk + (1 : Int)))) rfl rfl (wP rfl rfl (wl_nil ?_))))))
        exact wx_round m34 (Nat.lt_succ_self m34) ⟨(IntKind.wrap .i64 (zk + (1 : Int))), zb, za, zf, ze, zg, zj, h, zl, zm, rfl, rfl⟩ (agree_cons rfl (agree_cons rfl (agree_cons rfl (agree_cons rfl agree_nil)))) (pSub (pH (pH (pH (pA pNil)))))
      replace h := cf hc h
      refine wl_skip rfl rfl (wl_skip rfl rfl (wl_skip rfl rfl (wl_skip rfl rfl (wl_skip rfl rfl ?_))))
      obtain rfl := sI h
      have h := hg60; clear hg60
      refine wP (v := .bool false) rfl rfl (wP rfl rfl ?_)
      replace h := bsome h; obtain ⟨v66, h, hg66⟩ := h
      replace h := cf rfl h
      refine wl_skip rfl rfl (wl_skip rfl rfl (wl_skip rfl rfl (wl_skip rfl rfl ?_)))
      obtain rfl := sI h
      have h := hg66; clear hg66
      refine wP (v := .bool false) rfl rfl (wl_nil (wx_then ?_))
      replace h := cf rfl h
      refine wc_cond_false rfl ?_
      refine wc_skip (wx_block (wx_then (wc_region (wP (v := .int .i64 (IntKind.wrap .i64 (zk + (1 : Int)))) rfl rfl (wP rfl rfl (wl_nil ?_))))))
      exact wx_round m34 (Nat.lt_succ_self m34) ⟨(IntKind.wrap .i64 (zk + (1 : Int))), zb, za, zf, ze, zg, zj, h, zl, zm, rfl, rfl⟩ (agree_cons rfl (agree_cons rfl (agree_cons rfl (agree_cons rfl agree_nil)))) (pSub (pH (pH (pH (pA pNil)))))
    replace h := cf hx490 h
    rcases Bool.eq_false_or_eq_true (zk == (1 : Int)) with hx491 | hx491
    · replace h := ct hx491 h
      refine wl_val (v := .pointer (some ⟨b2, 9, none⟩)) (val_ia (j := 1) tt_ok rfl rfl rfl rfl (by simpa using hx491) rfl rfl) rfl ?_
      refine wP rfl rfl (wl_nil (wx_then (wc_seq (wc_region (wP rfl rfl (wl_val (v := .pointer (some ⟨b3, 1, none⟩)) (val_ia (j := 1) tt_ok rfl rfl rfl rfl (by simpa using hx491) rfl rfl) rfl (wl_val (v := .int .u8 p1.2) (val_load tt_ok rfl (mT (mH)) rfl) rfl ?_)))))))
      replace h := bsome h; obtain ⟨v53, x53, h⟩ := h
      refine wl_cq Tryd.call55 rfl rfl rfl (q_pf (k_input_Fire x53) (fun _ _ => trivial)) rfl ?_
      refine wP rfl rfl ?_
      replace h := bsome h; obtain ⟨v60, h, hg60⟩ := h
      refine wl_split (t := 54) rfl (fun hc => ?_) (fun hc => ?_)
      · replace h := ct hc h
        refine wl_run rfl (wP rfl rfl (wl_run rfl (wP rfl rfl (wl_run rfl (wP (v := .pointer (some ⟨b2, 14, none⟩)) rfl rfl (wl_run rfl (wl_val (v := .int .u8 zb.2.Cool) (val_load tt_ok rfl (mH) rfl) rfl (wl_run rfl (wP (v := .bool (zb.2.Cool == (0 : Int))) rfl rfl ?_)))))))))
        obtain rfl := sI h
        have h := hg60; clear hg60
        refine wP (v := .bool (zb.2.Cool == (0 : Int))) rfl rfl (wP rfl rfl ?_)
        replace h := bsome h; obtain ⟨v66, h, hg66⟩ := h
        refine wl_split (t := 61) rfl (fun hc => ?_) (fun hc => ?_)
        · replace h := ct hc h
          refine wl_run rfl (wP (v := .pointer (some ⟨b2, 16, none⟩)) rfl rfl (wl_run rfl (wl_val (v := .slice zf ze zg) (val_load tt_ok rfl (mH) rfl) rfl (wl_run rfl (wl_val (v := .int .i64 (za.length : Int)) (val_len tt_ok rfl rfl zl) rfl (wl_run rfl (wP (v := .bool (decide ((za.length : Int) < (8 : Int)))) rfl rfl ?_)))))))
          obtain rfl := sI h
          have h := hg66; clear hg66
          refine wP (v := .bool (decide ((za.length : Int) < (8 : Int)))) rfl rfl (wl_nil (wx_then (wc_cond rfl (fun hc => ?_) (fun hc => ?_))))
          · replace h := ct hc h
            refine wc_seq (wc_k2 (Ls := (⟨b2, (.int .u64 v12.Frame :: .int .u64 v12.Seed :: pl14 zb [.slice zf ze zg, .int .u16 v12.Score.1, .int .u16 v12.Score.2]), 36, (0, 0)⟩ :: (⟨b3, [.int .u8 p1.1, .int .u8 p1.2], 45, (0, 0)⟩ :: (⟨b4, [.int .u64 (0 : Int), .int .u64 (0 : Int), .int .i32 (0 : Int), .int .i32 (0 : Int), .int .i32 (0 : Int), .int .i32 (0 : Int), .int .u8 (0 : Int), .int .u8 (0 : Int), .int .u8 (0 : Int), .int .i32 (0 : Int), .int .i32 (0 : Int), .int .i32 (0 : Int), .int .i32 (0 : Int), .int .u8 (0 : Int), .int .u8 (0 : Int), .int .u8 (0 : Int), .slice none 0 0, .int .u16 (0 : Int), .int .u16 (0 : Int)], 36, (0, 0)⟩ :: (zj ++ []))))) [7, 8, 9, 10, 11] [9, 10, 11] [0, 1, 0, 4, 12, 0, 32, 124, 252, 511, 1023, 2047] [0, 1, 2, 3, 4, 5, 6, 7, 8, 9, 10, 11] (by kernel_rfl) (by kernel_rfl) (by kernel_rfl) ?_)
            refine k_val (v := .pointer (some ⟨b2, 16, none⟩)) rfl rfl rfl (pSub (pH (pH (pH (pA pNil))))) (stepV_ok tt_ok rfl) rfl ?_
            refine k_val (v := .slice zf ze zg) rfl rfl rfl (pSub (pH (pH (pH (pA pNil))))) (val_load tt_ok rfl (mH) rfl) rfl ?_
            refine k_val rfl rfl rfl (pSub (pH (pH (pH (pA pNil))))) (stepV_ok tt_ok rfl) rfl ?_
            refine k_val rfl rfl rfl (pSub (pH (pH (pH (pA pNil))))) (stepV_ok tt_ok rfl) rfl ?_
            refine k_val (v := .agg #[.int .i32 zb.2.X, .int .i32 zb.2.Y, .int .i32 zb.2.VX, .int .i32 zb.2.VY, .int .u8 zb.2.Health, .int .u8 zb.2.Cool, .int .u8 zb.2.Face]) rfl rfl rfl (pSub (pH (pH (pH (pA pNil))))) (val_load tt_ok rfl (mH) rfl) rfl ?_
            refine k_val rfl rfl rfl (pSub (pH (pH (pH (pA pNil))))) (stepV_ok tt_ok rfl) rfl ?_
            refine k_val (v := .int .u8 (IntKind.wrap .u8 zk)) rfl rfl rfl (pSub (pH (pH (pH (pA pNil))))) (stepV_ok tt_ok rfl) rfl ?_
            replace h := bsome h; obtain ⟨v74, x74, h⟩ := h
            refine k_cq rfl rfl rfl Tryd.call56 rfl rfl rfl (q_pf (k_step_shoot x74) (fun _ _ => trivial)) rfl (pSub (pH (pH (pH (pA pNil))))) ?_
            refine k_chg rfl rfl rfl (chg_bsv (enc := c_T_api_Shot) (xs := ([v74] : List T_api_Shot)) tt_ok rfl rfl rfl rfl rfl rfl rfl rfl c_T_api_Shot_len) rfl (.inr (by rintro _ _ ⟨_, _, _, _, rfl, _, _, rfl⟩; exact ⟨_, (pCons (sA hC) (pCons (sA hC) (pCons (sA hC) (pApp (sA hA') pNil))))⟩)) ?_
            rintro _ _ ⟨a75, n75_, c75, B75, rfl, N75, V75, rfl⟩
            replace h := bsome h; obtain ⟨v76, x76, h⟩ := h
            refine k_chg rfl rfl rfl (chg_app (enc := c_T_api_Shot) (ys := ([v74] : List T_api_Shot)) tt_ok rfl rfl rfl rfl rfl rfl zl N75 zm (sA (sC (sC (sC hA')))) (Rds.of_vec V75) ⟨_, hA'⟩ c_T_api_Shot_len (fun _ => rfl) rfl x76) rfl (.inl rfl) ?_
            rintro _ _ ⟨a76, n76_, c76, B76, rfl, N76, V76, rfl⟩
            refine k_chg rfl rfl rfl (Chg.of_val (v := .pointer (some ⟨b2, 16, none⟩)) (stepV_ok tt_ok rfl)) rfl (.inl rfl) ?_
            rintro _ _ ⟨rfl, rfl⟩
            refine k_chg0 rfl rfl rfl (chg_store tt_ok rfl (Upd.right (Upd.right Upd.here)) rfl rfl rfl rfl rfl rfl) (.inl rfl) ?_
            rintro _ _ rfl
            refine k_end (by kernel_rfl) ?_
            refine wx_then (wc_region ?_)
            iterate 2 refine wP rfl rfl ?_
            refine wP (v := .pointer (some ⟨b2, 14, none⟩)) rfl rfl ?_
            apply wl_store tt_ok; rfl; exact (Upd.right (Upd.right Upd.here)); rfl; rfl; rfl; rfl; rfl; rfl
            refine wl_nil (wx_block (wx_then (wc_region (wP (v := .int .i64 (IntKind.wrap .i64 (zk + (1 : Int)))) rfl rfl (wP rfl rfl (wl_nil ?_))))))
            exact wx_round m34 (Nat.lt_succ_self m34) ⟨(IntKind.wrap .i64 (zk + (1 : Int))), (zb.1, (T_api_Player.mk zb.2.X zb.2.Y zb.2.VX zb.2.VY zb.2.Health (10 : Int) zb.2.Face)), v76, a76, n76_, c76, B76, h, N76, V76, rfl, rfl⟩ (agree_cons rfl (agree_cons rfl (agree_cons rfl (agree_cons rfl agree_nil)))) (pSub (pCons (sA (sA hC)) (pCons (sA (sA hC)) (pCons (sA (sA hC)) (pA pNil)))))
          replace h := cf hc h
          refine wc_skip (wx_block (wx_then (wc_region (wP (v := .int .i64 (IntKind.wrap .i64 (zk + (1 : Int)))) rfl rfl (wP rfl rfl (wl_nil ?_))))))
          exact wx_round m34 (Nat.lt_succ_self m34) ⟨(IntKind.wrap .i64 (zk + (1 : Int))), zb, za, zf, ze, zg, zj, h, zl, zm, rfl, rfl⟩ (agree_cons rfl (agree_cons rfl (agree_cons rfl (agree_cons rfl agree_nil)))) (pSub (pH (pH (pH (pA pNil)))))
        replace h := cf hc h
        refine wl_skip rfl rfl (wl_skip rfl rfl (wl_skip rfl rfl (wl_skip rfl rfl ?_)))
        obtain rfl := sI h
        have h := hg66; clear hg66
        refine wP (v := .bool false) rfl rfl (wl_nil (wx_then ?_))
        replace h := cf rfl h
        refine wc_cond_false rfl ?_
        refine wc_skip (wx_block (wx_then (wc_region (wP (v := .int .i64 (IntKind.wrap .i64 (zk + (1 : Int)))) rfl rfl (wP rfl rfl (wl_nil ?_))))))
        exact wx_round m34 (Nat.lt_succ_self m34) ⟨(IntKind.wrap .i64 (zk + (1 : Int))), zb, za, zf, ze, zg, zj, h, zl, zm, rfl, rfl⟩ (agree_cons rfl (agree_cons rfl (agree_cons rfl (agree_cons rfl agree_nil)))) (pSub (pH (pH (pH (pA pNil)))))
      replace h := cf hc h
      refine wl_skip rfl rfl (wl_skip rfl rfl (wl_skip rfl rfl (wl_skip rfl rfl (wl_skip rfl rfl ?_))))
      obtain rfl := sI h
      have h := hg60; clear hg60
      refine wP (v := .bool false) rfl rfl (wP rfl rfl ?_)
      replace h := bsome h; obtain ⟨v66, h, hg66⟩ := h
      replace h := cf rfl h
      refine wl_skip rfl rfl (wl_skip rfl rfl (wl_skip rfl rfl (wl_skip rfl rfl ?_)))
      obtain rfl := sI h
      have h := hg66; clear hg66
      refine wP (v := .bool false) rfl rfl (wl_nil (wx_then ?_))
      replace h := cf rfl h
      refine wc_cond_false rfl ?_
      refine wc_skip (wx_block (wx_then (wc_region (wP (v := .int .i64 (IntKind.wrap .i64 (zk + (1 : Int)))) rfl rfl (wP rfl rfl (wl_nil ?_))))))
      exact wx_round m34 (Nat.lt_succ_self m34) ⟨(IntKind.wrap .i64 (zk + (1 : Int))), zb, za, zf, ze, zg, zj, h, zl, zm, rfl, rfl⟩ (agree_cons rfl (agree_cons rfl (agree_cons rfl (agree_cons rfl agree_nil)))) (pSub (pH (pH (pH (pA pNil)))))
    replace h := cf hx491 h
    cases h
  replace h := cf hc h
  refine wc_exit (wx_then_exit ?_)
  simp only [Option.some.injEq, Prod.mk.injEq] at h
  obtain ⟨rfl, rfl⟩ := h
  have h := hl34; clear hl34; try dsimp only [orE_l, orE_r] at h
  refine wx_then_exit (wx_block_exit (wx_then (wc_seq ?_)))
  replace h := bsome h; obtain ⟨v85, x85, h⟩ := h
  replace h := bsome h; obtain ⟨v89, x89, h⟩ := h
  refine wc_join2 (fun E L => ∃ (b8 : Nat) (b9 : Nat), E = [(2, .pointer (some ⟨b2, 0, none⟩)), (4, .pointer (some ⟨b4, 0, none⟩)), (8, .pointer (some ⟨b8, 0, none⟩)), (9, .pointer (some ⟨b9, 0, none⟩))] ∧ L = (⟨b2, (.int .u64 v12.Frame :: .int .u64 v12.Seed :: pl14 zb [.slice zf ze zg, .int .u16 v12.Score.1, .int .u16 v12.Score.2]), 36, (0, 0)⟩ :: (⟨b4, [.int .u64 (0 : Int), .int .u64 (0 : Int), .int .i32 (0 : Int), .int .i32 (0 : Int), .int .i32 (0 : Int), .int .i32 (0 : Int), .int .u8 (0 : Int), .int .u8 (0 : Int), .int .u8 (0 : Int), .int .i32 (0 : Int), .int .i32 (0 : Int), .int .i32 (0 : Int), .int .i32 (0 : Int), .int .u8 (0 : Int), .int .u8 (0 : Int), .int .u8 (0 : Int), .slice none 0 0, .int .u16 (0 : Int), .int .u16 (0 : Int)], 36, (0, 0)⟩ :: (⟨b8, (pl7 v85 []), 30, (0, 0)⟩ :: (⟨b9, (pl7 v89 []), 30, (0, 0)⟩ :: (zj ++ [])))))) ?_ ?_
  · refine wc_k2 (Ls := (⟨b2, (.int .u64 v12.Frame :: .int .u64 v12.Seed :: pl14 zb [.slice zf ze zg, .int .u16 v12.Score.1, .int .u16 v12.Score.2]), 36, (0, 0)⟩ :: (⟨b3, [.int .u8 p1.1, .int .u8 p1.2], 45, (0, 0)⟩ :: (⟨b4, [.int .u64 (0 : Int), .int .u64 (0 : Int), .int .i32 (0 : Int), .int .i32 (0 : Int), .int .i32 (0 : Int), .int .i32 (0 : Int), .int .u8 (0 : Int), .int .u8 (0 : Int), .int .u8 (0 : Int), .int .i32 (0 : Int), .int .i32 (0 : Int), .int .i32 (0 : Int), .int .i32 (0 : Int), .int .u8 (0 : Int), .int .u8 (0 : Int), .int .u8 (0 : Int), .slice none 0 0, .int .u16 (0 : Int), .int .u16 (0 : Int)], 36, (0, 0)⟩ :: (zj ++ []))))) [3, 7, 8, 9, 10, 11] [7, 10, 11] [0, 1, 3, 7, 0, 16, 48, 127, 0, 0, 1023, 2047] [0, 1, 2, 4, 5, 6] (by kernel_rfl) (by kernel_rfl) (by kernel_rfl) ?_
    refine k_val (v := .pointer (some ⟨b2, 2, none⟩)) rfl rfl rfl (pSub (pH (pH (pH (pA pNil))))) (stepV_ok tt_ok rfl) rfl ?_
    refine k_val (v := .pointer (some ⟨b2, 2, none⟩)) rfl rfl rfl (pSub (pH (pH (pH (pA pNil))))) (val_ia (j := 0) tt_ok rfl rfl rfl rfl rfl rfl rfl) rfl ?_
    refine k_val (v := .agg #[.int .i32 zb.1.X, .int .i32 zb.1.Y, .int .i32 zb.1.VX, .int .i32 zb.1.VY, .int .u8 zb.1.Health, .int .u8 zb.1.Cool, .int .u8 zb.1.Face]) rfl rfl rfl (pSub (pH (pH (pH (pA pNil))))) (val_load tt_ok rfl (mH) rfl) rfl ?_
    refine k_val (v := .pointer (some ⟨b2, 2, none⟩)) rfl rfl rfl (pSub (pH (pH (pH (pA pNil))))) (stepV_ok tt_ok rfl) rfl ?_
    refine k_val (v := .pointer (some ⟨b2, 9, none⟩)) rfl rfl rfl (pSub (pH (pH (pH (pA pNil))))) (val_ia (j := 1) tt_ok rfl rfl rfl rfl rfl rfl rfl) rfl ?_
    refine k_val (v := .agg #[.int .i32 zb.2.X, .int .i32 zb.2.Y, .int .i32 zb.2.VX, .int .i32 zb.2.VY, .int .u8 zb.2.Health, .int .u8 zb.2.Cool, .int .u8 zb.2.Face]) rfl rfl rfl (pSub (pH (pH (pH (pA pNil))))) (val_load tt_ok rfl (mH) rfl) rfl ?_
    refine k_three (i := 3) (j := 8) (k := 9) (t1 := []) (t2 := []) (t3 := []) (by kernel_rfl) (by kernel_rfl) (by kernel_rfl) (by kernel_rfl) (by kernel_rfl) ?_ ?_ ?_
    · refine k_cqf rfl rfl Tryd.call57 rfl rfl rfl (q_pf (k_step_moved x85) (fun _ _ => trivial)) rfl (pSub (pH (pH (pH (pA pNil))))) ?_
      refine k_three (i := 7) (j := 8) (k := 9) (t1 := []) (t2 := []) (t3 := []) (by kernel_rfl) (by kernel_rfl) (by kernel_rfl) (by kernel_rfl) (by kernel_rfl) ?_ ?_ ?_
      · refine k_cqf rfl rfl Tryd.call57 rfl rfl rfl (q_pf (k_step_moved x89) (fun _ _ => trivial)) rfl (pSub (pH (pH (pH (pA pNil))))) ?_
        refine k_two (i := 8) (j := 9) (t1 := [9, 10, 11]) (t2 := [8, 10, 11]) (by kernel_rfl) (by kernel_rfl) (by kernel_rfl) (by kernel_rfl) ?_ ?_
        · refine k_chgf rfl rfl (chg_alloc tt_ok rfl) rfl (.inr (by rintro _ _ ⟨_, rfl, rfl⟩; exact ⟨_, (pCons (sC hC) (pCons (sC hC) (pCons (sC hC) (pApp (sC hA') pNil))))⟩)) ?_
          rintro _ _ ⟨b8, rfl, rfl⟩
          refine k_chg rfl rfl rfl (chg_alloc tt_ok rfl) rfl (.inr (by rintro _ _ ⟨_, rfl, rfl⟩; exact ⟨_, (pCons (sC (sC hC)) (pCons (sC (sC hC)) (pCons (sC (sC hC)) (pApp (sC (sC hA')) pNil))))⟩)) ?_
          rintro _ _ ⟨b9, rfl, rfl⟩
          refine k_chg0 rfl rfl rfl (chg_store tt_ok rfl (Upd.there Upd.here) rfl rfl rfl rfl rfl rfl) (.inl rfl) ?_
          rintro _ _ rfl
          refine k_chg0 rfl rfl rfl (chg_store tt_ok rfl Upd.here rfl rfl rfl rfl rfl rfl) (.inl rfl) ?_
          rintro _ _ rfl
          refine k_end (by kernel_rfl) ?_
          exact wx_join ⟨b8, b9, rfl, rfl⟩ (agree_cons rfl (agree_cons rfl (agree_cons rfl (agree_cons rfl agree_nil)))) (pSub (pCons (sC (sC hC)) (pCons (sC (sC (sC hC))) (pCons (sC hC) (pH (pApp (sC hA') pNil))))))
        refine k_chgf rfl rfl (chg_alloc tt_ok rfl) rfl (.inr (by rintro _ _ ⟨_, rfl, rfl⟩; exact ⟨_, (pCons (sC hC) (pCons (sC hC) (pCons (sC hC) (pApp (sC hA') pNil))))⟩)) ?_
        rintro _ _ ⟨b9, rfl, rfl⟩
        refine k_chg rfl rfl rfl (chg_alloc tt_ok rfl) rfl (.inr (by rintro _ _ ⟨_, rfl, rfl⟩; exact ⟨_, (pCons (sC (sC hC)) (pCons (sC (sC hC)) (pCons (sC (sC hC)) (pApp (sC (sC hA')) pNil))))⟩)) ?_
        rintro _ _ ⟨b8, rfl, rfl⟩
        refine k_chg0 rfl rfl rfl (chg_store tt_ok rfl Upd.here rfl rfl rfl rfl rfl rfl) (.inl rfl) ?_
        rintro _ _ rfl
        refine k_chg0 rfl rfl rfl (chg_store tt_ok rfl (Upd.there Upd.here) rfl rfl rfl rfl rfl rfl) (.inl rfl) ?_
        rintro _ _ rfl
        refine k_end (by kernel_rfl) ?_
        exact wx_join ⟨b8, b9, rfl, rfl⟩ (agree_cons rfl (agree_cons rfl (agree_cons rfl (agree_cons rfl agree_nil)))) (pSub (pCons (sC (sC hC)) (pCons (sC (sC (sC hC))) (pH (pH (pApp (sC hA') pNil))))))
      · refine k_chgf rfl rfl (chg_alloc tt_ok rfl) rfl (.inr (by rintro _ _ ⟨_, rfl, rfl⟩; exact ⟨_, (pCons (sC hC) (pCons (sC hC) (pCons (sC hC) (pApp (sC hA') pNil))))⟩)) ?_
        rintro _ _ ⟨b8, rfl, rfl⟩
        refine k_two (i := 7) (j := 9) (t1 := [9, 10, 11]) (t2 := [7, 10, 11]) (by kernel_rfl) (by kernel_rfl) (by kernel_rfl) (by kernel_rfl) ?_ ?_
        · refine k_cqf rfl rfl Tryd.call57 rfl rfl rfl (q_pf (k_step_moved x89) (fun _ _ => trivial)) rfl (pSub (pCons (sC hC) (pCons (sC hC) (pCons (sC hC) (pApp (sC hA') pNil))))) ?_
          refine k_chg rfl rfl rfl (chg_alloc tt_ok rfl) rfl (.inr (by rintro _ _ ⟨_, rfl, rfl⟩; exact ⟨_, (pCons (sC (sC hC)) (pCons (sC (sC hC)) (pCons (sC (sC hC)) (pApp (sC (sC hA')) pNil))))⟩)) ?_
          rintro _ _ ⟨b9, rfl, rfl⟩
          refine k_chg0 rfl rfl rfl (chg_store tt_ok rfl (Upd.there Upd.here) rfl rfl rfl rfl rfl rfl) (.inl rfl) ?_
          rintro _ _ rfl
          refine k_chg0 rfl rfl rfl (chg_store tt_ok rfl Upd.here rfl rfl rfl rfl rfl rfl) (.inl rfl) ?_
          rintro _ _ rfl
          refine k_end (by kernel_rfl) ?_
          exact wx_join ⟨b8, b9, rfl, rfl⟩ (agree_cons rfl (agree_cons rfl (agree_cons rfl (agree_cons rfl agree_nil)))) (pSub (pCons (sC (sC hC)) (pCons (sC (sC (sC hC))) (pCons (sC hC) (pH (pApp (sC hA') pNil))))))
        refine k_chgf rfl rfl (chg_alloc tt_ok rfl) rfl (.inr (by rintro _ _ ⟨_, rfl, rfl⟩; exact ⟨_, (pCons (sC (sC hC)) (pCons (sC (sC hC)) (pCons (sC (sC hC)) (pApp (sC (sC hA')) pNil))))⟩)) ?_
        rintro _ _ ⟨b9, rfl, rfl⟩
        refine k_cq rfl rfl rfl Tryd.call57 rfl rfl rfl (q_pf (k_step_moved x89) (fun _ _ => trivial)) rfl (pSub (pCons (sC (sC hC)) (pCons (sC (sC hC)) (pCons (sC (sC hC)) (pApp (sC (sC hA')) pNil))))) ?_
        refine k_chg0 rfl rfl rfl (chg_store tt_ok rfl (Upd.there Upd.here) rfl rfl rfl rfl rfl rfl) (.inl rfl) ?_
        rintro _ _ rfl
        refine k_chg0 rfl rfl rfl (chg_store tt_ok rfl Upd.here rfl rfl rfl rfl rfl rfl) (.inl rfl) ?_
        rintro _ _ rfl
        refine k_end (by kernel_rfl) ?_
        exact wx_join ⟨b8, b9, rfl, rfl⟩ (agree_cons rfl (agree_cons rfl (agree_cons rfl (agree_cons rfl agree_nil)))) (pSub (pCons (sC (sC hC)) (pCons (sC (sC (sC hC))) (pCons (sC hC) (pH (pApp (sC hA') pNil))))))
      refine k_chgf rfl rfl (chg_alloc tt_ok rfl) rfl (.inr (by rintro _ _ ⟨_, rfl, rfl⟩; exact ⟨_, (pCons (sC hC) (pCons (sC hC) (pCons (sC hC) (pApp (sC hA') pNil))))⟩)) ?_
      rintro _ _ ⟨b9, rfl, rfl⟩
      refine k_two (i := 7) (j := 8) (t1 := [8, 10, 11]) (t2 := [7, 10, 11]) (by kernel_rfl) (by kernel_rfl) (by kernel_rfl) (by kernel_rfl) ?_ ?_
      · refine k_cqf rfl rfl Tryd.call57 rfl rfl rfl (q_pf (k_step_moved x89) (fun _ _ => trivial)) rfl (pSub (pCons (sC hC) (pCons (sC hC) (pCons (sC hC) (pApp (sC hA') pNil))))) ?_
        refine k_chg rfl rfl rfl (chg_alloc tt_ok rfl) rfl (.inr (by rintro _ _ ⟨_, rfl, rfl⟩; exact ⟨_, (pCons (sC (sC hC)) (pCons (sC (sC hC)) (pCons (sC (sC hC)) (pApp (sC (sC hA')) pNil))))⟩)) ?_
        rintro _ _ ⟨b8, rfl, rfl⟩
        refine k_chg0 rfl rfl rfl (chg_store tt_ok rfl Upd.here rfl rfl rfl rfl rfl rfl) (.inl rfl) ?_
        rintro _ _ rfl
        refine k_chg0 rfl rfl rfl (chg_store tt_ok rfl (Upd.there Upd.here) rfl rfl rfl rfl rfl rfl) (.inl rfl) ?_
        rintro _ _ rfl
        refine k_end (by kernel_rfl) ?_
        exact wx_join ⟨b8, b9, rfl, rfl⟩ (agree_cons rfl (agree_cons rfl (agree_cons rfl (agree_cons rfl agree_nil)))) (pSub (pCons (sC (sC hC)) (pCons (sC (sC (sC hC))) (pH (pH (pApp (sC hA') pNil))))))
      refine k_chgf rfl rfl (chg_alloc tt_ok rfl) rfl (.inr (by rintro _ _ ⟨_, rfl, rfl⟩; exact ⟨_, (pCons (sC (sC hC)) (pCons (sC (sC hC)) (pCons (sC (sC hC)) (pApp (sC (sC hA')) pNil))))⟩)) ?_
      rintro _ _ ⟨b8, rfl, rfl⟩
      refine k_cq rfl rfl rfl Tryd.call57 rfl rfl rfl (q_pf (k_step_moved x89) (fun _ _ => trivial)) rfl (pSub (pCons (sC (sC hC)) (pCons (sC (sC hC)) (pCons (sC (sC hC)) (pApp (sC (sC hA')) pNil))))) ?_
      refine k_chg0 rfl rfl rfl (chg_store tt_ok rfl Upd.here rfl rfl rfl rfl rfl rfl) (.inl rfl) ?_
      rintro _ _ rfl
      refine k_chg0 rfl rfl rfl (chg_store tt_ok rfl (Upd.there Upd.here) rfl rfl rfl rfl rfl rfl) (.inl rfl) ?_
      rintro _ _ rfl
      refine k_end (by kernel_rfl) ?_
      exact wx_join ⟨b8, b9, rfl, rfl⟩ (agree_cons rfl (agree_cons rfl (agree_cons rfl (agree_cons rfl agree_nil)))) (pSub (pCons (sC (sC hC)) (pCons (sC (sC (sC hC))) (pH (pH (pApp (sC hA') pNil))))))
    · refine k_chgf rfl rfl (chg_alloc tt_ok rfl) rfl (.inr (by rintro _ _ ⟨_, rfl, rfl⟩; exact ⟨_, (pCons (sC hC) (pCons (sC hC) (pCons (sC hC) (pApp (sC hA') pNil))))⟩)) ?_
      rintro _ _ ⟨b8, rfl, rfl⟩
      refine k_two (i := 3) (j := 9) (t1 := []) (t2 := [3, 7, 10, 11]) (by kernel_rfl) (by kernel_rfl) (by kernel_rfl) (by kernel_rfl) ?_ ?_
      · refine k_cqf rfl rfl Tryd.call57 rfl rfl rfl (q_pf (k_step_moved x85) (fun _ _ => trivial)) rfl (pSub (pCons (sC hC) (pCons (sC hC) (pCons (sC hC) (pApp (sC hA') pNil))))) ?_
        refine k_two (i := 7) (j := 9) (t1 := [9, 10, 11]) (t2 := [7, 10, 11]) (by kernel_rfl) (by kernel_rfl) (by kernel_rfl) (by kernel_rfl) ?_ ?_
        · refine k_cqf rfl rfl Tryd.call57 rfl rfl rfl (q_pf (k_step_moved x89) (fun _ _ => trivial)) rfl (pSub (pCons (sC hC) (pCons (sC hC) (pCons (sC hC) (pApp (sC hA') pNil))))) ?_
          refine k_chg rfl rfl rfl (chg_alloc tt_ok rfl) rfl (.inr (by rintro _ _ ⟨_, rfl, rfl⟩; exact ⟨_, (pCons (sC (sC hC)) (pCons (sC (sC hC)) (pCons (sC (sC hC)) (pApp (sC (sC hA')) pNil))))⟩)) ?_
          rintro _ _ ⟨b9, rfl, rfl⟩
          refine k_chg0 rfl rfl rfl (chg_store tt_ok rfl (Upd.there Upd.here) rfl rfl rfl rfl rfl rfl) (.inl rfl) ?_
          rintro _ _ rfl
          refine k_chg0 rfl rfl rfl (chg_store tt_ok rfl Upd.here rfl rfl rfl rfl rfl rfl) (.inl rfl) ?_
          rintro _ _ rfl
          refine k_end (by kernel_rfl) ?_
          exact wx_join ⟨b8, b9, rfl, rfl⟩ (agree_cons rfl (agree_cons rfl (agree_cons rfl (agree_cons rfl agree_nil)))) (pSub (pCons (sC (sC hC)) (pCons (sC (sC (sC hC))) (pCons (sC hC) (pH (pApp (sC hA') pNil))))))
        refine k_chgf rfl rfl (chg_alloc tt_ok rfl) rfl (.inr (by rintro _ _ ⟨_, rfl, rfl⟩; exact ⟨_, (pCons (sC (sC hC)) (pCons (sC (sC hC)) (pCons (sC (sC hC)) (pApp (sC (sC hA')) pNil))))⟩)) ?_
        rintro _ _ ⟨b9, rfl, rfl⟩
        refine k_cq rfl rfl rfl Tryd.call57 rfl rfl rfl (q_pf (k_step_moved x89) (fun _ _ => trivial)) rfl (pSub (pCons (sC (sC hC)) (pCons (sC (sC hC)) (pCons (sC (sC hC)) (pApp (sC (sC hA')) pNil))))) ?_
        refine k_chg0 rfl rfl rfl (chg_store tt_ok rfl (Upd.there Upd.here) rfl rfl rfl rfl rfl rfl) (.inl rfl) ?_
        rintro _ _ rfl
        refine k_chg0 rfl rfl rfl (chg_store tt_ok rfl Upd.here rfl rfl rfl rfl rfl rfl) (.inl rfl) ?_
        rintro _ _ rfl
        refine k_end (by kernel_rfl) ?_
        exact wx_join ⟨b8, b9, rfl, rfl⟩ (agree_cons rfl (agree_cons rfl (agree_cons rfl (agree_cons rfl agree_nil)))) (pSub (pCons (sC (sC hC)) (pCons (sC (sC (sC hC))) (pCons (sC hC) (pH (pApp (sC hA') pNil))))))
      refine k_chgf rfl rfl (chg_alloc tt_ok rfl) rfl (.inr (by rintro _ _ ⟨_, rfl, rfl⟩; exact ⟨_, (pCons (sC (sC hC)) (pCons (sC (sC hC)) (pCons (sC (sC hC)) (pApp (sC (sC hA')) pNil))))⟩)) ?_
      rintro _ _ ⟨b9, rfl, rfl⟩
      refine k_cq rfl rfl rfl Tryd.call57 rfl rfl rfl (q_pf (k_step_moved x85) (fun _ _ => trivial)) rfl (pSub (pCons (sC (sC hC)) (pCons (sC (sC hC)) (pCons (sC (sC hC)) (pApp (sC (sC hA')) pNil))))) ?_
      refine k_cq rfl rfl rfl Tryd.call57 rfl rfl rfl (q_pf (k_step_moved x89) (fun _ _ => trivial)) rfl (pSub (pCons (sC (sC hC)) (pCons (sC (sC hC)) (pCons (sC (sC hC)) (pApp (sC (sC hA')) pNil))))) ?_
      refine k_chg0 rfl rfl rfl (chg_store tt_ok rfl (Upd.there Upd.here) rfl rfl rfl rfl rfl rfl) (.inl rfl) ?_
      rintro _ _ rfl
      refine k_chg0 rfl rfl rfl (chg_store tt_ok rfl Upd.here rfl rfl rfl rfl rfl rfl) (.inl rfl) ?_
      rintro _ _ rfl
      refine k_end (by kernel_rfl) ?_
      exact wx_join ⟨b8, b9, rfl, rfl⟩ (agree_cons rfl (agree_cons rfl (agree_cons rfl (agree_cons rfl agree_nil)))) (pSub (pCons (sC (sC hC)) (pCons (sC (sC (sC hC))) (pCons (sC hC) (pH (pApp (sC hA') pNil))))))
    refine k_chgf rfl rfl (chg_alloc tt_ok rfl) rfl (.inr (by rintro _ _ ⟨_, rfl, rfl⟩; exact ⟨_, (pCons (sC hC) (pCons (sC hC) (pCons (sC hC) (pApp (sC hA') pNil))))⟩)) ?_
    rintro _ _ ⟨b9, rfl, rfl⟩
    refine k_two (i := 3) (j := 8) (t1 := []) (t2 := [3, 7, 10, 11]) (by kernel_rfl) (by kernel_rfl) (by kernel_rfl) (by kernel_rfl) ?_ ?_
    · refine k_cqf rfl rfl Tryd.call57 rfl rfl rfl (q_pf (k_step_moved x85) (fun _ _ => trivial)) rfl (pSub (pCons (sC hC) (pCons (sC hC) (pCons (sC hC) (pApp (sC hA') pNil))))) ?_
      refine k_two (i := 7) (j := 8) (t1 := [8, 10, 11]) (t2 := [7, 10, 11]) (by kernel_rfl) (by kernel_rfl) (by kernel_rfl) (by kernel_rfl) ?_ ?_
      · refine k_cqf rfl rfl Tryd.call57 rfl rfl rfl (q_pf (k_step_moved x89) (fun _ _ => trivial)) rfl (pSub (pCons (sC hC) (pCons (sC hC) (pCons (sC hC) (pApp (sC hA') pNil))))) ?_
        refine k_chg rfl rfl rfl (chg_alloc tt_ok rfl) rfl (.inr (by rintro _ _ ⟨_, rfl, rfl⟩; exact ⟨_, (pCons (sC (sC hC)) (pCons (sC (sC hC)) (pCons (sC (sC hC)) (pApp (sC (sC hA')) pNil))))⟩)) ?_
        rintro _ _ ⟨b8, rfl, rfl⟩
        refine k_chg0 rfl rfl rfl (chg_store tt_ok rfl Upd.here rfl rfl rfl rfl rfl rfl) (.inl rfl) ?_
        rintro _ _ rfl
        refine k_chg0 rfl rfl rfl (chg_store tt_ok rfl (Upd.there Upd.here) rfl rfl rfl rfl rfl rfl) (.inl rfl) ?_
        rintro _ _ rfl
        refine k_end (by kernel_rfl) ?_
        exact wx_join ⟨b8, b9, rfl, rfl⟩ (agree_cons rfl (agree_cons rfl (agree_cons rfl (agree_cons rfl agree_nil)))) (pSub (pCons (sC (sC hC)) (pCons (sC (sC (sC hC))) (pH (pH (pApp (sC hA') pNil))))))
      refine k_chgf rfl rfl (chg_alloc tt_ok rfl) rfl (.inr (by rintro _ _ ⟨_, rfl, rfl⟩; exact ⟨_, (pCons (sC (sC hC)) (pCons (sC (sC hC)) (pCons (sC (sC hC)) (pApp (sC (sC hA')) pNil))))⟩)) ?_
      rintro _ _ ⟨b8, rfl, rfl⟩
      refine k_cq rfl rfl rfl Tryd.call57 rfl rfl rfl (q_pf (k_step_moved x89) (fun _ _ => trivial)) rfl (pSub (pCons (sC (sC hC)) (pCons (sC (sC hC)) (pCons (sC (sC hC)) (pApp (sC (sC hA')) pNil))))) ?_
      refine k_chg0 rfl rfl rfl (chg_store tt_ok rfl Upd.here rfl rfl rfl rfl rfl rfl) (.inl rfl) ?_
      rintro _ _ rfl
      refine k_chg0 rfl rfl rfl (chg_store tt_ok rfl (Upd.there Upd.here) rfl rfl rfl rfl rfl rfl) (.inl rfl) ?_
      rintro _ _ rfl
      refine k_end (by kernel_rfl) ?_
      exact wx_join ⟨b8, b9, rfl, rfl⟩ (agree_cons rfl (agree_cons rfl (agree_cons rfl (agree_cons rfl agree_nil)))) (pSub (pCons (sC (sC hC)) (pCons (sC (sC (sC hC))) (pH (pH (pApp (sC hA') pNil))))))
    refine k_chgf rfl rfl (chg_alloc tt_ok rfl) rfl (.inr (by rintro _ _ ⟨_, rfl, rfl⟩; exact ⟨_, (pCons (sC (sC hC)) (pCons (sC (sC hC)) (pCons (sC (sC hC)) (pApp (sC (sC hA')) pNil))))⟩)) ?_
    rintro _ _ ⟨b8, rfl, rfl⟩
    refine k_cq rfl rfl rfl Tryd.call57 rfl rfl rfl (q_pf (k_step_moved x85) (fun _ _ => trivial)) rfl (pSub (pCons (sC (sC hC)) (pCons (sC (sC hC)) (pCons (sC (sC hC)) (pApp (sC (sC hA')) pNil))))) ?_
    refine k_cq rfl rfl rfl Tryd.call57 rfl rfl rfl (q_pf (k_step_moved x89) (fun _ _ => trivial)) rfl (pSub (pCons (sC (sC hC)) (pCons (sC (sC hC)) (pCons (sC (sC hC)) (pApp (sC (sC hA')) pNil))))) ?_
    refine k_chg0 rfl rfl rfl (chg_store tt_ok rfl Upd.here rfl rfl rfl rfl rfl rfl) (.inl rfl) ?_
    rintro _ _ rfl
    refine k_chg0 rfl rfl rfl (chg_store tt_ok rfl (Upd.there Upd.here) rfl rfl rfl rfl rfl rfl) (.inl rfl) ?_
    rintro _ _ rfl
    refine k_end (by kernel_rfl) ?_
    exact wx_join ⟨b8, b9, rfl, rfl⟩ (agree_cons rfl (agree_cons rfl (agree_cons rfl (agree_cons rfl agree_nil)))) (pSub (pCons (sC (sC hC)) (pCons (sC (sC (sC hC))) (pH (pH (pApp (sC hA') pNil))))))
  rintro _ _ ⟨b8, b9, rfl, rfl⟩
  refine wc_seq (wc_seq (wc_quiet (by kernel_rfl) (by kernel_rfl) (wq_val (v := .agg #[.int .i32 v85.X, .int .i32 v85.Y, .int .i32 v85.VX, .int .i32 v85.VY, .int .u8 v85.Health, .int .u8 v85.Cool, .int .u8 v85.Face]) (val_load tt_ok rfl (mT (mT (mH))) rfl) rfl ?_)))
  replace h := bsome h; obtain ⟨v91, x91, h⟩ := h
  refine wq_cq Tryd.call59 rfl rfl rfl (q_pf (k_step_box x91) (fun _ _ => trivial)) rfl ?_
  refine wq_val (v := .agg #[.int .i32 v89.X, .int .i32 v89.Y, .int .i32 v89.VX, .int .i32 v89.VY, .int .u8 v89.Health, .int .u8 v89.Cool, .int .u8 v89.Face]) (val_load tt_ok rfl (mT (mT (mT (mH)))) rfl) rfl ?_
  replace h := bsome h; obtain ⟨v93, x93, h⟩ := h
  refine wq_cq Tryd.call59 rfl rfl rfl (q_pf (k_step_box x93) (fun _ _ => trivial)) rfl ?_
  replace h := bsome h; obtain ⟨v94, x94, h⟩ := h
  refine wq_cq Tryd.call58 rfl rfl rfl (q_pf (k_geom_Over x94) (fun _ _ => trivial)) rfl ?_
  refine wq_nil (wx_then ?_)
  replace h := bsome h; obtain ⟨⟨zp, zq⟩, h, hj60⟩ := h; try dsimp only at hj60
  refine wc_join2 (fun E L => E = [(2, .pointer (some ⟨b2, 0, none⟩)), (4, .pointer (some ⟨b4, 0, none⟩)), (8, .pointer (some ⟨b8, 0, none⟩)), (9, .pointer (some ⟨b9, 0, none⟩))] ∧ L = (⟨b2, (.int .u64 v12.Frame :: .int .u64 v12.Seed :: pl14 zb [.slice zf ze zg, .int .u16 v12.Score.1, .int .u16 v12.Score.2]), 36, (0, 0)⟩ :: (⟨b4, [.int .u64 (0 : Int), .int .u64 (0 : Int), .int .i32 (0 : Int), .int .i32 (0 : Int), .int .i32 (0 : Int), .int .i32 (0 : Int), .int .u8 (0 : Int), .int .u8 (0 : Int), .int .u8 (0 : Int), .int .i32 (0 : Int), .int .i32 (0 : Int), .int .i32 (0 : Int), .int .i32 (0 : Int), .int .u8 (0 : Int), .int .u8 (0 : Int), .int .u8 (0 : Int), .slice none 0 0, .int .u16 (0 : Int), .int .u16 (0 : Int)], 36, (0, 0)⟩ :: (⟨b8, (pl7 zp []), 30, (0, 0)⟩ :: (⟨b9, (pl7 zq []), 30, (0, 0)⟩ :: (zj ++ [])))))) ?_ ?_
  · refine wc_cond rfl (fun hc => ?_) (fun hc => ?_)
    · replace h := ct hc h
      refine wc_k2 (Ls := (⟨b2, (.int .u64 v12.Frame :: .int .u64 v12.Seed :: pl14 zb [.slice zf ze zg, .int .u16 v12.Score.1, .int .u16 v12.Score.2]), 36, (0, 0)⟩ :: (⟨b4, [.int .u64 (0 : Int), .int .u64 (0 : Int), .int .i32 (0 : Int), .int .i32 (0 : Int), .int .i32 (0 : Int), .int .i32 (0 : Int), .int .u8 (0 : Int), .int .u8 (0 : Int), .int .u8 (0 : Int), .int .i32 (0 : Int), .int .i32 (0 : Int), .int .i32 (0 : Int), .int .i32 (0 : Int), .int .u8 (0 : Int), .int .u8 (0 : Int), .int .u8 (0 : Int), .slice none 0 0, .int .u16 (0 : Int), .int .u16 (0 : Int)], 36, (0, 0)⟩ :: (⟨b8, (pl7 v85 []), 30, (0, 0)⟩ :: (⟨b9, (pl7 v89 []), 30, (0, 0)⟩ :: (zj ++ [])))))) [3, 7, 8, 9] [7, 8, 9] [0, 1, 3, 7, 0, 16, 48, 127, 255, 511] [0, 1, 2, 4, 5, 6, 3, 7, 8, 9] (by kernel_rfl) (by kernel_rfl) (by kernel_rfl) ?_
      refine k_val (v := .pointer (some ⟨b2, 2, none⟩)) rfl rfl rfl (pSub (pH (pH (pH (pH (pA pNil)))))) (stepV_ok tt_ok rfl) rfl ?_
      refine k_val (v := .pointer (some ⟨b2, 2, none⟩)) rfl rfl rfl (pSub (pH (pH (pH (pH (pA pNil)))))) (val_ia (j := 0) tt_ok rfl rfl rfl rfl rfl rfl rfl) rfl ?_
      refine k_val (v := .agg #[.int .i32 zb.1.X, .int .i32 zb.1.Y, .int .i32 zb.1.VX, .int .i32 zb.1.VY, .int .u8 zb.1.Health, .int .u8 zb.1.Cool, .int .u8 zb.1.Face]) rfl rfl rfl (pSub (pH (pH (pH (pH (pA pNil)))))) (val_load tt_ok rfl (mH) rfl) rfl ?_
      refine k_val (v := .pointer (some ⟨b2, 2, none⟩)) rfl rfl rfl (pSub (pH (pH (pH (pH (pA pNil)))))) (stepV_ok tt_ok rfl) rfl ?_
      refine k_val (v := .pointer (some ⟨b2, 9, none⟩)) rfl rfl rfl (pSub (pH (pH (pH (pH (pA pNil)))))) (val_ia (j := 1) tt_ok rfl rfl rfl rfl rfl rfl rfl) rfl ?_
      refine k_val (v := .agg #[.int .i32 zb.2.X, .int .i32 zb.2.Y, .int .i32 zb.2.VX, .int .i32 zb.2.VY, .int .u8 zb.2.Health, .int .u8 zb.2.Cool, .int .u8 zb.2.Face]) rfl rfl rfl (pSub (pH (pH (pH (pH (pA pNil)))))) (val_load tt_ok rfl (mH) rfl) rfl ?_
      replace h := bsome h; obtain ⟨v98, x98, h⟩ := h
      refine k_cq rfl rfl rfl Tryd.call60 rfl rfl rfl (q_pf (k_step_stopped x98) (fun _ _ => trivial)) rfl (pSub (pH (pH (pH (pH (pA pNil)))))) ?_
      replace h := bsome h; obtain ⟨v102, x102, h⟩ := h
      refine k_cq rfl rfl rfl Tryd.call60 rfl rfl rfl (q_pf (k_step_stopped x102) (fun _ _ => trivial)) rfl (pSub (pH (pH (pH (pH (pA pNil)))))) ?_
      refine k_chg0 rfl rfl rfl (chg_store tt_ok rfl (Upd.there (Upd.there Upd.here)) rfl rfl rfl rfl rfl rfl) (.inl rfl) ?_
      rintro _ _ rfl
      refine k_chg0 rfl rfl rfl (chg_store tt_ok rfl (Upd.there (Upd.there (Upd.there Upd.here))) rfl rfl rfl rfl rfl rfl) (.inl rfl) ?_
      rintro _ _ rfl
      refine k_end (by kernel_rfl) ?_
      simp only [Option.some.injEq, Prod.mk.injEq] at h
      obtain ⟨rfl, rfl⟩ := h
      exact wx_join ⟨rfl, rfl⟩ (agree_cons rfl (agree_cons rfl (agree_cons rfl (agree_cons rfl agree_nil)))) (pSub (pH (pH (pH (pH (pA pNil))))))
    replace h := cf hc h
    refine wc_skip ?_
    simp only [Option.some.injEq, Prod.mk.injEq] at h
    obtain ⟨rfl, rfl⟩ := h
    exact wx_join ⟨rfl, rfl⟩ (agree_cons rfl (agree_cons rfl (agree_cons rfl (agree_cons rfl agree_nil)))) (pSub (pH (pH (pH (pH (pA pNil))))))
  rintro _ _ ⟨rfl, rfl⟩
  have h := hj60; clear hj60
  refine wc_seq (wc_region (wl_val (v := .agg #[.int .i32 zp.X, .int .i32 zp.Y, .int .i32 zp.VX, .int .i32 zp.VY, .int .u8 zp.Health, .int .u8 zp.Cool, .int .u8 zp.Face]) (val_load tt_ok rfl (mT (mT (mH))) rfl) rfl (wl_val (v := .agg #[.int .i32 zq.X, .int .i32 zq.Y, .int .i32 zq.VX, .int .i32 zq.VY, .int .u8 zq.Health, .int .u8 zq.Cool, .int .u8 zq.Face]) (val_load tt_ok rfl (mT (mT (mT (mH)))) rfl) rfl (wP (v := .agg #[.int .i32 zp.X, .int .i32 zp.Y, .int .i32 zp.VX, .int .i32 zp.VY, .int .u8 zp.Health, .int .u8 zp.Cool, .int .u8 zp.Face, .int .i32 zq.X, .int .i32 zq.Y, .int .i32 zq.VX, .int .i32 zq.VY, .int .u8 zq.Health, .int .u8 zq.Cool, .int .u8 zq.Face]) rfl rfl ?_))))
  refine wP (v := .pointer (some ⟨b2, 2, none⟩)) rfl rfl ?_
  apply wl_store tt_ok; rfl; exact Upd.here; rfl; rfl; rfl; rfl; rfl; rfl
  refine wl_nil (wx_then (wc_seq (wc_region ?_)))
  replace h := bsome h; obtain ⟨zn, x107, h⟩ := h
  refine wl_cs Tryd.call61 rfl rfl rfl (s_sp (k_step_fly (p0 := (T_api_State.mk v12.Frame v12.Seed (zp, zq) za v12.Score)) zl zm x107) (pH (pApp (sC (sC (sC hA'))) pNil)) (fun _ _ => trivial)) rfl ?_
  rintro _ _ ⟨_, ⟨zas, zau, zat, zap, zaq, zar, rfl, rfl⟩, rfl⟩
  refine wl_nil (wx_then (wc_seq (wc_seq (wc_region (wP rfl rfl (wl_nil (wx_then (wc_block ?_))))))))
  replace h := bsome h; obtain ⟨⟨zak, zal, zam, zan, zao⟩, h, hl71⟩ := h; try dsimp only at hl71
  refine wc_loop (fun m E L => ∃ (zo : Int) (zr : Int) (zw : Int) (zd : (T_api_Player × T_api_Player)) (zc : (List T_api_Shot)) (zt : (Int × Int)) (zu : Option Addr) (zs : Nat) (zv : Nat) (zx : List Blk), m_step_Step_L70 F m zo zr zw zd zc zt = some (zak, zal, zam, zan, zao) ∧ zs = zc.length ∧ Own 80 6 zu zs zv (flat c_T_api_Shot zc) zx ∧ E = [(2, .pointer (some ⟨b2, 0, none⟩)), (4, .pointer (some ⟨b4, 0, none⟩)), (108, .int .i64 zo)] ∧ L = (⟨b2, (.int .u64 zr :: .int .u64 zw :: pl14 zd [.slice zu zs zv, .int .u16 zt.1, .int .u16 zt.2]), 36, (0, 0)⟩ :: (⟨b4, [.int .u64 (0 : Int), .int .u64 (0 : Int), .int .i32 (0 : Int), .int .i32 (0 : Int), .int .i32 (0 : Int), .int .i32 (0 : Int), .int .u8 (0 : Int), .int .u8 (0 : Int), .int .u8 (0 : Int), .int .i32 (0 : Int), .int .i32 (0 : Int), .int .i32 (0 : Int), .int .i32 (0 : Int), .int .u8 (0 : Int), .int .u8 (0 : Int), .int .u8 (0 : Int), .slice none 0 0, .int .u16 (0 : Int), .int .u16 (0 : Int)], 36, (0, 0)⟩ :: (zx ++ [])))) F ⟨(0 : Int), zn.Frame, zn.Seed, zn.Players, zn.Shots, zn.Score, zas, zau, zat, zap, h, zaq, zar, rfl, rfl⟩ (agree_cons rfl (agree_cons rfl (agree_cons rfl agree_nil))) (pSub (pH (pCons (sA hC) (pA pNil)))) ?_
  clear h
  rintro m71 _ _ ⟨zo, zr, zw, zd, zc, zt, zu, zs, zv, zx, h, zz, zaa, rfl, rfl⟩
  rcases m71 with _ | m71
  · rw [m_step_Step_L70.eq_1] at h; cases h
  rw [m_step_Step_L70.eq_2] at h
  refine wc_seq (wc_region (wP (v := .bool (decide (zo < (2 : Int)))) rfl rfl (wl_nil (wx_then (wc_seq (wc_cond rfl (fun hc => ?_) (fun hc => ?_)))))))
  · replace h := ct hc h
    refine wc_skip (wx_then (wc_seq (wc_block (wc_seq (wc_region ?_)))))
    iterate 2 refine wP rfl rfl ?_
    refine wl_nil (wx_then (wc_seq (wc_region (wP rfl rfl (wP (v := .pointer (some ⟨b2, 2, none⟩)) rfl rfl ?_)))))
    rcases Bool.eq_false_or_eq_true (zo == (0 : Int)) with hx1130 | hx1130
    · replace h := ct hx1130 h
      refine wl_val (v := .pointer (some ⟨b2, 2, none⟩)) (val_ia (j := 0) tt_ok rfl rfl rfl rfl (by simpa using hx1130) rfl rfl) rfl ?_
      refine wP (v := .pointer (some ⟨b2, 6, none⟩)) rfl rfl (wl_val (v := .int .u8 zd.1.Health) (val_load tt_ok rfl (mH) rfl) rfl (wP (v := .bool (zd.1.Health == (0 : Int))) rfl rfl (wl_nil (wx_then (wc_cond rfl (fun hc => ?_) (fun hc => ?_))))))
      · replace h := ct hc h
        refine wc_region (wP rfl rfl ?_)
        replace h := bsome h; obtain ⟨zh, x118, h⟩ := h
        refine wl_cs Tryd.call62 rfl rfl rfl (s_sp (k_step_revive (p0 := (T_api_State.mk zr zw zd zc zt)) zz zaa x118) (pH (pApp (sC hA') pNil)) (fun _ _ => trivial)) rfl ?_
        rintro _ _ ⟨_, ⟨zae, zag, zaf, zab, zac, zad, rfl, rfl⟩, rfl⟩
        refine wl_nil (wx_block (wx_then (wc_region (wP (v := .int .i64 (IntKind.wrap .i64 (zo + (1 : Int)))) rfl rfl (wP rfl rfl (wl_nil ?_))))))
        exact wx_round m71 (Nat.lt_succ_self m71) ⟨(IntKind.wrap .i64 (zo + (1 : Int))), zh.Frame, zh.Seed, zh.Players, zh.Shots, zh.Score, zae, zag, zaf, zab, h, zac, zad, rfl, rfl⟩ (agree_cons rfl (agree_cons rfl (agree_cons rfl agree_nil))) (pSub (pH (pCons (sA hC) (pA pNil))))
      replace h := cf hc h
      refine wc_skip (wx_block (wx_then (wc_region (wP (v := .int .i64 (IntKind.wrap .i64 (zo + (1 : Int)))) rfl rfl (wP rfl rfl (wl_nil ?_))))))
      exact wx_round m71 (Nat.lt_succ_self m71) ⟨(IntKind.wrap .i64 (zo + (1 : Int))), zr, zw, zd, zc, zt, zu, zs, zv, zx, h, zz, zaa, rfl, rfl⟩ (agree_cons rfl (agree_cons rfl (agree_cons rfl agree_nil))) (pSub (pH (pH (pA pNil))))
    replace h := cf hx1130 h
    rcases Bool.eq_false_or_eq_true (zo == (1 : Int)) with hx1131 | hx1131
    · replace h := ct hx1131 h
      refine wl_val (v := .pointer (some ⟨b2, 9, none⟩)) (val_ia (j := 1) tt_ok rfl rfl rfl rfl (by simpa using hx1131) rfl rfl) rfl ?_
      refine wP (v := .pointer (some ⟨b2, 13, none⟩)) rfl rfl (wl_val (v := .int .u8 zd.2.Health) (val_load tt_ok rfl (mH) rfl) rfl (wP (v := .bool (zd.2.Health == (0 : Int))) rfl rfl (wl_nil (wx_then (wc_cond rfl (fun hc => ?_) (fun hc => ?_))))))
      · replace h := ct hc h
        refine wc_region (wP rfl rfl ?_)
        replace h := bsome h; obtain ⟨zh, x118, h⟩ := h
        refine wl_cs Tryd.call62 rfl rfl rfl (s_sp (k_step_revive (p0 := (T_api_State.mk zr zw zd zc zt)) zz zaa x118) (pH (pApp (sC hA') pNil)) (fun _ _ => trivial)) rfl ?_
        rintro _ _ ⟨_, ⟨zae, zag, zaf, zab, zac, zad, rfl, rfl⟩, rfl⟩
        refine wl_nil (wx_block (wx_then (wc_region (wP (v := .int .i64 (IntKind.wrap .i64 (zo + (1 : Int)))) rfl rfl (wP rfl rfl (wl_nil ?_))))))
        exact wx_round m71 (Nat.lt_succ_self m71) ⟨(IntKind.wrap .i64 (zo + (1 : Int))), zh.Frame, zh.Seed, zh.Players, zh.Shots, zh.Score, zae, zag, zaf, zab, h, zac, zad, rfl, rfl⟩ (agree_cons rfl (agree_cons rfl (agree_cons rfl agree_nil))) (pSub (pH (pCons (sA hC) (pA pNil))))
      replace h := cf hc h
      refine wc_skip (wx_block (wx_then (wc_region (wP (v := .int .i64 (IntKind.wrap .i64 (zo + (1 : Int)))) rfl rfl (wP rfl rfl (wl_nil ?_))))))
      exact wx_round m71 (Nat.lt_succ_self m71) ⟨(IntKind.wrap .i64 (zo + (1 : Int))), zr, zw, zd, zc, zt, zu, zs, zv, zx, h, zz, zaa, rfl, rfl⟩ (agree_cons rfl (agree_cons rfl (agree_cons rfl agree_nil))) (pSub (pH (pH (pA pNil))))
    replace h := cf hx1131 h
    cases h
  replace h := cf hc h
  refine wc_exit (wx_then_exit ?_)
  simp only [Option.some.injEq, Prod.mk.injEq] at h
  obtain ⟨rfl, rfl, rfl, rfl, rfl⟩ := h
  have h := hl71; clear hl71; try dsimp only [orE_l, orE_r] at h
  refine wx_then_exit (wx_block_exit (wx_then (wc_seq (wc_region ?_))))
  refine wP (v := .pointer (some ⟨b2, 0, none⟩)) rfl rfl (wl_val (v := .int .u64 zr) (val_load tt_ok rfl (mH) rfl) rfl (wP (v := .int .u64 (IntKind.wrap .u64 (zr + (1 : Int)))) rfl rfl (wP (v := .pointer (some ⟨b2, 0, none⟩)) rfl rfl ?_)))
  apply wl_store tt_ok; rfl; exact Upd.here; rfl; rfl; rfl; rfl; rfl; rfl
  refine wl_nil (wx_then (wc_seq (wc_region (wl_val (v := .agg #[.int .u64 (IntKind.wrap .u64 (zr + (1 : Int))), .int .u64 zw, .int .i32 zd.1.X, .int .i32 zd.1.Y, .int .i32 zd.1.VX, .int .i32 zd.1.VY, .int .u8 zd.1.Health, .int .u8 zd.1.Cool, .int .u8 zd.1.Face, .int .i32 zd.2.X, .int .i32 zd.2.Y, .int .i32 zd.2.VX, .int .i32 zd.2.VY, .int .u8 zd.2.Health, .int .u8 zd.2.Cool, .int .u8 zd.2.Face, .slice zu zs zv, .int .u16 zt.1, .int .u16 zt.2]) (val_load tt_ok rfl (mH) rfl) rfl ?_))))
  apply wl_store tt_ok; rfl; exact (Upd.there Upd.here); rfl; rfl; rfl; rfl; rfl; rfl
  refine wl_nil (wx_then (wc_ret ?_))
  obtain rfl := sI h
  exact wx_spD tt_ok (.inl rfl) Tryd.results38 (Res.cell rfl (mT (mH)) rfl Res.nil) ⟨zu, zs, zv, zx, zz, zaa, rfl, rfl⟩ (fun F => by simp) (pSub (pApp (sC (sC hA')) pNil))

theorem k_rollback_Engine_Shown {F : Nat} {p0 : T_rollback_Engine} {p0b p0t : Nat} {p0a0 : Option Addr} {p0n0 : Nat} {p0c0 : Nat} {p0B0 : List Blk} {p0a1 : Option Addr} {p0n1 : Nat} {p0c1 : Nat} {p0B1 : List Blk} {p0_4 : T_queue_Queue} {p0_4b p0_4t : Nat} {p0_4a0 : Option Addr} {p0_4n0 : Nat} {p0_4c0 : Nat} {p0_4B0 : List Blk} {p0_5 : T_ring_Ring} {p0_5b p0_5t : Nat} {p0_5g0 : List (T_ring_place × G)} {p0_5P0 : List Blk} {r0 : T_ring_Ring} {r1 : T_api_State} (p0N0 : p0n0 = p0.sure.Shots.length) (p0V0 : Own 80 6 p0a0 p0n0 p0c0 (flat c_T_api_Shot p0.sure.Shots) p0B0) (p0N1 : p0n1 = p0.own.length) (p0V1 : Own 40 1 p0a1 p0n1 p0c1 (flat (e1 .u8) p0.own) p0B1) (p0_4N0 : p0_4n0 = p0_4.l.length) (p0_4V0 : Own 40 1 p0_4a0 p0_4n0 p0_4c0 (flat (e1 .u8) p0_4.l) p0_4B0) (p0_5G0 : p0_5.places.1 = unG p0_5g0) (p0_5A0 : AllP sh_T_ring_place c_T_api_Shot p0_5P0 p0_5g0) (h : m_rollback_Engine_Shown F p0 p0_4 p0_5 = some (r0, r1)) :
    SpD Tryd.prog 11 [.pointer (some ⟨p0b, 0, none⟩)] (⟨p0b, (.int .u8 p0.player :: .int .i64 p0.window :: .int .u64 p0.sure.Frame :: .int .u64 p0.sure.Seed :: pl14 p0.sure.Players [.slice p0a0 p0n0 p0c0, .int .u16 p0.sure.Score.1, .int .u16 p0.sure.Score.2, .slice p0a1 p0n1 p0c1, .pointer (some ⟨p0_4b, 0, none⟩), .pointer (some ⟨p0_5b, 0, none⟩)]), p0t, (0, 0)⟩ :: (p0B0 ++ (p0B1 ++ (⟨p0_4b, [.int .u64 p0_4.first_, .slice p0_4a0 p0_4n0 p0_4c0, .int .u8 p0_4.last], p0_4t, (0, 0)⟩ :: (p0_4B0 ++ (⟨p0_5b, ([.int .i64 p0_5.size] ++ flat cg_T_ring_place p0_5g0), p0_5t, (0, 0)⟩ :: (p0_5P0 ++ []))))))) (fun w => Rds w (ids (⟨p0b, (.int .u8 p0.player :: .int .i64 p0.window :: .int .u64 p0.sure.Frame :: .int .u64 p0.sure.Seed :: pl14 p0.sure.Players [.slice p0a0 p0n0 p0c0, .int .u16 p0.sure.Score.1, .int .u16 p0.sure.Score.2, .slice p0a1 p0n1 p0c1, .pointer (some ⟨p0_4b, 0, none⟩), .pointer (some ⟨p0_5b, 0, none⟩)]), p0t, (0, 0)⟩ :: (p0B0 ++ (p0B1 ++ (⟨p0_4b, [.int .u64 p0_4.first_, .slice p0_4a0 p0_4n0 p0_4c0, .int .u8 p0_4.last], p0_4t, (0, 0)⟩ :: (p0_4B0 ++ (⟨p0_5b, ([.int .i64 p0_5.size] ++ flat cg_T_ring_place p0_5g0), p0_5t, (0, 0)⟩ :: (p0_5P0 ++ [])))))))) [] (some ⟨0, 0, none⟩) (flat (fun _ : Unit => gl_state_playerBounds) [()]) ∧ Rds w (ids (⟨p0b, (.int .u8 p0.player :: .int .i64 p0.window :: .int .u64 p0.sure.Frame :: .int .u64 p0.sure.Seed :: pl14 p0.sure.Players [.slice p0a0 p0n0 p0c0, .int .u16 p0.sure.Score.1, .int .u16 p0.sure.Score.2, .slice p0a1 p0n1 p0c1, .pointer (some ⟨p0_4b, 0, none⟩), .pointer (some ⟨p0_5b, 0, none⟩)]), p0t, (0, 0)⟩ :: (p0B0 ++ (p0B1 ++ (⟨p0_4b, [.int .u64 p0_4.first_, .slice p0_4a0 p0_4n0 p0_4c0, .int .u8 p0_4.last], p0_4t, (0, 0)⟩ :: (p0_4B0 ++ (⟨p0_5b, ([.int .i64 p0_5.size] ++ flat cg_T_ring_place p0_5g0), p0_5t, (0, 0)⟩ :: (p0_5P0 ++ [])))))))) [] (some ⟨1, 0, none⟩) (flat (fun _ : Unit => gl_state_shotBounds) [()])) (fun v D => ∃ (r0g0 : List (T_ring_place × G)) (r0P0 : List Blk) (r1a0 : Option Addr) (r1n0 : Nat) (r1c0 : Nat) (r1B0 : List Blk), r0.places.1 = unG r0g0 ∧ AllP sh_T_ring_place c_T_api_Shot r0P0 r0g0 ∧ r1n0 = r1.Shots.length ∧ Own 80 6 r1a0 r1n0 r1c0 (flat c_T_api_Shot r1.Shots) r1B0 ∧ v = .agg #[.int .u64 r1.Frame, .int .u64 r1.Seed, .int .i32 r1.Players.1.X, .int .i32 r1.Players.1.Y, .int .i32 r1.Players.1.VX, .int .i32 r1.Players.1.VY, .int .u8 r1.Players.1.Health, .int .u8 r1.Players.1.Cool, .int .u8 r1.Players.1.Face, .int .i32 r1.Players.2.X, .int .i32 r1.Players.2.Y, .int .i32 r1.Players.2.VX, .int .i32 r1.Players.2.VY, .int .u8 r1.Players.2.Health, .int .u8 r1.Players.2.Cool, .int .u8 r1.Players.2.Face, .slice r1a0 r1n0 r1c0, .int .u16 r1.Score.1, .int .u16 r1.Score.2] ∧ D = fun F => (⟨p0b, (.int .u8 p0.player :: .int .i64 p0.window :: .int .u64 p0.sure.Frame :: .int .u64 p0.sure.Seed :: pl14 p0.sure.Players [.slice p0a0 p0n0 p0c0, .int .u16 p0.sure.Score.1, .int .u16 p0.sure.Score.2, .slice p0a1 p0n1 p0c1, .pointer (some ⟨p0_4b, 0, none⟩), .pointer (some ⟨p0_5b, 0, none⟩)]), p0t, (0, 0)⟩ :: (p0B0 ++ (p0B1 ++ (⟨p0_4b, [.int .u64 p0_4.first_, .slice p0_4a0 p0_4n0 p0_4c0, .int .u8 p0_4.last], p0_4t, (0, 0)⟩ :: (p0_4B0 ++ (⟨p0_5b, ([.int .i64 r0.size] ++ flat cg_T_ring_place r0g0), p0_5t, (0, 0)⟩ :: (r0P0 ++ (r1B0 ++ F))))))))) := by
  unfold m_rollback_Engine_Shown at h
  refine sp_of_wc Tryd.func11 rfl Tryd.ntmps11 rfl rfl (fun w0 hR => ?_)
  obtain ⟨G0S, G1S⟩ := hR
  refine wc_seq (wc_region (wl_alloc tt_ok rfl rfl (fun b2 => (wl_nil (wx_then (wc_seq (wc_seq (wc_region (wP rfl rfl ?_)))))))))
  replace h := bsome h; obtain ⟨v7, x7, h⟩ := h
  refine wl_cq Tryd.call30 rfl rfl rfl (q_rd (k_rollback_Engine_is (p0 := p0) (p0_4 := p0_4) (p0_5 := p0_5) p0N0 p0V0 p0N1 p0V1 p0_4N0 p0_4V0 p0_5G0 p0_5A0 x7) (pCons (sC hC) (pApp (sC hA') (pApp (sC hA') (pCons (sC hC) (pApp (sC hA') (pCons (sC hC) (pApp (sC hA') pNil))))))) (fun _ _ => trivial)) rfl ?_
  refine wP (v := .bool (!v7)) rfl rfl (wl_nil (wx_then (wc_cond rfl (fun hc => ?_) (fun hc => ?_))))
  · replace h := ct hc h
    refine wc_seq (wc_region (wP (v := .agg #[.int .u64 (0 : Int), .int .u64 (0 : Int), .int .i32 (0 : Int), .int .i32 (0 : Int), .int .i32 (0 : Int), .int .i32 (0 : Int), .int .u8 (0 : Int), .int .u8 (0 : Int), .int .u8 (0 : Int), .int .i32 (0 : Int), .int .i32 (0 : Int), .int .i32 (0 : Int), .int .i32 (0 : Int), .int .u8 (0 : Int), .int .u8 (0 : Int), .int .u8 (0 : Int), .slice none 0 0, .int .u16 (0 : Int), .int .u16 (0 : Int)]) rfl rfl ?_))
    apply wl_store tt_ok; rfl; exact Upd.here; rfl; rfl; rfl; rfl; rfl; rfl
    refine wl_nil (wx_then (wc_ret (wx_then_ret ?_)))
    simp only [Option.some.injEq, Prod.mk.injEq] at h
    obtain ⟨rfl, rfl⟩ := h
    exact wx_spD tt_ok (.inl rfl) Tryd.results11 (Res.cell rfl (mH) rfl Res.nil) ⟨p0_5g0, p0_5P0, none, 0, 0, [], p0_5G0, p0_5A0, rfl, Own.zero, rfl, rfl⟩ (fun F => by simp) (pSub (pCons (sC hC) (pApp (sC hA') (pApp (sC hA') (pCons (sC hC) (pApp (sC hA') (pCons (sC hC) (pApp (sC hA') (pNo pNil)))))))))
  replace h := cf hc h
  refine wc_skip (wx_then (wc_seq (wc_region ?_)))
  iterate 2 refine wP rfl rfl ?_
  refine wP (v := .pointer (some ⟨p0b, 23, none⟩)) rfl rfl (wl_val (v := .pointer (some ⟨p0_5b, 0, none⟩)) (val_load tt_ok rfl (mT (mH)) rfl) rfl ?_)
  replace h := bsome h; obtain ⟨⟨ze, zbb⟩, x15, h⟩ := h; try dsimp only at h
  refine wl_cs Tryd.call32 rfl rfl rfl (s_sp (k_ring_Ring_Newest (p0 := p0_5) p0_5G0 p0_5A0 x15) (pCons (sC (sC (sA (sA (sC (sA hC)))))) (pApp (sC (sC (sA (sA (sC (sA hA')))))) pNil)) (fun _ _ => trivial)) rfl ?_
  rintro _ _ ⟨_, ⟨zaj, zal, zak, zba, zat, zz, rfl, rfl⟩, rfl⟩
  iterate 3 refine wP rfl rfl ?_
  refine wl_alloc tt_ok rfl rfl (fun b3 => ?_)
  apply wl_store tt_ok; rfl; exact Upd.here; rfl; rfl; rfl; rfl; rfl; rfl
  refine wP rfl rfl (wl_nil (wx_then (wc_seq (wc_region (wP rfl rfl (wl_val (v := .agg #[.int .u64 ze.Frame, .int .u64 ze.Seed, .int .i32 ze.Players.1.X, .int .i32 ze.Players.1.Y, .int .i32 ze.Players.1.VX, .int .i32 ze.Players.1.VY, .int .u8 ze.Players.1.Health, .int .u8 ze.Players.1.Cool, .int .u8 ze.Players.1.Face, .int .i32 ze.Players.2.X, .int .i32 ze.Players.2.Y, .int .i32 ze.Players.2.VX, .int .i32 ze.Players.2.VY, .int .u8 ze.Players.2.Health, .int .u8 ze.Players.2.Cool, .int .u8 ze.Players.2.Face, .slice zaj zal zak, .int .u16 ze.Score.1, .int .u16 ze.Score.2]) (val_load tt_ok rfl (mH) rfl) rfl ?_))))))
  refine wl_inl Tryd.call33 rfl rfl rfl Tryd.func33 rfl Tryd.ntmps33 rfl rfl rfl ?_
  refine wc_seq (wc_region (wl_box rfl rfl rfl (fun b100002 => (wl_box rfl rfl rfl (fun b100003 => (wP rfl rfl (wl_nil (wx_then (wc_seq (wc_region ?_))))))))))
  iterate 2 refine wP rfl rfl ?_
  refine wl_nil (wx_then (wc_ret (wx_inl (v := .func (.func 52) #[] #[.pointer (some ⟨b100003, 0, none⟩), .pointer (some ⟨b100002, 0, none⟩)]) tt_ok (.inl rfl) Tryd.results33 (Res.tmp rfl Res.nil) rfl (wP rfl rfl (wl_nil (wx_then (wc_seq (wc_block ?_))))))))
  replace h := bsome h; obtain ⟨⟨zan, zao, zau, zav, zaw, zax, zay, zae, zaf, zag, zah, zai⟩, h, hl17⟩ := h; try dsimp only at hl17
  refine wc_loop (fun m E L => ∃ (zn : Int) (zc : (Arr T_ring_place 14)) (zr : Int) (zw : Int) (zf : (T_api_Player × T_api_Player)) (zb : (List T_api_Shot)) (zl : (Int × Int)) (zh : Int) (zp : Int) (zd : (T_api_Player × T_api_Player)) (za : (List T_api_Shot)) (zg : (Int × Int)) (zm : List (T_ring_place × G)) (zq : List Blk) (zu : Option Addr) (zs : Nat) (zv : Nat) (zt : List Blk) (zi : Option Addr) (zk : Nat) (zj : Nat), m_rollback_Engine_Shown_L16 F p0 p0_4 m zn zc zr zw zf zb zl zh zp zd za zg = some (zan, zao, zau, zav, zaw, zax, zay, zae, zaf, zag, zah, zai) ∧ zc.1 = unG zm ∧ AllP sh_T_ring_place c_T_api_Shot zq zm ∧ zs = zb.length ∧ Own 80 6 zu zs zv (flat c_T_api_Shot zb) zt ∧ zk = za.length ∧ zk ≤ zj ∧ Rds w0 (ids (⟨p0b, (.int .u8 p0.player :: .int .i64 p0.window :: .int .u64 p0.sure.Frame :: .int .u64 p0.sure.Seed :: pl14 p0.sure.Players [.slice p0a0 p0n0 p0c0, .int .u16 p0.sure.Score.1, .int .u16 p0.sure.Score.2, .slice p0a1 p0n1 p0c1, .pointer (some ⟨p0_4b, 0, none⟩), .pointer (some ⟨p0_5b, 0, none⟩)]), p0t, (0, 0)⟩ :: (p0B0 ++ (p0B1 ++ (⟨p0_4b, [.int .u64 p0_4.first_, .slice p0_4a0 p0_4n0 p0_4c0, .int .u8 p0_4.last], p0_4t, (0, 0)⟩ :: (p0_4B0 ++ (⟨p0_5b, ([.int .i64 p0_5.size] ++ flat cg_T_ring_place p0_5g0), p0_5t, (0, 0)⟩ :: (p0_5P0 ++ [])))))))) zt zi (flat c_T_api_Shot za) ∧ (zi = none → zj = 0) ∧ E = [(0, .pointer (some ⟨p0b, 0, none⟩)), (2, .pointer (some ⟨b2, 0, none⟩)), (3, .pointer (some ⟨b3, 0, none⟩)), (5, .func (.func 52) #[] #[.pointer (some ⟨b100003, 0, none⟩), .pointer (some ⟨b100002, 0, none⟩)])] ∧ L = (⟨p0b, (.int .u8 p0.player :: .int .i64 p0.window :: .int .u64 p0.sure.Frame :: .int .u64 p0.sure.Seed :: pl14 p0.sure.Players [.slice p0a0 p0n0 p0c0, .int .u16 p0.sure.Score.1, .int .u16 p0.sure.Score.2, .slice p0a1 p0n1 p0c1, .pointer (some ⟨p0_4b, 0, none⟩), .pointer (some ⟨p0_5b, 0, none⟩)]), p0t, (0, 0)⟩ :: (⟨p0_4b, [.int .u64 p0_4.first_, .slice p0_4a0 p0_4n0 p0_4c0, .int .u8 p0_4.last], p0_4t, (0, 0)⟩ :: (⟨p0_5b, ([.int .i64 zn] ++ flat cg_T_ring_place zm), p0_5t, (0, 0)⟩ :: (⟨b2, [.int .u64 (0 : Int), .int .u64 (0 : Int), .int .i32 (0 : Int), .int .i32 (0 : Int), .int .i32 (0 : Int), .int .i32 (0 : Int), .int .u8 (0 : Int), .int .u8 (0 : Int), .int .u8 (0 : Int), .int .i32 (0 : Int), .int .i32 (0 : Int), .int .i32 (0 : Int), .int .i32 (0 : Int), .int .u8 (0 : Int), .int .u8 (0 : Int), .int .u8 (0 : Int), .slice none 0 0, .int .u16 (0 : Int), .int .u16 (0 : Int)], 36, (0, 0)⟩ :: (⟨b3, (.int .u64 zr :: .int .u64 zw :: pl14 zf [.slice zu zs zv, .int .u16 zl.1, .int .u16 zl.2]), 36, (0, 0)⟩ :: (⟨b100003, (.int .u64 zh :: .int .u64 zp :: pl14 zd [.slice zi zk zj, .int .u16 zg.1, .int .u16 zg.2]), 36, (0, 0)⟩ :: (⟨b100002, [.pointer (some ⟨p0b, 0, none⟩)], 27, (0, 0)⟩ :: (p0B0 ++ (p0B1 ++ (p0_4B0 ++ (zq ++ (zt ++ []))))))))))))) F ⟨p0_5.size, p0_5.places, ze.Frame, ze.Seed, ze.Players, ze.Shots, ze.Score, ze.Frame, ze.Seed, ze.Players, ze.Shots, ze.Score, p0_5g0, p0_5P0, zaj, zal, zak, zba, zaj, zal, zak, h, p0_5G0, p0_5A0, zat, zz, zat, (vec_cap zz), (Rds.of_vec zz), (own_Z zz), rfl, rfl⟩ (agree_cons rfl (agree_cons rfl (agree_cons rfl (agree_cons rfl agree_nil)))) (pSub (pCons (sC (sC (sC (sC (sA (sA (sC hC))))))) (pCons (sC (sC (sC (sC (sA (sA (sC (sA (sA hC))))))))) (pCons (sC (sC (sC hC))) (pCons (sC (sC (sC (sA (sA hC))))) (pCons (sC (sC hC)) (pH (pH (pApp (sA (sA hA')) (pApp (sA (sA hA')) (pApp (sA (sA hA')) (pA (pA pNil))))))))))))) ?_
  clear h
  rintro m17 _ _ ⟨zn, zc, zr, zw, zf, zb, zl, zh, zp, zd, za, zg, zm, zq, zu, zs, zv, zt, zi, zk, zj, h, zy, zx, zam, zaa, zac, zab, zad, zaz, rfl, rfl⟩
  rcases m17 with _ | m17
  · rw [m_rollback_Engine_Shown_L16.eq_1] at h; cases h
  rw [m_rollback_Engine_Shown_L16.eq_2] at h
  refine wc_seq (wc_seq (wc_quiet (by kernel_rfl) (by kernel_rfl) (qP (v := .pointer (some ⟨b3, 0, none⟩)) rfl rfl (wq_val (v := .int .u64 zr) (val_load tt_ok rfl (mT (mT (mT (mT (mH))))) rfl) rfl (qP rfl rfl ?_)))))
  replace h := bsome h; obtain ⟨v24, x24, h⟩ := h
  refine wq_cq Tryd.call17 rfl rfl rfl (q_rd (k_rollback_Engine_T (p0 := p0) (p0_4 := p0_4) (p0_5 := (T_ring_Ring.mk zn zc)) p0N0 p0V0 p0N1 p0V1 p0_4N0 p0_4V0 zy zx x24) (pH (pApp (sC (sC (sC (sC (sC (sC hA')))))) (pApp (sC (sC (sC (sC (sC (sC hA')))))) (pH (pApp (sC (sC (sC (sC (sC hA'))))) (pH (pApp (sC (sC (sC (sC hA')))) pNil))))))) (fun _ _ => trivial)) rfl ?_
  refine qP (v := .bool (decide (zr < v24))) rfl rfl (wq_nil (wx_then (wc_cond rfl (fun hc => ?_) (fun hc => ?_))))
  · replace h := ct hc h
    refine wc_skip (wx_then (wc_block (wc_region (wP rfl rfl (wl_inl Tryd.call52 rfl rfl rfl Tryd.func52 rfl Tryd.ntmps52 rfl rfl rfl (wc_seq (wc_region (wl_alloc tt_ok rfl rfl (fun b200002 => (wl_nil (wx_then (wc_seq (wc_k2 (Ls := (⟨b200002, [.int .u64 (0 : Int), .int .u64 (0 : Int), .int .i32 (0 : Int), .int .i32 (0 : Int), .int .i32 (0 : Int), .int .i32 (0 : Int), .int .u8 (0 : Int), .int .u8 (0 : Int), .int .u8 (0 : Int), .int .i32 (0 : Int), .int .i32 (0 : Int), .int .i32 (0 : Int), .int .i32 (0 : Int), .int .u8 (0 : Int), .int .u8 (0 : Int), .int .u8 (0 : Int), .slice none 0 0, .int .u16 (0 : Int), .int .u16 (0 : Int)], 36, (0, 0)⟩ :: (⟨p0b, (.int .u8 p0.player :: .int .i64 p0.window :: .int .u64 p0.sure.Frame :: .int .u64 p0.sure.Seed :: pl14 p0.sure.Players [.slice p0a0 p0n0 p0c0, .int .u16 p0.sure.Score.1, .int .u16 p0.sure.Score.2, .slice p0a1 p0n1 p0c1, .pointer (some ⟨p0_4b, 0, none⟩), .pointer (some ⟨p0_5b, 0, none⟩)]), p0t, (0, 0)⟩ :: (⟨p0_4b, [.int .u64 p0_4.first_, .slice p0_4a0 p0_4n0 p0_4c0, .int .u8 p0_4.last], p0_4t, (0, 0)⟩ :: (⟨p0_5b, ([.int .i64 zn] ++ flat cg_T_ring_place zm), p0_5t, (0, 0)⟩ :: (⟨b2, [.int .u64 (0 : Int), .int .u64 (0 : Int), .int .i32 (0 : Int), .int .i32 (0 : Int), .int .i32 (0 : Int), .int .i32 (0 : Int), .int .u8 (0 : Int), .int .u8 (0 : Int), .int .u8 (0 : Int), .int .i32 (0 : Int), .int .i32 (0 : Int), .int .i32 (0 : Int), .int .i32 (0 : Int), .int .u8 (0 : Int), .int .u8 (0 : Int), .int .u8 (0 : Int), .slice none 0 0, .int .u16 (0 : Int), .int .u16 (0 : Int)], 36, (0, 0)⟩ :: (⟨b3, (.int .u64 zr :: .int .u64 zw :: pl14 zf [.slice zu zs zv, .int .u16 zl.1, .int .u16 zl.2]), 36, (0, 0)⟩ :: (⟨b100003, (.int .u64 zh :: .int .u64 zp :: pl14 zd [.slice zi zk zj, .int .u16 zg.1, .int .u16 zg.2]), 36, (0, 0)⟩ :: (⟨b100002, [.pointer (some ⟨p0b, 0, none⟩)], 27, (0, 0)⟩ :: (p0B0 ++ (p0B1 ++ (p0_4B0 ++ (zq ++ (zt ++ [])))))))))))))) [4, 5, 6] [5, 6] [0, 0, 0, 4, 14, 31, 63] [0, 1, 2, 3, 4, 5, 6] (by kernel_rfl) (by kernel_rfl) (by kernel_rfl) ?_)))))))))))))
    refine k_val (v := .agg #[.int .u64 zh, .int .u64 zp, .int .i32 zd.1.X, .int .i32 zd.1.Y, .int .i32 zd.1.VX, .int .i32 zd.1.VY, .int .u8 zd.1.Health, .int .u8 zd.1.Cool, .int .u8 zd.1.Face, .int .i32 zd.2.X, .int .i32 zd.2.Y, .int .i32 zd.2.VX, .int .i32 zd.2.VY, .int .u8 zd.2.Health, .int .u8 zd.2.Cool, .int .u8 zd.2.Face, .slice zi zk zj, .int .u16 zg.1, .int .u16 zg.2]) rfl rfl rfl (pSub (pH (pH (pH (pH (pH (pH (pH (pH (pA (pA (pA (pA (pA pNil)))))))))))))) (val_load tt_ok rfl (mT (mT (mT (mT (mT (mT (mH))))))) rfl) rfl ?_
    refine k_val (v := .pointer (some ⟨p0b, 0, none⟩)) rfl rfl rfl (pSub (pH (pH (pH (pH (pH (pH (pH (pH (pA (pA (pA (pA (pA pNil)))))))))))))) (val_load tt_ok rfl (mT (mT (mT (mT (mT (mT (mT (mH)))))))) rfl) rfl ?_
    refine k_val (v := .pointer (some ⟨b100003, 0, none⟩)) rfl rfl rfl (pSub (pH (pH (pH (pH (pH (pH (pH (pH (pA (pA (pA (pA (pA pNil)))))))))))))) (stepV_ok tt_ok rfl) rfl ?_
    refine k_val (v := .int .u64 zh) rfl rfl rfl (pSub (pH (pH (pH (pH (pH (pH (pH (pH (pA (pA (pA (pA (pA pNil)))))))))))))) (val_load tt_ok rfl (mT (mT (mT (mT (mT (mT (mH))))))) rfl) rfl ?_
    replace h := bsome h; obtain ⟨v200007, x200007, h⟩ := h
    refine k_cq rfl rfl rfl Tryd.call42 rfl rfl rfl (q_rd (k_rollback_Engine_pair (p0 := p0) (p0_4 := p0_4) (p0_5 := (T_ring_Ring.mk zn zc)) p0N0 p0V0 p0N1 p0V1 p0_4N0 p0_4V0 zy zx x200007) (pCons (sC hC) (pApp (sC (sC (sC (sC (sC (sC (sC hA'))))))) (pApp (sC (sC (sC (sC (sC (sC (sC hA'))))))) (pCons (sC hC) (pApp (sC (sC (sC (sC (sC (sC hA')))))) (pCons (sC hC) (pApp (sC (sC (sC (sC (sC hA'))))) pNil))))))) (fun _ _ => trivial)) rfl (pSub (pH (pH (pH (pH (pH (pH (pH (pH (pA (pA (pA (pA (pA pNil)))))))))))))) ?_
    replace h := bsome h; obtain ⟨v200008, x200008, h⟩ := h
    refine k_cs rfl rfl rfl Tryd.call38 rfl rfl rfl (s_sp (k_step_Step (p0 := (T_api_State.mk zh zp zd za zg)) zac zab x200008) pNil (fun w hI => ⟨(Rds.call zad pNil ⟨_, (sC (sC (sC (sC (sC (sC (sC (sC (sA (sA (sA (sA hA'))))))))))))⟩) w hI, (Rds.call G0S pNil rsub_nil) w hI, (Rds.call G1S pNil rsub_nil) w hI⟩)) rfl (.inl rfl) ?_
    rintro _ _ ⟨_, ⟨v200008a0, v200008n0, v200008c0, v200008B0, v200008N0, v200008V0, rfl, rfl⟩, rfl⟩
    refine k_chg0 rfl rfl rfl (chg_store tt_ok rfl (Upd.right (Upd.there (Upd.there (Upd.there (Upd.there (Upd.there (Upd.there Upd.here))))))) rfl rfl rfl rfl rfl rfl) (.inl rfl) ?_
    rintro _ _ rfl
    refine k_end (by kernel_rfl) ?_
    refine wx_then (wc_seq (wc_k2 (Ls := (v200008B0 ++ (⟨b200002, [.int .u64 (0 : Int), .int .u64 (0 : Int), .int .i32 (0 : Int), .int .i32 (0 : Int), .int .i32 (0 : Int), .int .i32 (0 : Int), .int .u8 (0 : Int), .int .u8 (0 : Int), .int .u8 (0 : Int), .int .i32 (0 : Int), .int .i32 (0 : Int), .int .i32 (0 : Int), .int .i32 (0 : Int), .int .u8 (0 : Int), .int .u8 (0 : Int), .int .u8 (0 : Int), .slice none 0 0, .int .u16 (0 : Int), .int .u16 (0 : Int)], 36, (0, 0)⟩ :: (⟨p0b, (.int .u8 p0.player :: .int .i64 p0.window :: .int .u64 p0.sure.Frame :: .int .u64 p0.sure.Seed :: pl14 p0.sure.Players [.slice p0a0 p0n0 p0c0, .int .u16 p0.sure.Score.1, .int .u16 p0.sure.Score.2, .slice p0a1 p0n1 p0c1, .pointer (some ⟨p0_4b, 0, none⟩), .pointer (some ⟨p0_5b, 0, none⟩)]), p0t, (0, 0)⟩ :: (⟨p0_4b, [.int .u64 p0_4.first_, .slice p0_4a0 p0_4n0 p0_4c0, .int .u8 p0_4.last], p0_4t, (0, 0)⟩ :: (⟨p0_5b, ([.int .i64 zn] ++ flat cg_T_ring_place zm), p0_5t, (0, 0)⟩ :: (⟨b2, [.int .u64 (0 : Int), .int .u64 (0 : Int), .int .i32 (0 : Int), .int .i32 (0 : Int), .int .i32 (0 : Int), .int .i32 (0 : Int), .int .u8 (0 : Int), .int .u8 (0 : Int), .int .u8 (0 : Int), .int .i32 (0 : Int), .int .i32 (0 : Int), .int .i32 (0 : Int), .int .i32 (0 : Int), .int .u8 (0 : Int), .int .u8 (0 : Int), .int .u8 (0 : Int), .slice none 0 0, .int .u16 (0 : Int), .int .u16 (0 : Int)], 36, (0, 0)⟩ :: (⟨b3, (.int .u64 zr :: .int .u64 zw :: pl14 zf [.slice zu zs zv, .int .u16 zl.1, .int .u16 zl.2]), 36, (0, 0)⟩ :: (⟨b100003, (.int .u64 v200008.Frame :: .int .u64 v200008.Seed :: pl14 v200008.Players [.slice v200008a0 v200008n0 v200008c0, .int .u16 v200008.Score.1, .int .u16 v200008.Score.2]), 36, (0, 0)⟩ :: (⟨b100002, [.pointer (some ⟨p0b, 0, none⟩)], 27, (0, 0)⟩ :: (p0B0 ++ (p0B1 ++ (p0_4B0 ++ (zq ++ (zt ++ []))))))))))))))) [5] [5] [0, 1, 3, 7, 0, 31] [0, 1, 2, 3, 4, 5] (by kernel_rfl) (by kernel_rfl) (by kernel_rfl) ?_))
    refine k_val (v := .pointer (some ⟨p0b, 0, none⟩)) rfl rfl rfl (pSub (pA (pH (pH (pH (pH (pH (pH (pH (pH (pA (pA (pA (pA (pA pNil))))))))))))))) (val_load tt_ok rfl (mR (mT (mT (mT (mT (mT (mT (mT (mH))))))))) rfl) rfl ?_
    refine k_val rfl rfl rfl (pSub (pA (pH (pH (pH (pH (pH (pH (pH (pH (pA (pA (pA (pA (pA pNil))))))))))))))) (stepV_ok tt_ok rfl) rfl ?_
    refine k_val (v := .pointer (some ⟨p0b, 23, none⟩)) rfl rfl rfl (pSub (pA (pH (pH (pH (pH (pH (pH (pH (pH (pA (pA (pA (pA (pA pNil))))))))))))))) (stepV_ok tt_ok rfl) rfl ?_
    refine k_val (v := .pointer (some ⟨p0_5b, 0, none⟩)) rfl rfl rfl (pSub (pA (pH (pH (pH (pH (pH (pH (pH (pH (pA (pA (pA (pA (pA pNil))))))))))))))) (val_load tt_ok rfl (mR (mT (mH))) rfl) rfl ?_
    refine k_val (v := .agg #[.int .u64 v200008.Frame, .int .u64 v200008.Seed, .int .i32 v200008.Players.1.X, .int .i32 v200008.Players.1.Y, .int .i32 v200008.Players.1.VX, .int .i32 v200008.Players.1.VY, .int .u8 v200008.Players.1.Health, .int .u8 v200008.Players.1.Cool, .int .u8 v200008.Players.1.Face, .int .i32 v200008.Players.2.X, .int .i32 v200008.Players.2.Y, .int .i32 v200008.Players.2.VX, .int .i32 v200008.Players.2.VY, .int .u8 v200008.Players.2.Health, .int .u8 v200008.Players.2.Cool, .int .u8 v200008.Players.2.Face, .slice v200008a0 v200008n0 v200008c0, .int .u16 v200008.Score.1, .int .u16 v200008.Score.2]) rfl rfl rfl (pSub (pA (pH (pH (pH (pH (pH (pH (pH (pH (pA (pA (pA (pA (pA pNil))))))))))))))) (val_load tt_ok rfl (mR (mT (mT (mT (mT (mT (mT (mH)))))))) rfl) rfl ?_
    replace h := bsome h; obtain ⟨⟨zo, v200014⟩, x200014, h⟩ := h; try dsimp only at h
    refine k_cs rfl rfl rfl Tryd.call29 rfl rfl rfl (s_sp (k_ring_Ring_Put (p0 := (T_ring_Ring.mk zn zc)) (p1 := v200008) zy zx v200008N0 (vec_cap v200008V0) (own_Z v200008V0) x200014) (pCons (sA (sC (sC (sC hC)))) (pApp (sA (sC (sC (sC (sC (sC (sC (sC (sA (sA (sA hA'))))))))))) pNil)) (fun w hI => ⟨(Rds.call (Rds.of_vec v200008V0) (pCons (sA (sC (sC (sC hC)))) (pApp (sA (sC (sC (sC (sC (sC (sC (sC (sA (sA (sA hA'))))))))))) pNil)) ⟨_, hA'⟩) w hI, (Rds.call G0S (pCons (sA (sC (sC (sC hC)))) (pApp (sA (sC (sC (sC (sC (sC (sC (sC (sA (sA (sA hA'))))))))))) pNil)) rsub_nil) w hI, (Rds.call G1S (pCons (sA (sC (sC (sC hC)))) (pApp (sA (sC (sC (sC (sC (sC (sC (sC (sA (sA (sA hA'))))))))))) pNil)) rsub_nil) w hI⟩)) rfl (.inl rfl) ?_
    rintro _ _ ⟨_, ⟨zas, zar, zaq, zap, rfl, rfl⟩, rfl⟩
    refine k_end (by kernel_rfl) ?_
    refine wx_then (wc_seq (wc_region (wl_val (v := .agg #[.int .u64 v200008.Frame, .int .u64 v200008.Seed, .int .i32 v200008.Players.1.X, .int .i32 v200008.Players.1.Y, .int .i32 v200008.Players.1.VX, .int .i32 v200008.Players.1.VY, .int .u8 v200008.Players.1.Health, .int .u8 v200008.Players.1.Cool, .int .u8 v200008.Players.1.Face, .int .i32 v200008.Players.2.X, .int .i32 v200008.Players.2.Y, .int .i32 v200008.Players.2.VX, .int .i32 v200008.Players.2.VY, .int .u8 v200008.Players.2.Health, .int .u8 v200008.Players.2.Cool, .int .u8 v200008.Players.2.Face, .slice v200008a0 v200008n0 v200008c0, .int .u16 v200008.Score.1, .int .u16 v200008.Score.2]) (val_load tt_ok rfl (mT (mR (mR (mT (mT (mT (mT (mT (mH))))))))) rfl) rfl ?_)))
    apply wl_store tt_ok; rfl; exact (Upd.there (Upd.right (Upd.right Upd.here))); rfl; rfl; rfl; rfl; rfl; rfl
    refine wl_nil (wx_then (wc_ret (wx_inl (v := .agg #[.int .u64 v200008.Frame, .int .u64 v200008.Seed, .int .i32 v200008.Players.1.X, .int .i32 v200008.Players.1.Y, .int .i32 v200008.Players.1.VX, .int .i32 v200008.Players.1.VY, .int .u8 v200008.Players.1.Health, .int .u8 v200008.Players.1.Cool, .int .u8 v200008.Players.1.Face, .int .i32 v200008.Players.2.X, .int .i32 v200008.Players.2.Y, .int .i32 v200008.Players.2.VX, .int .i32 v200008.Players.2.VY, .int .u8 v200008.Players.2.Health, .int .u8 v200008.Players.2.Cool, .int .u8 v200008.Players.2.Face, .slice v200008a0 v200008n0 v200008c0, .int .u16 v200008.Score.1, .int .u16 v200008.Score.2]) tt_ok (.inl rfl) Tryd.results52 (Res.cell rfl (mT (mR (mR (mH)))) rfl Res.nil) rfl ?_)))
    apply wl_store tt_ok; rfl; exact (Upd.there (Upd.right (Upd.right (Upd.there (Upd.there (Upd.there (Upd.there Upd.here))))))); rfl; rfl; rfl; rfl; rfl; rfl
    refine wl_nil (wx_block ?_)
    exact wx_round m17 (Nat.lt_succ_self m17) ⟨zo.size, zo.places, v200008.Frame, v200008.Seed, v200008.Players, v200008.Shots, v200008.Score, v200008.Frame, v200008.Seed, v200008.Players, v200008.Shots, v200008.Score, zas, zar, v200008a0, v200008n0, v200008c0, v200008B0, v200008a0, v200008n0, v200008c0, h, zaq, zap, v200008N0, v200008V0, v200008N0, (vec_cap v200008V0), (Rds.of_vec v200008V0), (own_Z v200008V0), rfl, rfl⟩ (agree_cons rfl (agree_cons rfl (agree_cons rfl (agree_cons rfl agree_nil)))) (pSub (pCons (sC (sA (sA (sC hC)))) (pCons (sC (sA (sA (sC hC)))) (pH (pCons (sA (sA (sC hC))) (pCons (sA (sA (sC hC))) (pCons (sA (sA (sC hC))) (pCons (sA (sA (sC hC))) (pApp (sA (sA (sC hA'))) (pApp (sA (sA (sC hA'))) (pApp (sA (sA (sC hA'))) (pA (pA pNil)))))))))))))
  replace h := cf hc h
  refine wc_exit (wx_then_exit ?_)
  simp only [Option.some.injEq, Prod.mk.injEq] at h
  obtain ⟨rfl, rfl, rfl, rfl, rfl, rfl, rfl, rfl, rfl, rfl, rfl, rfl⟩ := h
  have h := hl17; clear hl17; try dsimp only [orE_l, orE_r] at h
  refine wx_then_exit (wx_block_exit (wx_then (wc_seq (wc_region ?_))))
  refine wl_val (v := .agg #[.int .u64 zr, .int .u64 zw, .int .i32 zf.1.X, .int .i32 zf.1.Y, .int .i32 zf.1.VX, .int .i32 zf.1.VY, .int .u8 zf.1.Health, .int .u8 zf.1.Cool, .int .u8 zf.1.Face, .int .i32 zf.2.X, .int .i32 zf.2.Y, .int .i32 zf.2.VX, .int .i32 zf.2.VY, .int .u8 zf.2.Health, .int .u8 zf.2.Cool, .int .u8 zf.2.Face, .slice zu zs zv, .int .u16 zl.1, .int .u16 zl.2]) (val_load tt_ok rfl (mT (mT (mT (mT (mH))))) rfl) rfl ?_
  replace h := bsome h; obtain ⟨v29, x29, h⟩ := h
  refine wl_cs Tryd.call26 rfl rfl rfl (s_sp (k_state_Copy (p0 := (T_api_State.mk zr zw zf zb zl)) zam (vec_cap zaa) x29) pNil (Rds.call (Rds.of_vec zaa) pNil ⟨_, (sC (sC (sC (sC (sC (sC (sC (sA (sA (sA (sA hA')))))))))))⟩)) rfl ?_
  rintro _ _ ⟨_, ⟨v29a0, v29n0, v29c0, v29B0, v29N0, v29V0, rfl, rfl⟩, rfl⟩
  apply wl_store tt_ok; rfl; exact (Upd.right (Upd.there (Upd.there (Upd.there Upd.here)))); rfl; rfl; rfl; rfl; rfl; rfl
  refine wl_nil (wx_then (wc_ret ?_))
  simp only [Option.some.injEq, Prod.mk.injEq] at h
  obtain ⟨rfl, rfl⟩ := h
  exact wx_spD tt_ok (.inl rfl) Tryd.results11 (Res.cell rfl (mR (mT (mT (mT (mH))))) rfl Res.nil) ⟨zm, zq, v29a0, v29n0, v29c0, v29B0, zy, zx, v29N0, v29V0, rfl, rfl⟩ (fun F => by simp) (pSub (pCons (sA hC) (pApp (sA (sC (sC (sC (sC (sC (sC hA'))))))) (pApp (sA (sC (sC (sC (sC (sC (sC hA'))))))) (pCons (sA hC) (pApp (sA (sC (sC (sC (sC (sC hA')))))) (pCons (sA hC) (pApp (sA (sC (sC (sC (sC hA'))))) (pA pNil)))))))))

theorem k_queue_Queue_Add {F : Nat} {p0 : T_queue_Queue} {p0b p0t : Nat} {p0a0 : Option Addr} {p0n0 : Nat} {p0c0 : Nat} {p0B0 : List Blk} {p1 : Int} {p2 : Int} {r0 : T_queue_Queue} {r1 : Int} (p0N0 : p0n0 = p0.l.length) (p0V0 : Own 40 1 p0a0 p0n0 p0c0 (flat (e1 .u8) p0.l) p0B0) (h : m_queue_Queue_Add F p0 p1 p2 = some (r0, r1)) :
    SpD Tryd.prog 36 [.pointer (some ⟨p0b, 0, none⟩), .int .u64 p1, .int .u8 p2] (⟨p0b, [.int .u64 p0.first_, .slice p0a0 p0n0 p0c0, .int .u8 p0.last], p0t, (0, 0)⟩ :: (p0B0 ++ [])) (fun w => True) (fun v D => ∃ (r0a0 : Option Addr) (r0n0 : Nat) (r0c0 : Nat) (r0B0 : List Blk), r0n0 = r0.l.length ∧ Own 40 1 r0a0 r0n0 r0c0 (flat (e1 .u8) r0.l) r0B0 ∧ v = .int .i64 r1 ∧ D = fun F => (⟨p0b, [.int .u64 r0.first_, .slice r0a0 r0n0 r0c0, .int .u8 r0.last], p0t, (0, 0)⟩ :: (r0B0 ++ F))) := by
  unfold m_queue_Queue_Add at h
  refine sp_of_wc Tryd.func36 rfl Tryd.ntmps36 rfl rfl (fun w0 hR => ?_)
  refine wc_seq (wc_region (wP rfl rfl (wl_nil (wx_then (wc_seq (wc_block (wc_seq (wc_region (wP rfl rfl (wP (v := .bool false) rfl rfl (wP rfl rfl (wl_nil (wx_then (wc_cond_false rfl (wc_seq (wc_region (wP rfl rfl ?_)))))))))))))))))
  replace h := bsome h; obtain ⟨v14, x14, h⟩ := h
  refine wl_cq Tryd.call31 rfl rfl rfl (q_pf (k_input_Legal x14) (fun _ _ => trivial)) rfl ?_
  refine wP (v := .bool (!v14)) rfl rfl (wP rfl rfl (wl_nil (wx_then (wc_cond rfl (fun hc => ?_) (fun hc => ?_)))))
  · replace h := ct hc h
    refine wc_seq (wc_region (wP rfl rfl (wl_nil (wx_then (wc_ret (wx_block_ret (wx_then_ret ?_)))))))
    simp only [Option.some.injEq, Prod.mk.injEq] at h
    obtain ⟨rfl, rfl⟩ := h
    exact wx_spD tt_ok (.inl rfl) Tryd.results36 (Res.tmp rfl Res.nil) ⟨p0a0, p0n0, p0c0, p0B0, p0N0, p0V0, rfl, rfl⟩ (fun F => by simp) (pSub (pH (pA pNil)))
  replace h := cf hc h
  refine wc_seq (wc_region ?_)
  iterate 3 refine wP rfl rfl ?_
  refine wP (v := .pointer (some ⟨p0b, 0, none⟩)) rfl rfl (wl_val (v := .int .u64 p0.first_) (val_load tt_ok rfl (mH) rfl) rfl (wP (v := .bool (decide (p1 < p0.first_))) rfl rfl (wP rfl rfl (wl_nil (wx_then (wc_cond rfl (fun hc => ?_) (fun hc => ?_)))))))
  · replace h := ct hc h
    refine wc_seq (wc_region (wP rfl rfl (wl_nil (wx_then (wc_ret (wx_block_ret (wx_then_ret ?_)))))))
    simp only [Option.some.injEq, Prod.mk.injEq] at h
    obtain ⟨rfl, rfl⟩ := h
    exact wx_spD tt_ok (.inl rfl) Tryd.results36 (Res.tmp rfl Res.nil) ⟨p0a0, p0n0, p0c0, p0B0, p0N0, p0V0, rfl, rfl⟩ (fun F => by simp) (pSub (pH (pA pNil)))
  replace h := cf hc h
  refine wc_skip (wx_block (wx_then (wc_seq (wc_seq (wc_region ?_)))))
  iterate 2 refine wP rfl rfl ?_
  replace h := bsome h; obtain ⟨⟨za, zb⟩, x26, h⟩ := h; try dsimp only at h
  refine wl_cq Tryd.call53 rfl rfl rfl (q_rd (k_queue_Queue_At (p0 := p0) p0N0 p0V0 x26) (pH (pA pNil)) (fun _ _ => trivial)) rfl ?_
  iterate 5 refine wP rfl rfl ?_
  refine wl_nil (wx_then (wc_block (wc_seq (wc_region ?_))))
  iterate 2 refine wP rfl rfl ?_
  replace h := bsome h; obtain ⟨v35, h, hg35⟩ := h
  refine wl_split (t := 31) rfl (fun hc => ?_) (fun hc => ?_)
  · replace h := ct hc h
    refine wl_run rfl (wP rfl rfl (wl_run rfl (wP rfl rfl (wl_run rfl (wP (v := .bool (za != p2)) rfl rfl ?_)))))
    obtain rfl := sI h
    have h := hg35; clear hg35
    refine wP (v := .bool (za != p2)) rfl rfl (wP rfl rfl (wl_nil (wx_then (wc_cond rfl (fun hc => ?_) (fun hc => ?_)))))
    · replace h := ct hc h
      refine wc_seq (wc_region (wP rfl rfl (wl_nil (wx_then (wc_ret (wx_block_ret (wx_then_ret ?_)))))))
      simp only [Option.some.injEq, Prod.mk.injEq] at h
      obtain ⟨rfl, rfl⟩ := h
      exact wx_spD tt_ok (.inl rfl) Tryd.results36 (Res.tmp rfl Res.nil) ⟨p0a0, p0n0, p0c0, p0B0, p0N0, p0V0, rfl, rfl⟩ (fun F => by simp) (pSub (pH (pA pNil)))
    replace h := cf hc h
    refine wc_seq (wc_region ?_)
    iterate 2 refine wP rfl rfl ?_
    refine wl_nil (wx_then (wc_cond rfl (fun hc => ?_) (fun hc => ?_)))
    · replace h := ct hc h
      refine wc_seq (wc_region (wP rfl rfl (wl_nil (wx_then (wc_ret (wx_block_ret (wx_then_ret ?_)))))))
      simp only [Option.some.injEq, Prod.mk.injEq] at h
      obtain ⟨rfl, rfl⟩ := h
      exact wx_spD tt_ok (.inl rfl) Tryd.results36 (Res.tmp rfl Res.nil) ⟨p0a0, p0n0, p0c0, p0B0, p0N0, p0V0, rfl, rfl⟩ (fun F => by simp) (pSub (pH (pA pNil)))
    replace h := cf hc h
    refine wc_seq (wc_region ?_)
    iterate 2 refine wP rfl rfl ?_
    replace h := bsome h; obtain ⟨v41, x41, h⟩ := h
    refine wl_cq Tryd.call34 rfl rfl rfl (q_rd (k_queue_Queue_Known (p0 := p0) p0N0 p0V0 x41) (pH (pA pNil)) (fun _ _ => trivial)) rfl ?_
    refine wP (v := .bool (decide (v41 < p1))) rfl rfl (wP rfl rfl ?_)
    replace h := bsome h; obtain ⟨v46, h, hg46⟩ := h
    refine wl_split (t := 43) rfl (fun hc => ?_) (fun hc => ?_)
    · replace h := ct hc h
      refine wl_skip rfl rfl (wl_skip rfl rfl ?_)
      obtain rfl := sI h
      have h := hg46; clear hg46
      refine wP (v := .bool true) rfl rfl (wP rfl rfl (wl_nil (wx_then ?_)))
      replace h := ct rfl h
      refine wc_cond_true rfl ?_
      refine wc_seq (wc_region (wP rfl rfl (wl_nil (wx_then (wc_ret (wx_block_ret (wx_then_ret ?_)))))))
      simp only [Option.some.injEq, Prod.mk.injEq] at h
      obtain ⟨rfl, rfl⟩ := h
      exact wx_spD tt_ok (.inl rfl) Tryd.results36 (Res.tmp rfl Res.nil) ⟨p0a0, p0n0, p0c0, p0B0, p0N0, p0V0, rfl, rfl⟩ (fun F => by simp) (pSub (pH (pA pNil)))
    replace h := cf hc h
    refine wl_run rfl (wP rfl rfl (wl_run rfl (wP (v := .bool (p1 == (18446744073709551615 : Int))) rfl rfl ?_)))
    obtain rfl := sI h
    have h := hg46; clear hg46
    refine wP (v := .bool (p1 == (18446744073709551615 : Int))) rfl rfl (wP rfl rfl (wl_nil (wx_then (wc_cond rfl (fun hc => ?_) (fun hc => ?_)))))
    · replace h := ct hc h
      refine wc_seq (wc_region (wP rfl rfl (wl_nil (wx_then (wc_ret (wx_block_ret (wx_then_ret ?_)))))))
      simp only [Option.some.injEq, Prod.mk.injEq] at h
      obtain ⟨rfl, rfl⟩ := h
      exact wx_spD tt_ok (.inl rfl) Tryd.results36 (Res.tmp rfl Res.nil) ⟨p0a0, p0n0, p0c0, p0B0, p0N0, p0V0, rfl, rfl⟩ (fun F => by simp) (pSub (pH (pA pNil)))
    replace h := cf hc h
    refine wc_seq (wc_region ?_)
    iterate 2 refine wP rfl rfl ?_
    refine wP (v := .pointer (some ⟨p0b, 1, none⟩)) rfl rfl (wl_val (v := .slice p0a0 p0n0 p0c0) (val_load tt_ok rfl (mH) rfl) rfl (wl_val (v := .int .i64 (p0.l.length : Int)) (val_len tt_ok rfl rfl p0N0) rfl (wP (v := .bool (decide ((24 : Int) ≤ (p0.l.length : Int)))) rfl rfl (wP rfl rfl (wl_nil (wx_then (wc_cond rfl (fun hc => ?_) (fun hc => ?_))))))))
    · replace h := ct hc h
      refine wc_seq (wc_region (wP rfl rfl (wl_nil (wx_then (wc_ret (wx_block_ret (wx_then_ret ?_)))))))
      simp only [Option.some.injEq, Prod.mk.injEq] at h
      obtain ⟨rfl, rfl⟩ := h
      exact wx_spD tt_ok (.inl rfl) Tryd.results36 (Res.tmp rfl Res.nil) ⟨p0a0, p0n0, p0c0, p0B0, p0N0, p0V0, rfl, rfl⟩ (fun F => by simp) (pSub (pH (pA pNil)))
    replace h := cf hc h
    refine wc_skip (wx_block (wx_then (wc_seq (wc_region ?_))))
    iterate 4 refine wP rfl rfl ?_
    refine wP (v := .pointer (some ⟨p0b, 1, none⟩)) rfl rfl (wl_val (v := .slice p0a0 p0n0 p0c0) (val_load tt_ok rfl (mH) rfl) rfl (wP rfl rfl (wl_chg (chg_bsv (enc := (e1 .u8)) (xs := ([p2] : List Int)) tt_ok rfl rfl rfl rfl rfl rfl rfl rfl (e1_len _)) rfl ?_)))
    rintro _ _ ⟨a61, n61_, c61, B61, rfl, N61, V61, rfl⟩
    replace h := bsome h; obtain ⟨v62, x62, h⟩ := h
    refine wl_chg (chg_app (enc := (e1 .u8)) (ys := ([p2] : List Int)) tt_ok rfl rfl rfl rfl rfl rfl p0N0 N61 p0V0 (sA (sC hA')) (Rds.of_vec V61) ⟨_, hA'⟩ (e1_len _) (fun _ => rfl) rfl x62) rfl ?_
    rintro _ _ ⟨a62, n62_, c62, B62, rfl, N62, V62, rfl⟩
    iterate 2 refine wP rfl rfl ?_
    refine wP (v := .pointer (some ⟨p0b, 1, none⟩)) rfl rfl ?_
    apply wl_store tt_ok; rfl; exact (Upd.right (Upd.right Upd.here)); rfl; rfl; rfl; rfl; rfl; rfl
    refine wP rfl rfl (wP (v := .pointer (some ⟨p0b, 2, none⟩)) rfl rfl ?_)
    apply wl_store tt_ok; rfl; exact (Upd.right (Upd.right Upd.here)); rfl; rfl; rfl; rfl; rfl; rfl
    refine wl_nil (wx_then (wc_seq (wc_region (wP rfl rfl (wl_nil (wx_then (wc_ret ?_)))))))
    simp only [Option.some.injEq, Prod.mk.injEq] at h
    obtain ⟨rfl, rfl⟩ := h
    exact wx_spD tt_ok (.inl rfl) Tryd.results36 (Res.tmp rfl Res.nil) ⟨a62, n62_, c62, B62, N62, V62, rfl, rfl⟩ (fun F => by simp) (pSub (pCons (sA (sA hC)) (pA pNil)))
  replace h := cf hc h
  refine wl_skip rfl rfl (wl_skip rfl rfl (wl_skip rfl rfl ?_))
  obtain rfl := sI h
  have h := hg35; clear hg35
  refine wP (v := .bool false) rfl rfl (wP rfl rfl (wl_nil (wx_then ?_)))
  replace h := cf rfl h
  refine wc_cond_false rfl ?_
  refine wc_seq (wc_region ?_)
  iterate 2 refine wP rfl rfl ?_
  refine wl_nil (wx_then (wc_cond rfl (fun hc => ?_) (fun hc => ?_)))
  · replace h := ct hc h
    refine wc_seq (wc_region (wP rfl rfl (wl_nil (wx_then (wc_ret (wx_block_ret (wx_then_ret ?_)))))))
    simp only [Option.some.injEq, Prod.mk.injEq] at h
    obtain ⟨rfl, rfl⟩ := h
    exact wx_spD tt_ok (.inl rfl) Tryd.results36 (Res.tmp rfl Res.nil) ⟨p0a0, p0n0, p0c0, p0B0, p0N0, p0V0, rfl, rfl⟩ (fun F => by simp) (pSub (pH (pA pNil)))
  replace h := cf hc h
  refine wc_seq (wc_region ?_)
  iterate 2 refine wP rfl rfl ?_
  replace h := bsome h; obtain ⟨v41, x41, h⟩ := h
  refine wl_cq Tryd.call34 rfl rfl rfl (q_rd (k_queue_Queue_Known (p0 := p0) p0N0 p0V0 x41) (pH (pA pNil)) (fun _ _ => trivial)) rfl ?_
  refine wP (v := .bool (decide (v41 < p1))) rfl rfl (wP rfl rfl ?_)
  replace h := bsome h; obtain ⟨v46, h, hg46⟩ := h
  refine wl_split (t := 43) rfl (fun hc => ?_) (fun hc => ?_)
  · replace h := ct hc h
    refine wl_skip rfl rfl (wl_skip rfl rfl ?_)
    obtain rfl := sI h
    have h := hg46; clear hg46
    refine wP (v := .bool true) rfl rfl (wP rfl rfl (wl_nil (wx_then ?_)))
    replace h := ct rfl h
    refine wc_cond_true rfl ?_
    refine wc_seq (wc_region (wP rfl rfl (wl_nil (wx_then (wc_ret (wx_block_ret (wx_then_ret ?_)))))))
    simp only [Option.some.injEq, Prod.mk.injEq] at h
    obtain ⟨rfl, rfl⟩ := h
    exact wx_spD tt_ok (.inl rfl) Tryd.results36 (Res.tmp rfl Res.nil) ⟨p0a0, p0n0, p0c0, p0B0, p0N0, p0V0, rfl, rfl⟩ (fun F => by simp) (pSub (pH (pA pNil)))
  replace h := cf hc h
  refine wl_run rfl (wP rfl rfl (wl_run rfl (wP (v := .bool (p1 == (18446744073709551615 : Int))) rfl rfl ?_)))
  obtain rfl := sI h
  have h := hg46; clear hg46
  refine wP (v := .bool (p1 == (18446744073709551615 : Int))) rfl rfl (wP rfl rfl (wl_nil (wx_then (wc_cond rfl (fun hc => ?_) (fun hc => ?_)))))
  · replace h := ct hc h
    refine wc_seq (wc_region (wP rfl rfl (wl_nil (wx_then (wc_ret (wx_block_ret (wx_then_ret ?_)))))))
    simp only [Option.some.injEq, Prod.mk.injEq] at h
    obtain ⟨rfl, rfl⟩ := h
    exact wx_spD tt_ok (.inl rfl) Tryd.results36 (Res.tmp rfl Res.nil) ⟨p0a0, p0n0, p0c0, p0B0, p0N0, p0V0, rfl, rfl⟩ (fun F => by simp) (pSub (pH (pA pNil)))
  replace h := cf hc h
  refine wc_seq (wc_region ?_)
  iterate 2 refine wP rfl rfl ?_
  refine wP (v := .pointer (some ⟨p0b, 1, none⟩)) rfl rfl (wl_val (v := .slice p0a0 p0n0 p0c0) (val_load tt_ok rfl (mH) rfl) rfl (wl_val (v := .int .i64 (p0.l.length : Int)) (val_len tt_ok rfl rfl p0N0) rfl (wP (v := .bool (decide ((24 : Int) ≤ (p0.l.length : Int)))) rfl rfl (wP rfl rfl (wl_nil (wx_then (wc_cond rfl (fun hc => ?_) (fun hc => ?_))))))))
  · replace h := ct hc h
    refine wc_seq (wc_region (wP rfl rfl (wl_nil (wx_then (wc_ret (wx_block_ret (wx_then_ret ?_)))))))
    simp only [Option.some.injEq, Prod.mk.injEq] at h
    obtain ⟨rfl, rfl⟩ := h
    exact wx_spD tt_ok (.inl rfl) Tryd.results36 (Res.tmp rfl Res.nil) ⟨p0a0, p0n0, p0c0, p0B0, p0N0, p0V0, rfl, rfl⟩ (fun F => by simp) (pSub (pH (pA pNil)))
  replace h := cf hc h
  refine wc_skip (wx_block (wx_then (wc_seq (wc_region ?_))))
  iterate 4 refine wP rfl rfl ?_
  refine wP (v := .pointer (some ⟨p0b, 1, none⟩)) rfl rfl (wl_val (v := .slice p0a0 p0n0 p0c0) (val_load tt_ok rfl (mH) rfl) rfl (wP rfl rfl (wl_chg (chg_bsv (enc := (e1 .u8)) (xs := ([p2] : List Int)) tt_ok rfl rfl rfl rfl rfl rfl rfl rfl (e1_len _)) rfl ?_)))
  rintro _ _ ⟨a61, n61_, c61, B61, rfl, N61, V61, rfl⟩
  replace h := bsome h; obtain ⟨v62, x62, h⟩ := h
  refine wl_chg (chg_app (enc := (e1 .u8)) (ys := ([p2] : List Int)) tt_ok rfl rfl rfl rfl rfl rfl p0N0 N61 p0V0 (sA (sC hA')) (Rds.of_vec V61) ⟨_, hA'⟩ (e1_len _) (fun _ => rfl) rfl x62) rfl ?_
  rintro _ _ ⟨a62, n62_, c62, B62, rfl, N62, V62, rfl⟩
  iterate 2 refine wP rfl rfl ?_
  refine wP (v := .pointer (some ⟨p0b, 1, none⟩)) rfl rfl ?_
  apply wl_store tt_ok; rfl; exact (Upd.right (Upd.right Upd.here)); rfl; rfl; rfl; rfl; rfl; rfl
  refine wP rfl rfl (wP (v := .pointer (some ⟨p0b, 2, none⟩)) rfl rfl ?_)
  apply wl_store tt_ok; rfl; exact (Upd.right (Upd.right Upd.here)); rfl; rfl; rfl; rfl; rfl; rfl
  refine wl_nil (wx_then (wc_seq (wc_region (wP rfl rfl (wl_nil (wx_then (wc_ret ?_)))))))
  simp only [Option.some.injEq, Prod.mk.injEq] at h
  obtain ⟨rfl, rfl⟩ := h
  exact wx_spD tt_ok (.inl rfl) Tryd.results36 (Res.tmp rfl Res.nil) ⟨a62, n62_, c62, B62, N62, V62, rfl, rfl⟩ (fun F => by simp) (pSub (pCons (sA (sA hC)) (pA pNil)))

theorem k_ring_Ring_Cut {F : Nat} {p0 : T_ring_Ring} {p0b p0t : Nat} {p0g0 : List (T_ring_place × G)} {p0P0 : List Blk} {p1 : Int} {r0 : T_ring_Ring} {r1 : Int} (p0G0 : p0.places.1 = unG p0g0) (p0A0 : AllP sh_T_ring_place c_T_api_Shot p0P0 p0g0) (h : m_ring_Ring_Cut F p0 p1 = some (r0, r1)) :
    SpD Tryd.prog 37 [.pointer (some ⟨p0b, 0, none⟩), .int .u64 p1] (⟨p0b, ([.int .i64 p0.size] ++ flat cg_T_ring_place p0g0), p0t, (0, 0)⟩ :: (p0P0 ++ [])) (fun w => True) (fun v D => ∃ (r0g0 : List (T_ring_place × G)) (r0P0 : List Blk), r0.places.1 = unG r0g0 ∧ AllP sh_T_ring_place c_T_api_Shot r0P0 r0g0 ∧ v = .int .i64 r1 ∧ D = fun F => (⟨p0b, ([.int .i64 r0.size] ++ flat cg_T_ring_place r0g0), p0t, (0, 0)⟩ :: (r0P0 ++ F))) := by
  unfold m_ring_Ring_Cut at h
  refine sp_of_wc Tryd.func37 rfl Tryd.ntmps37 rfl rfl (fun w0 hR => ?_)
  refine wc_seq (wc_region (wP rfl rfl (wl_nil (wx_then (wc_seq (wc_seq (wc_region (wP rfl rfl ?_))))))))
  replace h := bsome h; obtain ⟨v9, x9, h⟩ := h
  refine wl_cq Tryd.call49 rfl rfl rfl (q_rd (k_ring_Ring_is (p0 := p0) p0G0 p0A0 x9) (pH (pA pNil)) (fun _ _ => trivial)) rfl ?_
  refine wP (v := .bool (!v9)) rfl rfl (wl_nil (wx_then (wc_cond rfl (fun hc => ?_) (fun hc => ?_))))
  · replace h := ct hc h
    refine wc_seq (wc_region (wP rfl rfl (wl_nil (wx_then (wc_ret (wx_then_ret ?_))))))
    simp only [Option.some.injEq, Prod.mk.injEq] at h
    obtain ⟨rfl, rfl⟩ := h
    exact wx_spD tt_ok (.inl rfl) Tryd.results37 (Res.tmp rfl Res.nil) ⟨p0g0, p0P0, p0G0, p0A0, rfl, rfl⟩ (fun F => by simp) (pSub (pH (pA pNil)))
  replace h := cf hc h
  refine wc_skip (wx_then (wc_seq (wc_region (wP rfl rfl (wl_nil (wx_then (wc_seq (wc_seq (wc_region ?_)))))))))
  iterate 2 refine wP rfl rfl ?_
  refine wP (v := .pointer (some ⟨p0b, 1, none⟩)) rfl rfl (wl_val (v := .agg (flat cg_T_ring_place p0g0 : List Value).toArray) (val_load tt_ok rfl (mH) (partV_arr (enc := cg_T_ring_place) (pre := [.int .i64 p0.size]) (post := []) (xs := p0g0) rfl c_np rfl (arr_len cg_T_ring_place_len (arrg_len p0G0 p0.places.2) rfl))) rfl (wP rfl rfl (wl_nil (wx_then (wc_block ?_)))))
  replace h := bsome h; obtain ⟨⟨zh, zg⟩, h, hl17⟩ := h; try dsimp only at hl17
  refine wc_loop (fun m E L => ∃ (zf : Int) (zc : Int) (za : (Arr T_ring_place 14)) (zb : List (T_ring_place × G)), m_ring_Ring_Cut_L16 F p0 p1 m zf zc za = some (zh, zg) ∧ za.1 = unG zb ∧ AllP sh_T_ring_place c_T_api_Shot p0P0 zb ∧ E = [(0, .pointer (some ⟨p0b, 0, none⟩)), (1, .int .u64 p1), (4, .int .i64 (0 : Int)), (5, .int .i64 zf), (14, .agg (flat cg_T_ring_place p0g0 : List Value).toArray), (15, .int .i64 zc)] ∧ L = (⟨p0b, ([.int .i64 p0.size] ++ flat cg_T_ring_place zb), p0t, (0, 0)⟩ :: (p0P0 ++ []))) F ⟨(0 : Int), (0 : Int), p0.places, p0g0, h, p0G0, p0A0, rfl, rfl⟩ (agree_cons rfl (agree_cons rfl (agree_cons rfl (agree_cons rfl (agree_cons rfl (agree_cons rfl agree_nil)))))) (pSub (pH (pA pNil))) ?_
  clear h
  rintro m17 _ _ ⟨zf, zc, za, zb, h, zd, ze, rfl, rfl⟩
  rcases m17 with _ | m17
  · rw [m_ring_Ring_Cut_L16.eq_1] at h; cases h
  rw [m_ring_Ring_Cut_L16.eq_2] at h
  refine wc_seq (wc_region (wP (v := .bool (decide (zc < (14 : Int)))) rfl rfl (wl_nil (wx_then (wc_seq (wc_cond rfl (fun hc => ?_) (fun hc => ?_)))))))
  · replace h := ct hc h
    refine wc_skip (wx_then (wc_seq (wc_block (wc_seq (wc_region (wP rfl rfl ?_))))))
    replace h := bsome h; obtain ⟨v18, x18, h⟩ := h
    obtain ⟨G18, y18⟩ := getI_g p0G0 x18
    refine wl_val (v := .agg #[.int .u64 v18.s.Frame, .int .u64 v18.s.Seed, .int .i32 v18.s.Players.1.X, .int .i32 v18.s.Players.1.Y, .int .i32 v18.s.Players.1.VX, .int .i32 v18.s.Players.1.VY, .int .u8 v18.s.Players.1.Health, .int .u8 v18.s.Players.1.Cool, .int .u8 v18.s.Players.1.Face, .int .i32 v18.s.Players.2.X, .int .i32 v18.s.Players.2.Y, .int .i32 v18.s.Players.2.VX, .int .i32 v18.s.Players.2.VY, .int .u8 v18.s.Players.2.Health, .int .u8 v18.s.Players.2.Cool, .int .u8 v18.s.Players.2.Face, .slice G18.1 G18.2.1 G18.2.2, .int .u16 v18.s.Score.1, .int .u16 v18.s.Score.2, .bool v18.is_]) (val_xv (enc := cg_T_ring_place) (xs := p0g0) tt_ok rfl rfl rfl rfl rfl (arrg_len p0G0 p0.places.2) cg_T_ring_place_len y18) rfl ?_
    refine wl_alloc tt_ok rfl rfl (fun b7 => ?_)
    refine wP rfl rfl ?_
    apply wl_store tt_ok; rfl; exact Upd.here; rfl; rfl; rfl; rfl; rfl; rfl
    refine wl_nil (wx_then (wc_seq (wc_region (wP (v := .pointer (some ⟨b7, 19, none⟩)) rfl rfl (wl_val (v := .bool v18.is_) (val_load tt_ok rfl (mH) rfl) rfl (wP rfl rfl ?_))))))
    replace h := bsome h; obtain ⟨v27, h, hg27⟩ := h
    refine wl_split (t := 21) rfl (fun hc => ?_) (fun hc => ?_)
    · replace h := ct hc h
      refine wl_run rfl (wP (v := .pointer (some ⟨b7, 0, none⟩)) rfl rfl (wl_run rfl (wP (v := .pointer (some ⟨b7, 0, none⟩)) rfl rfl (wl_run rfl (wl_val (v := .int .u64 v18.s.Frame) (val_load tt_ok rfl (mH) rfl) rfl (wl_run rfl (wP rfl rfl (wl_run rfl (wP (v := .bool (decide (p1 < v18.s.Frame))) rfl rfl ?_)))))))))
      obtain rfl := sI h
      have h := hg27; clear hg27
      refine wP (v := .bool (decide (p1 < v18.s.Frame))) rfl rfl (wl_nil (wx_then (wc_cond rfl (fun hc => ?_) (fun hc => ?_))))
      · replace h := ct hc h
        refine wc_seq (wc_region ?_)
        iterate 2 refine wP rfl rfl ?_
        refine wP (v := .agg #[.int .u64 (0 : Int), .int .u64 (0 : Int), .int .i32 (0 : Int), .int .i32 (0 : Int), .int .i32 (0 : Int), .int .i32 (0 : Int), .int .u8 (0 : Int), .int .u8 (0 : Int), .int .u8 (0 : Int), .int .i32 (0 : Int), .int .i32 (0 : Int), .int .i32 (0 : Int), .int .i32 (0 : Int), .int .u8 (0 : Int), .int .u8 (0 : Int), .int .u8 (0 : Int), .slice none 0 0, .int .u16 (0 : Int), .int .u16 (0 : Int), .bool false]) rfl rfl (wP rfl rfl (wP (v := .pointer (some ⟨p0b, 1, none⟩)) rfl rfl ?_))
        replace h := bsome h; obtain ⟨v33, x33, h⟩ := h
        obtain ⟨G33, y33⟩ := getI_g zd x33
        refine wl_val (v := .pointer (some ⟨p0b, 1 + zc.toNat * 20 + 0, none⟩)) (val_xa (a := za) tt_ok rfl rfl rfl rfl x33) rfl ?_
        refine wl_chg0 (chg_stx (enc := cg_T_ring_place) (pre := [.int .i64 p0.size]) (post := []) (xs := zb) (y' := ((T_ring_place.mk (T_api_State.mk (0 : Int) (0 : Int) ((T_api_Player.mk (0 : Int) (0 : Int) (0 : Int) (0 : Int) (0 : Int) (0 : Int) (0 : Int)), (T_api_Player.mk (0 : Int) (0 : Int) (0 : Int) (0 : Int) (0 : Int) (0 : Int) (0 : Int))) ([] : List T_api_Shot) ((0 : Int), (0 : Int))) false), (none, 0, 0))) (c' := ([.int .i64 p0.size] ++ flat cg_T_ring_place (setI zb zc ((T_ring_place.mk (T_api_State.mk (0 : Int) (0 : Int) ((T_api_Player.mk (0 : Int) (0 : Int) (0 : Int) (0 : Int) (0 : Int) (0 : Int) (0 : Int)), (T_api_Player.mk (0 : Int) (0 : Int) (0 : Int) (0 : Int) (0 : Int) (0 : Int) (0 : Int))) ([] : List T_api_Shot) ((0 : Int), (0 : Int))) false), (none, 0, 0))))) tt_ok rfl rfl rfl rfl rfl rfl (Upd.there Upd.here) c_np c_np rfl cg_T_ring_place_len y33 rfl (by intro h; cases h)) ?_
        rintro _ _ rfl
        refine wl_nil (wx_then (wc_region (wP rfl rfl (wP (v := .int .i64 (IntKind.wrap .i64 (zf + (1 : Int)))) rfl rfl (wP rfl rfl (wl_nil (wx_block (wx_then (wc_region (wP (v := .int .i64 (IntKind.wrap .i64 (zc + (1 : Int)))) rfl rfl (wP rfl rfl (wl_nil ?_))))))))))))
        exact wx_round m17 (Nat.lt_succ_self m17) ⟨(IntKind.wrap .i64 (zf + (1 : Int))), (IntKind.wrap .i64 (zc + (1 : Int))), (Arr.set za zc (T_ring_place.mk (T_api_State.mk (0 : Int) (0 : Int) ((T_api_Player.mk (0 : Int) (0 : Int) (0 : Int) (0 : Int) (0 : Int) (0 : Int) (0 : Int)), (T_api_Player.mk (0 : Int) (0 : Int) (0 : Int) (0 : Int) (0 : Int) (0 : Int) (0 : Int))) ([] : List T_api_Shot) ((0 : Int), (0 : Int))) false)), (setI zb zc ((T_ring_place.mk (T_api_State.mk (0 : Int) (0 : Int) ((T_api_Player.mk (0 : Int) (0 : Int) (0 : Int) (0 : Int) (0 : Int) (0 : Int) (0 : Int)), (T_api_Player.mk (0 : Int) (0 : Int) (0 : Int) (0 : Int) (0 : Int) (0 : Int) (0 : Int))) ([] : List T_api_Shot) ((0 : Int), (0 : Int))) false), (none, 0, 0))), h, (setI_g zd zc ((T_ring_place.mk (T_api_State.mk (0 : Int) (0 : Int) ((T_api_Player.mk (0 : Int) (0 : Int) (0 : Int) (0 : Int) (0 : Int) (0 : Int) (0 : Int)), (T_api_Player.mk (0 : Int) (0 : Int) (0 : Int) (0 : Int) (0 : Int) (0 : Int) (0 : Int))) ([] : List T_api_Shot) ((0 : Int), (0 : Int))) false), (none, 0, 0))), (fun w A => allrd_set (ze w A) (allrd_one (sh := sh_T_ring_place) (x := (T_ring_place.mk (T_api_State.mk (0 : Int) (0 : Int) ((T_api_Player.mk (0 : Int) (0 : Int) (0 : Int) (0 : Int) (0 : Int) (0 : Int) (0 : Int)), (T_api_Player.mk (0 : Int) (0 : Int) (0 : Int) (0 : Int) (0 : Int) (0 : Int) (0 : Int))) ([] : List T_api_Shot) ((0 : Int), (0 : Int))) false)) (s := ([] : List T_api_Shot)) rfl rfl (Nat.le_refl _) Rds.nil (fun _ => rfl))), rfl, rfl⟩ (agree_cons rfl (agree_cons rfl (agree_cons rfl (agree_cons rfl (agree_cons rfl (agree_cons rfl agree_nil)))))) (pSub (pCons (sC hC) (pApp (sC hA') pNil)))
      replace h := cf hc h
      refine wc_skip (wx_block (wx_then (wc_region (wP (v := .int .i64 (IntKind.wrap .i64 (zc + (1 : Int)))) rfl rfl (wP rfl rfl (wl_nil ?_))))))
      exact wx_round m17 (Nat.lt_succ_self m17) ⟨zf, (IntKind.wrap .i64 (zc + (1 : Int))), za, zb, h, zd, ze, rfl, rfl⟩ (agree_cons rfl (agree_cons rfl (agree_cons rfl (agree_cons rfl (agree_cons rfl (agree_cons rfl agree_nil)))))) (pSub (pCons (sC hC) (pApp (sC hA') pNil)))
    replace h := cf hc h
    refine wl_skip rfl rfl (wl_skip rfl rfl (wl_skip rfl rfl (wl_skip rfl rfl (wl_skip rfl rfl ?_))))
    obtain rfl := sI h
    have h := hg27; clear hg27
    refine wP (v := .bool false) rfl rfl (wl_nil (wx_then ?_))
    replace h := cf rfl h
    refine wc_cond_false rfl ?_
    refine wc_skip (wx_block (wx_then (wc_region (wP (v := .int .i64 (IntKind.wrap .i64 (zc + (1 : Int)))) rfl rfl (wP rfl rfl (wl_nil ?_))))))
    exact wx_round m17 (Nat.lt_succ_self m17) ⟨zf, (IntKind.wrap .i64 (zc + (1 : Int))), za, zb, h, zd, ze, rfl, rfl⟩ (agree_cons rfl (agree_cons rfl (agree_cons rfl (agree_cons rfl (agree_cons rfl (agree_cons rfl agree_nil)))))) (pSub (pCons (sC hC) (pApp (sC hA') pNil)))
  replace h := cf hc h
  refine wc_exit (wx_then_exit ?_)
  simp only [Option.some.injEq, Prod.mk.injEq] at h
  obtain ⟨rfl, rfl⟩ := h
  have h := hl17; clear hl17; try dsimp only [orE_l, orE_r] at h
  refine wx_then_exit (wx_block_exit (wx_then (wc_seq (wc_region ?_))))
  iterate 2 refine wP rfl rfl ?_
  refine wl_nil (wx_then (wc_ret ?_))
  simp only [Option.some.injEq, Prod.mk.injEq] at h
  obtain ⟨rfl, rfl⟩ := h
  exact wx_spD tt_ok (.inl rfl) Tryd.results37 (Res.tmp rfl Res.nil) ⟨zb, p0P0, zd, ze, rfl, rfl⟩ (fun F => by simp) (pSub (pH (pA pNil)))

end Go.Proofs.YtkekgagekgadmaaDoor
