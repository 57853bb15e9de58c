/-
  Each function computes what its model says. Printed by a program of this claim's own.
-/
import Derived.Test.YtkdbpenjkcjimaaDoorTab
import Derived.Test.YtkdbpenjkcjimaaDoorMod
import Derived.Test.YtkdbpenjkcjimaaDoorWalk1
namespace Go.Proofs.YtkdbpenjkcjimaaDoor
open Go.Proofs.YtkdbpenjkcjimaaDoor.Eng
set_option linter.unusedVariables false
set_option linter.unusedSimpArgs false
set_option maxHeartbeats 4000000
set_option maxRecDepth 20000

theorem k_rng_Source_Below {F : Nat} {p0 : T_rng_Source} {p1 : Int} {r0 : Int} {r1 : T_rng_Source} (h : m_rng_Source_Below F p0 p1 = some (r0, r1)) :
    Pf Tryd.prog 78 [.agg #[.int .u64 p0.S], .int .i64 p1] (fun w => True) (.tuple #[.int .i64 r0, .agg #[.int .u64 r1.S]]) := by
  unfold m_rng_Source_Below at h
  refine pf_of_wc Tryd.func78 rfl Tryd.ntmps78 rfl rfl (fun w0 hR => ?_)
  refine wc_seq (wc_region (wl_box rfl rfl rfl (fun b2 => (wP rfl rfl (wl_alloc tt_ok rfl rfl (fun b5 => (wl_nil (wx_then (wc_seq (wc_seq (wc_region (wP rfl rfl (wP (v := .bool (decide (p1 < (1 : Int)))) rfl rfl (wl_nil (wx_then (wc_cond rfl (fun hc => ?_) (fun hc => ?_)))))))))))))))))
  · replace h := ct hc h
    refine wc_seq (wc_k2 (Ls := (⟨b5, [.int .u64 (0 : Int)], 135, (0, 0)⟩ :: (⟨b2, [.int .u64 p0.S], 135, (0, 0)⟩ :: []))) [2] [2] [0, 0, 3] [0, 1, 2] (by kernel_rfl) (by kernel_rfl) (by kernel_rfl) (k_val (v := .agg #[.int .u64 p0.S]) rfl rfl rfl (pSub (pH (pH pNil))) (val_load tt_ok rfl (mT (mH)) rfl) rfl (k_val rfl rfl rfl (pSub (pH (pH pNil))) (stepV_ok tt_ok rfl) rfl (k_chg0 rfl rfl rfl (chg_store tt_ok rfl Upd.here rfl rfl rfl rfl rfl rfl) (.inl rfl) ?_))))
    rintro _ _ rfl
    refine k_end (by kernel_rfl) ?_
    refine wx_then (wc_ret (wx_then_ret ?_))
    simp only [Option.some.injEq, Prod.mk.injEq] at h
    obtain ⟨rfl, rfl⟩ := h
    exact wx_pf tt_ok (.inl rfl) Tryd.results78 (Res.tmp rfl (Res.cell rfl (mH) rfl Res.nil)) rfl
  replace h := cf hc h
  refine wc_skip (wx_then (wc_seq (wc_region (wl_val (v := .agg #[.int .u64 p0.S]) (val_load tt_ok rfl (mT (mH)) rfl) rfl ?_))))
  replace h := bsome h; obtain ⟨⟨za, zb⟩, x13, h⟩ := h; try dsimp only at h
  refine wl_cq Tryd.call84 rfl rfl rfl (q_pf (k_rng_Source_Next x13) (fun _ _ => trivial)) rfl ?_
  iterate 3 refine wP rfl rfl ?_
  refine wl_alloc tt_ok rfl rfl (fun b7 => ?_)
  refine wP rfl rfl ?_
  apply wl_store tt_ok; rfl; exact Upd.here; rfl; rfl; rfl; rfl; rfl; rfl
  refine wl_nil (wx_then (wc_seq (wc_k2 (Ls := (⟨b7, [.int .u64 zb.S], 135, (0, 0)⟩ :: (⟨b5, [.int .u64 (0 : Int)], 135, (0, 0)⟩ :: (⟨b2, [.int .u64 p0.S], 135, (0, 0)⟩ :: [])))) [10] [10] [0, 1, 0, 4, 12, 31, 63, 127, 0, 255, 1023] [0, 1, 2, 3, 4, 5, 6, 7, 8, 9, 10] (by kernel_rfl) (by kernel_rfl) (by kernel_rfl) (k_val rfl rfl rfl (pSub (pH (pH (pH pNil)))) (stepV_ok tt_ok rfl) rfl (k_val (v := .int .u64 (za / 2 ^ (min 32 (IntKind.bits .u64)))) rfl rfl rfl (pSub (pH (pH (pH pNil)))) (stepV_ok tt_ok rfl) rfl (k_val rfl rfl rfl (pSub (pH (pH (pH pNil)))) (stepV_ok tt_ok rfl) rfl (k_val (v := .int .i64 (min p1 (2147483648 : Int))) rfl rfl rfl (pSub (pH (pH (pH pNil)))) (stepV_ok tt_ok rfl) rfl ?_)))))))
  refine k_val (v := .int .u64 (IntKind.wrap .u64 (min p1 (2147483648 : Int)))) rfl rfl rfl (pSub (pH (pH (pH pNil)))) (stepV_ok tt_ok rfl) rfl ?_
  refine k_val (v := .int .u64 (IntKind.wrap .u64 ((za / 2 ^ (min 32 (IntKind.bits .u64))) * (IntKind.wrap .u64 (min p1 (2147483648 : Int)))))) rfl rfl rfl (pSub (pH (pH (pH pNil)))) (stepV_ok tt_ok rfl) rfl ?_
  refine k_val (v := .int .u64 ((IntKind.wrap .u64 ((za / 2 ^ (min 32 (IntKind.bits .u64))) * (IntKind.wrap .u64 (min p1 (2147483648 : Int))))) / 2 ^ (min 32 (IntKind.bits .u64)))) rfl rfl rfl (pSub (pH (pH (pH pNil)))) (stepV_ok tt_ok rfl) rfl ?_
  refine k_val (v := .int .i64 (IntKind.wrap .i64 ((IntKind.wrap .u64 ((za / 2 ^ (min 32 (IntKind.bits .u64))) * (IntKind.wrap .u64 (min p1 (2147483648 : Int))))) / 2 ^ (min 32 (IntKind.bits .u64))))) rfl rfl rfl (pSub (pH (pH (pH pNil)))) (stepV_ok tt_ok rfl) rfl ?_
  refine k_val (v := .agg #[.int .u64 zb.S]) rfl rfl rfl (pSub (pH (pH (pH pNil)))) (val_load tt_ok rfl (mH) rfl) rfl ?_
  refine k_val rfl rfl rfl (pSub (pH (pH (pH pNil)))) (stepV_ok tt_ok rfl) rfl ?_
  refine k_chg0 rfl rfl rfl (chg_store tt_ok rfl (Upd.there Upd.here) rfl rfl rfl rfl rfl rfl) (.inl rfl) ?_
  rintro _ _ rfl
  refine k_end (by kernel_rfl) ?_
  refine wx_then (wc_ret ?_)
  simp only [Option.some.injEq, Prod.mk.injEq] at h
  obtain ⟨rfl, rfl⟩ := h
  exact wx_pf tt_ok (.inl rfl) Tryd.results78 (Res.tmp rfl (Res.cell rfl (mT (mH)) rfl Res.nil)) rfl

theorem k_step_revive {F : Nat} {p0 : T_api_State} {p0b p0t : Nat} {p0a0 : Option Addr} {p0n0 : Nat} {p0c0 : Nat} {p0B0 : List Blk} {p1 : Int} {r0 : T_api_State} (p0N0 : p0n0 = p0.Shots.length) (p0V0 : Own 92 6 p0a0 p0n0 p0c0 (flat c_T_api_Shot p0.Shots) p0B0) (h : m_step_revive F p0 p1 = some r0) :
    SpD Tryd.prog 59 [.pointer (some ⟨p0b, 0, none⟩), .int .i64 p1] (⟨p0b, (st19 p0 p0a0 p0n0 p0c0 []), p0t, (0, 0)⟩ :: (p0B0 ++ [])) (fun w => True) (fun v D => ∃ (r0a0 : Option Addr) (r0n0 : Nat) (r0c0 : Nat) (r0B0 : List Blk), r0n0 = r0.Shots.length ∧ Own 92 6 r0a0 r0n0 r0c0 (flat c_T_api_Shot r0.Shots) r0B0 ∧ v = .tuple #[] ∧ D = fun F => (⟨p0b, (st19 r0 r0a0 r0n0 r0c0 []), p0t, (0, 0)⟩ :: (r0B0 ++ F))) := by
  unfold m_step_revive at h
  refine sp_of_wc Tryd.func59 rfl Tryd.ntmps59 rfl rfl (fun w0 hR => ?_)
  refine wc_seq (wc_region ?_)
  iterate 3 refine wP rfl rfl ?_
  refine wP (v := .pointer (some ⟨p0b, 2, none⟩)) rfl rfl ?_
  rcases Bool.eq_false_or_eq_true (p1 == (0 : Int)) with hx130 | hx130
  · replace h := ct hx130 h
    refine wl_val (v := .pointer (some ⟨p0b, 2, none⟩)) (val_ia (j := 0) tt_ok rfl rfl rfl rfl (by simpa using hx130) rfl rfl) rfl ?_
    refine wl_val (v := agP p0.Players.1) (val_load tt_ok rfl (mH) rfl) rfl ?_
    replace h := bsome h; obtain ⟨v15, x15, h⟩ := h
    refine wl_cq Tryd.call57 rfl rfl rfl (q_pf (k_step_stopped x15) (fun _ _ => trivial)) rfl ?_
    refine wl_alloc tt_ok rfl rfl (fun b4 => ?_)
    apply wl_store tt_ok; rfl; exact Upd.here; rfl; rfl; rfl; rfl; rfl; rfl
    refine wl_nil (wx_then (wc_seq (wc_region (wP (v := .pointer (some ⟨b4, 4, none⟩)) rfl rfl ?_))))
    apply wl_store tt_ok; rfl; exact Upd.here; rfl; rfl; rfl; rfl; rfl; rfl
    refine wl_nil (wx_then (wc_seq (wc_region ?_)))
    iterate 2 refine wP rfl rfl ?_
    refine wP (v := .pointer (some ⟨p0b, 1, none⟩)) rfl rfl (wl_val (v := .int .u64 p0.Seed) (val_load tt_ok rfl (mT (mH)) rfl) rfl (wP (v := .agg #[.int .u64 p0.Seed]) rfl rfl (wl_alloc tt_ok rfl rfl (fun b5 => ?_))))
    apply wl_store tt_ok; rfl; exact Upd.here; rfl; rfl; rfl; rfl; rfl; rfl
    refine wl_nil (wx_then (wc_seq (wc_region (wl_val (v := .agg #[.int .u64 p0.Seed]) (val_load tt_ok rfl (mH) rfl) rfl ?_))))
    replace h := bsome h; obtain ⟨⟨zc, ze⟩, x24, h⟩ := h; try dsimp only at h
    refine wl_cq Tryd.call78 rfl rfl rfl (q_pf (k_rng_Source_Below x24) (fun _ _ => trivial)) rfl ?_
    iterate 4 refine wP rfl rfl ?_
    apply wl_store tt_ok; rfl; exact Upd.here; rfl; rfl; rfl; rfl; rfl; rfl
    refine wl_nil (wx_then (wc_seq (wc_region (wl_val (v := .agg #[.int .u64 ze.S]) (val_load tt_ok rfl (mH) rfl) rfl ?_))))
    replace h := bsome h; obtain ⟨⟨zd, zb⟩, x29, h⟩ := h; try dsimp only at h
    refine wl_cq Tryd.call78 rfl rfl rfl (q_pf (k_rng_Source_Below x29) (fun _ _ => trivial)) rfl ?_
    iterate 4 refine wP rfl rfl ?_
    apply wl_store tt_ok; rfl; exact Upd.here; rfl; rfl; rfl; rfl; rfl; rfl
    refine wl_nil (wx_then (wc_seq (wc_region (wP rfl rfl (wP (v := .pointer (some ⟨b5, 0, none⟩)) rfl rfl (wl_val (v := .int .u64 zb.S) (val_load tt_ok rfl (mH) rfl) rfl (wP rfl rfl (wP (v := .pointer (some ⟨p0b, 1, none⟩)) rfl rfl ?_))))))))
    apply wl_store tt_ok; rfl; exact (Upd.there (Upd.there Upd.here)); rfl; rfl; rfl; rfl; rfl; rfl
    refine wl_nil (wx_then (wc_seq (wc_region (wl_val (v := .agg #[.int .i32 v15.X, .int .i32 v15.Y, .int .i32 v15.VX, .int .i32 v15.VY, .int .u8 (100 : Int), .int .u8 v15.Cool, .int .u8 v15.Face]) (val_load tt_ok rfl (mT (mH)) rfl) rfl (wl_alloc tt_ok rfl rfl (fun b8 => ?_))))))
    apply wl_store tt_ok; rfl; exact Upd.here; rfl; rfl; rfl; rfl; rfl; rfl
    refine wl_nil (wx_then (wc_seq (wc_region (wP rfl rfl (wP (v := .int .i32 (IntKind.wrap .i32 zc)) rfl rfl (wP rfl rfl (wP (v := .int .i32 (IntKind.wrap .i32 zd)) rfl rfl (wP (v := .pointer (some ⟨b8, 0, none⟩)) rfl rfl ?_))))))))
    apply wl_store tt_ok; rfl; exact Upd.here; rfl; rfl; rfl; rfl; rfl; rfl
    refine wP (v := .pointer (some ⟨b8, 1, none⟩)) rfl rfl ?_
    apply wl_store tt_ok; rfl; exact Upd.here; rfl; rfl; rfl; rfl; rfl; rfl
    refine wl_nil (wx_then (wc_seq (wc_seq (wc_quiet (by kernel_rfl) (by kernel_rfl) (wq_val (v := .agg #[.int .i32 (IntKind.wrap .i32 zc), .int .i32 (IntKind.wrap .i32 zd), .int .i32 v15.VX, .int .i32 v15.VY, .int .u8 (100 : Int), .int .u8 v15.Cool, .int .u8 v15.Face]) (val_load tt_ok rfl (mH) rfl) rfl ?_)))))
    replace h := bsome h; obtain ⟨v45, x45, h⟩ := h
    refine wq_cq Tryd.call56 rfl rfl rfl (q_pf (k_step_box x45) (fun _ _ => trivial)) rfl ?_
    refine qP rfl rfl (qP rfl rfl (qP (v := .int .i64 (IntKind.wrap .i64 ((1 : Int) - p1))) rfl rfl (qP rfl rfl (qP (v := .pointer (some ⟨p0b, 2, none⟩)) rfl rfl ?_))))
    rcases Bool.eq_false_or_eq_true ((IntKind.wrap .i64 ((1 : Int) - p1)) == (0 : Int)) with hx510 | hx510
    · replace h := ct hx510 h
      refine wq_val (v := .pointer (some ⟨p0b, 2, none⟩)) (val_ia (j := 0) tt_ok rfl rfl rfl rfl (by simpa using hx510) rfl rfl) rfl ?_
      refine wq_val (v := agP p0.Players.1) (val_load tt_ok rfl (mT (mT (mT (mH)))) rfl) rfl ?_
      replace h := bsome h; obtain ⟨v53, x53, h⟩ := h
      refine wq_cq Tryd.call56 rfl rfl rfl (q_pf (k_step_box x53) (fun _ _ => trivial)) rfl ?_
      replace h := bsome h; obtain ⟨v54, x54, h⟩ := h
      refine wq_cq Tryd.call55 rfl rfl rfl (q_pf (k_geom_Over x54) (fun _ _ => trivial)) rfl ?_
      refine qP (v := .bool (!v54)) rfl rfl (wq_nil (wx_then ?_))
      replace h := bsome h; obtain ⟨za, h, hj20⟩ := h
      refine wc_join2 (fun E L => E = [(0, .pointer (some ⟨p0b, 0, none⟩)), (1, .int .i64 p1), (4, .pointer (some ⟨b4, 0, none⟩))] ∧ L = (⟨p0b, (.int .u64 p0.Frame :: .int .u64 zb.S :: pl14 p0.Players [.slice p0a0 p0n0 p0c0, .int .u16 p0.Score.1, .int .u16 p0.Score.2]), p0t, (0, 0)⟩ :: (⟨b4, (pl7 za []), 55, (0, 0)⟩ :: (p0B0 ++ [])))) ?_ ?_
      · refine wc_cond rfl (fun hc => ?_) (fun hc => ?_)
        · replace h := ct hc h
          refine wc_region (wl_val (v := .agg #[.int .i32 (IntKind.wrap .i32 zc), .int .i32 (IntKind.wrap .i32 zd), .int .i32 v15.VX, .int .i32 v15.VY, .int .u8 (100 : Int), .int .u8 v15.Cool, .int .u8 v15.Face]) (val_load tt_ok rfl (mH) rfl) rfl ?_)
          apply wl_store tt_ok; rfl; exact (Upd.there (Upd.there Upd.here)); rfl; rfl; rfl; rfl; rfl; rfl
          refine wl_nil ?_
          obtain rfl := sI h
          exact wx_join ⟨rfl, rfl⟩ (agree_cons rfl (agree_cons rfl (agree_cons rfl agree_nil))) (pSub (pCons (sC (sC (sC hC))) (pCons (sC (sC hC)) (pApp (sC (sC hA')) pNil))))
        replace h := cf hc h
        refine wc_skip ?_
        obtain rfl := sI h
        exact wx_join ⟨rfl, rfl⟩ (agree_cons rfl (agree_cons rfl (agree_cons rfl agree_nil))) (pSub (pCons (sC (sC (sC hC))) (pCons (sC (sC hC)) (pApp (sC (sC hA')) pNil))))
      rintro _ _ ⟨rfl, rfl⟩
      have h := hj20; clear hj20
      refine wc_k2 (Ls := (⟨p0b, (.int .u64 p0.Frame :: .int .u64 zb.S :: pl14 p0.Players [.slice p0a0 p0n0 p0c0, .int .u16 p0.Score.1, .int .u16 p0.Score.2]), p0t, (0, 0)⟩ :: (⟨b4, (pl7 za []), 55, (0, 0)⟩ :: (p0B0 ++ [])))) [6] [6] [0, 0, 0, 1, 9, 31, 63] [0, 1, 2, 3, 4, 5, 6] (by kernel_rfl) (by kernel_rfl) (by kernel_rfl) ?_
      refine k_val rfl rfl rfl (pSub (pH (pH (pA pNil)))) (stepV_ok tt_ok rfl) rfl ?_
      refine k_val rfl rfl rfl (pSub (pH (pH (pA pNil)))) (stepV_ok tt_ok rfl) rfl ?_
      refine k_val (v := agP za) rfl rfl rfl (pSub (pH (pH (pA pNil)))) (val_load tt_ok rfl (mT (mH)) rfl) rfl ?_
      refine k_val rfl rfl rfl (pSub (pH (pH (pA pNil)))) (stepV_ok tt_ok rfl) rfl ?_
      refine k_val (v := .pointer (some ⟨p0b, 2, none⟩)) rfl rfl rfl (pSub (pH (pH (pA pNil)))) (stepV_ok tt_ok rfl) rfl ?_
      refine k_val (v := .pointer (some ⟨p0b, 2, none⟩)) rfl rfl rfl (pSub (pH (pH (pA pNil)))) (val_ia (j := 0) tt_ok rfl rfl rfl rfl (by simpa using hx130) rfl rfl) rfl ?_
      refine k_chg0 rfl rfl rfl (chg_store tt_ok rfl Upd.here rfl rfl rfl rfl rfl rfl) (.inl rfl) ?_
      rintro _ _ rfl
      refine k_end (by kernel_rfl) ?_
      obtain rfl := sI h
      exact wx_spD tt_ok (.inr rfl) Tryd.results59 Res.nil ⟨p0a0, p0n0, p0c0, p0B0, p0N0, p0V0, rfl, rfl⟩ (fun F => by simp) (pSub (pH (pApp (sC hA') pNil)))
    replace h := cf hx510 h
    rcases Bool.eq_false_or_eq_true ((IntKind.wrap .i64 ((1 : Int) - p1)) == (1 : Int)) with hx511 | hx511
    · replace h := ct hx511 h
      refine wq_val (v := .pointer (some ⟨p0b, 9, none⟩)) (val_ia (j := 1) tt_ok rfl rfl rfl rfl (by simpa using hx511) rfl rfl) rfl ?_
      refine wq_val (v := agP p0.Players.2) (val_load tt_ok rfl (mT (mT (mT (mH)))) rfl) rfl ?_
      replace h := bsome h; obtain ⟨v53, x53, h⟩ := h
      refine wq_cq Tryd.call56 rfl rfl rfl (q_pf (k_step_box x53) (fun _ _ => trivial)) rfl ?_
      replace h := bsome h; obtain ⟨v54, x54, h⟩ := h
      refine wq_cq Tryd.call55 rfl rfl rfl (q_pf (k_geom_Over x54) (fun _ _ => trivial)) rfl ?_
      refine qP (v := .bool (!v54)) rfl rfl (wq_nil (wx_then ?_))
      replace h := bsome h; obtain ⟨za, h, hj20⟩ := h
      refine wc_join2 (fun E L => E = [(0, .pointer (some ⟨p0b, 0, none⟩)), (1, .int .i64 p1), (4, .pointer (some ⟨b4, 0, none⟩))] ∧ L = (⟨p0b, (.int .u64 p0.Frame :: .int .u64 zb.S :: pl14 p0.Players [.slice p0a0 p0n0 p0c0, .int .u16 p0.Score.1, .int .u16 p0.Score.2]), p0t, (0, 0)⟩ :: (⟨b4, (pl7 za []), 55, (0, 0)⟩ :: (p0B0 ++ [])))) ?_ ?_
      · refine wc_cond rfl (fun hc => ?_) (fun hc => ?_)
        · replace h := ct hc h
          refine wc_region (wl_val (v := .agg #[.int .i32 (IntKind.wrap .i32 zc), .int .i32 (IntKind.wrap .i32 zd), .int .i32 v15.VX, .int .i32 v15.VY, .int .u8 (100 : Int), .int .u8 v15.Cool, .int .u8 v15.Face]) (val_load tt_ok rfl (mH) rfl) rfl ?_)
          apply wl_store tt_ok; rfl; exact (Upd.there (Upd.there Upd.here)); rfl; rfl; rfl; rfl; rfl; rfl
          refine wl_nil ?_
          obtain rfl := sI h
          exact wx_join ⟨rfl, rfl⟩ (agree_cons rfl (agree_cons rfl (agree_cons rfl agree_nil))) (pSub (pCons (sC (sC (sC hC))) (pCons (sC (sC hC)) (pApp (sC (sC hA')) pNil))))
        replace h := cf hc h
        refine wc_skip ?_
        obtain rfl := sI h
        exact wx_join ⟨rfl, rfl⟩ (agree_cons rfl (agree_cons rfl (agree_cons rfl agree_nil))) (pSub (pCons (sC (sC (sC hC))) (pCons (sC (sC hC)) (pApp (sC (sC hA')) pNil))))
      rintro _ _ ⟨rfl, rfl⟩
      have h := hj20; clear hj20
      refine wc_k2 (Ls := (⟨p0b, (.int .u64 p0.Frame :: .int .u64 zb.S :: pl14 p0.Players [.slice p0a0 p0n0 p0c0, .int .u16 p0.Score.1, .int .u16 p0.Score.2]), p0t, (0, 0)⟩ :: (⟨b4, (pl7 za []), 55, (0, 0)⟩ :: (p0B0 ++ [])))) [6] [6] [0, 0, 0, 1, 9, 31, 63] [0, 1, 2, 3, 4, 5, 6] (by kernel_rfl) (by kernel_rfl) (by kernel_rfl) ?_
      refine k_val rfl rfl rfl (pSub (pH (pH (pA pNil)))) (stepV_ok tt_ok rfl) rfl ?_
      refine k_val rfl rfl rfl (pSub (pH (pH (pA pNil)))) (stepV_ok tt_ok rfl) rfl ?_
      refine k_val (v := agP za) rfl rfl rfl (pSub (pH (pH (pA pNil)))) (val_load tt_ok rfl (mT (mH)) rfl) rfl ?_
      refine k_val rfl rfl rfl (pSub (pH (pH (pA pNil)))) (stepV_ok tt_ok rfl) rfl ?_
      refine k_val (v := .pointer (some ⟨p0b, 2, none⟩)) rfl rfl rfl (pSub (pH (pH (pA pNil)))) (stepV_ok tt_ok rfl) rfl ?_
      refine k_val (v := .pointer (some ⟨p0b, 2, none⟩)) rfl rfl rfl (pSub (pH (pH (pA pNil)))) (val_ia (j := 0) tt_ok rfl rfl rfl rfl (by simpa using hx130) rfl rfl) rfl ?_
      refine k_chg0 rfl rfl rfl (chg_store tt_ok rfl Upd.here rfl rfl rfl rfl rfl rfl) (.inl rfl) ?_
      rintro _ _ rfl
      refine k_end (by kernel_rfl) ?_
      obtain rfl := sI h
      exact wx_spD tt_ok (.inr rfl) Tryd.results59 Res.nil ⟨p0a0, p0n0, p0c0, p0B0, p0N0, p0V0, rfl, rfl⟩ (fun F => by simp) (pSub (pH (pApp (sC hA') pNil)))
    replace h := cf hx511 h
    cases h
  replace h := cf hx130 h
  rcases Bool.eq_false_or_eq_true (p1 == (1 : Int)) with hx131 | hx131
  · replace h := ct hx131 h
    refine wl_val (v := .pointer (some ⟨p0b, 9, none⟩)) (val_ia (j := 1) tt_ok rfl rfl rfl rfl (by simpa using hx131) rfl rfl) rfl ?_
    refine wl_val (v := agP p0.Players.2) (val_load tt_ok rfl (mH) rfl) rfl ?_
    replace h := bsome h; obtain ⟨v15, x15, h⟩ := h
    refine wl_cq Tryd.call57 rfl rfl rfl (q_pf (k_step_stopped x15) (fun _ _ => trivial)) rfl ?_
    refine wl_alloc tt_ok rfl rfl (fun b4 => ?_)
    apply wl_store tt_ok; rfl; exact Upd.here; rfl; rfl; rfl; rfl; rfl; rfl
    refine wl_nil (wx_then (wc_seq (wc_region (wP (v := .pointer (some ⟨b4, 4, none⟩)) rfl rfl ?_))))
    apply wl_store tt_ok; rfl; exact Upd.here; rfl; rfl; rfl; rfl; rfl; rfl
    refine wl_nil (wx_then (wc_seq (wc_region ?_)))
    iterate 2 refine wP rfl rfl ?_
    refine wP (v := .pointer (some ⟨p0b, 1, none⟩)) rfl rfl (wl_val (v := .int .u64 p0.Seed) (val_load tt_ok rfl (mT (mH)) rfl) rfl (wP (v := .agg #[.int .u64 p0.Seed]) rfl rfl (wl_alloc tt_ok rfl rfl (fun b5 => ?_))))
    apply wl_store tt_ok; rfl; exact Upd.here; rfl; rfl; rfl; rfl; rfl; rfl
    refine wl_nil (wx_then (wc_seq (wc_region (wl_val (v := .agg #[.int .u64 p0.Seed]) (val_load tt_ok rfl (mH) rfl) rfl ?_))))
    replace h := bsome h; obtain ⟨⟨zc, ze⟩, x24, h⟩ := h; try dsimp only at h
    refine wl_cq Tryd.call78 rfl rfl rfl (q_pf (k_rng_Source_Below x24) (fun _ _ => trivial)) rfl ?_
    iterate 4 refine wP rfl rfl ?_
    apply wl_store tt_ok; rfl; exact Upd.here; rfl; rfl; rfl; rfl; rfl; rfl
    refine wl_nil (wx_then (wc_seq (wc_region (wl_val (v := .agg #[.int .u64 ze.S]) (val_load tt_ok rfl (mH) rfl) rfl ?_))))
    replace h := bsome h; obtain ⟨⟨zd, zb⟩, x29, h⟩ := h; try dsimp only at h
    refine wl_cq Tryd.call78 rfl rfl rfl (q_pf (k_rng_Source_Below x29) (fun _ _ => trivial)) rfl ?_
    iterate 4 refine wP rfl rfl ?_
    apply wl_store tt_ok; rfl; exact Upd.here; rfl; rfl; rfl; rfl; rfl; rfl
    refine wl_nil (wx_then (wc_seq (wc_region (wP rfl rfl (wP (v := .pointer (some ⟨b5, 0, none⟩)) rfl rfl (wl_val (v := .int .u64 zb.S) (val_load tt_ok rfl (mH) rfl) rfl (wP rfl rfl (wP (v := .pointer (some ⟨p0b, 1, none⟩)) rfl rfl ?_))))))))
    apply wl_store tt_ok; rfl; exact (Upd.there (Upd.there Upd.here)); rfl; rfl; rfl; rfl; rfl; rfl
    refine wl_nil (wx_then (wc_seq (wc_region (wl_val (v := .agg #[.int .i32 v15.X, .int .i32 v15.Y, .int .i32 v15.VX, .int .i32 v15.VY, .int .u8 (100 : Int), .int .u8 v15.Cool, .int .u8 v15.Face]) (val_load tt_ok rfl (mT (mH)) rfl) rfl (wl_alloc tt_ok rfl rfl (fun b8 => ?_))))))
    apply wl_store tt_ok; rfl; exact Upd.here; rfl; rfl; rfl; rfl; rfl; rfl
    refine wl_nil (wx_then (wc_seq (wc_region (wP rfl rfl (wP (v := .int .i32 (IntKind.wrap .i32 zc)) rfl rfl (wP rfl rfl (wP (v := .int .i32 (IntKind.wrap .i32 zd)) rfl rfl (wP (v := .pointer (some ⟨b8, 0, none⟩)) rfl rfl ?_))))))))
    apply wl_store tt_ok; rfl; exact Upd.here; rfl; rfl; rfl; rfl; rfl; rfl
    refine wP (v := .pointer (some ⟨b8, 1, none⟩)) rfl rfl ?_
    apply wl_store tt_ok; rfl; exact Upd.here; rfl; rfl; rfl; rfl; rfl; rfl
    refine wl_nil (wx_then (wc_seq (wc_seq (wc_quiet (by kernel_rfl) (by kernel_rfl) (wq_val (v := .agg #[.int .i32 (IntKind.wrap .i32 zc), .int .i32 (IntKind.wrap .i32 zd), .int .i32 v15.VX, .int .i32 v15.VY, .int .u8 (100 : Int), .int .u8 v15.Cool, .int .u8 v15.Face]) (val_load tt_ok rfl (mH) rfl) rfl ?_)))))
    replace h := bsome h; obtain ⟨v45, x45, h⟩ := h
    refine wq_cq Tryd.call56 rfl rfl rfl (q_pf (k_step_box x45) (fun _ _ => trivial)) rfl ?_
    refine qP rfl rfl (qP rfl rfl (qP (v := .int .i64 (IntKind.wrap .i64 ((1 : Int) - p1))) rfl rfl (qP rfl rfl (qP (v := .pointer (some ⟨p0b, 2, none⟩)) rfl rfl ?_))))
    rcases Bool.eq_false_or_eq_true ((IntKind.wrap .i64 ((1 : Int) - p1)) == (0 : Int)) with hx510 | hx510
    · replace h := ct hx510 h
      refine wq_val (v := .pointer (some ⟨p0b, 2, none⟩)) (val_ia (j := 0) tt_ok rfl rfl rfl rfl (by simpa using hx510) rfl rfl) rfl ?_
      refine wq_val (v := agP p0.Players.1) (val_load tt_ok rfl (mT (mT (mT (mH)))) rfl) rfl ?_
      replace h := bsome h; obtain ⟨v53, x53, h⟩ := h
      refine wq_cq Tryd.call56 rfl rfl rfl (q_pf (k_step_box x53) (fun _ _ => trivial)) rfl ?_
      replace h := bsome h; obtain ⟨v54, x54, h⟩ := h
      refine wq_cq Tryd.call55 rfl rfl rfl (q_pf (k_geom_Over x54) (fun _ _ => trivial)) rfl ?_
      refine qP (v := .bool (!v54)) rfl rfl (wq_nil (wx_then ?_))
      replace h := bsome h; obtain ⟨za, h, hj20⟩ := h
      refine wc_join2 (fun E L => E = [(0, .pointer (some ⟨p0b, 0, none⟩)), (1, .int .i64 p1), (4, .pointer (some ⟨b4, 0, none⟩))] ∧ L = (⟨p0b, (.int .u64 p0.Frame :: .int .u64 zb.S :: pl14 p0.Players [.slice p0a0 p0n0 p0c0, .int .u16 p0.Score.1, .int .u16 p0.Score.2]), p0t, (0, 0)⟩ :: (⟨b4, (pl7 za []), 55, (0, 0)⟩ :: (p0B0 ++ [])))) ?_ ?_
      · refine wc_cond rfl (fun hc => ?_) (fun hc => ?_)
        · replace h := ct hc h
          refine wc_region (wl_val (v := .agg #[.int .i32 (IntKind.wrap .i32 zc), .int .i32 (IntKind.wrap .i32 zd), .int .i32 v15.VX, .int .i32 v15.VY, .int .u8 (100 : Int), .int .u8 v15.Cool, .int .u8 v15.Face]) (val_load tt_ok rfl (mH) rfl) rfl ?_)
          apply wl_store tt_ok; rfl; exact (Upd.there (Upd.there Upd.here)); rfl; rfl; rfl; rfl; rfl; rfl
          refine wl_nil ?_
          obtain rfl := sI h
          exact wx_join ⟨rfl, rfl⟩ (agree_cons rfl (agree_cons rfl (agree_cons rfl agree_nil))) (pSub (pCons (sC (sC (sC hC))) (pCons (sC (sC hC)) (pApp (sC (sC hA')) pNil))))
        replace h := cf hc h
        refine wc_skip ?_
        obtain rfl := sI h
        exact wx_join ⟨rfl, rfl⟩ (agree_cons rfl (agree_cons rfl (agree_cons rfl agree_nil))) (pSub (pCons (sC (sC (sC hC))) (pCons (sC (sC hC)) (pApp (sC (sC hA')) pNil))))
      rintro _ _ ⟨rfl, rfl⟩
      have h := hj20; clear hj20
      refine wc_k2 (Ls := (⟨p0b, (.int .u64 p0.Frame :: .int .u64 zb.S :: pl14 p0.Players [.slice p0a0 p0n0 p0c0, .int .u16 p0.Score.1, .int .u16 p0.Score.2]), p0t, (0, 0)⟩ :: (⟨b4, (pl7 za []), 55, (0, 0)⟩ :: (p0B0 ++ [])))) [6] [6] [0, 0, 0, 1, 9, 31, 63] [0, 1, 2, 3, 4, 5, 6] (by kernel_rfl) (by kernel_rfl) (by kernel_rfl) ?_
      refine k_val rfl rfl rfl (pSub (pH (pH (pA pNil)))) (stepV_ok tt_ok rfl) rfl ?_
      refine k_val rfl rfl rfl (pSub (pH (pH (pA pNil)))) (stepV_ok tt_ok rfl) rfl ?_
      refine k_val (v := agP za) rfl rfl rfl (pSub (pH (pH (pA pNil)))) (val_load tt_ok rfl (mT (mH)) rfl) rfl ?_
      refine k_val rfl rfl rfl (pSub (pH (pH (pA pNil)))) (stepV_ok tt_ok rfl) rfl ?_
      refine k_val (v := .pointer (some ⟨p0b, 2, none⟩)) rfl rfl rfl (pSub (pH (pH (pA pNil)))) (stepV_ok tt_ok rfl) rfl ?_
      refine k_val (v := .pointer (some ⟨p0b, 9, none⟩)) rfl rfl rfl (pSub (pH (pH (pA pNil)))) (val_ia (j := 1) tt_ok rfl rfl rfl rfl (by simpa using hx131) rfl rfl) rfl ?_
      refine k_chg0 rfl rfl rfl (chg_store tt_ok rfl Upd.here rfl rfl rfl rfl rfl rfl) (.inl rfl) ?_
      rintro _ _ rfl
      refine k_end (by kernel_rfl) ?_
      obtain rfl := sI h
      exact wx_spD tt_ok (.inr rfl) Tryd.results59 Res.nil ⟨p0a0, p0n0, p0c0, p0B0, p0N0, p0V0, rfl, rfl⟩ (fun F => by simp) (pSub (pH (pApp (sC hA') pNil)))
    replace h := cf hx510 h
    rcases Bool.eq_false_or_eq_true ((IntKind.wrap .i64 ((1 : Int) - p1)) == (1 : Int)) with hx511 | hx511
    · replace h := ct hx511 h
      refine wq_val (v := .pointer (some ⟨p0b, 9, none⟩)) (val_ia (j := 1) tt_ok rfl rfl rfl rfl (by simpa using hx511) rfl rfl) rfl ?_
      refine wq_val (v := agP p0.Players.2) (val_load tt_ok rfl (mT (mT (mT (mH)))) rfl) rfl ?_
      replace h := bsome h; obtain ⟨v53, x53, h⟩ := h
      refine wq_cq Tryd.call56 rfl rfl rfl (q_pf (k_step_box x53) (fun _ _ => trivial)) rfl ?_
      replace h := bsome h; obtain ⟨v54, x54, h⟩ := h
      refine wq_cq Tryd.call55 rfl rfl rfl (q_pf (k_geom_Over x54) (fun _ _ => trivial)) rfl ?_
      refine qP (v := .bool (!v54)) rfl rfl (wq_nil (wx_then ?_))
      replace h := bsome h; obtain ⟨za, h, hj20⟩ := h
      refine wc_join2 (fun E L => E = [(0, .pointer (some ⟨p0b, 0, none⟩)), (1, .int .i64 p1), (4, .pointer (some ⟨b4, 0, none⟩))] ∧ L = (⟨p0b, (.int .u64 p0.Frame :: .int .u64 zb.S :: pl14 p0.Players [.slice p0a0 p0n0 p0c0, .int .u16 p0.Score.1, .int .u16 p0.Score.2]), p0t, (0, 0)⟩ :: (⟨b4, (pl7 za []), 55, (0, 0)⟩ :: (p0B0 ++ [])))) ?_ ?_
      · refine wc_cond rfl (fun hc => ?_) (fun hc => ?_)
        · replace h := ct hc h
          refine wc_region (wl_val (v := .agg #[.int .i32 (IntKind.wrap .i32 zc), .int .i32 (IntKind.wrap .i32 zd), .int .i32 v15.VX, .int .i32 v15.VY, .int .u8 (100 : Int), .int .u8 v15.Cool, .int .u8 v15.Face]) (val_load tt_ok rfl (mH) rfl) rfl ?_)
          apply wl_store tt_ok; rfl; exact (Upd.there (Upd.there Upd.here)); rfl; rfl; rfl; rfl; rfl; rfl
          refine wl_nil ?_
          obtain rfl := sI h
          exact wx_join ⟨rfl, rfl⟩ (agree_cons rfl (agree_cons rfl (agree_cons rfl agree_nil))) (pSub (pCons (sC (sC (sC hC))) (pCons (sC (sC hC)) (pApp (sC (sC hA')) pNil))))
        replace h := cf hc h
        refine wc_skip ?_
        obtain rfl := sI h
        exact wx_join ⟨rfl, rfl⟩ (agree_cons rfl (agree_cons rfl (agree_cons rfl agree_nil))) (pSub (pCons (sC (sC (sC hC))) (pCons (sC (sC hC)) (pApp (sC (sC hA')) pNil))))
      rintro _ _ ⟨rfl, rfl⟩
      have h := hj20; clear hj20
      refine wc_k2 (Ls := (⟨p0b, (.int .u64 p0.Frame :: .int .u64 zb.S :: pl14 p0.Players [.slice p0a0 p0n0 p0c0, .int .u16 p0.Score.1, .int .u16 p0.Score.2]), p0t, (0, 0)⟩ :: (⟨b4, (pl7 za []), 55, (0, 0)⟩ :: (p0B0 ++ [])))) [6] [6] [0, 0, 0, 1, 9, 31, 63] [0, 1, 2, 3, 4, 5, 6] (by kernel_rfl) (by kernel_rfl) (by kernel_rfl) ?_
      refine k_val rfl rfl rfl (pSub (pH (pH (pA pNil)))) (stepV_ok tt_ok rfl) rfl ?_
      refine k_val rfl rfl rfl (pSub (pH (pH (pA pNil)))) (stepV_ok tt_ok rfl) rfl ?_
      refine k_val (v := agP za) rfl rfl rfl (pSub (pH (pH (pA pNil)))) (val_load tt_ok rfl (mT (mH)) rfl) rfl ?_
      refine k_val rfl rfl rfl (pSub (pH (pH (pA pNil)))) (stepV_ok tt_ok rfl) rfl ?_
      refine k_val (v := .pointer (some ⟨p0b, 2, none⟩)) rfl rfl rfl (pSub (pH (pH (pA pNil)))) (stepV_ok tt_ok rfl) rfl ?_
      refine k_val (v := .pointer (some ⟨p0b, 9, none⟩)) rfl rfl rfl (pSub (pH (pH (pA pNil)))) (val_ia (j := 1) tt_ok rfl rfl rfl rfl (by simpa using hx131) rfl rfl) rfl ?_
      refine k_chg0 rfl rfl rfl (chg_store tt_ok rfl Upd.here rfl rfl rfl rfl rfl rfl) (.inl rfl) ?_
      rintro _ _ rfl
      refine k_end (by kernel_rfl) ?_
      obtain rfl := sI h
      exact wx_spD tt_ok (.inr rfl) Tryd.results59 Res.nil ⟨p0a0, p0n0, p0c0, p0B0, p0N0, p0V0, rfl, rfl⟩ (fun F => by simp) (pSub (pH (pApp (sC hA') pNil)))
    replace h := cf hx511 h
    cases h
  replace h := cf hx131 h
  cases h

theorem k_step_Step {F : Nat} {p0 : T_api_State} {p0a0 : Option Addr} {p0n0 p0c0 : Nat} {p1 : (Int × Int)} {r0 : T_api_State} (p0N0 : p0n0 = p0.Shots.length) (p0H0 : p0n0 ≤ p0c0) (h : m_step_Step F p0 p1 = some r0) :
    SpD Tryd.prog 36 [agS p0 p0a0 p0n0 p0c0, .agg #[.int .u8 p1.1, .int .u8 p1.2]] [] (fun w => Rds w (ids []) [] p0a0 (flat c_T_api_Shot p0.Shots) ∧ Rds w (ids []) [] (some ⟨0, 0, none⟩) (flat (fun _ : Unit => gl_state_playerBounds) [()]) ∧ Rds w (ids []) [] (some ⟨1, 0, none⟩) (flat (fun _ : Unit => gl_state_shotBounds) [()])) (fun v D => ∃ (r0a0 : Option Addr) (r0n0 : Nat) (r0c0 : Nat) (r0B0 : List Blk), r0n0 = r0.Shots.length ∧ Own 92 6 r0a0 r0n0 r0c0 (flat c_T_api_Shot r0.Shots) r0B0 ∧ v = agS r0 r0a0 r0n0 r0c0 ∧ D = fun F => (r0B0 ++ F)) := by
  unfold m_step_Step at h
  refine sp_of_wc Tryd.func36 rfl Tryd.ntmps36 rfl rfl (fun w0 hR => ?_)
  obtain ⟨p0S0, G0S, G1S⟩ := hR
  refine wc_seq (wc_region (wl_box rfl rfl rfl (fun b2 => (wl_box rfl rfl rfl (fun b3 => (wl_alloc tt_ok rfl rfl (fun b4 => (wl_nil (wx_then (wc_seq (wc_region (wl_val (v := agS p0 p0a0 p0n0 p0c0) (val_load tt_ok rfl (mT (mT (mH))) rfl) rfl ?_))))))))))))
  replace h := bsome h; obtain ⟨v12, x12, h⟩ := h
  refine wl_cs Tryd.call44 rfl rfl rfl (s_sp (k_state_Copy (p0 := p0) p0N0 p0H0 x12) pNil (Rds.call p0S0 pNil rsub_nil)) rfl ?_
  rintro _ _ ⟨_, ⟨v12a0, v12n0, v12c0, v12B0, v12N0, v12V0, rfl, rfl⟩, rfl⟩
  apply wl_store tt_ok; rfl; exact (Upd.right (Upd.there (Upd.there Upd.here))); rfl; rfl; rfl; rfl; rfl; rfl
  refine wl_nil (wx_then (wc_seq (wc_seq (wc_region (wl_val (v := agS v12 v12a0 v12n0 v12c0) (val_load tt_ok rfl (mR (mT (mT (mH)))) rfl) rfl ?_)))))
  replace h := bsome h; obtain ⟨v14, x14, h⟩ := h
  refine wl_cq Tryd.call43 rfl rfl rfl (q_pf (k_state_Check (p0 := v12) v12N0 (vec_cap v12V0) x14) (fun w hI => ⟨(Rds.call (Rds.of_vec v12V0) pNil ⟨_, hA'⟩) w hI, (Rds.call G0S pNil rsub_nil) w hI, (Rds.call G1S pNil rsub_nil) w hI⟩)) rfl ?_
  refine wP (v := .bool (v14 != (0 : Int))) rfl rfl (wP rfl rfl ?_)
  replace h := bsome h; obtain ⟨v21, h, hg21⟩ := h
  refine wl_split (t := 16) rfl (fun hc => ?_) (fun hc => ?_)
  · replace h := ct hc h
    refine wl_skip rfl rfl (wl_skip rfl rfl (wl_skip rfl rfl (wl_skip rfl rfl ?_)))
    obtain rfl := sI h
    have h := hg21; clear hg21
    refine wP (v := .bool true) rfl rfl (wP rfl rfl ?_)
    replace h := bsome h; obtain ⟨v27, h, hg27⟩ := h
    replace h := ct rfl h
    refine wl_skip rfl rfl (wl_skip rfl rfl (wl_skip rfl rfl (wl_skip rfl rfl ?_)))
    obtain rfl := sI h
    have h := hg27; clear hg27
    refine wP (v := .bool true) rfl rfl (wl_nil (wx_then ?_))
    replace h := ct rfl h
    refine wc_cond_true rfl ?_
    refine wc_seq (wc_region (wl_val (v := agS v12 v12a0 v12n0 v12c0) (val_load tt_ok rfl (mR (mT (mT (mH)))) rfl) rfl ?_))
    apply wl_store tt_ok; rfl; exact (Upd.right Upd.here); rfl; rfl; rfl; rfl; rfl; rfl
    refine wl_nil (wx_then (wc_ret (wx_then_ret ?_)))
    obtain rfl := sI h
    exact wx_spD tt_ok (.inl rfl) Tryd.results36 (Res.cell rfl (mR (mH)) rfl Res.nil) ⟨v12a0, v12n0, v12c0, v12B0, v12N0, v12V0, rfl, rfl⟩ (fun F => by simp) (pSub (pA pNil))
  replace h := cf hc h
  refine wl_run rfl (wl_val (v := .pointer (some ⟨b3, 0, none⟩)) (val_ia (j := 0) tt_ok rfl rfl rfl rfl rfl rfl rfl) rfl (wl_run rfl (wl_val (v := .int .u8 p1.1) (val_load tt_ok rfl (mR (mT (mH))) rfl) rfl ?_)))
  replace h := bsome h; obtain ⟨v19, x19, h⟩ := h
  refine wl_run rfl (wl_cq Tryd.call28 rfl rfl rfl (q_pf (k_input_Legal x19) (fun _ _ => trivial)) rfl (wl_run rfl (wP (v := .bool (!v19)) rfl rfl ?_)))
  obtain rfl := sI h
  have h := hg21; clear hg21
  refine wP (v := .bool (!v19)) rfl rfl (wP rfl rfl ?_)
  replace h := bsome h; obtain ⟨v27, h, hg27⟩ := h
  refine wl_split (t := 22) rfl (fun hc => ?_) (fun hc => ?_)
  · replace h := ct hc h
    refine wl_skip rfl rfl (wl_skip rfl rfl (wl_skip rfl rfl (wl_skip rfl rfl ?_)))
    obtain rfl := sI h
    have h := hg27; clear hg27
    refine wP (v := .bool true) rfl rfl (wl_nil (wx_then ?_))
    replace h := ct rfl h
    refine wc_cond_true rfl ?_
    refine wc_seq (wc_region (wl_val (v := agS v12 v12a0 v12n0 v12c0) (val_load tt_ok rfl (mR (mT (mT (mH)))) rfl) rfl ?_))
    apply wl_store tt_ok; rfl; exact (Upd.right Upd.here); rfl; rfl; rfl; rfl; rfl; rfl
    refine wl_nil (wx_then (wc_ret (wx_then_ret ?_)))
    obtain rfl := sI h
    exact wx_spD tt_ok (.inl rfl) Tryd.results36 (Res.cell rfl (mR (mH)) rfl Res.nil) ⟨v12a0, v12n0, v12c0, v12B0, v12N0, v12V0, rfl, rfl⟩ (fun F => by simp) (pSub (pA pNil))
  replace h := cf hc h
  refine wl_run rfl (wl_val (v := .pointer (some ⟨b3, 1, none⟩)) (val_ia (j := 1) tt_ok rfl rfl rfl rfl rfl rfl rfl) rfl (wl_run rfl (wl_val (v := .int .u8 p1.2) (val_load tt_ok rfl (mR (mT (mH))) rfl) rfl ?_)))
  replace h := bsome h; obtain ⟨v25, x25, h⟩ := h
  refine wl_run rfl (wl_cq Tryd.call28 rfl rfl rfl (q_pf (k_input_Legal x25) (fun _ _ => trivial)) rfl (wl_run rfl (wP (v := .bool (!v25)) rfl rfl ?_)))
  obtain rfl := sI h
  have h := hg27; clear hg27
  refine wP (v := .bool (!v25)) rfl rfl (wl_nil (wx_then (wc_cond rfl (fun hc => ?_) (fun hc => ?_))))
  · replace h := ct hc h
    refine wc_seq (wc_region (wl_val (v := agS v12 v12a0 v12n0 v12c0) (val_load tt_ok rfl (mR (mT (mT (mH)))) rfl) rfl ?_))
    apply wl_store tt_ok; rfl; exact (Upd.right Upd.here); rfl; rfl; rfl; rfl; rfl; rfl
    refine wl_nil (wx_then (wc_ret (wx_then_ret ?_)))
    obtain rfl := sI h
    exact wx_spD tt_ok (.inl rfl) Tryd.results36 (Res.cell rfl (mR (mH)) rfl Res.nil) ⟨v12a0, v12n0, v12c0, v12B0, v12N0, v12V0, rfl, rfl⟩ (fun F => by simp) (pSub (pA pNil))
  replace h := cf hc h
  refine wc_skip (wx_then (wc_seq (wc_seq (wc_region (wP rfl rfl (wl_nil (wx_then (wc_block ?_))))))))
  replace h := bsome h; obtain ⟨zah, h, hl17⟩ := h
  refine wc_loop (fun m E L => ∃ (zw : Int) (zr : (T_api_Player × T_api_Player)), m_step_Step_L16 F p1 m zw zr = some zah ∧ E = [(2, .pointer (some ⟨b2, 0, none⟩)), (3, .pointer (some ⟨b3, 0, none⟩)), (4, .pointer (some ⟨b4, 0, none⟩)), (29, .int .i64 zw)] ∧ L = (⟨b2, (.int .u64 v12.Frame :: .int .u64 v12.Seed :: pl14 zr [.slice v12a0 v12n0 v12c0, .int .u16 v12.Score.1, .int .u16 v12.Score.2]), 61, (0, 0)⟩ :: (⟨b3, [.int .u8 p1.1, .int .u8 p1.2], 36, (0, 0)⟩ :: (⟨b4, [.int .u64 (0 : Int), .int .u64 (0 : Int), .int .i32 (0 : Int), .int .i32 (0 : Int), .int .i32 (0 : Int), .int .i32 (0 : Int), .int .u8 (0 : Int), .int .u8 (0 : Int), .int .u8 (0 : Int), .int .i32 (0 : Int), .int .i32 (0 : Int), .int .i32 (0 : Int), .int .i32 (0 : Int), .int .u8 (0 : Int), .int .u8 (0 : Int), .int .u8 (0 : Int), .slice none 0 0, .int .u16 (0 : Int), .int .u16 (0 : Int)], 61, (0, 0)⟩ :: (v12B0 ++ []))))) F ⟨(0 : Int), v12.Players, h, rfl, rfl⟩ (agree_cons rfl (agree_cons rfl (agree_cons rfl (agree_cons rfl agree_nil)))) (pSub (pCons (sA (sC (sC hC))) (pCons (sA (sC hC)) (pCons (sA hC) (pA pNil))))) ?_
  clear h
  rintro m17 _ _ ⟨zw, zr, h, rfl, rfl⟩
  rcases m17 with _ | m17
  · rw [m_step_Step_L16.eq_1] at h; cases h
  rw [m_step_Step_L16.eq_2] at h
  refine wc_seq (wc_region (wP (v := .bool (decide (zw < (2 : Int)))) rfl rfl (wl_nil (wx_then (wc_seq (wc_cond rfl (fun hc => ?_) (fun hc => ?_)))))))
  · replace h := ct hc h
    refine wc_skip (wx_then (wc_seq (wc_block (wc_seq (wc_region ?_)))))
    iterate 2 refine wP rfl rfl ?_
    refine wl_nil (wx_then (wc_k2 (Ls := (⟨b2, (.int .u64 v12.Frame :: .int .u64 v12.Seed :: pl14 zr [.slice v12a0 v12n0 v12c0, .int .u16 v12.Score.1, .int .u16 v12.Score.2]), 61, (0, 0)⟩ :: (⟨b3, [.int .u8 p1.1, .int .u8 p1.2], 36, (0, 0)⟩ :: (⟨b4, [.int .u64 (0 : Int), .int .u64 (0 : Int), .int .i32 (0 : Int), .int .i32 (0 : Int), .int .i32 (0 : Int), .int .i32 (0 : Int), .int .u8 (0 : Int), .int .u8 (0 : Int), .int .u8 (0 : Int), .int .i32 (0 : Int), .int .i32 (0 : Int), .int .i32 (0 : Int), .int .i32 (0 : Int), .int .u8 (0 : Int), .int .u8 (0 : Int), .int .u8 (0 : Int), .slice none 0 0, .int .u16 (0 : Int), .int .u16 (0 : Int)], 61, (0, 0)⟩ :: (v12B0 ++ []))))) [8, 10, 11] [10, 11] [0, 0, 0, 6, 14, 0, 32, 96, 254, 0, 1023, 2047] [0, 1, 2, 3, 4, 5, 6, 7, 9, 8, 10, 11] (by kernel_rfl) (by kernel_rfl) (by kernel_rfl) ?_))
    refine k_val rfl rfl rfl (pSub (pH (pH (pH (pA pNil))))) (stepV_ok tt_ok rfl) rfl ?_
    refine k_val rfl rfl rfl (pSub (pH (pH (pH (pA pNil))))) (stepV_ok tt_ok rfl) rfl ?_
    refine k_val (v := .pointer (some ⟨b2, 2, none⟩)) rfl rfl rfl (pSub (pH (pH (pH (pA pNil))))) (stepV_ok tt_ok rfl) rfl ?_
    rcases Bool.eq_false_or_eq_true (zw == (0 : Int)) with hx350 | hx350
    · replace h := ct hx350 h
      refine k_val (v := .pointer (some ⟨b2, 2, none⟩)) rfl rfl rfl (pSub (pH (pH (pH (pA pNil))))) (val_ia (j := 0) tt_ok rfl rfl rfl rfl (by simpa using hx350) rfl rfl) rfl ?_
      refine k_val (v := agP zr.1) rfl rfl rfl (pSub (pH (pH (pH (pA pNil))))) (val_load tt_ok rfl (mH) rfl) rfl ?_
      refine k_val rfl rfl rfl (pSub (pH (pH (pH (pA pNil))))) (stepV_ok tt_ok rfl) rfl ?_
      refine k_val (v := .pointer (some ⟨b3, 0, none⟩)) rfl rfl rfl (pSub (pH (pH (pH (pA pNil))))) (val_ia (j := 0) tt_ok rfl rfl rfl rfl (by simpa using hx350) rfl rfl) rfl ?_
      refine k_val (v := .int .u8 p1.1) rfl rfl rfl (pSub (pH (pH (pH (pA pNil))))) (val_load tt_ok rfl (mT (mH)) rfl) rfl ?_
      refine k_val (v := .pointer (some ⟨b2, 2, none⟩)) rfl rfl rfl (pSub (pH (pH (pH (pA pNil))))) (stepV_ok tt_ok rfl) rfl ?_
      replace h := bsome h; obtain ⟨v40, x40, h⟩ := h
      refine k_cq rfl rfl rfl Tryd.call51 rfl rfl rfl (q_pf (k_step_steer x40) (fun _ _ => trivial)) rfl (pSub (pH (pH (pH (pA pNil))))) ?_
      refine k_chg rfl rfl rfl (Chg.of_val (v := .pointer (some ⟨b2, 2, none⟩)) (val_ia (j := 0) tt_ok rfl rfl rfl rfl (by simpa using hx350) rfl rfl)) rfl (.inl rfl) ?_
      rintro _ _ ⟨rfl, rfl⟩
      refine k_chg0 rfl rfl rfl (chg_store tt_ok rfl Upd.here rfl rfl rfl rfl rfl rfl) (.inl rfl) ?_
      rintro _ _ rfl
      refine k_end (by kernel_rfl) ?_
      refine wx_block (wx_then (wc_region (wP (v := .int .i64 (IntKind.wrap .i64 (zw + (1 : Int)))) rfl rfl (wP rfl rfl (wl_nil ?_)))))
      exact wx_round m17 (Nat.lt_succ_self m17) ⟨(IntKind.wrap .i64 (zw + (1 : Int))), (v40, zr.2), h, rfl, rfl⟩ (agree_cons rfl (agree_cons rfl (agree_cons rfl (agree_cons rfl agree_nil)))) (pSub (pH (pH (pH (pA pNil)))))
    replace h := cf hx350 h
    rcases Bool.eq_false_or_eq_true (zw == (1 : Int)) with hx351 | hx351
    · replace h := ct hx351 h
      refine k_val (v := .pointer (some ⟨b2, 9, none⟩)) rfl rfl rfl (pSub (pH (pH (pH (pA pNil))))) (val_ia (j := 1) tt_ok rfl rfl rfl rfl (by simpa using hx351) rfl rfl) rfl ?_
      refine k_val (v := agP zr.2) rfl rfl rfl (pSub (pH (pH (pH (pA pNil))))) (val_load tt_ok rfl (mH) rfl) rfl ?_
      refine k_val rfl rfl rfl (pSub (pH (pH (pH (pA pNil))))) (stepV_ok tt_ok rfl) rfl ?_
      refine k_val (v := .pointer (some ⟨b3, 1, none⟩)) rfl rfl rfl (pSub (pH (pH (pH (pA pNil))))) (val_ia (j := 1) tt_ok rfl rfl rfl rfl (by simpa using hx351) rfl rfl) rfl ?_
      refine k_val (v := .int .u8 p1.2) rfl rfl rfl (pSub (pH (pH (pH (pA pNil))))) (val_load tt_ok rfl (mT (mH)) rfl) rfl ?_
      refine k_val (v := .pointer (some ⟨b2, 2, none⟩)) rfl rfl rfl (pSub (pH (pH (pH (pA pNil))))) (stepV_ok tt_ok rfl) rfl ?_
      replace h := bsome h; obtain ⟨v40, x40, h⟩ := h
      refine k_cq rfl rfl rfl Tryd.call51 rfl rfl rfl (q_pf (k_step_steer x40) (fun _ _ => trivial)) rfl (pSub (pH (pH (pH (pA pNil))))) ?_
      refine k_chg rfl rfl rfl (Chg.of_val (v := .pointer (some ⟨b2, 9, none⟩)) (val_ia (j := 1) tt_ok rfl rfl rfl rfl (by simpa using hx351) rfl rfl)) rfl (.inl rfl) ?_
      rintro _ _ ⟨rfl, rfl⟩
      refine k_chg0 rfl rfl rfl (chg_store tt_ok rfl Upd.here rfl rfl rfl rfl rfl rfl) (.inl rfl) ?_
      rintro _ _ rfl
      refine k_end (by kernel_rfl) ?_
      refine wx_block (wx_then (wc_region (wP (v := .int .i64 (IntKind.wrap .i64 (zw + (1 : Int)))) rfl rfl (wP rfl rfl (wl_nil ?_)))))
      exact wx_round m17 (Nat.lt_succ_self m17) ⟨(IntKind.wrap .i64 (zw + (1 : Int))), (zr.1, v40), h, rfl, rfl⟩ (agree_cons rfl (agree_cons rfl (agree_cons rfl (agree_cons rfl agree_nil)))) (pSub (pH (pH (pH (pA pNil)))))
    replace h := cf hx351 h
    cases h
  replace h := cf hc h
  refine wc_exit (wx_then_exit ?_)
  obtain rfl := sI h
  have h := hl17; clear hl17; try dsimp only [orE_l, orE_r] at h
  refine wx_then_exit (wx_block_exit (wx_then (wc_seq (wc_seq (wc_region ?_)))))
  refine wP rfl rfl (wl_nil (wx_then (wc_block ?_)))
  replace h := bsome h; obtain ⟨⟨zai, zaj⟩, h, hl34⟩ := h; try dsimp only at hl34
  refine wc_loop (fun m E L => ∃ (zj : Int) (zc : (T_api_Player × T_api_Player)) (za : (List T_api_Shot)) (zf : Option Addr) (ze : Nat) (zg : Nat) (zi : List Blk), m_step_Step_L33 F p1 m zj zc za = some (zai, zaj) ∧ ze = za.length ∧ Own 92 6 zf ze zg (flat c_T_api_Shot za) zi ∧ E = [(2, .pointer (some ⟨b2, 0, none⟩)), (3, .pointer (some ⟨b3, 0, none⟩)), (4, .pointer (some ⟨b4, 0, none⟩)), (44, .int .i64 zj)] ∧ L = (⟨b2, (.int .u64 v12.Frame :: .int .u64 v12.Seed :: pl14 zc [.slice zf ze zg, .int .u16 v12.Score.1, .int .u16 v12.Score.2]), 61, (0, 0)⟩ :: (⟨b3, [.int .u8 p1.1, .int .u8 p1.2], 36, (0, 0)⟩ :: (⟨b4, [.int .u64 (0 : Int), .int .u64 (0 : Int), .int .i32 (0 : Int), .int .i32 (0 : Int), .int .i32 (0 : Int), .int .i32 (0 : Int), .int .u8 (0 : Int), .int .u8 (0 : Int), .int .u8 (0 : Int), .int .i32 (0 : Int), .int .i32 (0 : Int), .int .i32 (0 : Int), .int .i32 (0 : Int), .int .u8 (0 : Int), .int .u8 (0 : Int), .int .u8 (0 : Int), .slice none 0 0, .int .u16 (0 : Int), .int .u16 (0 : Int)], 61, (0, 0)⟩ :: (zi ++ []))))) F ⟨(0 : Int), zr, v12.Shots, v12a0, v12n0, v12c0, v12B0, h, v12N0, v12V0, rfl, rfl⟩ (agree_cons rfl (agree_cons rfl (agree_cons rfl (agree_cons rfl agree_nil)))) (pSub (pH (pH (pH (pA pNil))))) ?_
  clear h
  rintro m34 _ _ ⟨zj, zc, za, zf, ze, zg, zi, h, zk, zl, rfl, rfl⟩
  rcases m34 with _ | m34
  · rw [m_step_Step_L33.eq_1] at h; cases h
  rw [m_step_Step_L33.eq_2] at h
  refine wc_seq (wc_region (wP (v := .bool (decide (zj < (2 : Int)))) rfl rfl (wl_nil (wx_then (wc_seq (wc_cond rfl (fun hc => ?_) (fun hc => ?_)))))))
  · replace h := ct hc h
    refine wc_skip (wx_then (wc_seq (wc_block (wc_seq (wc_region ?_)))))
    iterate 2 refine wP rfl rfl ?_
    refine wl_nil (wx_then (wc_seq (wc_region (wP rfl rfl (wP (v := .pointer (some ⟨b2, 2, none⟩)) rfl rfl ?_)))))
    rcases Bool.eq_false_or_eq_true (zj == (0 : Int)) with hx490 | hx490
    · replace h := ct hx490 h
      refine wl_val (v := .pointer (some ⟨b2, 2, none⟩)) (val_ia (j := 0) tt_ok rfl rfl rfl rfl (by simpa using hx490) rfl rfl) rfl ?_
      refine wP rfl rfl (wl_nil (wx_then (wc_seq (wc_region (wP rfl rfl (wl_val (v := .pointer (some ⟨b3, 0, none⟩)) (val_ia (j := 0) tt_ok rfl rfl rfl rfl (by simpa using hx490) rfl rfl) rfl (wl_val (v := .int .u8 p1.1) (val_load tt_ok rfl (mT (mH)) rfl) rfl ?_)))))))
      replace h := bsome h; obtain ⟨v53, x53, h⟩ := h
      refine wl_cq Tryd.call52 rfl rfl rfl (q_pf (k_input_Fire x53) (fun _ _ => trivial)) rfl ?_
      refine wP rfl rfl ?_
      replace h := bsome h; obtain ⟨v60, h, hg60⟩ := h
      refine wl_split (t := 54) rfl (fun hc => ?_) (fun hc => ?_)
      · replace h := ct hc h
        refine wl_run rfl (wP rfl rfl (wl_run rfl (wP rfl rfl (wl_run rfl (wP (v := .pointer (some ⟨b2, 7, none⟩)) rfl rfl (wl_run rfl (wl_val (v := .int .u8 zc.1.Cool) (val_load tt_ok rfl (mH) rfl) rfl (wl_run rfl (wP (v := .bool (zc.1.Cool == (0 : Int))) rfl rfl ?_)))))))))
        obtain rfl := sI h
        have h := hg60; clear hg60
        refine wP (v := .bool (zc.1.Cool == (0 : Int))) rfl rfl (wP rfl rfl ?_)
        replace h := bsome h; obtain ⟨v66, h, hg66⟩ := h
        refine wl_split (t := 61) rfl (fun hc => ?_) (fun hc => ?_)
        · replace h := ct hc h
          refine wl_run rfl (wP (v := .pointer (some ⟨b2, 16, none⟩)) rfl rfl (wl_run rfl (wl_val (v := .slice zf ze zg) (val_load tt_ok rfl (mH) rfl) rfl (wl_run rfl (wl_val (v := .int .i64 (za.length : Int)) (val_len tt_ok rfl rfl zk) rfl (wl_run rfl (wP (v := .bool (decide ((za.length : Int) < (8 : Int)))) rfl rfl ?_)))))))
          obtain rfl := sI h
          have h := hg66; clear hg66
          refine wP (v := .bool (decide ((za.length : Int) < (8 : Int)))) rfl rfl (wl_nil (wx_then (wc_cond rfl (fun hc => ?_) (fun hc => ?_))))
          · replace h := ct hc h
            refine wc_seq (wc_k2 (Ls := (⟨b2, (.int .u64 v12.Frame :: .int .u64 v12.Seed :: pl14 zc [.slice zf ze zg, .int .u16 v12.Score.1, .int .u16 v12.Score.2]), 61, (0, 0)⟩ :: (⟨b3, [.int .u8 p1.1, .int .u8 p1.2], 36, (0, 0)⟩ :: (⟨b4, [.int .u64 (0 : Int), .int .u64 (0 : Int), .int .i32 (0 : Int), .int .i32 (0 : Int), .int .i32 (0 : Int), .int .i32 (0 : Int), .int .u8 (0 : Int), .int .u8 (0 : Int), .int .u8 (0 : Int), .int .i32 (0 : Int), .int .i32 (0 : Int), .int .i32 (0 : Int), .int .i32 (0 : Int), .int .u8 (0 : Int), .int .u8 (0 : Int), .int .u8 (0 : Int), .slice none 0 0, .int .u16 (0 : Int), .int .u16 (0 : Int)], 61, (0, 0)⟩ :: (zi ++ []))))) [7, 8, 9, 10, 11] [9, 10, 11] [0, 1, 0, 4, 12, 0, 32, 124, 252, 511, 1023, 2047] [0, 1, 2, 3, 4, 5, 6, 7, 8, 9, 10, 11] (by kernel_rfl) (by kernel_rfl) (by kernel_rfl) ?_)
            refine k_val (v := .pointer (some ⟨b2, 16, none⟩)) rfl rfl rfl (pSub (pH (pH (pH (pA pNil))))) (stepV_ok tt_ok rfl) rfl ?_
            refine k_val (v := .slice zf ze zg) rfl rfl rfl (pSub (pH (pH (pH (pA pNil))))) (val_load tt_ok rfl (mH) rfl) rfl ?_
            refine k_val rfl rfl rfl (pSub (pH (pH (pH (pA pNil))))) (stepV_ok tt_ok rfl) rfl ?_
            refine k_val rfl rfl rfl (pSub (pH (pH (pH (pA pNil))))) (stepV_ok tt_ok rfl) rfl ?_
            refine k_val (v := agP zc.1) rfl rfl rfl (pSub (pH (pH (pH (pA pNil))))) (val_load tt_ok rfl (mH) rfl) rfl ?_
            refine k_val rfl rfl rfl (pSub (pH (pH (pH (pA pNil))))) (stepV_ok tt_ok rfl) rfl ?_
            refine k_val (v := .int .u8 (IntKind.wrap .u8 zj)) rfl rfl rfl (pSub (pH (pH (pH (pA pNil))))) (stepV_ok tt_ok rfl) rfl ?_
            replace h := bsome h; obtain ⟨v74, x74, h⟩ := h
            refine k_cq rfl rfl rfl Tryd.call53 rfl rfl rfl (q_pf (k_step_shoot x74) (fun _ _ => trivial)) rfl (pSub (pH (pH (pH (pA pNil))))) ?_
            refine k_chg rfl rfl rfl (chg_bsv (enc := c_T_api_Shot) (xs := ([v74] : List T_api_Shot)) tt_ok rfl rfl rfl rfl rfl rfl rfl rfl c_T_api_Shot_len) rfl (.inr (by rintro _ _ ⟨_, _, _, _, rfl, _, _, rfl⟩; exact ⟨_, (pCons (sA hC) (pCons (sA hC) (pCons (sA hC) (pApp (sA hA') pNil))))⟩)) ?_
            rintro _ _ ⟨a75, n75_, c75, B75, rfl, N75, V75, rfl⟩
            replace h := bsome h; obtain ⟨v76, x76, h⟩ := h
            refine k_chg rfl rfl rfl (chg_app (enc := c_T_api_Shot) (ys := ([v74] : List T_api_Shot)) tt_ok rfl rfl rfl rfl rfl rfl zk N75 zl (sA (sC (sC (sC hA')))) (Rds.of_vec V75) ⟨_, hA'⟩ c_T_api_Shot_len (fun _ => rfl) rfl x76) rfl (.inl rfl) ?_
            rintro _ _ ⟨a76, n76_, c76, B76, rfl, N76, V76, rfl⟩
            refine k_chg rfl rfl rfl (Chg.of_val (v := .pointer (some ⟨b2, 16, none⟩)) (stepV_ok tt_ok rfl)) rfl (.inl rfl) ?_
            rintro _ _ ⟨rfl, rfl⟩
            refine k_chg0 rfl rfl rfl (chg_store tt_ok rfl (Upd.right (Upd.right Upd.here)) rfl rfl rfl rfl rfl rfl) (.inl rfl) ?_
            rintro _ _ rfl
            refine k_end (by kernel_rfl) ?_
            refine wx_then (wc_region ?_)
            iterate 2 refine wP rfl rfl ?_
            refine wP (v := .pointer (some ⟨b2, 7, none⟩)) rfl rfl ?_
            apply wl_store tt_ok; rfl; exact (Upd.right (Upd.right Upd.here)); rfl; rfl; rfl; rfl; rfl; rfl
            refine wl_nil (wx_block (wx_then (wc_region (wP (v := .int .i64 (IntKind.wrap .i64 (zj + (1 : Int)))) rfl rfl (wP rfl rfl (wl_nil ?_))))))
            exact wx_round m34 (Nat.lt_succ_self m34) ⟨(IntKind.wrap .i64 (zj + (1 : Int))), ((T_api_Player.mk zc.1.X zc.1.Y zc.1.VX zc.1.VY zc.1.Health (10 : Int) zc.1.Face), zc.2), v76, a76, n76_, c76, B76, h, N76, V76, rfl, rfl⟩ (agree_cons rfl (agree_cons rfl (agree_cons rfl (agree_cons rfl agree_nil)))) (pSub (pCons (sA (sA hC)) (pCons (sA (sA hC)) (pCons (sA (sA hC)) (pA pNil)))))
          replace h := cf hc h
          refine wc_skip (wx_block (wx_then (wc_region (wP (v := .int .i64 (IntKind.wrap .i64 (zj + (1 : Int)))) rfl rfl (wP rfl rfl (wl_nil ?_))))))
          exact wx_round m34 (Nat.lt_succ_self m34) ⟨(IntKind.wrap .i64 (zj + (1 : Int))), zc, za, zf, ze, zg, zi, h, zk, zl, rfl, rfl⟩ (agree_cons rfl (agree_cons rfl (agree_cons rfl (agree_cons rfl agree_nil)))) (pSub (pH (pH (pH (pA pNil)))))
        replace h := cf hc h
        refine wl_skip rfl rfl (wl_skip rfl rfl (wl_skip rfl rfl (wl_skip rfl rfl ?_)))
        obtain rfl := sI h
        have h := hg66; clear hg66
        refine wP (v := .bool false) rfl rfl (wl_nil (wx_then ?_))
        replace h := cf rfl h
        refine wc_cond_false rfl ?_
        refine wc_skip (wx_block (wx_then (wc_region (wP (v := .int .i64 (IntKind.wrap .i64 (zj + (1 : Int)))) rfl rfl (wP rfl rfl (wl_nil ?_))))))
        exact wx_round m34 (Nat.lt_succ_self m34) ⟨(IntKind.wrap .i64 (zj + (1 : Int))), zc, za, zf, ze, zg, zi, h, zk, zl, rfl, rfl⟩ (agree_cons rfl (agree_cons rfl (agree_cons rfl (agree_cons rfl agree_nil)))) (pSub (pH (pH (pH (pA pNil)))))
      replace h := cf hc h
      refine wl_skip rfl rfl (wl_skip rfl rfl (wl_skip rfl rfl (wl_skip rfl rfl (wl_skip rfl rfl ?_))))
      obtain rfl := sI h
      have h := hg60; clear hg60
      refine wP (v := .bool false) rfl rfl (wP rfl rfl ?_)
      replace h := bsome h; obtain ⟨v66, h, hg66⟩ := h
      replace h := cf rfl h
      refine wl_skip rfl rfl (wl_skip rfl rfl (wl_skip rfl rfl (wl_skip rfl rfl ?_)))
      obtain rfl := sI h
      have h := hg66; clear hg66
      refine wP (v := .bool false) rfl rfl (wl_nil (wx_then ?_))
      replace h := cf rfl h
      refine wc_cond_false rfl ?_
      refine wc_skip (wx_block (wx_then (wc_region (wP (v := .int .i64 (IntKind.wrap .i64 (zj + (1 : Int)))) rfl rfl (wP rfl rfl (wl_nil ?_))))))
      exact wx_round m34 (Nat.lt_succ_self m34) ⟨(IntKind.wrap .i64 (zj + (1 : Int))), zc, za, zf, ze, zg, zi, h, zk, zl, rfl, rfl⟩ (agree_cons rfl (agree_cons rfl (agree_cons rfl (agree_cons rfl agree_nil)))) (pSub (pH (pH (pH (pA pNil)))))
    replace h := cf hx490 h
    rcases Bool.eq_false_or_eq_true (zj == (1 : Int)) with hx491 | hx491
    · replace h := ct hx491 h
      refine wl_val (v := .pointer (some ⟨b2, 9, none⟩)) (val_ia (j := 1) tt_ok rfl rfl rfl rfl (by simpa using hx491) rfl rfl) rfl ?_
      refine wP rfl rfl (wl_nil (wx_then (wc_seq (wc_region (wP rfl rfl (wl_val (v := .pointer (some ⟨b3, 1, none⟩)) (val_ia (j := 1) tt_ok rfl rfl rfl rfl (by simpa using hx491) rfl rfl) rfl (wl_val (v := .int .u8 p1.2) (val_load tt_ok rfl (mT (mH)) rfl) rfl ?_)))))))
      replace h := bsome h; obtain ⟨v53, x53, h⟩ := h
      refine wl_cq Tryd.call52 rfl rfl rfl (q_pf (k_input_Fire x53) (fun _ _ => trivial)) rfl ?_
      refine wP rfl rfl ?_
      replace h := bsome h; obtain ⟨v60, h, hg60⟩ := h
      refine wl_split (t := 54) rfl (fun hc => ?_) (fun hc => ?_)
      · replace h := ct hc h
        refine wl_run rfl (wP rfl rfl (wl_run rfl (wP rfl rfl (wl_run rfl (wP (v := .pointer (some ⟨b2, 14, none⟩)) rfl rfl (wl_run rfl (wl_val (v := .int .u8 zc.2.Cool) (val_load tt_ok rfl (mH) rfl) rfl (wl_run rfl (wP (v := .bool (zc.2.Cool == (0 : Int))) rfl rfl ?_)))))))))
        obtain rfl := sI h
        have h := hg60; clear hg60
        refine wP (v := .bool (zc.2.Cool == (0 : Int))) rfl rfl (wP rfl rfl ?_)
        replace h := bsome h; obtain ⟨v66, h, hg66⟩ := h
        refine wl_split (t := 61) rfl (fun hc => ?_) (fun hc => ?_)
        · replace h := ct hc h
          refine wl_run rfl (wP (v := .pointer (some ⟨b2, 16, none⟩)) rfl rfl (wl_run rfl (wl_val (v := .slice zf ze zg) (val_load tt_ok rfl (mH) rfl) rfl (wl_run rfl (wl_val (v := .int .i64 (za.length : Int)) (val_len tt_ok rfl rfl zk) rfl (wl_run rfl (wP (v := .bool (decide ((za.length : Int) < (8 : Int)))) rfl rfl ?_)))))))
          obtain rfl := sI h
          have h := hg66; clear hg66
          refine wP (v := .bool (decide ((za.length : Int) < (8 : Int)))) rfl rfl (wl_nil (wx_then (wc_cond rfl (fun hc => ?_) (fun hc => ?_))))
          · replace h := ct hc h
            refine wc_seq (wc_k2 (Ls := (⟨b2, (.int .u64 v12.Frame :: .int .u64 v12.Seed :: pl14 zc [.slice zf ze zg, .int .u16 v12.Score.1, .int .u16 v12.Score.2]), 61, (0, 0)⟩ :: (⟨b3, [.int .u8 p1.1, .int .u8 p1.2], 36, (0, 0)⟩ :: (⟨b4, [.int .u64 (0 : Int), .int .u64 (0 : Int), .int .i32 (0 : Int), .int .i32 (0 : Int), .int .i32 (0 : Int), .int .i32 (0 : Int), .int .u8 (0 : Int), .int .u8 (0 : Int), .int .u8 (0 : Int), .int .i32 (0 : Int), .int .i32 (0 : Int), .int .i32 (0 : Int), .int .i32 (0 : Int), .int .u8 (0 : Int), .int .u8 (0 : Int), .int .u8 (0 : Int), .slice none 0 0, .int .u16 (0 : Int), .int .u16 (0 : Int)], 61, (0, 0)⟩ :: (zi ++ []))))) [7, 8, 9, 10, 11] [9, 10, 11] [0, 1, 0, 4, 12, 0, 32, 124, 252, 511, 1023, 2047] [0, 1, 2, 3, 4, 5, 6, 7, 8, 9, 10, 11] (by kernel_rfl) (by kernel_rfl) (by kernel_rfl) ?_)
            refine k_val (v := .pointer (some ⟨b2, 16, none⟩)) rfl rfl rfl (pSub (pH (pH (pH (pA pNil))))) (stepV_ok tt_ok rfl) rfl ?_
            refine k_val (v := .slice zf ze zg) rfl rfl rfl (pSub (pH (pH (pH (pA pNil))))) (val_load tt_ok rfl (mH) rfl) rfl ?_
            refine k_val rfl rfl rfl (pSub (pH (pH (pH (pA pNil))))) (stepV_ok tt_ok rfl) rfl ?_
            refine k_val rfl rfl rfl (pSub (pH (pH (pH (pA pNil))))) (stepV_ok tt_ok rfl) rfl ?_
            refine k_val (v := agP zc.2) rfl rfl rfl (pSub (pH (pH (pH (pA pNil))))) (val_load tt_ok rfl (mH) rfl) rfl ?_
            refine k_val rfl rfl rfl (pSub (pH (pH (pH (pA pNil))))) (stepV_ok tt_ok rfl) rfl ?_
            refine k_val (v := .int .u8 (IntKind.wrap .u8 zj)) rfl rfl rfl (pSub (pH (pH (pH (pA pNil))))) (stepV_ok tt_ok rfl) rfl ?_
            replace h := bsome h; obtain ⟨v74, x74, h⟩ := h
            refine k_cq rfl rfl rfl Tryd.call53 rfl rfl rfl (q_pf (k_step_shoot x74) (fun _ _ => trivial)) rfl (pSub (pH (pH (pH (pA pNil))))) ?_
            refine k_chg rfl rfl rfl (chg_bsv (enc := c_T_api_Shot) (xs := ([v74] : List T_api_Shot)) tt_ok rfl rfl rfl rfl rfl rfl rfl rfl c_T_api_Shot_len) rfl (.inr (by rintro _ _ ⟨_, _, _, _, rfl, _, _, rfl⟩; exact ⟨_, (pCons (sA hC) (pCons (sA hC) (pCons (sA hC) (pApp (sA hA') pNil))))⟩)) ?_
            rintro _ _ ⟨a75, n75_, c75, B75, rfl, N75, V75, rfl⟩
            replace h := bsome h; obtain ⟨v76, x76, h⟩ := h
            refine k_chg rfl rfl rfl (chg_app (enc := c_T_api_Shot) (ys := ([v74] : List T_api_Shot)) tt_ok rfl rfl rfl rfl rfl rfl zk N75 zl (sA (sC (sC (sC hA')))) (Rds.of_vec V75) ⟨_, hA'⟩ c_T_api_Shot_len (fun _ => rfl) rfl x76) rfl (.inl rfl) ?_
            rintro _ _ ⟨a76, n76_, c76, B76, rfl, N76, V76, rfl⟩
            refine k_chg rfl rfl rfl (Chg.of_val (v := .pointer (some ⟨b2, 16, none⟩)) (stepV_ok tt_ok rfl)) rfl (.inl rfl) ?_
            rintro _ _ ⟨rfl, rfl⟩
            refine k_chg0 rfl rfl rfl (chg_store tt_ok rfl (Upd.right (Upd.right Upd.here)) rfl rfl rfl rfl rfl rfl) (.inl rfl) ?_
            rintro _ _ rfl
            refine k_end (by kernel_rfl) ?_
            refine wx_then (wc_region ?_)
            iterate 2 refine wP rfl rfl ?_
            refine wP (v := .pointer (some ⟨b2, 14, none⟩)) rfl rfl ?_
            apply wl_store tt_ok; rfl; exact (Upd.right (Upd.right Upd.here)); rfl; rfl; rfl; rfl; rfl; rfl
            refine wl_nil (wx_block (wx_then (wc_region (wP (v := .int .i64 (IntKind.wrap .i64 (zj + (1 : Int)))) rfl rfl (wP rfl rfl (wl_nil ?_))))))
            exact wx_round m34 (Nat.lt_succ_self m34) ⟨(IntKind.wrap .i64 (zj + (1 : Int))), (zc.1, (T_api_Player.mk zc.2.X zc.2.Y zc.2.VX zc.2.VY zc.2.Health (10 : Int) zc.2.Face)), v76, a76, n76_, c76, B76, h, N76, V76, rfl, rfl⟩ (agree_cons rfl (agree_cons rfl (agree_cons rfl (agree_cons rfl agree_nil)))) (pSub (pCons (sA (sA hC)) (pCons (sA (sA hC)) (pCons (sA (sA hC)) (pA pNil)))))
          replace h := cf hc h
          refine wc_skip (wx_block (wx_then (wc_region (wP (v := .int .i64 (IntKind.wrap .i64 (zj + (1 : Int)))) rfl rfl (wP rfl rfl (wl_nil ?_))))))
          exact wx_round m34 (Nat.lt_succ_self m34) ⟨(IntKind.wrap .i64 (zj + (1 : Int))), zc, za, zf, ze, zg, zi, h, zk, zl, rfl, rfl⟩ (agree_cons rfl (agree_cons rfl (agree_cons rfl (agree_cons rfl agree_nil)))) (pSub (pH (pH (pH (pA pNil)))))
        replace h := cf hc h
        refine wl_skip rfl rfl (wl_skip rfl rfl (wl_skip rfl rfl (wl_skip rfl rfl ?_)))
        obtain rfl := sI h
        have h := hg66; clear hg66
        refine wP (v := .bool false) rfl rfl (wl_nil (wx_then ?_))
        replace h := cf rfl h
        refine wc_cond_false rfl ?_
        refine wc_skip (wx_block (wx_then (wc_region (wP (v := .int .i64 (IntKind.wrap .i64 (zj + (1 : Int)))) rfl rfl (wP rfl rfl (wl_nil ?_))))))
        exact wx_round m34 (Nat.lt_succ_self m34) ⟨(IntKind.wrap .i64 (zj + (1 : Int))), zc, za, zf, ze, zg, zi, h, zk, zl, rfl, rfl⟩ (agree_cons rfl (agree_cons rfl (agree_cons rfl (agree_cons rfl agree_nil)))) (pSub (pH (pH (pH (pA pNil)))))
      replace h := cf hc h
      refine wl_skip rfl rfl (wl_skip rfl rfl (wl_skip rfl rfl (wl_skip rfl rfl (wl_skip rfl rfl ?_))))
      obtain rfl := sI h
      have h := hg60; clear hg60
      refine wP (v := .bool false) rfl rfl (wP rfl rfl ?_)
      replace h := bsome h; obtain ⟨v66, h, hg66⟩ := h
      replace h := cf rfl h
      refine wl_skip rfl rfl (wl_skip rfl rfl (wl_skip rfl rfl (wl_skip rfl rfl ?_)))
      obtain rfl := sI h
      have h := hg66; clear hg66
      refine wP (v := .bool false) rfl rfl (wl_nil (wx_then ?_))
      replace h := cf rfl h
      refine wc_cond_false rfl ?_
      refine wc_skip (wx_block (wx_then (wc_region (wP (v := .int .i64 (IntKind.wrap .i64 (zj + (1 : Int)))) rfl rfl (wP rfl rfl (wl_nil ?_))))))
      exact wx_round m34 (Nat.lt_succ_self m34) ⟨(IntKind.wrap .i64 (zj + (1 : Int))), zc, za, zf, ze, zg, zi, h, zk, zl, rfl, rfl⟩ (agree_cons rfl (agree_cons rfl (agree_cons rfl (agree_cons rfl agree_nil)))) (pSub (pH (pH (pH (pA pNil)))))
    replace h := cf hx491 h
    cases h
  replace h := cf hc h
  refine wc_exit (wx_then_exit ?_)
  simp only [Option.some.injEq, Prod.mk.injEq] at h
  obtain ⟨rfl, rfl⟩ := h
  have h := hl34; clear hl34; try dsimp only [orE_l, orE_r] at h
  refine wx_then_exit (wx_block_exit (wx_then (wc_seq ?_)))
  replace h := bsome h; obtain ⟨v85, x85, h⟩ := h
  replace h := bsome h; obtain ⟨v89, x89, h⟩ := h
  refine wc_join2 (fun E L => ∃ (b8 : Nat) (b9 : Nat), E = [(2, .pointer (some ⟨b2, 0, none⟩)), (4, .pointer (some ⟨b4, 0, none⟩)), (8, .pointer (some ⟨b8, 0, none⟩)), (9, .pointer (some ⟨b9, 0, none⟩))] ∧ L = (⟨b2, (.int .u64 v12.Frame :: .int .u64 v12.Seed :: pl14 zc [.slice zf ze zg, .int .u16 v12.Score.1, .int .u16 v12.Score.2]), 61, (0, 0)⟩ :: (⟨b4, [.int .u64 (0 : Int), .int .u64 (0 : Int), .int .i32 (0 : Int), .int .i32 (0 : Int), .int .i32 (0 : Int), .int .i32 (0 : Int), .int .u8 (0 : Int), .int .u8 (0 : Int), .int .u8 (0 : Int), .int .i32 (0 : Int), .int .i32 (0 : Int), .int .i32 (0 : Int), .int .i32 (0 : Int), .int .u8 (0 : Int), .int .u8 (0 : Int), .int .u8 (0 : Int), .slice none 0 0, .int .u16 (0 : Int), .int .u16 (0 : Int)], 61, (0, 0)⟩ :: (⟨b8, (pl7 v85 []), 55, (0, 0)⟩ :: (⟨b9, (pl7 v89 []), 55, (0, 0)⟩ :: (zi ++ [])))))) ?_ ?_
  · refine wc_k2 (Ls := (⟨b2, (.int .u64 v12.Frame :: .int .u64 v12.Seed :: pl14 zc [.slice zf ze zg, .int .u16 v12.Score.1, .int .u16 v12.Score.2]), 61, (0, 0)⟩ :: (⟨b3, [.int .u8 p1.1, .int .u8 p1.2], 36, (0, 0)⟩ :: (⟨b4, [.int .u64 (0 : Int), .int .u64 (0 : Int), .int .i32 (0 : Int), .int .i32 (0 : Int), .int .i32 (0 : Int), .int .i32 (0 : Int), .int .u8 (0 : Int), .int .u8 (0 : Int), .int .u8 (0 : Int), .int .i32 (0 : Int), .int .i32 (0 : Int), .int .i32 (0 : Int), .int .i32 (0 : Int), .int .u8 (0 : Int), .int .u8 (0 : Int), .int .u8 (0 : Int), .slice none 0 0, .int .u16 (0 : Int), .int .u16 (0 : Int)], 61, (0, 0)⟩ :: (zi ++ []))))) [3, 7, 8, 9, 10, 11] [7, 10, 11] [0, 1, 3, 7, 0, 16, 48, 127, 0, 0, 1023, 2047] [0, 1, 2, 4, 5, 6] (by kernel_rfl) (by kernel_rfl) (by kernel_rfl) ?_
    refine k_val (v := .pointer (some ⟨b2, 2, none⟩)) rfl rfl rfl (pSub (pH (pH (pH (pA pNil))))) (stepV_ok tt_ok rfl) rfl ?_
    refine k_val (v := .pointer (some ⟨b2, 2, none⟩)) rfl rfl rfl (pSub (pH (pH (pH (pA pNil))))) (val_ia (j := 0) tt_ok rfl rfl rfl rfl rfl rfl rfl) rfl ?_
    refine k_val (v := agP zc.1) rfl rfl rfl (pSub (pH (pH (pH (pA pNil))))) (val_load tt_ok rfl (mH) rfl) rfl ?_
    refine k_val (v := .pointer (some ⟨b2, 2, none⟩)) rfl rfl rfl (pSub (pH (pH (pH (pA pNil))))) (stepV_ok tt_ok rfl) rfl ?_
    refine k_val (v := .pointer (some ⟨b2, 9, none⟩)) rfl rfl rfl (pSub (pH (pH (pH (pA pNil))))) (val_ia (j := 1) tt_ok rfl rfl rfl rfl rfl rfl rfl) rfl ?_
    refine k_val (v := agP zc.2) rfl rfl rfl (pSub (pH (pH (pH (pA pNil))))) (val_load tt_ok rfl (mH) rfl) rfl ?_
    refine k_three (i := 3) (j := 8) (k := 9) (t1 := []) (t2 := []) (t3 := []) (by kernel_rfl) (by kernel_rfl) (by kernel_rfl) (by kernel_rfl) (by kernel_rfl) ?_ ?_ ?_
    · refine k_cqf rfl rfl Tryd.call54 rfl rfl rfl (q_pf (k_step_moved x85) (fun _ _ => trivial)) rfl (pSub (pH (pH (pH (pA pNil))))) ?_
      refine k_three (i := 7) (j := 8) (k := 9) (t1 := []) (t2 := []) (t3 := []) (by kernel_rfl) (by kernel_rfl) (by kernel_rfl) (by kernel_rfl) (by kernel_rfl) ?_ ?_ ?_
      · refine k_cqf rfl rfl Tryd.call54 rfl rfl rfl (q_pf (k_step_moved x89) (fun _ _ => trivial)) rfl (pSub (pH (pH (pH (pA pNil))))) ?_
        refine k_two (i := 8) (j := 9) (t1 := [9, 10, 11]) (t2 := [8, 10, 11]) (by kernel_rfl) (by kernel_rfl) (by kernel_rfl) (by kernel_rfl) ?_ ?_
        · refine k_chgf rfl rfl (chg_alloc tt_ok rfl) rfl (.inr (by rintro _ _ ⟨_, rfl, rfl⟩; exact ⟨_, (pCons (sC hC) (pCons (sC hC) (pCons (sC hC) (pApp (sC hA') pNil))))⟩)) ?_
          rintro _ _ ⟨b8, rfl, rfl⟩
          refine k_chg rfl rfl rfl (chg_alloc tt_ok rfl) rfl (.inr (by rintro _ _ ⟨_, rfl, rfl⟩; exact ⟨_, (pCons (sC (sC hC)) (pCons (sC (sC hC)) (pCons (sC (sC hC)) (pApp (sC (sC hA')) pNil))))⟩)) ?_
          rintro _ _ ⟨b9, rfl, rfl⟩
          refine k_chg0 rfl rfl rfl (chg_store tt_ok rfl (Upd.there Upd.here) rfl rfl rfl rfl rfl rfl) (.inl rfl) ?_
          rintro _ _ rfl
          refine k_chg0 rfl rfl rfl (chg_store tt_ok rfl Upd.here rfl rfl rfl rfl rfl rfl) (.inl rfl) ?_
          rintro _ _ rfl
          refine k_end (by kernel_rfl) ?_
          exact wx_join ⟨b8, b9, rfl, rfl⟩ (agree_cons rfl (agree_cons rfl (agree_cons rfl (agree_cons rfl agree_nil)))) (pSub (pCons (sC (sC hC)) (pCons (sC (sC (sC hC))) (pCons (sC hC) (pH (pApp (sC hA') pNil))))))
        refine k_chgf rfl rfl (chg_alloc tt_ok rfl) rfl (.inr (by rintro _ _ ⟨_, rfl, rfl⟩; exact ⟨_, (pCons (sC hC) (pCons (sC hC) (pCons (sC hC) (pApp (sC hA') pNil))))⟩)) ?_
        rintro _ _ ⟨b9, rfl, rfl⟩
        refine k_chg rfl rfl rfl (chg_alloc tt_ok rfl) rfl (.inr (by rintro _ _ ⟨_, rfl, rfl⟩; exact ⟨_, (pCons (sC (sC hC)) (pCons (sC (sC hC)) (pCons (sC (sC hC)) (pApp (sC (sC hA')) pNil))))⟩)) ?_
        rintro _ _ ⟨b8, rfl, rfl⟩
        refine k_chg0 rfl rfl rfl (chg_store tt_ok rfl Upd.here rfl rfl rfl rfl rfl rfl) (.inl rfl) ?_
        rintro _ _ rfl
        refine k_chg0 rfl rfl rfl (chg_store tt_ok rfl (Upd.there Upd.here) rfl rfl rfl rfl rfl rfl) (.inl rfl) ?_
        rintro _ _ rfl
        refine k_end (by kernel_rfl) ?_
        exact wx_join ⟨b8, b9, rfl, rfl⟩ (agree_cons rfl (agree_cons rfl (agree_cons rfl (agree_cons rfl agree_nil)))) (pSub (pCons (sC (sC hC)) (pCons (sC (sC (sC hC))) (pH (pH (pApp (sC hA') pNil))))))
      · refine k_chgf rfl rfl (chg_alloc tt_ok rfl) rfl (.inr (by rintro _ _ ⟨_, rfl, rfl⟩; exact ⟨_, (pCons (sC hC) (pCons (sC hC) (pCons (sC hC) (pApp (sC hA') pNil))))⟩)) ?_
        rintro _ _ ⟨b8, rfl, rfl⟩
        refine k_two (i := 7) (j := 9) (t1 := [9, 10, 11]) (t2 := [7, 10, 11]) (by kernel_rfl) (by kernel_rfl) (by kernel_rfl) (by kernel_rfl) ?_ ?_
        · refine k_cqf rfl rfl Tryd.call54 rfl rfl rfl (q_pf (k_step_moved x89) (fun _ _ => trivial)) rfl (pSub (pCons (sC hC) (pCons (sC hC) (pCons (sC hC) (pApp (sC hA') pNil))))) ?_
          refine k_chg rfl rfl rfl (chg_alloc tt_ok rfl) rfl (.inr (by rintro _ _ ⟨_, rfl, rfl⟩; exact ⟨_, (pCons (sC (sC hC)) (pCons (sC (sC hC)) (pCons (sC (sC hC)) (pApp (sC (sC hA')) pNil))))⟩)) ?_
          rintro _ _ ⟨b9, rfl, rfl⟩
          refine k_chg0 rfl rfl rfl (chg_store tt_ok rfl (Upd.there Upd.here) rfl rfl rfl rfl rfl rfl) (.inl rfl) ?_
          rintro _ _ rfl
          refine k_chg0 rfl rfl rfl (chg_store tt_ok rfl Upd.here rfl rfl rfl rfl rfl rfl) (.inl rfl) ?_
          rintro _ _ rfl
          refine k_end (by kernel_rfl) ?_
          exact wx_join ⟨b8, b9, rfl, rfl⟩ (agree_cons rfl (agree_cons rfl (agree_cons rfl (agree_cons rfl agree_nil)))) (pSub (pCons (sC (sC hC)) (pCons (sC (sC (sC hC))) (pCons (sC hC) (pH (pApp (sC hA') pNil))))))
        refine k_chgf rfl rfl (chg_alloc tt_ok rfl) rfl (.inr (by rintro _ _ ⟨_, rfl, rfl⟩; exact ⟨_, (pCons (sC (sC hC)) (pCons (sC (sC hC)) (pCons (sC (sC hC)) (pApp (sC (sC hA')) pNil))))⟩)) ?_
        rintro _ _ ⟨b9, rfl, rfl⟩
        refine k_cq rfl rfl rfl Tryd.call54 rfl rfl rfl (q_pf (k_step_moved x89) (fun _ _ => trivial)) rfl (pSub (pCons (sC (sC hC)) (pCons (sC (sC hC)) (pCons (sC (sC hC)) (pApp (sC (sC hA')) pNil))))) ?_
        refine k_chg0 rfl rfl rfl (chg_store tt_ok rfl (Upd.there Upd.here) rfl rfl rfl rfl rfl rfl) (.inl rfl) ?_
        rintro _ _ rfl
        refine k_chg0 rfl rfl rfl (chg_store tt_ok rfl Upd.here rfl rfl rfl rfl rfl rfl) (.inl rfl) ?_
        rintro _ _ rfl
        refine k_end (by kernel_rfl) ?_
        exact wx_join ⟨b8, b9, rfl, rfl⟩ (agree_cons rfl (agree_cons rfl (agree_cons rfl (agree_cons rfl agree_nil)))) (pSub (pCons (sC (sC hC)) (pCons (sC (sC (sC hC))) (pCons (sC hC) (pH (pApp (sC hA') pNil))))))
      refine k_chgf rfl rfl (chg_alloc tt_ok rfl) rfl (.inr (by rintro _ _ ⟨_, rfl, rfl⟩; exact ⟨_, (pCons (sC hC) (pCons (sC hC) (pCons (sC hC) (pApp (sC hA') pNil))))⟩)) ?_
      rintro _ _ ⟨b9, rfl, rfl⟩
      refine k_two (i := 7) (j := 8) (t1 := [8, 10, 11]) (t2 := [7, 10, 11]) (by kernel_rfl) (by kernel_rfl) (by kernel_rfl) (by kernel_rfl) ?_ ?_
      · refine k_cqf rfl rfl Tryd.call54 rfl rfl rfl (q_pf (k_step_moved x89) (fun _ _ => trivial)) rfl (pSub (pCons (sC hC) (pCons (sC hC) (pCons (sC hC) (pApp (sC hA') pNil))))) ?_
        refine k_chg rfl rfl rfl (chg_alloc tt_ok rfl) rfl (.inr (by rintro _ _ ⟨_, rfl, rfl⟩; exact ⟨_, (pCons (sC (sC hC)) (pCons (sC (sC hC)) (pCons (sC (sC hC)) (pApp (sC (sC hA')) pNil))))⟩)) ?_
        rintro _ _ ⟨b8, rfl, rfl⟩
        refine k_chg0 rfl rfl rfl (chg_store tt_ok rfl Upd.here rfl rfl rfl rfl rfl rfl) (.inl rfl) ?_
        rintro _ _ rfl
        refine k_chg0 rfl rfl rfl (chg_store tt_ok rfl (Upd.there Upd.here) rfl rfl rfl rfl rfl rfl) (.inl rfl) ?_
        rintro _ _ rfl
        refine k_end (by kernel_rfl) ?_
        exact wx_join ⟨b8, b9, rfl, rfl⟩ (agree_cons rfl (agree_cons rfl (agree_cons rfl (agree_cons rfl agree_nil)))) (pSub (pCons (sC (sC hC)) (pCons (sC (sC (sC hC))) (pH (pH (pApp (sC hA') pNil))))))
      refine k_chgf rfl rfl (chg_alloc tt_ok rfl) rfl (.inr (by rintro _ _ ⟨_, rfl, rfl⟩; exact ⟨_, (pCons (sC (sC hC)) (pCons (sC (sC hC)) (pCons (sC (sC hC)) (pApp (sC (sC hA')) pNil))))⟩)) ?_
      rintro _ _ ⟨b8, rfl, rfl⟩
      refine k_cq rfl rfl rfl Tryd.call54 rfl rfl rfl (q_pf (k_step_moved x89) (fun _ _ => trivial)) rfl (pSub (pCons (sC (sC hC)) (pCons (sC (sC hC)) (pCons (sC (sC hC)) (pApp (sC (sC hA')) pNil))))) ?_
      refine k_chg0 rfl rfl rfl (chg_store tt_ok rfl Upd.here rfl rfl rfl rfl rfl rfl) (.inl rfl) ?_
      rintro _ _ rfl
      refine k_chg0 rfl rfl rfl (chg_store tt_ok rfl (Upd.there Upd.here) rfl rfl rfl rfl rfl rfl) (.inl rfl) ?_
      rintro _ _ rfl
      refine k_end (by kernel_rfl) ?_
      exact wx_join ⟨b8, b9, rfl, rfl⟩ (agree_cons rfl (agree_cons rfl (agree_cons rfl (agree_cons rfl agree_nil)))) (pSub (pCons (sC (sC hC)) (pCons (sC (sC (sC hC))) (pH (pH (pApp (sC hA') pNil))))))
    · refine k_chgf rfl rfl (chg_alloc tt_ok rfl) rfl (.inr (by rintro _ _ ⟨_, rfl, rfl⟩; exact ⟨_, (pCons (sC hC) (pCons (sC hC) (pCons (sC hC) (pApp (sC hA') pNil))))⟩)) ?_
      rintro _ _ ⟨b8, rfl, rfl⟩
      refine k_two (i := 3) (j := 9) (t1 := []) (t2 := [3, 7, 10, 11]) (by kernel_rfl) (by kernel_rfl) (by kernel_rfl) (by kernel_rfl) ?_ ?_
      · refine k_cqf rfl rfl Tryd.call54 rfl rfl rfl (q_pf (k_step_moved x85) (fun _ _ => trivial)) rfl (pSub (pCons (sC hC) (pCons (sC hC) (pCons (sC hC) (pApp (sC hA') pNil))))) ?_
        refine k_two (i := 7) (j := 9) (t1 := [9, 10, 11]) (t2 := [7, 10, 11]) (by kernel_rfl) (by kernel_rfl) (by kernel_rfl) (by kernel_rfl) ?_ ?_
        · refine k_cqf rfl rfl Tryd.call54 rfl rfl rfl (q_pf (k_step_moved x89) (fun _ _ => trivial)) rfl (pSub (pCons (sC hC) (pCons (sC hC) (pCons (sC hC) (pApp (sC hA') pNil))))) ?_
          refine k_chg rfl rfl rfl (chg_alloc tt_ok rfl) rfl (.inr (by rintro _ _ ⟨_, rfl, rfl⟩; exact ⟨_, (pCons (sC (sC hC)) (pCons (sC (sC hC)) (pCons (sC (sC hC)) (pApp (sC (sC hA')) pNil))))⟩)) ?_
          rintro _ _ ⟨b9, rfl, rfl⟩
          refine k_chg0 rfl rfl rfl (chg_store tt_ok rfl (Upd.there Upd.here) rfl rfl rfl rfl rfl rfl) (.inl rfl) ?_
          rintro _ _ rfl
          refine k_chg0 rfl rfl rfl (chg_store tt_ok rfl Upd.here rfl rfl rfl rfl rfl rfl) (.inl rfl) ?_
          rintro _ _ rfl
          refine k_end (by kernel_rfl) ?_
          exact wx_join ⟨b8, b9, rfl, rfl⟩ (agree_cons rfl (agree_cons rfl (agree_cons rfl (agree_cons rfl agree_nil)))) (pSub (pCons (sC (sC hC)) (pCons (sC (sC (sC hC))) (pCons (sC hC) (pH (pApp (sC hA') pNil))))))
        refine k_chgf rfl rfl (chg_alloc tt_ok rfl) rfl (.inr (by rintro _ _ ⟨_, rfl, rfl⟩; exact ⟨_, (pCons (sC (sC hC)) (pCons (sC (sC hC)) (pCons (sC (sC hC)) (pApp (sC (sC hA')) pNil))))⟩)) ?_
        rintro _ _ ⟨b9, rfl, rfl⟩
        refine k_cq rfl rfl rfl Tryd.call54 rfl rfl rfl (q_pf (k_step_moved x89) (fun _ _ => trivial)) rfl (pSub (pCons (sC (sC hC)) (pCons (sC (sC hC)) (pCons (sC (sC hC)) (pApp (sC (sC hA')) pNil))))) ?_
        refine k_chg0 rfl rfl rfl (chg_store tt_ok rfl (Upd.there Upd.here) rfl rfl rfl rfl rfl rfl) (.inl rfl) ?_
        rintro _ _ rfl
        refine k_chg0 rfl rfl rfl (chg_store tt_ok rfl Upd.here rfl rfl rfl rfl rfl rfl) (.inl rfl) ?_
        rintro _ _ rfl
        refine k_end (by kernel_rfl) ?_
        exact wx_join ⟨b8, b9, rfl, rfl⟩ (agree_cons rfl (agree_cons rfl (agree_cons rfl (agree_cons rfl agree_nil)))) (pSub (pCons (sC (sC hC)) (pCons (sC (sC (sC hC))) (pCons (sC hC) (pH (pApp (sC hA') pNil))))))
      refine k_chgf rfl rfl (chg_alloc tt_ok rfl) rfl (.inr (by rintro _ _ ⟨_, rfl, rfl⟩; exact ⟨_, (pCons (sC (sC hC)) (pCons (sC (sC hC)) (pCons (sC (sC hC)) (pApp (sC (sC hA')) pNil))))⟩)) ?_
      rintro _ _ ⟨b9, rfl, rfl⟩
      refine k_cq rfl rfl rfl Tryd.call54 rfl rfl rfl (q_pf (k_step_moved x85) (fun _ _ => trivial)) rfl (pSub (pCons (sC (sC hC)) (pCons (sC (sC hC)) (pCons (sC (sC hC)) (pApp (sC (sC hA')) pNil))))) ?_
      refine k_cq rfl rfl rfl Tryd.call54 rfl rfl rfl (q_pf (k_step_moved x89) (fun _ _ => trivial)) rfl (pSub (pCons (sC (sC hC)) (pCons (sC (sC hC)) (pCons (sC (sC hC)) (pApp (sC (sC hA')) pNil))))) ?_
      refine k_chg0 rfl rfl rfl (chg_store tt_ok rfl (Upd.there Upd.here) rfl rfl rfl rfl rfl rfl) (.inl rfl) ?_
      rintro _ _ rfl
      refine k_chg0 rfl rfl rfl (chg_store tt_ok rfl Upd.here rfl rfl rfl rfl rfl rfl) (.inl rfl) ?_
      rintro _ _ rfl
      refine k_end (by kernel_rfl) ?_
      exact wx_join ⟨b8, b9, rfl, rfl⟩ (agree_cons rfl (agree_cons rfl (agree_cons rfl (agree_cons rfl agree_nil)))) (pSub (pCons (sC (sC hC)) (pCons (sC (sC (sC hC))) (pCons (sC hC) (pH (pApp (sC hA') pNil))))))
    refine k_chgf rfl rfl (chg_alloc tt_ok rfl) rfl (.inr (by rintro _ _ ⟨_, rfl, rfl⟩; exact ⟨_, (pCons (sC hC) (pCons (sC hC) (pCons (sC hC) (pApp (sC hA') pNil))))⟩)) ?_
    rintro _ _ ⟨b9, rfl, rfl⟩
    refine k_two (i := 3) (j := 8) (t1 := []) (t2 := [3, 7, 10, 11]) (by kernel_rfl) (by kernel_rfl) (by kernel_rfl) (by kernel_rfl) ?_ ?_
    · refine k_cqf rfl rfl Tryd.call54 rfl rfl rfl (q_pf (k_step_moved x85) (fun _ _ => trivial)) rfl (pSub (pCons (sC hC) (pCons (sC hC) (pCons (sC hC) (pApp (sC hA') pNil))))) ?_
      refine k_two (i := 7) (j := 8) (t1 := [8, 10, 11]) (t2 := [7, 10, 11]) (by kernel_rfl) (by kernel_rfl) (by kernel_rfl) (by kernel_rfl) ?_ ?_
      · refine k_cqf rfl rfl Tryd.call54 rfl rfl rfl (q_pf (k_step_moved x89) (fun _ _ => trivial)) rfl (pSub (pCons (sC hC) (pCons (sC hC) (pCons (sC hC) (pApp (sC hA') pNil))))) ?_
        refine k_chg rfl rfl rfl (chg_alloc tt_ok rfl) rfl (.inr (by rintro _ _ ⟨_, rfl, rfl⟩; exact ⟨_, (pCons (sC (sC hC)) (pCons (sC (sC hC)) (pCons (sC (sC hC)) (pApp (sC (sC hA')) pNil))))⟩)) ?_
        rintro _ _ ⟨b8, rfl, rfl⟩
        refine k_chg0 rfl rfl rfl (chg_store tt_ok rfl Upd.here rfl rfl rfl rfl rfl rfl) (.inl rfl) ?_
        rintro _ _ rfl
        refine k_chg0 rfl rfl rfl (chg_store tt_ok rfl (Upd.there Upd.here) rfl rfl rfl rfl rfl rfl) (.inl rfl) ?_
        rintro _ _ rfl
        refine k_end (by kernel_rfl) ?_
        exact wx_join ⟨b8, b9, rfl, rfl⟩ (agree_cons rfl (agree_cons rfl (agree_cons rfl (agree_cons rfl agree_nil)))) (pSub (pCons (sC (sC hC)) (pCons (sC (sC (sC hC))) (pH (pH (pApp (sC hA') pNil))))))
      refine k_chgf rfl rfl (chg_alloc tt_ok rfl) rfl (.inr (by rintro _ _ ⟨_, rfl, rfl⟩; exact ⟨_, (pCons (sC (sC hC)) (pCons (sC (sC hC)) (pCons (sC (sC hC)) (pApp (sC (sC hA')) pNil))))⟩)) ?_
      rintro _ _ ⟨b8, rfl, rfl⟩
      refine k_cq rfl rfl rfl Tryd.call54 rfl rfl rfl (q_pf (k_step_moved x89) (fun _ _ => trivial)) rfl (pSub (pCons (sC (sC hC)) (pCons (sC (sC hC)) (pCons (sC (sC hC)) (pApp (sC (sC hA')) pNil))))) ?_
      refine k_chg0 rfl rfl rfl (chg_store tt_ok rfl Upd.here rfl rfl rfl rfl rfl rfl) (.inl rfl) ?_
      rintro _ _ rfl
      refine k_chg0 rfl rfl rfl (chg_store tt_ok rfl (Upd.there Upd.here) rfl rfl rfl rfl rfl rfl) (.inl rfl) ?_
      rintro _ _ rfl
      refine k_end (by kernel_rfl) ?_
      exact wx_join ⟨b8, b9, rfl, rfl⟩ (agree_cons rfl (agree_cons rfl (agree_cons rfl (agree_cons rfl agree_nil)))) (pSub (pCons (sC (sC hC)) (pCons (sC (sC (sC hC))) (pH (pH (pApp (sC hA') pNil))))))
    refine k_chgf rfl rfl (chg_alloc tt_ok rfl) rfl (.inr (by rintro _ _ ⟨_, rfl, rfl⟩; exact ⟨_, (pCons (sC (sC hC)) (pCons (sC (sC hC)) (pCons (sC (sC hC)) (pApp (sC (sC hA')) pNil))))⟩)) ?_
    rintro _ _ ⟨b8, rfl, rfl⟩
    refine k_cq rfl rfl rfl Tryd.call54 rfl rfl rfl (q_pf (k_step_moved x85) (fun _ _ => trivial)) rfl (pSub (pCons (sC (sC hC)) (pCons (sC (sC hC)) (pCons (sC (sC hC)) (pApp (sC (sC hA')) pNil))))) ?_
    refine k_cq rfl rfl rfl Tryd.call54 rfl rfl rfl (q_pf (k_step_moved x89) (fun _ _ => trivial)) rfl (pSub (pCons (sC (sC hC)) (pCons (sC (sC hC)) (pCons (sC (sC hC)) (pApp (sC (sC hA')) pNil))))) ?_
    refine k_chg0 rfl rfl rfl (chg_store tt_ok rfl Upd.here rfl rfl rfl rfl rfl rfl) (.inl rfl) ?_
    rintro _ _ rfl
    refine k_chg0 rfl rfl rfl (chg_store tt_ok rfl (Upd.there Upd.here) rfl rfl rfl rfl rfl rfl) (.inl rfl) ?_
    rintro _ _ rfl
    refine k_end (by kernel_rfl) ?_
    exact wx_join ⟨b8, b9, rfl, rfl⟩ (agree_cons rfl (agree_cons rfl (agree_cons rfl (agree_cons rfl agree_nil)))) (pSub (pCons (sC (sC hC)) (pCons (sC (sC (sC hC))) (pH (pH (pApp (sC hA') pNil))))))
  rintro _ _ ⟨b8, b9, rfl, rfl⟩
  refine wc_seq (wc_seq (wc_quiet (by kernel_rfl) (by kernel_rfl) (wq_val (v := agP v85) (val_load tt_ok rfl (mT (mT (mH))) rfl) rfl ?_)))
  replace h := bsome h; obtain ⟨v91, x91, h⟩ := h
  refine wq_cq Tryd.call56 rfl rfl rfl (q_pf (k_step_box x91) (fun _ _ => trivial)) rfl ?_
  refine wq_val (v := agP v89) (val_load tt_ok rfl (mT (mT (mT (mH)))) rfl) rfl ?_
  replace h := bsome h; obtain ⟨v93, x93, h⟩ := h
  refine wq_cq Tryd.call56 rfl rfl rfl (q_pf (k_step_box x93) (fun _ _ => trivial)) rfl ?_
  replace h := bsome h; obtain ⟨v94, x94, h⟩ := h
  refine wq_cq Tryd.call55 rfl rfl rfl (q_pf (k_geom_Over x94) (fun _ _ => trivial)) rfl ?_
  refine wq_nil (wx_then ?_)
  replace h := bsome h; obtain ⟨⟨zx, zy⟩, h, hj60⟩ := h; try dsimp only at hj60
  refine wc_join2 (fun E L => E = [(2, .pointer (some ⟨b2, 0, none⟩)), (4, .pointer (some ⟨b4, 0, none⟩)), (8, .pointer (some ⟨b8, 0, none⟩)), (9, .pointer (some ⟨b9, 0, none⟩))] ∧ L = (⟨b2, (.int .u64 v12.Frame :: .int .u64 v12.Seed :: pl14 zc [.slice zf ze zg, .int .u16 v12.Score.1, .int .u16 v12.Score.2]), 61, (0, 0)⟩ :: (⟨b4, [.int .u64 (0 : Int), .int .u64 (0 : Int), .int .i32 (0 : Int), .int .i32 (0 : Int), .int .i32 (0 : Int), .int .i32 (0 : Int), .int .u8 (0 : Int), .int .u8 (0 : Int), .int .u8 (0 : Int), .int .i32 (0 : Int), .int .i32 (0 : Int), .int .i32 (0 : Int), .int .i32 (0 : Int), .int .u8 (0 : Int), .int .u8 (0 : Int), .int .u8 (0 : Int), .slice none 0 0, .int .u16 (0 : Int), .int .u16 (0 : Int)], 61, (0, 0)⟩ :: (⟨b8, (pl7 zx []), 55, (0, 0)⟩ :: (⟨b9, (pl7 zy []), 55, (0, 0)⟩ :: (zi ++ [])))))) ?_ ?_
  · refine wc_cond rfl (fun hc => ?_) (fun hc => ?_)
    · replace h := ct hc h
      refine wc_k2 (Ls := (⟨b2, (.int .u64 v12.Frame :: .int .u64 v12.Seed :: pl14 zc [.slice zf ze zg, .int .u16 v12.Score.1, .int .u16 v12.Score.2]), 61, (0, 0)⟩ :: (⟨b4, [.int .u64 (0 : Int), .int .u64 (0 : Int), .int .i32 (0 : Int), .int .i32 (0 : Int), .int .i32 (0 : Int), .int .i32 (0 : Int), .int .u8 (0 : Int), .int .u8 (0 : Int), .int .u8 (0 : Int), .int .i32 (0 : Int), .int .i32 (0 : Int), .int .i32 (0 : Int), .int .i32 (0 : Int), .int .u8 (0 : Int), .int .u8 (0 : Int), .int .u8 (0 : Int), .slice none 0 0, .int .u16 (0 : Int), .int .u16 (0 : Int)], 61, (0, 0)⟩ :: (⟨b8, (pl7 v85 []), 55, (0, 0)⟩ :: (⟨b9, (pl7 v89 []), 55, (0, 0)⟩ :: (zi ++ [])))))) [3, 7, 8, 9] [7, 8, 9] [0, 1, 3, 7, 0, 16, 48, 127, 255, 511] [0, 1, 2, 4, 5, 6, 3, 7, 8, 9] (by kernel_rfl) (by kernel_rfl) (by kernel_rfl) ?_
      refine k_val (v := .pointer (some ⟨b2, 2, none⟩)) rfl rfl rfl (pSub (pH (pH (pH (pH (pA pNil)))))) (stepV_ok tt_ok rfl) rfl ?_
      refine k_val (v := .pointer (some ⟨b2, 2, none⟩)) rfl rfl rfl (pSub (pH (pH (pH (pH (pA pNil)))))) (val_ia (j := 0) tt_ok rfl rfl rfl rfl rfl rfl rfl) rfl ?_
      refine k_val (v := agP zc.1) rfl rfl rfl (pSub (pH (pH (pH (pH (pA pNil)))))) (val_load tt_ok rfl (mH) rfl) rfl ?_
      refine k_val (v := .pointer (some ⟨b2, 2, none⟩)) rfl rfl rfl (pSub (pH (pH (pH (pH (pA pNil)))))) (stepV_ok tt_ok rfl) rfl ?_
      refine k_val (v := .pointer (some ⟨b2, 9, none⟩)) rfl rfl rfl (pSub (pH (pH (pH (pH (pA pNil)))))) (val_ia (j := 1) tt_ok rfl rfl rfl rfl rfl rfl rfl) rfl ?_
      refine k_val (v := agP zc.2) rfl rfl rfl (pSub (pH (pH (pH (pH (pA pNil)))))) (val_load tt_ok rfl (mH) rfl) rfl ?_
      replace h := bsome h; obtain ⟨v98, x98, h⟩ := h
      refine k_cq rfl rfl rfl Tryd.call57 rfl rfl rfl (q_pf (k_step_stopped x98) (fun _ _ => trivial)) rfl (pSub (pH (pH (pH (pH (pA pNil)))))) ?_
      replace h := bsome h; obtain ⟨v102, x102, h⟩ := h
      refine k_cq rfl rfl rfl Tryd.call57 rfl rfl rfl (q_pf (k_step_stopped x102) (fun _ _ => trivial)) rfl (pSub (pH (pH (pH (pH (pA pNil)))))) ?_
      refine k_chg0 rfl rfl rfl (chg_store tt_ok rfl (Upd.there (Upd.there Upd.here)) rfl rfl rfl rfl rfl rfl) (.inl rfl) ?_
      rintro _ _ rfl
      refine k_chg0 rfl rfl rfl (chg_store tt_ok rfl (Upd.there (Upd.there (Upd.there Upd.here))) rfl rfl rfl rfl rfl rfl) (.inl rfl) ?_
      rintro _ _ rfl
      refine k_end (by kernel_rfl) ?_
      simp only [Option.some.injEq, Prod.mk.injEq] at h
      obtain ⟨rfl, rfl⟩ := h
      exact wx_join ⟨rfl, rfl⟩ (agree_cons rfl (agree_cons rfl (agree_cons rfl (agree_cons rfl agree_nil)))) (pSub (pH (pH (pH (pH (pA pNil))))))
    replace h := cf hc h
    refine wc_skip ?_
    simp only [Option.some.injEq, Prod.mk.injEq] at h
    obtain ⟨rfl, rfl⟩ := h
    exact wx_join ⟨rfl, rfl⟩ (agree_cons rfl (agree_cons rfl (agree_cons rfl (agree_cons rfl agree_nil)))) (pSub (pH (pH (pH (pH (pA pNil))))))
  rintro _ _ ⟨rfl, rfl⟩
  have h := hj60; clear hj60
  refine wc_seq (wc_region (wl_val (v := agP zx) (val_load tt_ok rfl (mT (mT (mH))) rfl) rfl (wl_val (v := agP zy) (val_load tt_ok rfl (mT (mT (mT (mH)))) rfl) rfl (wP (v := .agg #[.int .i32 zx.X, .int .i32 zx.Y, .int .i32 zx.VX, .int .i32 zx.VY, .int .u8 zx.Health, .int .u8 zx.Cool, .int .u8 zx.Face, .int .i32 zy.X, .int .i32 zy.Y, .int .i32 zy.VX, .int .i32 zy.VY, .int .u8 zy.Health, .int .u8 zy.Cool, .int .u8 zy.Face]) rfl rfl ?_))))
  refine wP (v := .pointer (some ⟨b2, 2, none⟩)) rfl rfl ?_
  apply wl_store tt_ok; rfl; exact Upd.here; rfl; rfl; rfl; rfl; rfl; rfl
  refine wl_nil (wx_then (wc_seq (wc_region ?_)))
  replace h := bsome h; obtain ⟨zm, x107, h⟩ := h
  refine wl_cs Tryd.call58 rfl rfl rfl (s_sp (k_step_fly (p0 := (T_api_State.mk v12.Frame v12.Seed (zx, zy) za v12.Score)) zk zl x107) (pH (pApp (sC (sC (sC hA'))) pNil)) (fun _ _ => trivial)) rfl ?_
  rintro _ _ ⟨_, ⟨zas, zau, zat, zap, zaq, zar, rfl, rfl⟩, rfl⟩
  refine wl_nil (wx_then (wc_seq (wc_seq (wc_region (wP rfl rfl (wl_nil (wx_then (wc_block ?_))))))))
  replace h := bsome h; obtain ⟨⟨zak, zal, zam, zan, zao⟩, h, hl71⟩ := h; try dsimp only at hl71
  refine wc_loop (fun m E L => ∃ (zn : Int) (zo : Int) (zu : Int) (zd : (T_api_Player × T_api_Player)) (zb : (List T_api_Shot)) (zq : (Int × Int)) (zs : Option Addr) (zp : Nat) (zt : Nat) (zv : List Blk), m_step_Step_L70 F m zn zo zu zd zb zq = some (zak, zal, zam, zan, zao) ∧ zp = zb.length ∧ Own 92 6 zs zp zt (flat c_T_api_Shot zb) zv ∧ E = [(2, .pointer (some ⟨b2, 0, none⟩)), (4, .pointer (some ⟨b4, 0, none⟩)), (108, .int .i64 zn)] ∧ L = (⟨b2, (.int .u64 zo :: .int .u64 zu :: pl14 zd [.slice zs zp zt, .int .u16 zq.1, .int .u16 zq.2]), 61, (0, 0)⟩ :: (⟨b4, [.int .u64 (0 : Int), .int .u64 (0 : Int), .int .i32 (0 : Int), .int .i32 (0 : Int), .int .i32 (0 : Int), .int .i32 (0 : Int), .int .u8 (0 : Int), .int .u8 (0 : Int), .int .u8 (0 : Int), .int .i32 (0 : Int), .int .i32 (0 : Int), .int .i32 (0 : Int), .int .i32 (0 : Int), .int .u8 (0 : Int), .int .u8 (0 : Int), .int .u8 (0 : Int), .slice none 0 0, .int .u16 (0 : Int), .int .u16 (0 : Int)], 61, (0, 0)⟩ :: (zv ++ [])))) F ⟨(0 : Int), zm.Frame, zm.Seed, zm.Players, zm.Shots, zm.Score, zas, zau, zat, zap, h, zaq, zar, rfl, rfl⟩ (agree_cons rfl (agree_cons rfl (agree_cons rfl agree_nil))) (pSub (pH (pCons (sA hC) (pA pNil)))) ?_
  clear h
  rintro m71 _ _ ⟨zn, zo, zu, zd, zb, zq, zs, zp, zt, zv, h, zz, zaa, rfl, rfl⟩
  rcases m71 with _ | m71
  · rw [m_step_Step_L70.eq_1] at h; cases h
  rw [m_step_Step_L70.eq_2] at h
  refine wc_seq (wc_region (wP (v := .bool (decide (zn < (2 : Int)))) rfl rfl (wl_nil (wx_then (wc_seq (wc_cond rfl (fun hc => ?_) (fun hc => ?_)))))))
  · replace h := ct hc h
    refine wc_skip (wx_then (wc_seq (wc_block (wc_seq (wc_region ?_)))))
    iterate 2 refine wP rfl rfl ?_
    refine wl_nil (wx_then (wc_seq (wc_region (wP rfl rfl (wP (v := .pointer (some ⟨b2, 2, none⟩)) rfl rfl ?_)))))
    rcases Bool.eq_false_or_eq_true (zn == (0 : Int)) with hx1130 | hx1130
    · replace h := ct hx1130 h
      refine wl_val (v := .pointer (some ⟨b2, 2, none⟩)) (val_ia (j := 0) tt_ok rfl rfl rfl rfl (by simpa using hx1130) rfl rfl) rfl ?_
      refine wP (v := .pointer (some ⟨b2, 6, none⟩)) rfl rfl (wl_val (v := .int .u8 zd.1.Health) (val_load tt_ok rfl (mH) rfl) rfl (wP (v := .bool (zd.1.Health == (0 : Int))) rfl rfl (wl_nil (wx_then (wc_cond rfl (fun hc => ?_) (fun hc => ?_))))))
      · replace h := ct hc h
        refine wc_region (wP rfl rfl ?_)
        replace h := bsome h; obtain ⟨zh, x118, h⟩ := h
        refine wl_cs Tryd.call59 rfl rfl rfl (s_sp (k_step_revive (p0 := (T_api_State.mk zo zu zd zb zq)) zz zaa x118) (pH (pApp (sC hA') pNil)) (fun _ _ => trivial)) rfl ?_
        rintro _ _ ⟨_, ⟨zae, zag, zaf, zab, zac, zad, rfl, rfl⟩, rfl⟩
        refine wl_nil (wx_block (wx_then (wc_region (wP (v := .int .i64 (IntKind.wrap .i64 (zn + (1 : Int)))) rfl rfl (wP rfl rfl (wl_nil ?_))))))
        exact wx_round m71 (Nat.lt_succ_self m71) ⟨(IntKind.wrap .i64 (zn + (1 : Int))), zh.Frame, zh.Seed, zh.Players, zh.Shots, zh.Score, zae, zag, zaf, zab, h, zac, zad, rfl, rfl⟩ (agree_cons rfl (agree_cons rfl (agree_cons rfl agree_nil))) (pSub (pH (pCons (sA hC) (pA pNil))))
      replace h := cf hc h
      refine wc_skip (wx_block (wx_then (wc_region (wP (v := .int .i64 (IntKind.wrap .i64 (zn + (1 : Int)))) rfl rfl (wP rfl rfl (wl_nil ?_))))))
      exact wx_round m71 (Nat.lt_succ_self m71) ⟨(IntKind.wrap .i64 (zn + (1 : Int))), zo, zu, zd, zb, zq, zs, zp, zt, zv, h, zz, zaa, rfl, rfl⟩ (agree_cons rfl (agree_cons rfl (agree_cons rfl agree_nil))) (pSub (pH (pH (pA pNil))))
    replace h := cf hx1130 h
    rcases Bool.eq_false_or_eq_true (zn == (1 : Int)) with hx1131 | hx1131
    · replace h := ct hx1131 h
      refine wl_val (v := .pointer (some ⟨b2, 9, none⟩)) (val_ia (j := 1) tt_ok rfl rfl rfl rfl (by simpa using hx1131) rfl rfl) rfl ?_
      refine wP (v := .pointer (some ⟨b2, 13, none⟩)) rfl rfl (wl_val (v := .int .u8 zd.2.Health) (val_load tt_ok rfl (mH) rfl) rfl (wP (v := .bool (zd.2.Health == (0 : Int))) rfl rfl (wl_nil (wx_then (wc_cond rfl (fun hc => ?_) (fun hc => ?_))))))
      · replace h := ct hc h
        refine wc_region (wP rfl rfl ?_)
        replace h := bsome h; obtain ⟨zh, x118, h⟩ := h
        refine wl_cs Tryd.call59 rfl rfl rfl (s_sp (k_step_revive (p0 := (T_api_State.mk zo zu zd zb zq)) zz zaa x118) (pH (pApp (sC hA') pNil)) (fun _ _ => trivial)) rfl ?_
        rintro _ _ ⟨_, ⟨zae, zag, zaf, zab, zac, zad, rfl, rfl⟩, rfl⟩
        refine wl_nil (wx_block (wx_then (wc_region (wP (v := .int .i64 (IntKind.wrap .i64 (zn + (1 : Int)))) rfl rfl (wP rfl rfl (wl_nil ?_))))))
        exact wx_round m71 (Nat.lt_succ_self m71) ⟨(IntKind.wrap .i64 (zn + (1 : Int))), zh.Frame, zh.Seed, zh.Players, zh.Shots, zh.Score, zae, zag, zaf, zab, h, zac, zad, rfl, rfl⟩ (agree_cons rfl (agree_cons rfl (agree_cons rfl agree_nil))) (pSub (pH (pCons (sA hC) (pA pNil))))
      replace h := cf hc h
      refine wc_skip (wx_block (wx_then (wc_region (wP (v := .int .i64 (IntKind.wrap .i64 (zn + (1 : Int)))) rfl rfl (wP rfl rfl (wl_nil ?_))))))
      exact wx_round m71 (Nat.lt_succ_self m71) ⟨(IntKind.wrap .i64 (zn + (1 : Int))), zo, zu, zd, zb, zq, zs, zp, zt, zv, h, zz, zaa, rfl, rfl⟩ (agree_cons rfl (agree_cons rfl (agree_cons rfl agree_nil))) (pSub (pH (pH (pA pNil))))
    replace h := cf hx1131 h
    cases h
  replace h := cf hc h
  refine wc_exit (wx_then_exit ?_)
  simp only [Option.some.injEq, Prod.mk.injEq] at h
  obtain ⟨rfl, rfl, rfl, rfl, rfl⟩ := h
  have h := hl71; clear hl71; try dsimp only [orE_l, orE_r] at h
  refine wx_then_exit (wx_block_exit (wx_then (wc_seq (wc_region ?_))))
  refine wP (v := .pointer (some ⟨b2, 0, none⟩)) rfl rfl (wl_val (v := .int .u64 zo) (val_load tt_ok rfl (mH) rfl) rfl (wP (v := .int .u64 (IntKind.wrap .u64 (zo + (1 : Int)))) rfl rfl (wP (v := .pointer (some ⟨b2, 0, none⟩)) rfl rfl ?_)))
  apply wl_store tt_ok; rfl; exact Upd.here; rfl; rfl; rfl; rfl; rfl; rfl
  refine wl_nil (wx_then (wc_seq (wc_region (wl_val (v := .agg #[.int .u64 (IntKind.wrap .u64 (zo + (1 : Int))), .int .u64 zu, .int .i32 zd.1.X, .int .i32 zd.1.Y, .int .i32 zd.1.VX, .int .i32 zd.1.VY, .int .u8 zd.1.Health, .int .u8 zd.1.Cool, .int .u8 zd.1.Face, .int .i32 zd.2.X, .int .i32 zd.2.Y, .int .i32 zd.2.VX, .int .i32 zd.2.VY, .int .u8 zd.2.Health, .int .u8 zd.2.Cool, .int .u8 zd.2.Face, .slice zs zp zt, .int .u16 zq.1, .int .u16 zq.2]) (val_load tt_ok rfl (mH) rfl) rfl ?_))))
  apply wl_store tt_ok; rfl; exact (Upd.there Upd.here); rfl; rfl; rfl; rfl; rfl; rfl
  refine wl_nil (wx_then (wc_ret ?_))
  obtain rfl := sI h
  exact wx_spD tt_ok (.inl rfl) Tryd.results36 (Res.cell rfl (mT (mH)) rfl Res.nil) ⟨zs, zp, zt, zv, zz, zaa, rfl, rfl⟩ (fun F => by simp) (pSub (pApp (sC (sC hA')) pNil))

theorem k_rollback_Engine_Confirm_nil0 {F : Nat} {p1 : Int} {r0 : (Int × Int)} {r1 : Bool} (h : m_rollback_Engine_Confirm_nil0 F p1 = some (r0, r1)) :
    Pf Tryd.prog 14 [.pointer none, .int .u64 p1] (fun w => True) (.tuple #[.agg #[.int .u8 r0.1, .int .u8 r0.2], .bool r1]) := by
  unfold m_rollback_Engine_Confirm_nil0 at h
  refine pf_of_wc Tryd.func14 rfl Tryd.ntmps14 rfl rfl (fun w0 hR => ?_)
  refine wc_seq (wc_region (wl_alloc tt_ok rfl rfl (fun b4 => (wP rfl rfl (wl_nil (wx_then (wc_seq (wc_region (wP rfl rfl ?_)))))))))
  replace h := bsome h; obtain ⟨⟨zb, za⟩, x10, h⟩ := h; try dsimp only at h
  refine wl_cq Tryd.call35 rfl rfl rfl (q_pf (k_rollback_Engine_Next_nil0 x10) (fun _ _ => trivial)) rfl ?_
  iterate 3 refine wP rfl rfl ?_
  refine wl_alloc tt_ok rfl rfl (fun b6 => ?_)
  apply wl_store tt_ok; rfl; exact Upd.here; rfl; rfl; rfl; rfl; rfl; rfl
  refine wP rfl rfl (wl_nil (wx_then (wc_seq (wc_seq (wc_region (wP rfl rfl (wP (v := .bool (!za)) rfl rfl (wP rfl rfl ?_))))))))
  replace h := bsome h; obtain ⟨v23, h, hg23⟩ := h
  refine wl_split (t := 15) rfl (fun hc => ?_) (fun hc => ?_)
  · replace h := ct hc h
    refine wl_skip rfl rfl (wl_skip rfl rfl (wl_skip rfl rfl (wl_skip rfl rfl (wl_skip rfl rfl (wl_skip rfl rfl (wl_skip rfl rfl ?_))))))
    obtain rfl := sI h
    have h := hg23; clear hg23
    refine wP (v := .bool true) rfl rfl (wl_nil (wx_then ?_))
    replace h := ct rfl h
    refine wc_cond_true rfl ?_
    refine wc_seq (wc_region (wP (v := .agg #[.int .u8 (0 : Int), .int .u8 (0 : Int)]) rfl rfl ?_))
    apply wl_store tt_ok; rfl; exact (Upd.there Upd.here); rfl; rfl; rfl; rfl; rfl; rfl
    refine wP rfl rfl (wl_nil (wx_then (wc_ret (wx_then_ret ?_))))
    simp only [Option.some.injEq, Prod.mk.injEq] at h
    obtain ⟨rfl, rfl⟩ := h
    exact wx_pf tt_ok (.inl rfl) Tryd.results14 (Res.cell rfl (mT (mH)) rfl (Res.tmp rfl Res.nil)) rfl
  replace h := cf hc h
  refine wl_run rfl (wP rfl rfl ?_)
  cases h

theorem k_fold_History_is_nil0 {F : Nat} {r0 : Bool} (h : m_fold_History_is_nil0 F = some r0) :
    Pf Tryd.prog 27 [.pointer none] (fun w => True) (.bool r0) := by
  unfold m_fold_History_is_nil0 at h
  refine pf_of_wc Tryd.func27 rfl Tryd.ntmps27 rfl rfl (fun w0 hR => ?_)
  refine wc_seq (wc_region (wP rfl rfl (wl_nil (wx_then (wc_seq (wc_region (wP rfl rfl (wP (v := .bool false) rfl rfl (wP rfl rfl (wl_skip rfl rfl (wl_skip rfl rfl (wl_skip rfl rfl (wl_skip rfl rfl (wl_skip rfl rfl (wP (v := .bool false) rfl rfl (wP rfl rfl (wl_nil (wx_then (wc_ret ?_)))))))))))))))))))
  obtain rfl := sI h
  exact wx_pf tt_ok (.inl rfl) Tryd.results27 (Res.tmp rfl Res.nil) rfl

theorem k_fold_History_Add_nil0 {F : Nat} {p1 : (Int × Int)} {r0 : Int} (h : m_fold_History_Add_nil0 F p1 = some r0) :
    Pf Tryd.prog 8 [.pointer none, .agg #[.int .u8 p1.1, .int .u8 p1.2]] (fun w => True) (.int .i64 r0) := by
  unfold m_fold_History_Add_nil0 at h
  refine pf_of_wc Tryd.func8 rfl Tryd.ntmps8 rfl rfl (fun w0 hR => ?_)
  refine wc_seq (wc_region (wl_box rfl rfl rfl (fun b3 => (wP rfl rfl (wl_nil (wx_then (wc_seq (wc_block (wc_seq (wc_region (wP rfl rfl ?_)))))))))))
  replace h := bsome h; obtain ⟨v7, x7, h⟩ := h
  refine wl_cq Tryd.call27 rfl rfl rfl (q_pf (k_fold_History_is_nil0 x7) (fun _ _ => trivial)) rfl ?_
  refine wP (v := .bool (!v7)) rfl rfl (wP rfl rfl (wl_nil (wx_then (wc_cond rfl (fun hc => ?_) (fun hc => ?_)))))
  · replace h := ct hc h
    refine wc_seq (wc_region (wP rfl rfl (wl_nil (wx_then (wc_ret (wx_block_ret (wx_then_ret ?_)))))))
    obtain rfl := sI h
    exact wx_pf tt_ok (.inl rfl) Tryd.results8 (Res.tmp rfl Res.nil) rfl
  replace h := cf hc h
  refine wc_seq (wc_region (wl_val (v := .pointer (some ⟨b3, 0, none⟩)) (val_ia (j := 0) tt_ok rfl rfl rfl rfl rfl rfl rfl) rfl (wl_val (v := .int .u8 p1.1) (val_load tt_ok rfl (mH) rfl) rfl ?_)))
  replace h := bsome h; obtain ⟨v12, x12, h⟩ := h
  refine wl_cq Tryd.call28 rfl rfl rfl (q_pf (k_input_Legal x12) (fun _ _ => trivial)) rfl ?_
  refine wP (v := .bool (!v12)) rfl rfl (wP rfl rfl ?_)
  replace h := bsome h; obtain ⟨v19, h, hg19⟩ := h
  refine wl_split (t := 14) rfl (fun hc => ?_) (fun hc => ?_)
  · replace h := ct hc h
    refine wl_skip rfl rfl (wl_skip rfl rfl (wl_skip rfl rfl (wl_skip rfl rfl ?_)))
    obtain rfl := sI h
    have h := hg19; clear hg19
    refine wP (v := .bool true) rfl rfl (wP rfl rfl (wl_nil (wx_then ?_)))
    replace h := ct rfl h
    refine wc_cond_true rfl ?_
    refine wc_seq (wc_region (wP rfl rfl (wl_nil (wx_then (wc_ret (wx_block_ret (wx_then_ret ?_)))))))
    obtain rfl := sI h
    exact wx_pf tt_ok (.inl rfl) Tryd.results8 (Res.tmp rfl Res.nil) rfl
  replace h := cf hc h
  refine wl_run rfl (wl_val (v := .pointer (some ⟨b3, 1, none⟩)) (val_ia (j := 1) tt_ok rfl rfl rfl rfl rfl rfl rfl) rfl (wl_run rfl (wl_val (v := .int .u8 p1.2) (val_load tt_ok rfl (mH) rfl) rfl ?_)))
  replace h := bsome h; obtain ⟨v17, x17, h⟩ := h
  refine wl_run rfl (wl_cq Tryd.call28 rfl rfl rfl (q_pf (k_input_Legal x17) (fun _ _ => trivial)) rfl (wl_run rfl (wP (v := .bool (!v17)) rfl rfl ?_)))
  obtain rfl := sI h
  have h := hg19; clear hg19
  refine wP (v := .bool (!v17)) rfl rfl (wP rfl rfl (wl_nil (wx_then (wc_cond rfl (fun hc => ?_) (fun hc => ?_)))))
  · replace h := ct hc h
    refine wc_seq (wc_region (wP rfl rfl (wl_nil (wx_then (wc_ret (wx_block_ret (wx_then_ret ?_)))))))
    obtain rfl := sI h
    exact wx_pf tt_ok (.inl rfl) Tryd.results8 (Res.tmp rfl Res.nil) rfl
  replace h := cf hc h
  refine wc_seq (wc_quiet (by kernel_rfl) (by kernel_rfl) (qP rfl rfl ?_))
  cases h

theorem k_fold_History_is {F : Nat} {p0 : T_fold_History} {p0b p0t : Nat} {r0 : Bool} (h : m_fold_History_is F p0 = some r0) :
    Rd2 Tryd.prog 27 [.pointer (some ⟨p0b, 0, none⟩)] (⟨p0b, ([.int .u64 p0.from_, .int .u64 p0.count, .int .u64 p0.most] ++ flat (e2 .u8) p0.ring.1), p0t, (0, 0)⟩ :: []) (fun w => True) (.bool r0) := by
  unfold m_fold_History_is at h
  refine sp_of_wc Tryd.func27 rfl Tryd.ntmps27 rfl rfl (fun w0 hR => ?_)
  refine wc_seq (wc_region (wP rfl rfl (wl_nil (wx_then (wc_seq (wc_region (wP rfl rfl (wP (v := .bool true) rfl rfl (wP rfl rfl (wl_run rfl (wP rfl rfl (wl_run rfl (wP rfl rfl (wl_run rfl (wP (v := .pointer (some ⟨p0b, 2, none⟩)) rfl rfl (wl_run rfl (wl_val (v := .int .u64 p0.most) (val_load tt_ok rfl (mH) rfl) rfl (wl_run rfl (wP (v := .bool (decide ((0 : Int) < p0.most))) rfl rfl (wP (v := .bool (decide ((0 : Int) < p0.most))) rfl rfl (wP rfl rfl ?_)))))))))))))))))))))
  refine wl_nil (wx_then (wc_ret ?_))
  obtain rfl := sI h
  exact wx_rd tt_ok (.inl rfl) Tryd.results27 (Res.tmp rfl Res.nil) (pSub (pH pNil)) rfl

theorem k_fold_History_Add {F : Nat} {p0 : T_fold_History} {p0b p0t : Nat} {p1 : (Int × Int)} {r0 : T_fold_History} {r1 : Int} (h : m_fold_History_Add F p0 p1 = some (r0, r1)) :
    SpD Tryd.prog 8 [.pointer (some ⟨p0b, 0, none⟩), .agg #[.int .u8 p1.1, .int .u8 p1.2]] (⟨p0b, ([.int .u64 p0.from_, .int .u64 p0.count, .int .u64 p0.most] ++ flat (e2 .u8) p0.ring.1), p0t, (0, 0)⟩ :: []) (fun w => True) (fun v D => v = .int .i64 r1 ∧ D = fun F => (⟨p0b, ([.int .u64 r0.from_, .int .u64 r0.count, .int .u64 r0.most] ++ flat (e2 .u8) r0.ring.1), p0t, (0, 0)⟩ :: F)) := by
  unfold m_fold_History_Add at h
  refine sp_of_wc Tryd.func8 rfl Tryd.ntmps8 rfl rfl (fun w0 hR => ?_)
  refine wc_seq (wc_region (wl_box rfl rfl rfl (fun b3 => (wP rfl rfl (wl_nil (wx_then (wc_seq (wc_block (wc_seq (wc_region (wP rfl rfl ?_)))))))))))
  replace h := bsome h; obtain ⟨v7, x7, h⟩ := h
  refine wl_cq Tryd.call27 rfl rfl rfl (q_rd (k_fold_History_is x7) (pCons (sC hC) pNil) (fun _ _ => trivial)) rfl ?_
  refine wP (v := .bool (!v7)) rfl rfl (wP rfl rfl (wl_nil (wx_then (wc_cond rfl (fun hc => ?_) (fun hc => ?_)))))
  · replace h := ct hc h
    refine wc_seq (wc_region (wP rfl rfl (wl_nil (wx_then (wc_ret (wx_block_ret (wx_then_ret ?_)))))))
    simp only [Option.some.injEq, Prod.mk.injEq] at h
    obtain ⟨rfl, rfl⟩ := h
    exact wx_spD tt_ok (.inl rfl) Tryd.results8 (Res.tmp rfl Res.nil) ⟨rfl, rfl⟩ (fun F => by simp) (pSub (pCons (sC hC) pNil))
  replace h := cf hc h
  refine wc_seq (wc_region (wl_val (v := .pointer (some ⟨b3, 0, none⟩)) (val_ia (j := 0) tt_ok rfl rfl rfl rfl rfl rfl rfl) rfl (wl_val (v := .int .u8 p1.1) (val_load tt_ok rfl (mH) rfl) rfl ?_)))
  replace h := bsome h; obtain ⟨v12, x12, h⟩ := h
  refine wl_cq Tryd.call28 rfl rfl rfl (q_pf (k_input_Legal x12) (fun _ _ => trivial)) rfl ?_
  refine wP (v := .bool (!v12)) rfl rfl (wP rfl rfl ?_)
  replace h := bsome h; obtain ⟨v19, h, hg19⟩ := h
  refine wl_split (t := 14) rfl (fun hc => ?_) (fun hc => ?_)
  · replace h := ct hc h
    refine wl_skip rfl rfl (wl_skip rfl rfl (wl_skip rfl rfl (wl_skip rfl rfl ?_)))
    obtain rfl := sI h
    have h := hg19; clear hg19
    refine wP (v := .bool true) rfl rfl (wP rfl rfl (wl_nil (wx_then ?_)))
    replace h := ct rfl h
    refine wc_cond_true rfl ?_
    refine wc_seq (wc_region (wP rfl rfl (wl_nil (wx_then (wc_ret (wx_block_ret (wx_then_ret ?_)))))))
    simp only [Option.some.injEq, Prod.mk.injEq] at h
    obtain ⟨rfl, rfl⟩ := h
    exact wx_spD tt_ok (.inl rfl) Tryd.results8 (Res.tmp rfl Res.nil) ⟨rfl, rfl⟩ (fun F => by simp) (pSub (pCons (sC hC) pNil))
  replace h := cf hc h
  refine wl_run rfl (wl_val (v := .pointer (some ⟨b3, 1, none⟩)) (val_ia (j := 1) tt_ok rfl rfl rfl rfl rfl rfl rfl) rfl (wl_run rfl (wl_val (v := .int .u8 p1.2) (val_load tt_ok rfl (mH) rfl) rfl ?_)))
  replace h := bsome h; obtain ⟨v17, x17, h⟩ := h
  refine wl_run rfl (wl_cq Tryd.call28 rfl rfl rfl (q_pf (k_input_Legal x17) (fun _ _ => trivial)) rfl (wl_run rfl (wP (v := .bool (!v17)) rfl rfl ?_)))
  obtain rfl := sI h
  have h := hg19; clear hg19
  refine wP (v := .bool (!v17)) rfl rfl (wP rfl rfl (wl_nil (wx_then (wc_cond rfl (fun hc => ?_) (fun hc => ?_)))))
  · replace h := ct hc h
    refine wc_seq (wc_region (wP rfl rfl (wl_nil (wx_then (wc_ret (wx_block_ret (wx_then_ret ?_)))))))
    simp only [Option.some.injEq, Prod.mk.injEq] at h
    obtain ⟨rfl, rfl⟩ := h
    exact wx_spD tt_ok (.inl rfl) Tryd.results8 (Res.tmp rfl Res.nil) ⟨rfl, rfl⟩ (fun F => by simp) (pSub (pCons (sC hC) pNil))
  replace h := cf hc h
  refine wc_seq (wc_quiet (by kernel_rfl) (by kernel_rfl) (qP rfl rfl (qP rfl rfl (qP (v := .pointer (some ⟨p0b, 1, none⟩)) rfl rfl (wq_val (v := .int .u64 p0.count) (val_load tt_ok rfl (mT (mH)) rfl) rfl (qP rfl rfl (qP rfl rfl (qP (v := .pointer (some ⟨p0b, 0, none⟩)) rfl rfl (wq_val (v := .int .u64 p0.from_) (val_load tt_ok rfl (mT (mH)) rfl) rfl (qP (v := .int .u64 (IntKind.wrap .u64 (p0.count - p0.from_))) rfl rfl (qP rfl rfl (qP rfl rfl (qP (v := .pointer (some ⟨p0b, 2, none⟩)) rfl rfl (wq_val (v := .int .u64 p0.most) (val_load tt_ok rfl (mT (mH)) rfl) rfl ?_))))))))))))))
  refine qP (v := .bool ((IntKind.wrap .u64 (p0.count - p0.from_)) == p0.most)) rfl rfl (qP rfl rfl ?_)
  replace h := bsome h; obtain ⟨v41, h, hg41⟩ := h
  refine wq_split (t := 35) rfl (fun hc => ?_) (fun hc => ?_)
  · replace h := ct hc h
    refine wq_skip rfl rfl (wq_skip rfl rfl (wq_skip rfl rfl (wq_skip rfl rfl (wq_skip rfl rfl ?_))))
    obtain rfl := sI h
    have h := hg41; clear hg41
    refine qP (v := .bool true) rfl rfl (qP rfl rfl (wq_nil (wx_then ?_)))
    replace h := ct rfl h
    refine wc_cond_true rfl ?_
    refine wc_seq (wc_region (wP rfl rfl (wl_nil (wx_then (wc_ret (wx_block_ret (wx_then_ret ?_)))))))
    simp only [Option.some.injEq, Prod.mk.injEq] at h
    obtain ⟨rfl, rfl⟩ := h
    exact wx_spD tt_ok (.inl rfl) Tryd.results8 (Res.tmp rfl Res.nil) ⟨rfl, rfl⟩ (fun F => by simp) (pSub (pCons (sC hC) pNil))
  replace h := cf hc h
  refine wq_run rfl (qP rfl rfl (wq_run rfl (qP rfl rfl (wq_run rfl (qP (v := .pointer (some ⟨p0b, 1, none⟩)) rfl rfl (wq_run rfl (wq_val (v := .int .u64 p0.count) (val_load tt_ok rfl (mT (mH)) rfl) rfl (wq_run rfl (qP (v := .bool (p0.count == (18446744073709551615 : Int))) rfl rfl ?_)))))))))
  obtain rfl := sI h
  have h := hg41; clear hg41
  refine qP (v := .bool (p0.count == (18446744073709551615 : Int))) rfl rfl (qP rfl rfl (wq_nil (wx_then (wc_cond rfl (fun hc => ?_) (fun hc => ?_)))))
  · replace h := ct hc h
    refine wc_seq (wc_region (wP rfl rfl (wl_nil (wx_then (wc_ret (wx_block_ret (wx_then_ret ?_)))))))
    simp only [Option.some.injEq, Prod.mk.injEq] at h
    obtain ⟨rfl, rfl⟩ := h
    exact wx_spD tt_ok (.inl rfl) Tryd.results8 (Res.tmp rfl Res.nil) ⟨rfl, rfl⟩ (fun F => by simp) (pSub (pCons (sC hC) pNil))
  replace h := cf hc h
  refine wc_skip (wx_block (wx_then (wc_seq (wc_k2 (Ls := (⟨b3, [.int .u8 p1.1, .int .u8 p1.2], 36, (0, 0)⟩ :: (⟨p0b, ([.int .u64 p0.from_, .int .u64 p0.count, .int .u64 p0.most] ++ flat (e2 .u8) p0.ring.1), p0t, (0, 0)⟩ :: []))) [10] [10] [0, 0, 2, 6, 14, 30, 0, 1, 129, 511, 1023] [0, 1, 2, 3, 4, 5, 6, 7, 8, 9, 10] (by kernel_rfl) (by kernel_rfl) (by kernel_rfl) (k_val rfl rfl rfl (pSub (pH (pH pNil))) (stepV_ok tt_ok rfl) rfl (k_val rfl rfl rfl (pSub (pH (pH pNil))) (stepV_ok tt_ok rfl) rfl (k_val rfl rfl rfl (pSub (pH (pH pNil))) (stepV_ok tt_ok rfl) rfl (k_val (v := .pointer (some ⟨p0b, 1, none⟩)) rfl rfl rfl (pSub (pH (pH pNil))) (stepV_ok tt_ok rfl) rfl ?_))))))))
  refine k_val (v := .int .u64 p0.count) rfl rfl rfl (pSub (pH (pH pNil))) (val_load tt_ok rfl (mT (mH)) rfl) rfl ?_
  refine k_val (v := .int .u64 (Int.tmod p0.count 256)) rfl rfl rfl (pSub (pH (pH pNil))) (stepV_ok tt_ok rfl) rfl ?_
  refine k_val (v := .agg #[.int .u8 p1.1, .int .u8 p1.2]) rfl rfl rfl (pSub (pH (pH pNil))) (val_load tt_ok rfl (mH) rfl) rfl ?_
  refine k_val rfl rfl rfl (pSub (pH (pH pNil))) (stepV_ok tt_ok rfl) rfl ?_
  refine k_val (v := .pointer (some ⟨p0b, 3, none⟩)) rfl rfl rfl (pSub (pH (pH pNil))) (stepV_ok tt_ok rfl) rfl ?_
  replace h := bsome h; obtain ⟨v51, x51, h⟩ := h
  refine k_val (v := .pointer (some ⟨p0b, 3 + (Int.tmod p0.count 256).toNat * 2 + 0, none⟩)) rfl rfl rfl (pSub (pH (pH pNil))) (val_xa (a := p0.ring) tt_ok rfl rfl rfl rfl x51) rfl ?_
  refine k_chg0 rfl rfl rfl (chg_stx (enc := (e2 .u8)) (pre := [.int .u64 p0.from_, .int .u64 p0.count, .int .u64 p0.most]) (post := []) (xs := p0.ring.1) (y' := p1) (c' := ([.int .u64 p0.from_, .int .u64 p0.count, .int .u64 p0.most] ++ flat (e2 .u8) ((Arr.set p0.ring (Int.tmod p0.count 256) p1).1))) tt_ok rfl rfl rfl rfl rfl rfl (Upd.there Upd.here) c_np c_np rfl (e2_len _) x51 rfl (by intro h; cases h)) (.inl rfl) ?_
  rintro _ _ rfl
  refine k_end (by kernel_rfl) ?_
  refine wx_then (wc_seq (wc_region ?_))
  iterate 2 refine wP rfl rfl ?_
  refine wP (v := .pointer (some ⟨p0b, 1, none⟩)) rfl rfl (wl_val (v := .int .u64 p0.count) (val_load tt_ok rfl (mT (mH)) rfl) rfl (wP (v := .int .u64 (IntKind.wrap .u64 (p0.count + (1 : Int)))) rfl rfl (wP rfl rfl (wP (v := .pointer (some ⟨p0b, 1, none⟩)) rfl rfl (wl_chg0 (chg_storep (pre := [.int .u64 p0.from_, .int .u64 p0.count, .int .u64 p0.most]) (pre' := [.int .u64 p0.from_, .int .u64 (IntKind.wrap .u64 (p0.count + (1 : Int))), .int .u64 p0.most]) tt_ok rfl (Upd.there Upd.here) rfl rfl rfl rfl rfl rfl (by intro h; cases h)) ?_)))))
  rintro _ _ rfl
  refine wl_nil (wx_then (wc_seq (wc_region (wP rfl rfl (wl_nil (wx_then (wc_ret ?_)))))))
  simp only [Option.some.injEq, Prod.mk.injEq] at h
  obtain ⟨rfl, rfl⟩ := h
  exact wx_spD tt_ok (.inl rfl) Tryd.results8 (Res.tmp rfl Res.nil) ⟨rfl, rfl⟩ (fun F => by simp) (pSub (pCons (sC hC) pNil))

theorem k_rollback_Engine_is {F : Nat} {p0 : T_rollback_Engine} {p0b p0t : Nat} {p0a0 : Option Addr} {p0n0 : Nat} {p0c0 : Nat} {p0B0 : List Blk} {p0a1 : Option Addr} {p0n1 : Nat} {p0c1 : Nat} {p0B1 : List Blk} {p0_4 : T_queue_Queue} {p0_4b p0_4t : Nat} {p0_4a0 : Option Addr} {p0_4n0 : Nat} {p0_4c0 : Nat} {p0_4B0 : List Blk} {p0_5 : T_ring_Ring} {p0_5b p0_5t : Nat} {p0_5g0 : List (T_ring_place × G)} {p0_5P0 : List Blk} {r0 : Bool} (p0N0 : p0n0 = p0.sure.Shots.length) (p0V0 : Own 92 6 p0a0 p0n0 p0c0 (flat c_T_api_Shot p0.sure.Shots) p0B0) (p0N1 : p0n1 = p0.own.length) (p0V1 : Own 34 1 p0a1 p0n1 p0c1 (flat (e1 .u8) p0.own) p0B1) (p0_4N0 : p0_4n0 = p0_4.l.length) (p0_4V0 : Own 34 1 p0_4a0 p0_4n0 p0_4c0 (flat (e1 .u8) p0_4.l) p0_4B0) (p0_5G0 : p0_5.places.1 = unG p0_5g0) (p0_5A0 : AllP sh_T_ring_place c_T_api_Shot p0_5P0 p0_5g0) (h : m_rollback_Engine_is F p0 p0_4 p0_5 = some r0) :
    Rd2 Tryd.prog 29 [.pointer (some ⟨p0b, 0, none⟩)] (⟨p0b, (.int .u8 p0.player :: .int .i64 p0.window :: st19 p0.sure p0a0 p0n0 p0c0 [.slice p0a1 p0n1 p0c1, .pointer (some ⟨p0_4b, 0, none⟩), .pointer (some ⟨p0_5b, 0, none⟩)]), p0t, (0, 0)⟩ :: (p0B0 ++ (p0B1 ++ (⟨p0_4b, [.int .u64 p0_4.first_, .slice p0_4a0 p0_4n0 p0_4c0, .int .u8 p0_4.last], p0_4t, (0, 0)⟩ :: (p0_4B0 ++ (⟨p0_5b, ([.int .i64 p0_5.size] ++ flat cg_T_ring_place p0_5g0), p0_5t, (0, 0)⟩ :: (p0_5P0 ++ []))))))) (fun w => True) (.bool r0) := by
  unfold m_rollback_Engine_is at h
  refine sp_of_wc Tryd.func29 rfl Tryd.ntmps29 rfl rfl (fun w0 hR => ?_)
  refine wc_seq (wc_region (wP rfl rfl (wl_nil (wx_then (wc_seq (wc_region (wP rfl rfl (wP (v := .bool true) rfl rfl (wP rfl rfl (wl_run rfl (wP rfl rfl (wl_run rfl (wP rfl rfl (wl_run rfl (wP (v := .pointer (some ⟨p0b, 22, none⟩)) rfl rfl (wl_run rfl (wl_val (v := .pointer (some ⟨p0_4b, 0, none⟩)) (val_load tt_ok rfl (mH) rfl) rfl (wl_run rfl (wP (v := .bool true) rfl rfl (wP (v := .bool true) rfl rfl (wP rfl rfl ?_)))))))))))))))))))))
  refine wl_nil (wx_then (wc_ret ?_))
  obtain rfl := sI h
  exact wx_rd tt_ok (.inl rfl) Tryd.results29 (Res.tmp rfl Res.nil) (pSub (pH (pA (pA (pH (pA (pH (pA pNil)))))))) rfl

theorem k_rollback_Engine_Local {F : Nat} {p0 : T_rollback_Engine} {p0b p0t : Nat} {p0a0 : Option Addr} {p0n0 : Nat} {p0c0 : Nat} {p0B0 : List Blk} {p0a1 : Option Addr} {p0n1 : Nat} {p0c1 : Nat} {p0B1 : List Blk} {p0_4 : T_queue_Queue} {p0_4b p0_4t : Nat} {p0_4a0 : Option Addr} {p0_4n0 : Nat} {p0_4c0 : Nat} {p0_4B0 : List Blk} {p0_5 : T_ring_Ring} {p0_5b p0_5t : Nat} {p0_5g0 : List (T_ring_place × G)} {p0_5P0 : List Blk} {p1 : Int} {r0 : T_rollback_Engine} {r1 : Int} (p0N0 : p0n0 = p0.sure.Shots.length) (p0V0 : Own 92 6 p0a0 p0n0 p0c0 (flat c_T_api_Shot p0.sure.Shots) p0B0) (p0N1 : p0n1 = p0.own.length) (p0V1 : Own 34 1 p0a1 p0n1 p0c1 (flat (e1 .u8) p0.own) p0B1) (p0_4N0 : p0_4n0 = p0_4.l.length) (p0_4V0 : Own 34 1 p0_4a0 p0_4n0 p0_4c0 (flat (e1 .u8) p0_4.l) p0_4B0) (p0_5G0 : p0_5.places.1 = unG p0_5g0) (p0_5A0 : AllP sh_T_ring_place c_T_api_Shot p0_5P0 p0_5g0) (h : m_rollback_Engine_Local F p0 p0_4 p0_5 p1 = some (r0, r1)) :
    SpD Tryd.prog 24 [.pointer (some ⟨p0b, 0, none⟩), .int .u8 p1] (⟨p0b, (.int .u8 p0.player :: .int .i64 p0.window :: st19 p0.sure p0a0 p0n0 p0c0 [.slice p0a1 p0n1 p0c1, .pointer (some ⟨p0_4b, 0, none⟩), .pointer (some ⟨p0_5b, 0, none⟩)]), p0t, (0, 0)⟩ :: (p0B0 ++ (p0B1 ++ (⟨p0_4b, [.int .u64 p0_4.first_, .slice p0_4a0 p0_4n0 p0_4c0, .int .u8 p0_4.last], p0_4t, (0, 0)⟩ :: (p0_4B0 ++ (⟨p0_5b, ([.int .i64 p0_5.size] ++ flat cg_T_ring_place p0_5g0), p0_5t, (0, 0)⟩ :: (p0_5P0 ++ []))))))) (fun w => True) (fun v D => ∃ (r0a0 : Option Addr) (r0n0 : Nat) (r0c0 : Nat) (r0B0 : List Blk) (r0a1 : Option Addr) (r0n1 : Nat) (r0c1 : Nat) (r0B1 : List Blk), r0n0 = r0.sure.Shots.length ∧ Own 92 6 r0a0 r0n0 r0c0 (flat c_T_api_Shot r0.sure.Shots) r0B0 ∧ r0n1 = r0.own.length ∧ Own 34 1 r0a1 r0n1 r0c1 (flat (e1 .u8) r0.own) r0B1 ∧ v = .int .i64 r1 ∧ D = fun F => (⟨p0b, (.int .u8 r0.player :: .int .i64 r0.window :: st19 r0.sure r0a0 r0n0 r0c0 [.slice r0a1 r0n1 r0c1, .pointer (some ⟨p0_4b, 0, none⟩), .pointer (some ⟨p0_5b, 0, none⟩)]), p0t, (0, 0)⟩ :: (r0B0 ++ (r0B1 ++ (⟨p0_4b, [.int .u64 p0_4.first_, .slice p0_4a0 p0_4n0 p0_4c0, .int .u8 p0_4.last], p0_4t, (0, 0)⟩ :: (p0_4B0 ++ (⟨p0_5b, ([.int .i64 p0_5.size] ++ flat cg_T_ring_place p0_5g0), p0_5t, (0, 0)⟩ :: (p0_5P0 ++ F)))))))) := by
  unfold m_rollback_Engine_Local at h
  refine sp_of_wc Tryd.func24 rfl Tryd.ntmps24 rfl rfl (fun w0 hR => ?_)
  refine wc_seq (wc_region (wP rfl rfl (wl_nil (wx_then (wc_seq (wc_block (wc_seq (wc_region (wP rfl rfl ?_)))))))))
  replace h := bsome h; obtain ⟨v7, x7, h⟩ := h
  refine wl_cq Tryd.call29 rfl rfl rfl (q_rd (k_rollback_Engine_is (p0 := p0) (p0_4 := p0_4) (p0_5 := p0_5) p0N0 p0V0 p0N1 p0V1 p0_4N0 p0_4V0 p0_5G0 p0_5A0 x7) (pH (pA (pA (pH (pA (pH (pA pNil))))))) (fun _ _ => trivial)) rfl ?_
  refine wP (v := .bool (!v7)) rfl rfl (wP rfl rfl (wl_nil (wx_then (wc_cond rfl (fun hc => ?_) (fun hc => ?_)))))
  · replace h := ct hc h
    refine wc_seq (wc_region (wP rfl rfl (wl_nil (wx_then (wc_ret (wx_block_ret (wx_then_ret ?_)))))))
    simp only [Option.some.injEq, Prod.mk.injEq] at h
    obtain ⟨rfl, rfl⟩ := h
    exact wx_spD tt_ok (.inl rfl) Tryd.results24 (Res.tmp rfl Res.nil) ⟨p0a0, p0n0, p0c0, p0B0, p0a1, p0n1, p0c1, p0B1, p0N0, p0V0, p0N1, p0V1, rfl, rfl⟩ (fun F => by simp) (pSub (pH (pA (pA (pH (pA (pH (pA pNil))))))))
  replace h := cf hc h
  refine wc_seq (wc_region (wP rfl rfl ?_))
  replace h := bsome h; obtain ⟨v11, x11, h⟩ := h
  refine wl_cq Tryd.call28 rfl rfl rfl (q_pf (k_input_Legal x11) (fun _ _ => trivial)) rfl ?_
  refine wP (v := .bool (!v11)) rfl rfl (wP rfl rfl (wl_nil (wx_then (wc_cond rfl (fun hc => ?_) (fun hc => ?_)))))
  · replace h := ct hc h
    refine wc_seq (wc_region (wP rfl rfl (wl_nil (wx_then (wc_ret (wx_block_ret (wx_then_ret ?_)))))))
    simp only [Option.some.injEq, Prod.mk.injEq] at h
    obtain ⟨rfl, rfl⟩ := h
    exact wx_spD tt_ok (.inl rfl) Tryd.results24 (Res.tmp rfl Res.nil) ⟨p0a0, p0n0, p0c0, p0B0, p0a1, p0n1, p0c1, p0B1, p0N0, p0V0, p0N1, p0V1, rfl, rfl⟩ (fun F => by simp) (pSub (pH (pA (pA (pH (pA (pH (pA pNil))))))))
  replace h := cf hc h
  refine wc_seq (wc_quiet (by kernel_rfl) (by kernel_rfl) (qP rfl rfl (qP rfl rfl (qP (v := .pointer (some ⟨p0b, 21, none⟩)) rfl rfl (wq_val (v := .slice p0a1 p0n1 p0c1) (val_load tt_ok rfl (mH) rfl) rfl (wq_val (v := .int .i64 (p0.own.length : Int)) (val_len tt_ok rfl rfl p0N1) rfl (qP rfl rfl (qP rfl rfl (qP (v := .pointer (some ⟨p0b, 1, none⟩)) rfl rfl (wq_val (v := .int .i64 p0.window) (val_load tt_ok rfl (mH) rfl) rfl (qP (v := .bool (decide (p0.window ≤ (p0.own.length : Int)))) rfl rfl (qP rfl rfl (wq_nil (wx_then (wc_cond rfl (fun hc => ?_) (fun hc => ?_))))))))))))))))
  · replace h := ct hc h
    refine wc_seq (wc_region (wP rfl rfl (wl_nil (wx_then (wc_ret (wx_block_ret (wx_then_ret ?_)))))))
    simp only [Option.some.injEq, Prod.mk.injEq] at h
    obtain ⟨rfl, rfl⟩ := h
    exact wx_spD tt_ok (.inl rfl) Tryd.results24 (Res.tmp rfl Res.nil) ⟨p0a0, p0n0, p0c0, p0B0, p0a1, p0n1, p0c1, p0B1, p0N0, p0V0, p0N1, p0V1, rfl, rfl⟩ (fun F => by simp) (pSub (pH (pA (pA (pH (pA (pH (pA pNil))))))))
  replace h := cf hc h
  refine wc_skip (wx_block (wx_then (wc_seq (wc_region ?_))))
  iterate 3 refine wP rfl rfl ?_
  refine wP (v := .pointer (some ⟨p0b, 21, none⟩)) rfl rfl (wl_val (v := .slice p0a1 p0n1 p0c1) (val_load tt_ok rfl (mH) rfl) rfl (wP rfl rfl (wl_chg (chg_bsv (enc := (e1 .u8)) (xs := ([p1] : List Int)) tt_ok rfl rfl rfl rfl rfl rfl rfl rfl (e1_len _)) rfl ?_)))
  rintro _ _ ⟨a30, n30_, c30, B30, rfl, N30, V30, rfl⟩
  replace h := bsome h; obtain ⟨v31, x31, h⟩ := h
  refine wl_chg (chg_app (enc := (e1 .u8)) (ys := ([p1] : List Int)) tt_ok rfl rfl rfl rfl rfl rfl p0N1 N30 p0V1 (sA (sC (sA hA'))) (Rds.of_vec V30) ⟨_, hA'⟩ (e1_len _) (fun _ => rfl) rfl x31) rfl ?_
  rintro _ _ ⟨a31, n31_, c31, B31, rfl, N31, V31, rfl⟩
  refine wP rfl rfl (wP (v := .pointer (some ⟨p0b, 21, none⟩)) rfl rfl ?_)
  apply wl_store tt_ok; rfl; exact (Upd.right (Upd.right Upd.here)); rfl; rfl; rfl; rfl; rfl; rfl
  refine wl_nil (wx_then (wc_seq (wc_region (wP rfl rfl (wl_nil (wx_then (wc_ret ?_)))))))
  simp only [Option.some.injEq, Prod.mk.injEq] at h
  obtain ⟨rfl, rfl⟩ := h
  exact wx_spD tt_ok (.inl rfl) Tryd.results24 (Res.tmp rfl Res.nil) ⟨p0a0, p0n0, p0c0, p0B0, a31, n31_, c31, B31, p0N0, p0V0, N31, V31, rfl, rfl⟩ (fun F => by simp) (pSub (pCons (sA (sA hC)) (pApp (sA (sA hA')) (pA (pCons (sA hC) (pApp (sA hA') (pCons (sA hC) (pApp (sA hA') pNil))))))))

theorem k_queue_Queue_Add {F : Nat} {p0 : T_queue_Queue} {p0b p0t : Nat} {p0a0 : Option Addr} {p0n0 : Nat} {p0c0 : Nat} {p0B0 : List Blk} {p1 : Int} {p2 : Int} {r0 : T_queue_Queue} {r1 : Int} (p0N0 : p0n0 = p0.l.length) (p0V0 : Own 34 1 p0a0 p0n0 p0c0 (flat (e1 .u8) p0.l) p0B0) (h : m_queue_Queue_Add F p0 p1 p2 = some (r0, r1)) :
    SpD Tryd.prog 48 [.pointer (some ⟨p0b, 0, none⟩), .int .u64 p1, .int .u8 p2] (⟨p0b, [.int .u64 p0.first_, .slice p0a0 p0n0 p0c0, .int .u8 p0.last], p0t, (0, 0)⟩ :: (p0B0 ++ [])) (fun w => True) (fun v D => ∃ (r0a0 : Option Addr) (r0n0 : Nat) (r0c0 : Nat) (r0B0 : List Blk), r0n0 = r0.l.length ∧ Own 34 1 r0a0 r0n0 r0c0 (flat (e1 .u8) r0.l) r0B0 ∧ v = .int .i64 r1 ∧ D = fun F => (⟨p0b, [.int .u64 r0.first_, .slice r0a0 r0n0 r0c0, .int .u8 r0.last], p0t, (0, 0)⟩ :: (r0B0 ++ F))) := by
  unfold m_queue_Queue_Add at h
  refine sp_of_wc Tryd.func48 rfl Tryd.ntmps48 rfl rfl (fun w0 hR => ?_)
  refine wc_seq (wc_region (wP rfl rfl (wl_nil (wx_then (wc_seq (wc_block (wc_seq (wc_region (wP rfl rfl (wP (v := .bool false) rfl rfl (wP rfl rfl (wl_nil (wx_then (wc_cond_false rfl (wc_seq (wc_region (wP rfl rfl ?_)))))))))))))))))
  replace h := bsome h; obtain ⟨v14, x14, h⟩ := h
  refine wl_cq Tryd.call28 rfl rfl rfl (q_pf (k_input_Legal x14) (fun _ _ => trivial)) rfl ?_
  refine wP (v := .bool (!v14)) rfl rfl (wP rfl rfl (wl_nil (wx_then (wc_cond rfl (fun hc => ?_) (fun hc => ?_)))))
  · replace h := ct hc h
    refine wc_seq (wc_region (wP rfl rfl (wl_nil (wx_then (wc_ret (wx_block_ret (wx_then_ret ?_)))))))
    simp only [Option.some.injEq, Prod.mk.injEq] at h
    obtain ⟨rfl, rfl⟩ := h
    exact wx_spD tt_ok (.inl rfl) Tryd.results48 (Res.tmp rfl Res.nil) ⟨p0a0, p0n0, p0c0, p0B0, p0N0, p0V0, rfl, rfl⟩ (fun F => by simp) (pSub (pH (pA pNil)))
  replace h := cf hc h
  refine wc_seq (wc_region ?_)
  iterate 3 refine wP rfl rfl ?_
  refine wP (v := .pointer (some ⟨p0b, 0, none⟩)) rfl rfl (wl_val (v := .int .u64 p0.first_) (val_load tt_ok rfl (mH) rfl) rfl (wP (v := .bool (decide (p1 < p0.first_))) rfl rfl (wP rfl rfl (wl_nil (wx_then (wc_cond rfl (fun hc => ?_) (fun hc => ?_)))))))
  · replace h := ct hc h
    refine wc_seq (wc_region (wP rfl rfl (wl_nil (wx_then (wc_ret (wx_block_ret (wx_then_ret ?_)))))))
    simp only [Option.some.injEq, Prod.mk.injEq] at h
    obtain ⟨rfl, rfl⟩ := h
    exact wx_spD tt_ok (.inl rfl) Tryd.results48 (Res.tmp rfl Res.nil) ⟨p0a0, p0n0, p0c0, p0B0, p0N0, p0V0, rfl, rfl⟩ (fun F => by simp) (pSub (pH (pA pNil)))
  replace h := cf hc h
  refine wc_skip (wx_block (wx_then (wc_seq (wc_seq (wc_region ?_)))))
  iterate 2 refine wP rfl rfl ?_
  replace h := bsome h; obtain ⟨⟨za, zb⟩, x26, h⟩ := h; try dsimp only at h
  refine wl_cq Tryd.call69 rfl rfl rfl (q_rd (k_queue_Queue_At (p0 := p0) p0N0 p0V0 x26) (pH (pA pNil)) (fun _ _ => trivial)) rfl ?_
  iterate 5 refine wP rfl rfl ?_
  refine wl_nil (wx_then (wc_block (wc_seq (wc_region ?_))))
  iterate 2 refine wP rfl rfl ?_
  replace h := bsome h; obtain ⟨v35, h, hg35⟩ := h
  refine wl_split (t := 31) rfl (fun hc => ?_) (fun hc => ?_)
  · replace h := ct hc h
    refine wl_run rfl (wP rfl rfl (wl_run rfl (wP rfl rfl (wl_run rfl (wP (v := .bool (za != p2)) rfl rfl ?_)))))
    obtain rfl := sI h
    have h := hg35; clear hg35
    refine wP (v := .bool (za != p2)) rfl rfl (wP rfl rfl (wl_nil (wx_then (wc_cond rfl (fun hc => ?_) (fun hc => ?_)))))
    · replace h := ct hc h
      refine wc_seq (wc_region (wP rfl rfl (wl_nil (wx_then (wc_ret (wx_block_ret (wx_then_ret ?_)))))))
      simp only [Option.some.injEq, Prod.mk.injEq] at h
      obtain ⟨rfl, rfl⟩ := h
      exact wx_spD tt_ok (.inl rfl) Tryd.results48 (Res.tmp rfl Res.nil) ⟨p0a0, p0n0, p0c0, p0B0, p0N0, p0V0, rfl, rfl⟩ (fun F => by simp) (pSub (pH (pA pNil)))
    replace h := cf hc h
    refine wc_seq (wc_region ?_)
    iterate 2 refine wP rfl rfl ?_
    refine wl_nil (wx_then (wc_cond rfl (fun hc => ?_) (fun hc => ?_)))
    · replace h := ct hc h
      refine wc_seq (wc_region (wP rfl rfl (wl_nil (wx_then (wc_ret (wx_block_ret (wx_then_ret ?_)))))))
      simp only [Option.some.injEq, Prod.mk.injEq] at h
      obtain ⟨rfl, rfl⟩ := h
      exact wx_spD tt_ok (.inl rfl) Tryd.results48 (Res.tmp rfl Res.nil) ⟨p0a0, p0n0, p0c0, p0B0, p0N0, p0V0, rfl, rfl⟩ (fun F => by simp) (pSub (pH (pA pNil)))
    replace h := cf hc h
    refine wc_seq (wc_region ?_)
    iterate 2 refine wP rfl rfl ?_
    replace h := bsome h; obtain ⟨v41, x41, h⟩ := h
    refine wl_cq Tryd.call40 rfl rfl rfl (q_rd (k_queue_Queue_Known (p0 := p0) p0N0 p0V0 x41) (pH (pA pNil)) (fun _ _ => trivial)) rfl ?_
    refine wP (v := .bool (decide (v41 < p1))) rfl rfl (wP rfl rfl ?_)
    replace h := bsome h; obtain ⟨v46, h, hg46⟩ := h
    refine wl_split (t := 43) rfl (fun hc => ?_) (fun hc => ?_)
    · replace h := ct hc h
      refine wl_skip rfl rfl (wl_skip rfl rfl ?_)
      obtain rfl := sI h
      have h := hg46; clear hg46
      refine wP (v := .bool true) rfl rfl (wP rfl rfl (wl_nil (wx_then ?_)))
      replace h := ct rfl h
      refine wc_cond_true rfl ?_
      refine wc_seq (wc_region (wP rfl rfl (wl_nil (wx_then (wc_ret (wx_block_ret (wx_then_ret ?_)))))))
      simp only [Option.some.injEq, Prod.mk.injEq] at h
      obtain ⟨rfl, rfl⟩ := h
      exact wx_spD tt_ok (.inl rfl) Tryd.results48 (Res.tmp rfl Res.nil) ⟨p0a0, p0n0, p0c0, p0B0, p0N0, p0V0, rfl, rfl⟩ (fun F => by simp) (pSub (pH (pA pNil)))
    replace h := cf hc h
    refine wl_run rfl (wP rfl rfl (wl_run rfl (wP (v := .bool (p1 == (18446744073709551615 : Int))) rfl rfl ?_)))
    obtain rfl := sI h
    have h := hg46; clear hg46
    refine wP (v := .bool (p1 == (18446744073709551615 : Int))) rfl rfl (wP rfl rfl (wl_nil (wx_then (wc_cond rfl (fun hc => ?_) (fun hc => ?_)))))
    · replace h := ct hc h
      refine wc_seq (wc_region (wP rfl rfl (wl_nil (wx_then (wc_ret (wx_block_ret (wx_then_ret ?_)))))))
      simp only [Option.some.injEq, Prod.mk.injEq] at h
      obtain ⟨rfl, rfl⟩ := h
      exact wx_spD tt_ok (.inl rfl) Tryd.results48 (Res.tmp rfl Res.nil) ⟨p0a0, p0n0, p0c0, p0B0, p0N0, p0V0, rfl, rfl⟩ (fun F => by simp) (pSub (pH (pA pNil)))
    replace h := cf hc h
    refine wc_seq (wc_region ?_)
    iterate 2 refine wP rfl rfl ?_
    refine wP (v := .pointer (some ⟨p0b, 1, none⟩)) rfl rfl (wl_val (v := .slice p0a0 p0n0 p0c0) (val_load tt_ok rfl (mH) rfl) rfl (wl_val (v := .int .i64 (p0.l.length : Int)) (val_len tt_ok rfl rfl p0N0) rfl (wP (v := .bool (decide ((24 : Int) ≤ (p0.l.length : Int)))) rfl rfl (wP rfl rfl (wl_nil (wx_then (wc_cond rfl (fun hc => ?_) (fun hc => ?_))))))))
    · replace h := ct hc h
      refine wc_seq (wc_region (wP rfl rfl (wl_nil (wx_then (wc_ret (wx_block_ret (wx_then_ret ?_)))))))
      simp only [Option.some.injEq, Prod.mk.injEq] at h
      obtain ⟨rfl, rfl⟩ := h
      exact wx_spD tt_ok (.inl rfl) Tryd.results48 (Res.tmp rfl Res.nil) ⟨p0a0, p0n0, p0c0, p0B0, p0N0, p0V0, rfl, rfl⟩ (fun F => by simp) (pSub (pH (pA pNil)))
    replace h := cf hc h
    refine wc_skip (wx_block (wx_then (wc_seq (wc_region ?_))))
    iterate 4 refine wP rfl rfl ?_
    refine wP (v := .pointer (some ⟨p0b, 1, none⟩)) rfl rfl (wl_val (v := .slice p0a0 p0n0 p0c0) (val_load tt_ok rfl (mH) rfl) rfl (wP rfl rfl (wl_chg (chg_bsv (enc := (e1 .u8)) (xs := ([p2] : List Int)) tt_ok rfl rfl rfl rfl rfl rfl rfl rfl (e1_len _)) rfl ?_)))
    rintro _ _ ⟨a61, n61_, c61, B61, rfl, N61, V61, rfl⟩
    replace h := bsome h; obtain ⟨v62, x62, h⟩ := h
    refine wl_chg (chg_app (enc := (e1 .u8)) (ys := ([p2] : List Int)) tt_ok rfl rfl rfl rfl rfl rfl p0N0 N61 p0V0 (sA (sC hA')) (Rds.of_vec V61) ⟨_, hA'⟩ (e1_len _) (fun _ => rfl) rfl x62) rfl ?_
    rintro _ _ ⟨a62, n62_, c62, B62, rfl, N62, V62, rfl⟩
    iterate 2 refine wP rfl rfl ?_
    refine wP (v := .pointer (some ⟨p0b, 1, none⟩)) rfl rfl ?_
    apply wl_store tt_ok; rfl; exact (Upd.right (Upd.right Upd.here)); rfl; rfl; rfl; rfl; rfl; rfl
    refine wP rfl rfl (wP (v := .pointer (some ⟨p0b, 2, none⟩)) rfl rfl ?_)
    apply wl_store tt_ok; rfl; exact (Upd.right (Upd.right Upd.here)); rfl; rfl; rfl; rfl; rfl; rfl
    refine wl_nil (wx_then (wc_seq (wc_region (wP rfl rfl (wl_nil (wx_then (wc_ret ?_)))))))
    simp only [Option.some.injEq, Prod.mk.injEq] at h
    obtain ⟨rfl, rfl⟩ := h
    exact wx_spD tt_ok (.inl rfl) Tryd.results48 (Res.tmp rfl Res.nil) ⟨a62, n62_, c62, B62, N62, V62, rfl, rfl⟩ (fun F => by simp) (pSub (pCons (sA (sA hC)) (pA pNil)))
  replace h := cf hc h
  refine wl_skip rfl rfl (wl_skip rfl rfl (wl_skip rfl rfl ?_))
  obtain rfl := sI h
  have h := hg35; clear hg35
  refine wP (v := .bool false) rfl rfl (wP rfl rfl (wl_nil (wx_then ?_)))
  replace h := cf rfl h
  refine wc_cond_false rfl ?_
  refine wc_seq (wc_region ?_)
  iterate 2 refine wP rfl rfl ?_
  refine wl_nil (wx_then (wc_cond rfl (fun hc => ?_) (fun hc => ?_)))
  · replace h := ct hc h
    refine wc_seq (wc_region (wP rfl rfl (wl_nil (wx_then (wc_ret (wx_block_ret (wx_then_ret ?_)))))))
    simp only [Option.some.injEq, Prod.mk.injEq] at h
    obtain ⟨rfl, rfl⟩ := h
    exact wx_spD tt_ok (.inl rfl) Tryd.results48 (Res.tmp rfl Res.nil) ⟨p0a0, p0n0, p0c0, p0B0, p0N0, p0V0, rfl, rfl⟩ (fun F => by simp) (pSub (pH (pA pNil)))
  replace h := cf hc h
  refine wc_seq (wc_region ?_)
  iterate 2 refine wP rfl rfl ?_
  replace h := bsome h; obtain ⟨v41, x41, h⟩ := h
  refine wl_cq Tryd.call40 rfl rfl rfl (q_rd (k_queue_Queue_Known (p0 := p0) p0N0 p0V0 x41) (pH (pA pNil)) (fun _ _ => trivial)) rfl ?_
  refine wP (v := .bool (decide (v41 < p1))) rfl rfl (wP rfl rfl ?_)
  replace h := bsome h; obtain ⟨v46, h, hg46⟩ := h
  refine wl_split (t := 43) rfl (fun hc => ?_) (fun hc => ?_)
  · replace h := ct hc h
    refine wl_skip rfl rfl (wl_skip rfl rfl ?_)
    obtain rfl := sI h
    have h := hg46; clear hg46
    refine wP (v := .bool true) rfl rfl (wP rfl rfl (wl_nil (wx_then ?_)))
    replace h := ct rfl h
    refine wc_cond_true rfl ?_
    refine wc_seq (wc_region (wP rfl rfl (wl_nil (wx_then (wc_ret (wx_block_ret (wx_then_ret ?_)))))))
    simp only [Option.some.injEq, Prod.mk.injEq] at h
    obtain ⟨rfl, rfl⟩ := h
    exact wx_spD tt_ok (.inl rfl) Tryd.results48 (Res.tmp rfl Res.nil) ⟨p0a0, p0n0, p0c0, p0B0, p0N0, p0V0, rfl, rfl⟩ (fun F => by simp) (pSub (pH (pA pNil)))
  replace h := cf hc h
  refine wl_run rfl (wP rfl rfl (wl_run rfl (wP (v := .bool (p1 == (18446744073709551615 : Int))) rfl rfl ?_)))
  obtain rfl := sI h
  have h := hg46; clear hg46
  refine wP (v := .bool (p1 == (18446744073709551615 : Int))) rfl rfl (wP rfl rfl (wl_nil (wx_then (wc_cond rfl (fun hc => ?_) (fun hc => ?_)))))
  · replace h := ct hc h
    refine wc_seq (wc_region (wP rfl rfl (wl_nil (wx_then (wc_ret (wx_block_ret (wx_then_ret ?_)))))))
    simp only [Option.some.injEq, Prod.mk.injEq] at h
    obtain ⟨rfl, rfl⟩ := h
    exact wx_spD tt_ok (.inl rfl) Tryd.results48 (Res.tmp rfl Res.nil) ⟨p0a0, p0n0, p0c0, p0B0, p0N0, p0V0, rfl, rfl⟩ (fun F => by simp) (pSub (pH (pA pNil)))
  replace h := cf hc h
  refine wc_seq (wc_region ?_)
  iterate 2 refine wP rfl rfl ?_
  refine wP (v := .pointer (some ⟨p0b, 1, none⟩)) rfl rfl (wl_val (v := .slice p0a0 p0n0 p0c0) (val_load tt_ok rfl (mH) rfl) rfl (wl_val (v := .int .i64 (p0.l.length : Int)) (val_len tt_ok rfl rfl p0N0) rfl (wP (v := .bool (decide ((24 : Int) ≤ (p0.l.length : Int)))) rfl rfl (wP rfl rfl (wl_nil (wx_then (wc_cond rfl (fun hc => ?_) (fun hc => ?_))))))))
  · replace h := ct hc h
    refine wc_seq (wc_region (wP rfl rfl (wl_nil (wx_then (wc_ret (wx_block_ret (wx_then_ret ?_)))))))
    simp only [Option.some.injEq, Prod.mk.injEq] at h
    obtain ⟨rfl, rfl⟩ := h
    exact wx_spD tt_ok (.inl rfl) Tryd.results48 (Res.tmp rfl Res.nil) ⟨p0a0, p0n0, p0c0, p0B0, p0N0, p0V0, rfl, rfl⟩ (fun F => by simp) (pSub (pH (pA pNil)))
  replace h := cf hc h
  refine wc_skip (wx_block (wx_then (wc_seq (wc_region ?_))))
  iterate 4 refine wP rfl rfl ?_
  refine wP (v := .pointer (some ⟨p0b, 1, none⟩)) rfl rfl (wl_val (v := .slice p0a0 p0n0 p0c0) (val_load tt_ok rfl (mH) rfl) rfl (wP rfl rfl (wl_chg (chg_bsv (enc := (e1 .u8)) (xs := ([p2] : List Int)) tt_ok rfl rfl rfl rfl rfl rfl rfl rfl (e1_len _)) rfl ?_)))
  rintro _ _ ⟨a61, n61_, c61, B61, rfl, N61, V61, rfl⟩
  replace h := bsome h; obtain ⟨v62, x62, h⟩ := h
  refine wl_chg (chg_app (enc := (e1 .u8)) (ys := ([p2] : List Int)) tt_ok rfl rfl rfl rfl rfl rfl p0N0 N61 p0V0 (sA (sC hA')) (Rds.of_vec V61) ⟨_, hA'⟩ (e1_len _) (fun _ => rfl) rfl x62) rfl ?_
  rintro _ _ ⟨a62, n62_, c62, B62, rfl, N62, V62, rfl⟩
  iterate 2 refine wP rfl rfl ?_
  refine wP (v := .pointer (some ⟨p0b, 1, none⟩)) rfl rfl ?_
  apply wl_store tt_ok; rfl; exact (Upd.right (Upd.right Upd.here)); rfl; rfl; rfl; rfl; rfl; rfl
  refine wP rfl rfl (wP (v := .pointer (some ⟨p0b, 2, none⟩)) rfl rfl ?_)
  apply wl_store tt_ok; rfl; exact (Upd.right (Upd.right Upd.here)); rfl; rfl; rfl; rfl; rfl; rfl
  refine wl_nil (wx_then (wc_seq (wc_region (wP rfl rfl (wl_nil (wx_then (wc_ret ?_)))))))
  simp only [Option.some.injEq, Prod.mk.injEq] at h
  obtain ⟨rfl, rfl⟩ := h
  exact wx_spD tt_ok (.inl rfl) Tryd.results48 (Res.tmp rfl Res.nil) ⟨a62, n62_, c62, B62, N62, V62, rfl, rfl⟩ (fun F => by simp) (pSub (pCons (sA (sA hC)) (pA pNil)))

theorem k_ring_Ring_Cut {F : Nat} {p0 : T_ring_Ring} {p0b p0t : Nat} {p0g0 : List (T_ring_place × G)} {p0P0 : List Blk} {p1 : Int} {r0 : T_ring_Ring} {r1 : Int} (p0G0 : p0.places.1 = unG p0g0) (p0A0 : AllP sh_T_ring_place c_T_api_Shot p0P0 p0g0) (h : m_ring_Ring_Cut F p0 p1 = some (r0, r1)) :
    SpD Tryd.prog 49 [.pointer (some ⟨p0b, 0, none⟩), .int .u64 p1] (⟨p0b, ([.int .i64 p0.size] ++ flat cg_T_ring_place p0g0), p0t, (0, 0)⟩ :: (p0P0 ++ [])) (fun w => True) (fun v D => ∃ (r0g0 : List (T_ring_place × G)) (r0P0 : List Blk), r0.places.1 = unG r0g0 ∧ AllP sh_T_ring_place c_T_api_Shot r0P0 r0g0 ∧ v = .int .i64 r1 ∧ D = fun F => (⟨p0b, ([.int .i64 r0.size] ++ flat cg_T_ring_place r0g0), p0t, (0, 0)⟩ :: (r0P0 ++ F))) := by
  unfold m_ring_Ring_Cut at h
  refine sp_of_wc Tryd.func49 rfl Tryd.ntmps49 rfl rfl (fun w0 hR => ?_)
  refine wc_seq (wc_region (wP rfl rfl (wl_nil (wx_then (wc_seq (wc_seq (wc_region (wP rfl rfl ?_))))))))
  replace h := bsome h; obtain ⟨v9, x9, h⟩ := h
  refine wl_cq Tryd.call60 rfl rfl rfl (q_rd (k_ring_Ring_is (p0 := p0) p0G0 p0A0 x9) (pH (pA pNil)) (fun _ _ => trivial)) rfl ?_
  refine wP (v := .bool (!v9)) rfl rfl (wl_nil (wx_then (wc_cond rfl (fun hc => ?_) (fun hc => ?_))))
  · replace h := ct hc h
    refine wc_seq (wc_region (wP rfl rfl (wl_nil (wx_then (wc_ret (wx_then_ret ?_))))))
    simp only [Option.some.injEq, Prod.mk.injEq] at h
    obtain ⟨rfl, rfl⟩ := h
    exact wx_spD tt_ok (.inl rfl) Tryd.results49 (Res.tmp rfl Res.nil) ⟨p0g0, p0P0, p0G0, p0A0, rfl, rfl⟩ (fun F => by simp) (pSub (pH (pA pNil)))
  replace h := cf hc h
  refine wc_skip (wx_then (wc_seq (wc_region (wP rfl rfl (wl_nil (wx_then (wc_seq (wc_seq (wc_region ?_)))))))))
  iterate 2 refine wP rfl rfl ?_
  refine wP (v := .pointer (some ⟨p0b, 1, none⟩)) rfl rfl (wl_val (v := .agg (flat cg_T_ring_place p0g0 : List Value).toArray) (val_load tt_ok rfl (mH) (partV_arr (enc := cg_T_ring_place) (pre := [.int .i64 p0.size]) (post := []) (xs := p0g0) rfl c_np rfl (arr_len cg_T_ring_place_len (arrg_len p0G0 p0.places.2) rfl))) rfl (wP rfl rfl (wl_nil (wx_then (wc_block ?_)))))
  replace h := bsome h; obtain ⟨⟨zh, zg⟩, h, hl17⟩ := h; try dsimp only at hl17
  refine wc_loop (fun m E L => ∃ (zf : Int) (zc : Int) (za : (Arr T_ring_place 14)) (zb : List (T_ring_place × G)), m_ring_Ring_Cut_L16 F p0 p1 m zf zc za = some (zh, zg) ∧ za.1 = unG zb ∧ AllP sh_T_ring_place c_T_api_Shot p0P0 zb ∧ E = [(0, .pointer (some ⟨p0b, 0, none⟩)), (1, .int .u64 p1), (4, .int .i64 (0 : Int)), (5, .int .i64 zf), (14, .agg (flat cg_T_ring_place p0g0 : List Value).toArray), (15, .int .i64 zc)] ∧ L = (⟨p0b, ([.int .i64 p0.size] ++ flat cg_T_ring_place zb), p0t, (0, 0)⟩ :: (p0P0 ++ []))) F ⟨(0 : Int), (0 : Int), p0.places, p0g0, h, p0G0, p0A0, rfl, rfl⟩ (agree_cons rfl (agree_cons rfl (agree_cons rfl (agree_cons rfl (agree_cons rfl (agree_cons rfl agree_nil)))))) (pSub (pH (pA pNil))) ?_
  clear h
  rintro m17 _ _ ⟨zf, zc, za, zb, h, zd, ze, rfl, rfl⟩
  rcases m17 with _ | m17
  · rw [m_ring_Ring_Cut_L16.eq_1] at h; cases h
  rw [m_ring_Ring_Cut_L16.eq_2] at h
  refine wc_seq (wc_region (wP (v := .bool (decide (zc < (14 : Int)))) rfl rfl (wl_nil (wx_then (wc_seq (wc_cond rfl (fun hc => ?_) (fun hc => ?_)))))))
  · replace h := ct hc h
    refine wc_skip (wx_then (wc_seq (wc_block (wc_seq (wc_region (wP rfl rfl ?_))))))
    replace h := bsome h; obtain ⟨v18, x18, h⟩ := h
    obtain ⟨G18, y18⟩ := getI_g p0G0 x18
    refine wl_val (v := .agg #[.int .u64 v18.s.Frame, .int .u64 v18.s.Seed, .int .i32 v18.s.Players.1.X, .int .i32 v18.s.Players.1.Y, .int .i32 v18.s.Players.1.VX, .int .i32 v18.s.Players.1.VY, .int .u8 v18.s.Players.1.Health, .int .u8 v18.s.Players.1.Cool, .int .u8 v18.s.Players.1.Face, .int .i32 v18.s.Players.2.X, .int .i32 v18.s.Players.2.Y, .int .i32 v18.s.Players.2.VX, .int .i32 v18.s.Players.2.VY, .int .u8 v18.s.Players.2.Health, .int .u8 v18.s.Players.2.Cool, .int .u8 v18.s.Players.2.Face, .slice G18.1 G18.2.1 G18.2.2, .int .u16 v18.s.Score.1, .int .u16 v18.s.Score.2, .bool v18.is_]) (val_xv (enc := cg_T_ring_place) (xs := p0g0) tt_ok rfl rfl rfl rfl rfl (arrg_len p0G0 p0.places.2) cg_T_ring_place_len y18) rfl ?_
    refine wl_alloc tt_ok rfl rfl (fun b7 => ?_)
    refine wP rfl rfl ?_
    apply wl_store tt_ok; rfl; exact Upd.here; rfl; rfl; rfl; rfl; rfl; rfl
    refine wl_nil (wx_then (wc_seq (wc_region (wP (v := .pointer (some ⟨b7, 19, none⟩)) rfl rfl (wl_val (v := .bool v18.is_) (val_load tt_ok rfl (mH) rfl) rfl (wP rfl rfl ?_))))))
    replace h := bsome h; obtain ⟨v27, h, hg27⟩ := h
    refine wl_split (t := 21) rfl (fun hc => ?_) (fun hc => ?_)
    · replace h := ct hc h
      refine wl_run rfl (wP (v := .pointer (some ⟨b7, 0, none⟩)) rfl rfl (wl_run rfl (wP (v := .pointer (some ⟨b7, 0, none⟩)) rfl rfl (wl_run rfl (wl_val (v := .int .u64 v18.s.Frame) (val_load tt_ok rfl (mH) rfl) rfl (wl_run rfl (wP rfl rfl (wl_run rfl (wP (v := .bool (decide (p1 < v18.s.Frame))) rfl rfl ?_)))))))))
      obtain rfl := sI h
      have h := hg27; clear hg27
      refine wP (v := .bool (decide (p1 < v18.s.Frame))) rfl rfl (wl_nil (wx_then (wc_cond rfl (fun hc => ?_) (fun hc => ?_))))
      · replace h := ct hc h
        refine wc_seq (wc_region ?_)
        iterate 2 refine wP rfl rfl ?_
        refine wP (v := .agg #[.int .u64 (0 : Int), .int .u64 (0 : Int), .int .i32 (0 : Int), .int .i32 (0 : Int), .int .i32 (0 : Int), .int .i32 (0 : Int), .int .u8 (0 : Int), .int .u8 (0 : Int), .int .u8 (0 : Int), .int .i32 (0 : Int), .int .i32 (0 : Int), .int .i32 (0 : Int), .int .i32 (0 : Int), .int .u8 (0 : Int), .int .u8 (0 : Int), .int .u8 (0 : Int), .slice none 0 0, .int .u16 (0 : Int), .int .u16 (0 : Int), .bool false]) rfl rfl (wP rfl rfl (wP (v := .pointer (some ⟨p0b, 1, none⟩)) rfl rfl ?_))
        replace h := bsome h; obtain ⟨v33, x33, h⟩ := h
        obtain ⟨G33, y33⟩ := getI_g zd x33
        refine wl_val (v := .pointer (some ⟨p0b, 1 + zc.toNat * 20 + 0, none⟩)) (val_xa (a := za) tt_ok rfl rfl rfl rfl x33) rfl ?_
        refine wl_chg0 (chg_stx (enc := cg_T_ring_place) (pre := [.int .i64 p0.size]) (post := []) (xs := zb) (y' := ((T_ring_place.mk (T_api_State.mk (0 : Int) (0 : Int) ((T_api_Player.mk (0 : Int) (0 : Int) (0 : Int) (0 : Int) (0 : Int) (0 : Int) (0 : Int)), (T_api_Player.mk (0 : Int) (0 : Int) (0 : Int) (0 : Int) (0 : Int) (0 : Int) (0 : Int))) ([] : List T_api_Shot) ((0 : Int), (0 : Int))) false), (none, 0, 0))) (c' := ([.int .i64 p0.size] ++ flat cg_T_ring_place (setI zb zc ((T_ring_place.mk (T_api_State.mk (0 : Int) (0 : Int) ((T_api_Player.mk (0 : Int) (0 : Int) (0 : Int) (0 : Int) (0 : Int) (0 : Int) (0 : Int)), (T_api_Player.mk (0 : Int) (0 : Int) (0 : Int) (0 : Int) (0 : Int) (0 : Int) (0 : Int))) ([] : List T_api_Shot) ((0 : Int), (0 : Int))) false), (none, 0, 0))))) tt_ok rfl rfl rfl rfl rfl rfl (Upd.there Upd.here) c_np c_np rfl cg_T_ring_place_len y33 rfl (by intro h; cases h)) ?_
        rintro _ _ rfl
        refine wl_nil (wx_then (wc_region (wP rfl rfl (wP (v := .int .i64 (IntKind.wrap .i64 (zf + (1 : Int)))) rfl rfl (wP rfl rfl (wl_nil (wx_block (wx_then (wc_region (wP (v := .int .i64 (IntKind.wrap .i64 (zc + (1 : Int)))) rfl rfl (wP rfl rfl (wl_nil ?_))))))))))))
        exact wx_round m17 (Nat.lt_succ_self m17) ⟨(IntKind.wrap .i64 (zf + (1 : Int))), (IntKind.wrap .i64 (zc + (1 : Int))), (Arr.set za zc (T_ring_place.mk (T_api_State.mk (0 : Int) (0 : Int) ((T_api_Player.mk (0 : Int) (0 : Int) (0 : Int) (0 : Int) (0 : Int) (0 : Int) (0 : Int)), (T_api_Player.mk (0 : Int) (0 : Int) (0 : Int) (0 : Int) (0 : Int) (0 : Int) (0 : Int))) ([] : List T_api_Shot) ((0 : Int), (0 : Int))) false)), (setI zb zc ((T_ring_place.mk (T_api_State.mk (0 : Int) (0 : Int) ((T_api_Player.mk (0 : Int) (0 : Int) (0 : Int) (0 : Int) (0 : Int) (0 : Int) (0 : Int)), (T_api_Player.mk (0 : Int) (0 : Int) (0 : Int) (0 : Int) (0 : Int) (0 : Int) (0 : Int))) ([] : List T_api_Shot) ((0 : Int), (0 : Int))) false), (none, 0, 0))), h, (setI_g zd zc ((T_ring_place.mk (T_api_State.mk (0 : Int) (0 : Int) ((T_api_Player.mk (0 : Int) (0 : Int) (0 : Int) (0 : Int) (0 : Int) (0 : Int) (0 : Int)), (T_api_Player.mk (0 : Int) (0 : Int) (0 : Int) (0 : Int) (0 : Int) (0 : Int) (0 : Int))) ([] : List T_api_Shot) ((0 : Int), (0 : Int))) false), (none, 0, 0))), (fun w A => allrd_set (ze w A) (allrd_one (sh := sh_T_ring_place) (x := (T_ring_place.mk (T_api_State.mk (0 : Int) (0 : Int) ((T_api_Player.mk (0 : Int) (0 : Int) (0 : Int) (0 : Int) (0 : Int) (0 : Int) (0 : Int)), (T_api_Player.mk (0 : Int) (0 : Int) (0 : Int) (0 : Int) (0 : Int) (0 : Int) (0 : Int))) ([] : List T_api_Shot) ((0 : Int), (0 : Int))) false)) (s := ([] : List T_api_Shot)) rfl rfl (Nat.le_refl _) Rds.nil (fun _ => rfl))), rfl, rfl⟩ (agree_cons rfl (agree_cons rfl (agree_cons rfl (agree_cons rfl (agree_cons rfl (agree_cons rfl agree_nil)))))) (pSub (pCons (sC hC) (pApp (sC hA') pNil)))
      replace h := cf hc h
      refine wc_skip (wx_block (wx_then (wc_region (wP (v := .int .i64 (IntKind.wrap .i64 (zc + (1 : Int)))) rfl rfl (wP rfl rfl (wl_nil ?_))))))
      exact wx_round m17 (Nat.lt_succ_self m17) ⟨zf, (IntKind.wrap .i64 (zc + (1 : Int))), za, zb, h, zd, ze, rfl, rfl⟩ (agree_cons rfl (agree_cons rfl (agree_cons rfl (agree_cons rfl (agree_cons rfl (agree_cons rfl agree_nil)))))) (pSub (pCons (sC hC) (pApp (sC hA') pNil)))
    replace h := cf hc h
    refine wl_skip rfl rfl (wl_skip rfl rfl (wl_skip rfl rfl (wl_skip rfl rfl (wl_skip rfl rfl ?_))))
    obtain rfl := sI h
    have h := hg27; clear hg27
    refine wP (v := .bool false) rfl rfl (wl_nil (wx_then ?_))
    replace h := cf rfl h
    refine wc_cond_false rfl ?_
    refine wc_skip (wx_block (wx_then (wc_region (wP (v := .int .i64 (IntKind.wrap .i64 (zc + (1 : Int)))) rfl rfl (wP rfl rfl (wl_nil ?_))))))
    exact wx_round m17 (Nat.lt_succ_self m17) ⟨zf, (IntKind.wrap .i64 (zc + (1 : Int))), za, zb, h, zd, ze, rfl, rfl⟩ (agree_cons rfl (agree_cons rfl (agree_cons rfl (agree_cons rfl (agree_cons rfl (agree_cons rfl agree_nil)))))) (pSub (pCons (sC hC) (pApp (sC hA') pNil)))
  replace h := cf hc h
  refine wc_exit (wx_then_exit ?_)
  simp only [Option.some.injEq, Prod.mk.injEq] at h
  obtain ⟨rfl, rfl⟩ := h
  have h := hl17; clear hl17; try dsimp only [orE_l, orE_r] at h
  refine wx_then_exit (wx_block_exit (wx_then (wc_seq (wc_region ?_))))
  iterate 2 refine wP rfl rfl ?_
  refine wl_nil (wx_then (wc_ret ?_))
  simp only [Option.some.injEq, Prod.mk.injEq] at h
  obtain ⟨rfl, rfl⟩ := h
  exact wx_spD tt_ok (.inl rfl) Tryd.results49 (Res.tmp rfl Res.nil) ⟨zb, p0P0, zd, ze, rfl, rfl⟩ (fun F => by simp) (pSub (pH (pA pNil)))

theorem k_rollback_Engine_Remote {F : Nat} {p0 : T_rollback_Engine} {p0b p0t : Nat} {p0a0 : Option Addr} {p0n0 : Nat} {p0c0 : Nat} {p0B0 : List Blk} {p0a1 : Option Addr} {p0n1 : Nat} {p0c1 : Nat} {p0B1 : List Blk} {p0_4 : T_queue_Queue} {p0_4b p0_4t : Nat} {p0_4a0 : Option Addr} {p0_4n0 : Nat} {p0_4c0 : Nat} {p0_4B0 : List Blk} {p0_5 : T_ring_Ring} {p0_5b p0_5t : Nat} {p0_5g0 : List (T_ring_place × G)} {p0_5P0 : List Blk} {p1 : Int} {p2 : Int} {r0 : T_queue_Queue} {r1 : T_ring_Ring} {r2 : Int} (p0N0 : p0n0 = p0.sure.Shots.length) (p0V0 : Own 92 6 p0a0 p0n0 p0c0 (flat c_T_api_Shot p0.sure.Shots) p0B0) (p0N1 : p0n1 = p0.own.length) (p0V1 : Own 34 1 p0a1 p0n1 p0c1 (flat (e1 .u8) p0.own) p0B1) (p0_4N0 : p0_4n0 = p0_4.l.length) (p0_4V0 : Own 34 1 p0_4a0 p0_4n0 p0_4c0 (flat (e1 .u8) p0_4.l) p0_4B0) (p0_5G0 : p0_5.places.1 = unG p0_5g0) (p0_5A0 : AllP sh_T_ring_place c_T_api_Shot p0_5P0 p0_5g0) (h : m_rollback_Engine_Remote F p0 p0_4 p0_5 p1 p2 = some (r0, r1, r2)) :
    SpD Tryd.prog 26 [.pointer (some ⟨p0b, 0, none⟩), .int .u64 p1, .int .u8 p2] (⟨p0b, (.int .u8 p0.player :: .int .i64 p0.window :: st19 p0.sure p0a0 p0n0 p0c0 [.slice p0a1 p0n1 p0c1, .pointer (some ⟨p0_4b, 0, none⟩), .pointer (some ⟨p0_5b, 0, none⟩)]), p0t, (0, 0)⟩ :: (p0B0 ++ (p0B1 ++ (⟨p0_4b, [.int .u64 p0_4.first_, .slice p0_4a0 p0_4n0 p0_4c0, .int .u8 p0_4.last], p0_4t, (0, 0)⟩ :: (p0_4B0 ++ (⟨p0_5b, ([.int .i64 p0_5.size] ++ flat cg_T_ring_place p0_5g0), p0_5t, (0, 0)⟩ :: (p0_5P0 ++ []))))))) (fun w => True) (fun v D => ∃ (r0a0 : Option Addr) (r0n0 : Nat) (r0c0 : Nat) (r0B0 : List Blk) (r1g0 : List (T_ring_place × G)) (r1P0 : List Blk), r0n0 = r0.l.length ∧ Own 34 1 r0a0 r0n0 r0c0 (flat (e1 .u8) r0.l) r0B0 ∧ r1.places.1 = unG r1g0 ∧ AllP sh_T_ring_place c_T_api_Shot r1P0 r1g0 ∧ v = .int .i64 r2 ∧ D = fun F => (⟨p0b, (.int .u8 p0.player :: .int .i64 p0.window :: st19 p0.sure p0a0 p0n0 p0c0 [.slice p0a1 p0n1 p0c1, .pointer (some ⟨p0_4b, 0, none⟩), .pointer (some ⟨p0_5b, 0, none⟩)]), p0t, (0, 0)⟩ :: (p0B0 ++ (p0B1 ++ (⟨p0_4b, [.int .u64 r0.first_, .slice r0a0 r0n0 r0c0, .int .u8 r0.last], p0_4t, (0, 0)⟩ :: (r0B0 ++ (⟨p0_5b, ([.int .i64 r1.size] ++ flat cg_T_ring_place r1g0), p0_5t, (0, 0)⟩ :: (r1P0 ++ F)))))))) := by
  unfold m_rollback_Engine_Remote at h
  refine sp_of_wc Tryd.func26 rfl Tryd.ntmps26 rfl rfl (fun w0 hR => ?_)
  refine wc_seq (wc_region (wP rfl rfl (wl_nil (wx_then (wc_seq (wc_seq (wc_region (wP rfl rfl ?_))))))))
  replace h := bsome h; obtain ⟨v11, x11, h⟩ := h
  refine wl_cq Tryd.call29 rfl rfl rfl (q_rd (k_rollback_Engine_is (p0 := p0) (p0_4 := p0_4) (p0_5 := p0_5) p0N0 p0V0 p0N1 p0V1 p0_4N0 p0_4V0 p0_5G0 p0_5A0 x11) (pH (pA (pA (pH (pA (pH (pA pNil))))))) (fun _ _ => trivial)) rfl ?_
  refine wP (v := .bool (!v11)) rfl rfl (wl_nil (wx_then (wc_cond rfl (fun hc => ?_) (fun hc => ?_))))
  · replace h := ct hc h
    refine wc_seq (wc_region (wP rfl rfl (wl_nil (wx_then (wc_ret (wx_then_ret ?_))))))
    simp only [Option.some.injEq, Prod.mk.injEq] at h
    obtain ⟨rfl, rfl, rfl⟩ := h
    exact wx_spD tt_ok (.inl rfl) Tryd.results26 (Res.tmp rfl Res.nil) ⟨p0_4a0, p0_4n0, p0_4c0, p0_4B0, p0_5g0, p0_5P0, p0_4N0, p0_4V0, p0_5G0, p0_5A0, rfl, rfl⟩ (fun F => by simp) (pSub (pH (pA (pA (pH (pA (pH (pA pNil))))))))
  replace h := cf hc h
  refine wc_skip (wx_then (wc_seq (wc_quiet (by kernel_rfl) (by kernel_rfl) (qP rfl rfl (qP rfl rfl (qP (v := .pointer (some ⟨p0b, 22, none⟩)) rfl rfl (wq_val (v := .pointer (some ⟨p0_4b, 0, none⟩)) (val_load tt_ok rfl (mH) rfl) rfl ?_)))))))
  replace h := bsome h; obtain ⟨v17, x17, h⟩ := h
  refine wq_cq Tryd.call40 rfl rfl rfl (q_rd (k_queue_Queue_Known (p0 := p0_4) p0_4N0 p0_4V0 x17) (pCons (sC (sA (sA hC))) (pApp (sC (sA (sA hA'))) pNil)) (fun _ _ => trivial)) rfl ?_
  refine qP rfl rfl (qP rfl rfl (qP (v := .pointer (some ⟨p0b, 22, none⟩)) rfl rfl (wq_val (v := .pointer (some ⟨p0_4b, 0, none⟩)) (val_load tt_ok rfl (mH) rfl) rfl (qP rfl rfl ?_))))
  replace h := bsome h; obtain ⟨v23, x23, h⟩ := h
  refine wq_cq Tryd.call47 rfl rfl rfl (q_rd (k_queue_Queue_Guess (p0 := p0_4) p0_4N0 p0_4V0 x23) (pCons (sC (sA (sA hC))) (pApp (sC (sA (sA hA'))) pNil)) (fun _ _ => trivial)) rfl ?_
  refine qP rfl rfl (qP rfl rfl (wq_nil (wx_then (wc_seq (wc_region ?_)))))
  iterate 2 refine wP rfl rfl ?_
  refine wP (v := .pointer (some ⟨p0b, 22, none⟩)) rfl rfl (wl_val (v := .pointer (some ⟨p0_4b, 0, none⟩)) (val_load tt_ok rfl (mH) rfl) rfl ?_)
  iterate 2 refine wP rfl rfl ?_
  replace h := bsome h; obtain ⟨⟨zb, v30⟩, x30, h⟩ := h; try dsimp only at h
  refine wl_cs Tryd.call48 rfl rfl rfl (s_sp (k_queue_Queue_Add (p0 := p0_4) p0_4N0 p0_4V0 x30) (pCons (sC (sA (sA hC))) (pApp (sC (sA (sA hA'))) pNil)) (fun _ _ => trivial)) rfl ?_
  rintro _ _ ⟨_, ⟨zj, zl, zk, zi, zm, zn, rfl, rfl⟩, rfl⟩
  refine wP rfl rfl (wl_nil (wx_then (wc_seq (wc_seq (wc_region ?_)))))
  iterate 2 refine wP rfl rfl ?_
  refine wP (v := .pointer (some ⟨p0b, 22, none⟩)) rfl rfl (wl_val (v := .pointer (some ⟨p0_4b, 0, none⟩)) (val_load tt_ok rfl (mT (mR (mH))) rfl) rfl ?_)
  replace h := bsome h; obtain ⟨v35, x35, h⟩ := h
  refine wl_cq Tryd.call40 rfl rfl rfl (q_rd (k_queue_Queue_Known (p0 := zb) zm zn x35) (pH (pA pNil)) (fun _ _ => trivial)) rfl ?_
  refine wP rfl rfl (wP (v := .bool (decide (v17 < v35))) rfl rfl (wP rfl rfl ?_))
  replace h := bsome h; obtain ⟨v42, h, hg42⟩ := h
  refine wl_split (t := 38) rfl (fun hc => ?_) (fun hc => ?_)
  · replace h := ct hc h
    refine wl_run rfl (wP rfl rfl (wl_run rfl (wP rfl rfl (wl_run rfl (wP (v := .bool (v23 != p2)) rfl rfl ?_)))))
    obtain rfl := sI h
    have h := hg42; clear hg42
    refine wP (v := .bool (v23 != p2)) rfl rfl (wl_nil (wx_then ?_))
    replace h := bsome h; obtain ⟨⟨zh, za⟩, h, hj18⟩ := h; try dsimp only at hj18
    refine wc_join2 (fun E L => ∃ (zc : List (T_ring_place × G)) (zd : List Blk), za.1 = unG zc ∧ AllP sh_T_ring_place c_T_api_Shot zd zc ∧ E = [(6, .int .i64 (0 : Int)), (9, .int .i64 v30)] ∧ L = (⟨p0b, (.int .u8 p0.player :: .int .i64 p0.window :: st19 p0.sure p0a0 p0n0 p0c0 [.slice p0a1 p0n1 p0c1, .pointer (some ⟨p0_4b, 0, none⟩), .pointer (some ⟨p0_5b, 0, none⟩)]), p0t, (0, 0)⟩ :: (⟨p0_4b, [.int .u64 zb.first_, .slice zj zl zk, .int .u8 zb.last], p0_4t, (0, 0)⟩ :: (⟨p0_5b, ([.int .i64 zh] ++ flat cg_T_ring_place zc), p0_5t, (0, 0)⟩ :: (p0B0 ++ (p0B1 ++ (zi ++ (zd ++ [])))))))) ?_ ?_
    · refine wc_cond rfl (fun hc => ?_) (fun hc => ?_)
      · replace h := ct hc h
        refine wc_region ?_
        iterate 2 refine wP rfl rfl ?_
        refine wP (v := .pointer (some ⟨p0b, 23, none⟩)) rfl rfl (wl_val (v := .pointer (some ⟨p0_5b, 0, none⟩)) (val_load tt_ok rfl (mT (mR (mH))) rfl) rfl (wP rfl rfl ?_))
        replace h := bsome h; obtain ⟨⟨zg, v48⟩, x48, h⟩ := h; try dsimp only at h
        refine wl_cs Tryd.call49 rfl rfl rfl (s_sp (k_ring_Ring_Cut (p0 := p0_5) p0_5G0 p0_5A0 x48) (pCons (sC (sA (sC (sA (sA hC))))) (pApp (sC (sA (sC (sA (sA hA'))))) pNil)) (fun _ _ => trivial)) rfl ?_
        rintro _ _ ⟨_, ⟨zr, zq, zp, zo, rfl, rfl⟩, rfl⟩
        refine wl_nil ?_
        simp only [Option.some.injEq, Prod.mk.injEq] at h
        obtain ⟨rfl, rfl⟩ := h
        exact wx_join ⟨zr, zq, zp, zo, rfl, rfl⟩ (agree_cons rfl (agree_cons rfl agree_nil)) (pSub (pCons (sC (sA (sC (sA hC)))) (pCons (sC (sA hC)) (pH (pApp (sA (sA hA')) (pApp (sA (sA hA')) (pApp (sA hA') (pA pNil))))))))
      replace h := cf hc h
      refine wc_skip ?_
      simp only [Option.some.injEq, Prod.mk.injEq] at h
      obtain ⟨rfl, rfl⟩ := h
      exact wx_join ⟨p0_5g0, p0_5P0, p0_5G0, p0_5A0, rfl, rfl⟩ (agree_cons rfl (agree_cons rfl agree_nil)) (pSub (pCons (sC (sA hC)) (pH (pCons (sA (sA (sA hC))) (pApp (sA hA') (pApp (sA hA') (pA (pA pNil))))))))
    rintro _ _ ⟨zc, zd, zf, ze, rfl, rfl⟩
    have h := hj18; clear hj18
    refine wc_seq (wc_region ?_)
    iterate 2 refine wP rfl rfl ?_
    refine wl_nil (wx_then (wc_ret ?_))
    simp only [Option.some.injEq, Prod.mk.injEq] at h
    obtain ⟨rfl, rfl, rfl⟩ := h
    exact wx_spD tt_ok (.inl rfl) Tryd.results26 (Res.tmp rfl Res.nil) ⟨zj, zl, zk, zi, zc, zd, zm, zn, zf, ze, rfl, rfl⟩ (fun F => by simp) (pSub (pH (pApp (sC (sC hA')) (pApp (sC (sC hA')) (pH (pApp (sC hA') (pH (pA pNil))))))))
  replace h := cf hc h
  refine wl_skip rfl rfl (wl_skip rfl rfl (wl_skip rfl rfl ?_))
  obtain rfl := sI h
  have h := hg42; clear hg42
  refine wP (v := .bool false) rfl rfl (wl_nil (wx_then ?_))
  replace h := bsome h; obtain ⟨⟨zh, za⟩, h, hj18⟩ := h; try dsimp only at hj18
  refine wc_join2 (fun E L => ∃ (zc : List (T_ring_place × G)) (zd : List Blk), za.1 = unG zc ∧ AllP sh_T_ring_place c_T_api_Shot zd zc ∧ E = [(6, .int .i64 (0 : Int)), (9, .int .i64 v30)] ∧ L = (⟨p0b, (.int .u8 p0.player :: .int .i64 p0.window :: st19 p0.sure p0a0 p0n0 p0c0 [.slice p0a1 p0n1 p0c1, .pointer (some ⟨p0_4b, 0, none⟩), .pointer (some ⟨p0_5b, 0, none⟩)]), p0t, (0, 0)⟩ :: (⟨p0_4b, [.int .u64 zb.first_, .slice zj zl zk, .int .u8 zb.last], p0_4t, (0, 0)⟩ :: (⟨p0_5b, ([.int .i64 zh] ++ flat cg_T_ring_place zc), p0_5t, (0, 0)⟩ :: (p0B0 ++ (p0B1 ++ (zi ++ (zd ++ [])))))))) ?_ ?_
  · replace h := cf rfl h
    refine wc_cond_false rfl ?_
    refine wc_skip ?_
    simp only [Option.some.injEq, Prod.mk.injEq] at h
    obtain ⟨rfl, rfl⟩ := h
    exact wx_join ⟨p0_5g0, p0_5P0, p0_5G0, p0_5A0, rfl, rfl⟩ (agree_cons rfl (agree_cons rfl agree_nil)) (pSub (pCons (sC (sA hC)) (pH (pCons (sA (sA (sA hC))) (pApp (sA hA') (pApp (sA hA') (pA (pA pNil))))))))
  rintro _ _ ⟨zc, zd, zf, ze, rfl, rfl⟩
  have h := hj18; clear hj18
  refine wc_seq (wc_region ?_)
  iterate 2 refine wP rfl rfl ?_
  refine wl_nil (wx_then (wc_ret ?_))
  simp only [Option.some.injEq, Prod.mk.injEq] at h
  obtain ⟨rfl, rfl, rfl⟩ := h
  exact wx_spD tt_ok (.inl rfl) Tryd.results26 (Res.tmp rfl Res.nil) ⟨zj, zl, zk, zi, zc, zd, zm, zn, zf, ze, rfl, rfl⟩ (fun F => by simp) (pSub (pH (pApp (sC (sC hA')) (pApp (sC (sC hA')) (pH (pApp (sC hA') (pH (pA pNil))))))))

theorem k_rollback_Engine_pair {F : Nat} {p0 : T_rollback_Engine} {p0b p0t : Nat} {p0a0 : Option Addr} {p0n0 : Nat} {p0c0 : Nat} {p0B0 : List Blk} {p0a1 : Option Addr} {p0n1 : Nat} {p0c1 : Nat} {p0B1 : List Blk} {p0_4 : T_queue_Queue} {p0_4b p0_4t : Nat} {p0_4a0 : Option Addr} {p0_4n0 : Nat} {p0_4c0 : Nat} {p0_4B0 : List Blk} {p0_5 : T_ring_Ring} {p0_5b p0_5t : Nat} {p0_5g0 : List (T_ring_place × G)} {p0_5P0 : List Blk} {p1 : Int} {r0 : (Int × Int)} (p0N0 : p0n0 = p0.sure.Shots.length) (p0V0 : Own 92 6 p0a0 p0n0 p0c0 (flat c_T_api_Shot p0.sure.Shots) p0B0) (p0N1 : p0n1 = p0.own.length) (p0V1 : Own 34 1 p0a1 p0n1 p0c1 (flat (e1 .u8) p0.own) p0B1) (p0_4N0 : p0_4n0 = p0_4.l.length) (p0_4V0 : Own 34 1 p0_4a0 p0_4n0 p0_4c0 (flat (e1 .u8) p0_4.l) p0_4B0) (p0_5G0 : p0_5.places.1 = unG p0_5g0) (p0_5A0 : AllP sh_T_ring_place c_T_api_Shot p0_5P0 p0_5g0) (h : m_rollback_Engine_pair F p0 p0_4 p0_5 p1 = some r0) :
    Rd2 Tryd.prog 50 [.pointer (some ⟨p0b, 0, none⟩), .int .u64 p1] (⟨p0b, (.int .u8 p0.player :: .int .i64 p0.window :: st19 p0.sure p0a0 p0n0 p0c0 [.slice p0a1 p0n1 p0c1, .pointer (some ⟨p0_4b, 0, none⟩), .pointer (some ⟨p0_5b, 0, none⟩)]), p0t, (0, 0)⟩ :: (p0B0 ++ (p0B1 ++ (⟨p0_4b, [.int .u64 p0_4.first_, .slice p0_4a0 p0_4n0 p0_4c0, .int .u8 p0_4.last], p0_4t, (0, 0)⟩ :: (p0_4B0 ++ (⟨p0_5b, ([.int .i64 p0_5.size] ++ flat cg_T_ring_place p0_5g0), p0_5t, (0, 0)⟩ :: (p0_5P0 ++ []))))))) (fun w => True) (.agg #[.int .u8 r0.1, .int .u8 r0.2]) := by
  unfold m_rollback_Engine_pair at h
  refine sp_of_wc Tryd.func50 rfl Tryd.ntmps50 rfl rfl (fun w0 hR => ?_)
  refine wc_seq (wc_region (wl_alloc tt_ok rfl rfl (fun b4 => (wl_nil (wx_then (wc_seq (wc_k2 (Ls := (⟨b4, [.int .u8 (0 : Int), .int .u8 (0 : Int)], 36, (0, 0)⟩ :: (⟨p0b, (.int .u8 p0.player :: .int .i64 p0.window :: st19 p0.sure p0a0 p0n0 p0c0 [.slice p0a1 p0n1 p0c1, .pointer (some ⟨p0_4b, 0, none⟩), .pointer (some ⟨p0_5b, 0, none⟩)]), p0t, (0, 0)⟩ :: (p0B0 ++ (p0B1 ++ (⟨p0_4b, [.int .u64 p0_4.first_, .slice p0_4a0 p0_4n0 p0_4c0, .int .u8 p0_4.last], p0_4t, (0, 0)⟩ :: (p0_4B0 ++ (⟨p0_5b, ([.int .i64 p0_5.size] ++ flat cg_T_ring_place p0_5g0), p0_5t, (0, 0)⟩ :: (p0_5P0 ++ []))))))))) [18] [18] [0, 1, 3, 7, 0, 16, 48, 112, 0, 0, 512, 1536, 3584, 7680, 16128, 32752, 65520, 131071, 262143] [0, 1, 2, 3, 4, 5, 6, 7, 8, 9, 10, 11, 12, 13, 14, 15, 16, 17, 18] (by kernel_rfl) (by kernel_rfl) (by kernel_rfl) ?_)))))))
  refine k_val rfl rfl rfl (pSub (pH (pH (pA (pA (pH (pA (pH (pA pNil))))))))) (stepV_ok tt_ok rfl) rfl ?_
  refine k_val rfl rfl rfl (pSub (pH (pH (pA (pA (pH (pA (pH (pA pNil))))))))) (stepV_ok tt_ok rfl) rfl ?_
  refine k_val (v := .pointer (some ⟨p0b, 0, none⟩)) rfl rfl rfl (pSub (pH (pH (pA (pA (pH (pA (pH (pA pNil))))))))) (stepV_ok tt_ok rfl) rfl ?_
  refine k_val (v := .int .u8 p0.player) rfl rfl rfl (pSub (pH (pH (pA (pA (pH (pA (pH (pA pNil))))))))) (val_load tt_ok rfl (mT (mH)) rfl) rfl ?_
  refine k_val rfl rfl rfl (pSub (pH (pH (pA (pA (pH (pA (pH (pA pNil))))))))) (stepV_ok tt_ok rfl) rfl ?_
  refine k_val rfl rfl rfl (pSub (pH (pH (pA (pA (pH (pA (pH (pA pNil))))))))) (stepV_ok tt_ok rfl) rfl ?_
  refine k_val (v := .pointer (some ⟨p0b, 21, none⟩)) rfl rfl rfl (pSub (pH (pH (pA (pA (pH (pA (pH (pA pNil))))))))) (stepV_ok tt_ok rfl) rfl ?_
  refine k_val (v := .slice p0a1 p0n1 p0c1) rfl rfl rfl (pSub (pH (pH (pA (pA (pH (pA (pH (pA pNil))))))))) (val_load tt_ok rfl (mT (mH)) rfl) rfl ?_
  refine k_val rfl rfl rfl (pSub (pH (pH (pA (pA (pH (pA (pH (pA pNil))))))))) (stepV_ok tt_ok rfl) rfl ?_
  refine k_val rfl rfl rfl (pSub (pH (pH (pA (pA (pH (pA (pH (pA pNil))))))))) (stepV_ok tt_ok rfl) rfl ?_
  refine k_val rfl rfl rfl (pSub (pH (pH (pA (pA (pH (pA (pH (pA pNil))))))))) (stepV_ok tt_ok rfl) rfl ?_
  refine k_val (v := .pointer (some ⟨p0b, 2, none⟩)) rfl rfl rfl (pSub (pH (pH (pA (pA (pH (pA (pH (pA pNil))))))))) (stepV_ok tt_ok rfl) rfl ?_
  refine k_val (v := .pointer (some ⟨p0b, 2, none⟩)) rfl rfl rfl (pSub (pH (pH (pA (pA (pH (pA (pH (pA pNil))))))))) (stepV_ok tt_ok rfl) rfl ?_
  refine k_val (v := .int .u64 p0.sure.Frame) rfl rfl rfl (pSub (pH (pH (pA (pA (pH (pA (pH (pA pNil))))))))) (val_load tt_ok rfl (mT (mH)) rfl) rfl ?_
  refine k_val (v := .int .u64 (IntKind.wrap .u64 (p1 - p0.sure.Frame))) rfl rfl rfl (pSub (pH (pH (pA (pA (pH (pA (pH (pA pNil))))))))) (stepV_ok tt_ok rfl) rfl ?_
  replace h := bsome h; obtain ⟨v20, x20, h⟩ := h
  refine k_val (v := .pointer (some ((adOf p0a1).add ((IntKind.wrap .u64 (p1 - p0.sure.Frame)).toNat * 1 + 0)))) rfl rfl rfl (pSub (pH (pH (pA (pA (pH (pA (pH (pA pNil))))))))) (val_ix (enc := (e1 .u8)) tt_ok rfl rfl rfl rfl p0N1 (Rds.of_vec p0V1) (e1_len _) rfl x20) rfl ?_
  refine k_val (v := .int .u8 v20) rfl rfl rfl (pSub (pH (pH (pA (pA (pH (pA (pH (pA pNil))))))))) (val_le (enc := (e1 .u8)) (xs := p0.own) tt_ok rfl (Rds.of_vec p0V1) ⟨_, (sC (sC (sA hA')))⟩ (e1_len _) x20 rfl) rfl ?_
  rcases Bool.eq_false_or_eq_true (p0.player == (0 : Int)) with hx220 | hx220
  · replace h := ct hx220 h
    refine k_val (v := .pointer (some ⟨b4, 0, none⟩)) rfl rfl rfl (pSub (pH (pH (pA (pA (pH (pA (pH (pA pNil))))))))) (val_ia (j := 0) tt_ok rfl rfl rfl rfl (by simpa using hx220) rfl rfl) rfl ?_
    refine k_chg0 rfl rfl rfl (chg_store tt_ok rfl Upd.here rfl rfl rfl rfl rfl rfl) (.inl rfl) ?_
    rintro _ _ rfl
    refine k_end (by kernel_rfl) ?_
    refine wx_then (wc_seq (wc_k2 (Ls := (⟨b4, [.int .u8 v20, .int .u8 (0 : Int)], 36, (0, 0)⟩ :: (⟨p0b, (.int .u8 p0.player :: .int .i64 p0.window :: st19 p0.sure p0a0 p0n0 p0c0 [.slice p0a1 p0n1 p0c1, .pointer (some ⟨p0_4b, 0, none⟩), .pointer (some ⟨p0_5b, 0, none⟩)]), p0t, (0, 0)⟩ :: (p0B0 ++ (p0B1 ++ (⟨p0_4b, [.int .u64 p0_4.first_, .slice p0_4a0 p0_4n0 p0_4c0, .int .u8 p0_4.last], p0_4t, (0, 0)⟩ :: (p0_4B0 ++ (⟨p0_5b, ([.int .i64 p0_5.size] ++ flat cg_T_ring_place p0_5g0), p0_5t, (0, 0)⟩ :: (p0_5P0 ++ []))))))))) [10, 11, 12] [11, 12] [0, 1, 3, 7, 15, 0, 32, 96, 224, 0, 992, 2047, 4095] [0, 1, 2, 3, 4, 5, 6, 7, 8, 9, 10, 11, 12] (by kernel_rfl) (by kernel_rfl) (by kernel_rfl) ?_))
    refine k_val rfl rfl rfl (pSub (pH (pH (pA (pA (pH (pA (pH (pA pNil))))))))) (stepV_ok tt_ok rfl) rfl ?_
    refine k_val rfl rfl rfl (pSub (pH (pH (pA (pA (pH (pA (pH (pA pNil))))))))) (stepV_ok tt_ok rfl) rfl ?_
    refine k_val (v := .pointer (some ⟨p0b, 0, none⟩)) rfl rfl rfl (pSub (pH (pH (pA (pA (pH (pA (pH (pA pNil))))))))) (stepV_ok tt_ok rfl) rfl ?_
    refine k_val (v := .int .u8 p0.player) rfl rfl rfl (pSub (pH (pH (pA (pA (pH (pA (pH (pA pNil))))))))) (val_load tt_ok rfl (mT (mH)) rfl) rfl ?_
    refine k_val (v := .int .u8 (IntKind.wrap .u8 ((1 : Int) - p0.player))) rfl rfl rfl (pSub (pH (pH (pA (pA (pH (pA (pH (pA pNil))))))))) (stepV_ok tt_ok rfl) rfl ?_
    refine k_val rfl rfl rfl (pSub (pH (pH (pA (pA (pH (pA (pH (pA pNil))))))))) (stepV_ok tt_ok rfl) rfl ?_
    refine k_val rfl rfl rfl (pSub (pH (pH (pA (pA (pH (pA (pH (pA pNil))))))))) (stepV_ok tt_ok rfl) rfl ?_
    refine k_val (v := .pointer (some ⟨p0b, 22, none⟩)) rfl rfl rfl (pSub (pH (pH (pA (pA (pH (pA (pH (pA pNil))))))))) (stepV_ok tt_ok rfl) rfl ?_
    refine k_val (v := .pointer (some ⟨p0_4b, 0, none⟩)) rfl rfl rfl (pSub (pH (pH (pA (pA (pH (pA (pH (pA pNil))))))))) (val_load tt_ok rfl (mT (mH)) rfl) rfl ?_
    refine k_val rfl rfl rfl (pSub (pH (pH (pA (pA (pH (pA (pH (pA pNil))))))))) (stepV_ok tt_ok rfl) rfl ?_
    replace h := bsome h; obtain ⟨v33, x33, h⟩ := h
    refine k_cq rfl rfl rfl Tryd.call47 rfl rfl rfl (q_rd (k_queue_Queue_Guess (p0 := p0_4) p0_4N0 p0_4V0 x33) (pCons (sC (sC (sA (sA hC)))) (pApp (sC (sC (sA (sA hA')))) pNil)) (fun _ _ => trivial)) rfl (pSub (pH (pH (pA (pA (pH (pA (pH (pA pNil))))))))) ?_
    rcases Bool.eq_false_or_eq_true ((IntKind.wrap .u8 ((1 : Int) - p0.player)) == (0 : Int)) with hx340 | hx340
    · replace h := ct hx340 h
      refine k_chg rfl rfl rfl (Chg.of_val (v := .pointer (some ⟨b4, 0, none⟩)) (val_ia (j := 0) tt_ok rfl rfl rfl rfl (by simpa using hx340) rfl rfl)) rfl (.inl rfl) ?_
      rintro _ _ ⟨rfl, rfl⟩
      refine k_chg0 rfl rfl rfl (chg_store tt_ok rfl Upd.here rfl rfl rfl rfl rfl rfl) (.inl rfl) ?_
      rintro _ _ rfl
      refine k_end (by kernel_rfl) ?_
      refine wx_then (wc_seq (wc_region (wl_val (v := .agg #[.int .u8 v33, .int .u8 (0 : Int)]) (val_load tt_ok rfl (mH) rfl) rfl ?_)))
      apply wl_store tt_ok; rfl; exact Upd.here; rfl; rfl; rfl; rfl; rfl; rfl
      refine wl_nil (wx_then (wc_ret ?_))
      obtain rfl := sI h
      exact wx_rd tt_ok (.inl rfl) Tryd.results50 (Res.cell rfl (mH) rfl Res.nil) (pSub (pCons (sC hC) (pApp (sC hA') (pApp (sC hA') (pCons (sC hC) (pApp (sC hA') (pCons (sC hC) (pApp (sC hA') pNil)))))))) rfl
    replace h := cf hx340 h
    rcases Bool.eq_false_or_eq_true ((IntKind.wrap .u8 ((1 : Int) - p0.player)) == (1 : Int)) with hx341 | hx341
    · replace h := ct hx341 h
      refine k_chg rfl rfl rfl (Chg.of_val (v := .pointer (some ⟨b4, 1, none⟩)) (val_ia (j := 1) tt_ok rfl rfl rfl rfl (by simpa using hx341) rfl rfl)) rfl (.inl rfl) ?_
      rintro _ _ ⟨rfl, rfl⟩
      refine k_chg0 rfl rfl rfl (chg_store tt_ok rfl Upd.here rfl rfl rfl rfl rfl rfl) (.inl rfl) ?_
      rintro _ _ rfl
      refine k_end (by kernel_rfl) ?_
      refine wx_then (wc_seq (wc_region (wl_val (v := .agg #[.int .u8 v20, .int .u8 v33]) (val_load tt_ok rfl (mH) rfl) rfl ?_)))
      apply wl_store tt_ok; rfl; exact Upd.here; rfl; rfl; rfl; rfl; rfl; rfl
      refine wl_nil (wx_then (wc_ret ?_))
      obtain rfl := sI h
      exact wx_rd tt_ok (.inl rfl) Tryd.results50 (Res.cell rfl (mH) rfl Res.nil) (pSub (pCons (sC hC) (pApp (sC hA') (pApp (sC hA') (pCons (sC hC) (pApp (sC hA') (pCons (sC hC) (pApp (sC hA') pNil)))))))) rfl
    replace h := cf hx341 h
    cases h
  replace h := cf hx220 h
  rcases Bool.eq_false_or_eq_true (p0.player == (1 : Int)) with hx221 | hx221
  · replace h := ct hx221 h
    refine k_val (v := .pointer (some ⟨b4, 1, none⟩)) rfl rfl rfl (pSub (pH (pH (pA (pA (pH (pA (pH (pA pNil))))))))) (val_ia (j := 1) tt_ok rfl rfl rfl rfl (by simpa using hx221) rfl rfl) rfl ?_
    refine k_chg0 rfl rfl rfl (chg_store tt_ok rfl Upd.here rfl rfl rfl rfl rfl rfl) (.inl rfl) ?_
    rintro _ _ rfl
    refine k_end (by kernel_rfl) ?_
    refine wx_then (wc_seq (wc_k2 (Ls := (⟨b4, [.int .u8 (0 : Int), .int .u8 v20], 36, (0, 0)⟩ :: (⟨p0b, (.int .u8 p0.player :: .int .i64 p0.window :: st19 p0.sure p0a0 p0n0 p0c0 [.slice p0a1 p0n1 p0c1, .pointer (some ⟨p0_4b, 0, none⟩), .pointer (some ⟨p0_5b, 0, none⟩)]), p0t, (0, 0)⟩ :: (p0B0 ++ (p0B1 ++ (⟨p0_4b, [.int .u64 p0_4.first_, .slice p0_4a0 p0_4n0 p0_4c0, .int .u8 p0_4.last], p0_4t, (0, 0)⟩ :: (p0_4B0 ++ (⟨p0_5b, ([.int .i64 p0_5.size] ++ flat cg_T_ring_place p0_5g0), p0_5t, (0, 0)⟩ :: (p0_5P0 ++ []))))))))) [10, 11, 12] [11, 12] [0, 1, 3, 7, 15, 0, 32, 96, 224, 0, 992, 2047, 4095] [0, 1, 2, 3, 4, 5, 6, 7, 8, 9, 10, 11, 12] (by kernel_rfl) (by kernel_rfl) (by kernel_rfl) ?_))
    refine k_val rfl rfl rfl (pSub (pH (pH (pA (pA (pH (pA (pH (pA pNil))))))))) (stepV_ok tt_ok rfl) rfl ?_
    refine k_val rfl rfl rfl (pSub (pH (pH (pA (pA (pH (pA (pH (pA pNil))))))))) (stepV_ok tt_ok rfl) rfl ?_
    refine k_val (v := .pointer (some ⟨p0b, 0, none⟩)) rfl rfl rfl (pSub (pH (pH (pA (pA (pH (pA (pH (pA pNil))))))))) (stepV_ok tt_ok rfl) rfl ?_
    refine k_val (v := .int .u8 p0.player) rfl rfl rfl (pSub (pH (pH (pA (pA (pH (pA (pH (pA pNil))))))))) (val_load tt_ok rfl (mT (mH)) rfl) rfl ?_
    refine k_val (v := .int .u8 (IntKind.wrap .u8 ((1 : Int) - p0.player))) rfl rfl rfl (pSub (pH (pH (pA (pA (pH (pA (pH (pA pNil))))))))) (stepV_ok tt_ok rfl) rfl ?_
    refine k_val rfl rfl rfl (pSub (pH (pH (pA (pA (pH (pA (pH (pA pNil))))))))) (stepV_ok tt_ok rfl) rfl ?_
    refine k_val rfl rfl rfl (pSub (pH (pH (pA (pA (pH (pA (pH (pA pNil))))))))) (stepV_ok tt_ok rfl) rfl ?_
    refine k_val (v := .pointer (some ⟨p0b, 22, none⟩)) rfl rfl rfl (pSub (pH (pH (pA (pA (pH (pA (pH (pA pNil))))))))) (stepV_ok tt_ok rfl) rfl ?_
    refine k_val (v := .pointer (some ⟨p0_4b, 0, none⟩)) rfl rfl rfl (pSub (pH (pH (pA (pA (pH (pA (pH (pA pNil))))))))) (val_load tt_ok rfl (mT (mH)) rfl) rfl ?_
    refine k_val rfl rfl rfl (pSub (pH (pH (pA (pA (pH (pA (pH (pA pNil))))))))) (stepV_ok tt_ok rfl) rfl ?_
    replace h := bsome h; obtain ⟨v33, x33, h⟩ := h
    refine k_cq rfl rfl rfl Tryd.call47 rfl rfl rfl (q_rd (k_queue_Queue_Guess (p0 := p0_4) p0_4N0 p0_4V0 x33) (pCons (sC (sC (sA (sA hC)))) (pApp (sC (sC (sA (sA hA')))) pNil)) (fun _ _ => trivial)) rfl (pSub (pH (pH (pA (pA (pH (pA (pH (pA pNil))))))))) ?_
    rcases Bool.eq_false_or_eq_true ((IntKind.wrap .u8 ((1 : Int) - p0.player)) == (0 : Int)) with hx340 | hx340
    · replace h := ct hx340 h
      refine k_chg rfl rfl rfl (Chg.of_val (v := .pointer (some ⟨b4, 0, none⟩)) (val_ia (j := 0) tt_ok rfl rfl rfl rfl (by simpa using hx340) rfl rfl)) rfl (.inl rfl) ?_
      rintro _ _ ⟨rfl, rfl⟩
      refine k_chg0 rfl rfl rfl (chg_store tt_ok rfl Upd.here rfl rfl rfl rfl rfl rfl) (.inl rfl) ?_
      rintro _ _ rfl
      refine k_end (by kernel_rfl) ?_
      refine wx_then (wc_seq (wc_region (wl_val (v := .agg #[.int .u8 v33, .int .u8 v20]) (val_load tt_ok rfl (mH) rfl) rfl ?_)))
      apply wl_store tt_ok; rfl; exact Upd.here; rfl; rfl; rfl; rfl; rfl; rfl
      refine wl_nil (wx_then (wc_ret ?_))
      obtain rfl := sI h
      exact wx_rd tt_ok (.inl rfl) Tryd.results50 (Res.cell rfl (mH) rfl Res.nil) (pSub (pCons (sC hC) (pApp (sC hA') (pApp (sC hA') (pCons (sC hC) (pApp (sC hA') (pCons (sC hC) (pApp (sC hA') pNil)))))))) rfl
    replace h := cf hx340 h
    rcases Bool.eq_false_or_eq_true ((IntKind.wrap .u8 ((1 : Int) - p0.player)) == (1 : Int)) with hx341 | hx341
    · replace h := ct hx341 h
      refine k_chg rfl rfl rfl (Chg.of_val (v := .pointer (some ⟨b4, 1, none⟩)) (val_ia (j := 1) tt_ok rfl rfl rfl rfl (by simpa using hx341) rfl rfl)) rfl (.inl rfl) ?_
      rintro _ _ ⟨rfl, rfl⟩
      refine k_chg0 rfl rfl rfl (chg_store tt_ok rfl Upd.here rfl rfl rfl rfl rfl rfl) (.inl rfl) ?_
      rintro _ _ rfl
      refine k_end (by kernel_rfl) ?_
      refine wx_then (wc_seq (wc_region (wl_val (v := .agg #[.int .u8 (0 : Int), .int .u8 v33]) (val_load tt_ok rfl (mH) rfl) rfl ?_)))
      apply wl_store tt_ok; rfl; exact Upd.here; rfl; rfl; rfl; rfl; rfl; rfl
      refine wl_nil (wx_then (wc_ret ?_))
      obtain rfl := sI h
      exact wx_rd tt_ok (.inl rfl) Tryd.results50 (Res.cell rfl (mH) rfl Res.nil) (pSub (pCons (sC hC) (pApp (sC hA') (pApp (sC hA') (pCons (sC hC) (pApp (sC hA') (pCons (sC hC) (pApp (sC hA') pNil)))))))) rfl
    replace h := cf hx341 h
    cases h
  replace h := cf hx221 h
  cases h

theorem k_rollback_Engine_Next {F : Nat} {p0 : T_rollback_Engine} {p0b p0t : Nat} {p0a0 : Option Addr} {p0n0 : Nat} {p0c0 : Nat} {p0B0 : List Blk} {p0a1 : Option Addr} {p0n1 : Nat} {p0c1 : Nat} {p0B1 : List Blk} {p0_4 : T_queue_Queue} {p0_4b p0_4t : Nat} {p0_4a0 : Option Addr} {p0_4n0 : Nat} {p0_4c0 : Nat} {p0_4B0 : List Blk} {p0_5 : T_ring_Ring} {p0_5b p0_5t : Nat} {p0_5g0 : List (T_ring_place × G)} {p0_5P0 : List Blk} {r0 : (Int × Int)} {r1 : Bool} (p0N0 : p0n0 = p0.sure.Shots.length) (p0V0 : Own 92 6 p0a0 p0n0 p0c0 (flat c_T_api_Shot p0.sure.Shots) p0B0) (p0N1 : p0n1 = p0.own.length) (p0V1 : Own 34 1 p0a1 p0n1 p0c1 (flat (e1 .u8) p0.own) p0B1) (p0_4N0 : p0_4n0 = p0_4.l.length) (p0_4V0 : Own 34 1 p0_4a0 p0_4n0 p0_4c0 (flat (e1 .u8) p0_4.l) p0_4B0) (p0_5G0 : p0_5.places.1 = unG p0_5g0) (p0_5A0 : AllP sh_T_ring_place c_T_api_Shot p0_5P0 p0_5g0) (h : m_rollback_Engine_Next F p0 p0_4 p0_5 = some (r0, r1)) :
    Rd2 Tryd.prog 35 [.pointer (some ⟨p0b, 0, none⟩)] (⟨p0b, (.int .u8 p0.player :: .int .i64 p0.window :: st19 p0.sure p0a0 p0n0 p0c0 [.slice p0a1 p0n1 p0c1, .pointer (some ⟨p0_4b, 0, none⟩), .pointer (some ⟨p0_5b, 0, none⟩)]), p0t, (0, 0)⟩ :: (p0B0 ++ (p0B1 ++ (⟨p0_4b, [.int .u64 p0_4.first_, .slice p0_4a0 p0_4n0 p0_4c0, .int .u8 p0_4.last], p0_4t, (0, 0)⟩ :: (p0_4B0 ++ (⟨p0_5b, ([.int .i64 p0_5.size] ++ flat cg_T_ring_place p0_5g0), p0_5t, (0, 0)⟩ :: (p0_5P0 ++ []))))))) (fun w => True) (.tuple #[.agg #[.int .u8 r0.1, .int .u8 r0.2], .bool r1]) := by
  unfold m_rollback_Engine_Next at h
  refine sp_of_wc Tryd.func35 rfl Tryd.ntmps35 rfl rfl (fun w0 hR => ?_)
  refine wc_seq (wc_region (wl_alloc tt_ok rfl rfl (fun b2 => (wP rfl rfl (wl_nil (wx_then (wc_seq (wc_seq (wc_quiet (by kernel_rfl) (by kernel_rfl) (qP rfl rfl ?_))))))))))
  replace h := bsome h; obtain ⟨v5, x5, h⟩ := h
  refine wq_cq Tryd.call29 rfl rfl rfl (q_rd (k_rollback_Engine_is (p0 := p0) (p0_4 := p0_4) (p0_5 := p0_5) p0N0 p0V0 p0N1 p0V1 p0_4N0 p0_4V0 p0_5G0 p0_5A0 x5) (pCons (sC hC) (pApp (sC hA') (pApp (sC hA') (pCons (sC hC) (pApp (sC hA') (pCons (sC hC) (pApp (sC hA') pNil))))))) (fun _ _ => trivial)) rfl ?_
  refine qP (v := .bool (!v5)) rfl rfl (qP rfl rfl ?_)
  replace h := bsome h; obtain ⟨v14, h, hg14⟩ := h
  refine wq_split (t := 7) rfl (fun hc => ?_) (fun hc => ?_)
  · replace h := ct hc h
    refine wq_skip rfl rfl (wq_skip rfl rfl (wq_skip rfl rfl (wq_skip rfl rfl (wq_skip rfl rfl (wq_skip rfl rfl ?_)))))
    obtain rfl := sI h
    have h := hg14; clear hg14
    refine qP (v := .bool true) rfl rfl (qP rfl rfl ?_)
    replace h := bsome h; obtain ⟨v27, h, hg27⟩ := h
    replace h := ct rfl h
    refine wq_skip rfl rfl (wq_skip rfl rfl (wq_skip rfl rfl (wq_skip rfl rfl (wq_skip rfl rfl (wq_skip rfl rfl (wq_skip rfl rfl (wq_skip rfl rfl (wq_skip rfl rfl (wq_skip rfl rfl (wq_skip rfl rfl ?_))))))))))
    obtain rfl := sI h
    have h := hg27; clear hg27
    refine qP (v := .bool true) rfl rfl (wq_nil (wx_then ?_))
    replace h := ct rfl h
    refine wc_cond_true rfl ?_
    refine wc_seq (wc_region (wP (v := .agg #[.int .u8 (0 : Int), .int .u8 (0 : Int)]) rfl rfl ?_))
    apply wl_store tt_ok; rfl; exact Upd.here; rfl; rfl; rfl; rfl; rfl; rfl
    refine wP rfl rfl (wl_nil (wx_then (wc_ret (wx_then_ret ?_))))
    simp only [Option.some.injEq, Prod.mk.injEq] at h
    obtain ⟨rfl, rfl⟩ := h
    exact wx_rd tt_ok (.inl rfl) Tryd.results35 (Res.cell rfl (mH) rfl (Res.tmp rfl Res.nil)) (pSub (pCons (sC hC) (pApp (sC hA') (pApp (sC hA') (pCons (sC hC) (pApp (sC hA') (pCons (sC hC) (pApp (sC hA') pNil)))))))) rfl
  replace h := cf hc h
  refine wq_run rfl (qP rfl rfl (wq_run rfl (qP rfl rfl (wq_run rfl (qP (v := .pointer (some ⟨p0b, 21, none⟩)) rfl rfl (wq_run rfl (wq_val (v := .slice p0a1 p0n1 p0c1) (val_load tt_ok rfl (mT (mH)) rfl) rfl (wq_run rfl (wq_val (v := .int .i64 (p0.own.length : Int)) (val_len tt_ok rfl rfl p0N1) rfl (wq_run rfl (qP (v := .bool ((p0.own.length : Int) == (0 : Int))) rfl rfl ?_)))))))))))
  obtain rfl := sI h
  have h := hg14; clear hg14
  refine qP (v := .bool ((p0.own.length : Int) == (0 : Int))) rfl rfl (qP rfl rfl ?_)
  replace h := bsome h; obtain ⟨v27, h, hg27⟩ := h
  refine wq_split (t := 15) rfl (fun hc => ?_) (fun hc => ?_)
  · replace h := ct hc h
    refine wq_skip rfl rfl (wq_skip rfl rfl (wq_skip rfl rfl (wq_skip rfl rfl (wq_skip rfl rfl (wq_skip rfl rfl (wq_skip rfl rfl (wq_skip rfl rfl (wq_skip rfl rfl (wq_skip rfl rfl (wq_skip rfl rfl ?_))))))))))
    obtain rfl := sI h
    have h := hg27; clear hg27
    refine qP (v := .bool true) rfl rfl (wq_nil (wx_then ?_))
    replace h := ct rfl h
    refine wc_cond_true rfl ?_
    refine wc_seq (wc_region (wP (v := .agg #[.int .u8 (0 : Int), .int .u8 (0 : Int)]) rfl rfl ?_))
    apply wl_store tt_ok; rfl; exact Upd.here; rfl; rfl; rfl; rfl; rfl; rfl
    refine wP rfl rfl (wl_nil (wx_then (wc_ret (wx_then_ret ?_))))
    simp only [Option.some.injEq, Prod.mk.injEq] at h
    obtain ⟨rfl, rfl⟩ := h
    exact wx_rd tt_ok (.inl rfl) Tryd.results35 (Res.cell rfl (mH) rfl (Res.tmp rfl Res.nil)) (pSub (pCons (sC hC) (pApp (sC hA') (pApp (sC hA') (pCons (sC hC) (pApp (sC hA') (pCons (sC hC) (pApp (sC hA') pNil)))))))) rfl
  replace h := cf hc h
  refine wq_run rfl (qP rfl rfl (wq_run rfl (qP rfl rfl (wq_run rfl (qP (v := .pointer (some ⟨p0b, 22, none⟩)) rfl rfl (wq_run rfl (wq_val (v := .pointer (some ⟨p0_4b, 0, none⟩)) (val_load tt_ok rfl (mT (mH)) rfl) rfl ?_)))))))
  replace h := bsome h; obtain ⟨v20, x20, h⟩ := h
  refine wq_run rfl (wq_cq Tryd.call40 rfl rfl rfl (q_rd (k_queue_Queue_Known (p0 := p0_4) p0_4N0 p0_4V0 x20) (pCons (sC (sC (sA (sA hC)))) (pApp (sC (sC (sA (sA hA')))) pNil)) (fun _ _ => trivial)) rfl (wq_run rfl (qP rfl rfl (wq_run rfl (qP rfl rfl (wq_run rfl (qP (v := .pointer (some ⟨p0b, 2, none⟩)) rfl rfl (wq_run rfl (qP (v := .pointer (some ⟨p0b, 2, none⟩)) rfl rfl (wq_run rfl (wq_val (v := .int .u64 p0.sure.Frame) (val_load tt_ok rfl (mT (mH)) rfl) rfl (wq_run rfl (qP (v := .bool (decide (v20 ≤ p0.sure.Frame))) rfl rfl ?_)))))))))))))
  obtain rfl := sI h
  have h := hg27; clear hg27
  refine qP (v := .bool (decide (v20 ≤ p0.sure.Frame))) rfl rfl (wq_nil (wx_then (wc_cond rfl (fun hc => ?_) (fun hc => ?_))))
  · replace h := ct hc h
    refine wc_seq (wc_region (wP (v := .agg #[.int .u8 (0 : Int), .int .u8 (0 : Int)]) rfl rfl ?_))
    apply wl_store tt_ok; rfl; exact Upd.here; rfl; rfl; rfl; rfl; rfl; rfl
    refine wP rfl rfl (wl_nil (wx_then (wc_ret (wx_then_ret ?_))))
    simp only [Option.some.injEq, Prod.mk.injEq] at h
    obtain ⟨rfl, rfl⟩ := h
    exact wx_rd tt_ok (.inl rfl) Tryd.results35 (Res.cell rfl (mH) rfl (Res.tmp rfl Res.nil)) (pSub (pCons (sC hC) (pApp (sC hA') (pApp (sC hA') (pCons (sC hC) (pApp (sC hA') (pCons (sC hC) (pApp (sC hA') pNil)))))))) rfl
  replace h := cf hc h
  refine wc_skip (wx_then (wc_seq (wc_region ?_)))
  iterate 3 refine wP rfl rfl ?_
  refine wP (v := .pointer (some ⟨p0b, 2, none⟩)) rfl rfl (wP (v := .pointer (some ⟨p0b, 2, none⟩)) rfl rfl (wl_val (v := .int .u64 p0.sure.Frame) (val_load tt_ok rfl (mT (mH)) rfl) rfl ?_))
  replace h := bsome h; obtain ⟨v35, x35, h⟩ := h
  refine wl_cq Tryd.call50 rfl rfl rfl (q_rd (k_rollback_Engine_pair (p0 := p0) (p0_4 := p0_4) (p0_5 := p0_5) p0N0 p0V0 p0N1 p0V1 p0_4N0 p0_4V0 p0_5G0 p0_5A0 x35) (pCons (sC hC) (pApp (sC hA') (pApp (sC hA') (pCons (sC hC) (pApp (sC hA') (pCons (sC hC) (pApp (sC hA') pNil))))))) (fun _ _ => trivial)) rfl ?_
  apply wl_store tt_ok; rfl; exact Upd.here; rfl; rfl; rfl; rfl; rfl; rfl
  refine wP rfl rfl (wl_nil (wx_then (wc_ret ?_)))
  simp only [Option.some.injEq, Prod.mk.injEq] at h
  obtain ⟨rfl, rfl⟩ := h
  exact wx_rd tt_ok (.inl rfl) Tryd.results35 (Res.cell rfl (mH) rfl (Res.tmp rfl Res.nil)) (pSub (pCons (sC hC) (pApp (sC hA') (pApp (sC hA') (pCons (sC hC) (pApp (sC hA') (pCons (sC hC) (pApp (sC hA') pNil)))))))) rfl

theorem k_slices_Clone___api_Input_api_Input {F : Nat} {p0 : (List Int)} {p0a0 : Option Addr} {p0n0 p0c0 : Nat} {r0 : (List Int)} (p0N0 : p0n0 = p0.length) (p0H0 : p0n0 ≤ p0c0) (h : m_slices_Clone___api_Input_api_Input F p0 = some r0) :
    SpD Tryd.prog 37 [.slice p0a0 p0n0 p0c0] [] (fun w => Rds w (ids []) [] p0a0 (flat (e1 .u8) p0)) (fun v D => ∃ (r0a0 : Option Addr) (r0n0 : Nat) (r0c0 : Nat) (r0B0 : List Blk), r0n0 = r0.length ∧ Own 34 1 r0a0 r0n0 r0c0 (flat (e1 .u8) r0) r0B0 ∧ v = .slice r0a0 r0n0 r0c0 ∧ D = fun F => (r0B0 ++ F)) := by
  unfold m_slices_Clone___api_Input_api_Input at h
  refine sp_of_wc Tryd.func37 rfl Tryd.ntmps37 rfl rfl (fun w0 hR => ?_)
  have p0S0 := hR
  refine wc_seq (wc_region (wP rfl rfl (wl_nil (wx_then (wc_seq (wc_seq (wc_region (wP rfl rfl ?_))))))))
  rcases p0a0 with _ | dp0a0
  · obtain rfl : p0 = [] := rds_none p0S0 (e1_len _) (by decide)
    refine wP (v := .bool true) rfl rfl (wl_nil (wx_then (wc_cond_true rfl (wc_seq (wc_region (wP rfl rfl (wl_nil (wx_then (wc_ret (wx_then_ret ?_))))))))))
    simp [appI] at h
    obtain rfl := h
    exact wx_spD tt_ok (.inl rfl) Tryd.results37 (Res.tmp rfl Res.nil) ⟨none, 0, 0, [], rfl, Own.zero, rfl, rfl⟩ (fun F => by simp) (pSub (pNo pNil))
  refine wP (v := .bool false) rfl rfl (wl_nil (wx_then (wc_cond_false rfl (wc_skip (wx_then (wc_seq (wc_region (wl_chg (chg_bsv (enc := (e1 .u8)) (xs := ([] : List Int)) tt_ok rfl rfl rfl rfl rfl rfl rfl rfl (e1_len _)) rfl ?_))))))))
  rintro _ _ ⟨a5, n5_, c5, B5, rfl, N5, V5, rfl⟩
  refine wP rfl rfl ?_
  replace h := bsome h; obtain ⟨v7, x7, h⟩ := h
  refine wl_chg (chg_app (enc := (e1 .u8)) (ys := p0) tt_ok rfl rfl rfl rfl rfl rfl N5 p0N0 V5 hA' p0S0 rsub_nil (e1_len _) (fun _ => rfl) rfl x7) rfl ?_
  rintro _ _ ⟨a7, n7_, c7, B7, rfl, N7, V7, rfl⟩
  refine wP rfl rfl (wl_nil (wx_then (wc_ret ?_)))
  obtain rfl := sI h
  exact wx_spD tt_ok (.inl rfl) Tryd.results37 (Res.tmp rfl Res.nil) ⟨a7, n7_, c7, B7, N7, V7, rfl, rfl⟩ (fun F => by simp) (pSub (pA pNil))

theorem k_queue_Queue_Drop {F : Nat} {p0 : T_queue_Queue} {p0b p0t : Nat} {p0a0 : Option Addr} {p0n0 : Nat} {p0c0 : Nat} {p0B0 : List Blk} {p1 : Int} {r0 : T_queue_Queue} (p0N0 : p0n0 = p0.l.length) (p0V0 : Own 34 1 p0a0 p0n0 p0c0 (flat (e1 .u8) p0.l) p0B0) (h : m_queue_Queue_Drop F p0 p1 = some r0) :
    SpD Tryd.prog 38 [.pointer (some ⟨p0b, 0, none⟩), .int .u64 p1] (⟨p0b, [.int .u64 p0.first_, .slice p0a0 p0n0 p0c0, .int .u8 p0.last], p0t, (0, 0)⟩ :: (p0B0 ++ [])) (fun w => True) (fun v D => ∃ (r0a0 : Option Addr) (r0n0 : Nat) (r0c0 : Nat) (r0B0 : List Blk), r0n0 = r0.l.length ∧ Own 34 1 r0a0 r0n0 r0c0 (flat (e1 .u8) r0.l) r0B0 ∧ v = .tuple #[] ∧ D = fun F => (⟨p0b, [.int .u64 r0.first_, .slice r0a0 r0n0 r0c0, .int .u8 r0.last], p0t, (0, 0)⟩ :: (r0B0 ++ F))) := by
  unfold m_queue_Queue_Drop at h
  refine sp_of_wc Tryd.func38 rfl Tryd.ntmps38 rfl rfl (fun w0 hR => ?_)
  refine wc_seq (wc_seq (wc_region (wP rfl rfl (wP (v := .bool false) rfl rfl (wP rfl rfl (wl_run rfl (wP rfl rfl (wl_run rfl (wP rfl rfl (wl_run rfl (wP rfl rfl (wl_run rfl (wP (v := .pointer (some ⟨p0b, 0, none⟩)) rfl rfl (wl_run rfl (wl_val (v := .int .u64 p0.first_) (val_load tt_ok rfl (mH) rfl) rfl (wl_run rfl (wP (v := .bool (decide (p1 ≤ p0.first_))) rfl rfl (wP (v := .bool (decide (p1 ≤ p0.first_))) rfl rfl (wl_nil (wx_then (wc_cond rfl (fun hc => ?_) (fun hc => ?_))))))))))))))))))))))
  · replace h := ct hc h
    refine wc_ret (wx_then_ret ?_)
    obtain rfl := sI h
    exact wx_spD tt_ok (.inl rfl) Tryd.results38 Res.nil ⟨p0a0, p0n0, p0c0, p0B0, p0N0, p0V0, rfl, rfl⟩ (fun F => by simp) (pSub (pH (pA pNil)))
  replace h := cf hc h
  refine wc_skip (wx_then (wc_seq (wc_region ?_)))
  iterate 2 refine wP rfl rfl ?_
  replace h := bsome h; obtain ⟨v17, x17, h⟩ := h
  refine wl_cq Tryd.call40 rfl rfl rfl (q_rd (k_queue_Queue_Known (p0 := p0) p0N0 p0V0 x17) (pH (pA pNil)) (fun _ _ => trivial)) rfl ?_
  refine wP (v := .int .u64 (min p1 v17)) rfl rfl (wP rfl rfl (wl_nil (wx_then (wc_seq (wc_k2 (Ls := (⟨p0b, [.int .u64 p0.first_, .slice p0a0 p0n0 p0c0, .int .u8 p0.last], p0t, (0, 0)⟩ :: (p0B0 ++ []))) [15, 16] [15, 16] [0, 1, 3, 7, 0, 16, 48, 112, 0, 0, 512, 1536, 3584, 7936, 16368, 32767, 65535] [0, 1, 2, 3, 4, 5, 6, 7, 8, 9, 10, 11, 12, 13, 14, 15, 16] (by kernel_rfl) (by kernel_rfl) (by kernel_rfl) (k_val rfl rfl rfl (pSub (pH (pA pNil))) (stepV_ok tt_ok rfl) rfl (k_val rfl rfl rfl (pSub (pH (pA pNil))) (stepV_ok tt_ok rfl) rfl (k_val (v := .pointer (some ⟨p0b, 1, none⟩)) rfl rfl rfl (pSub (pH (pA pNil))) (stepV_ok tt_ok rfl) rfl ?_))))))))
  refine k_val (v := .slice p0a0 p0n0 p0c0) rfl rfl rfl (pSub (pH (pA pNil))) (val_load tt_ok rfl (mH) rfl) rfl ?_
  refine k_val rfl rfl rfl (pSub (pH (pA pNil))) (stepV_ok tt_ok rfl) rfl ?_
  refine k_val rfl rfl rfl (pSub (pH (pA pNil))) (stepV_ok tt_ok rfl) rfl ?_
  refine k_val (v := .pointer (some ⟨p0b, 1, none⟩)) rfl rfl rfl (pSub (pH (pA pNil))) (stepV_ok tt_ok rfl) rfl ?_
  refine k_val (v := .slice p0a0 p0n0 p0c0) rfl rfl rfl (pSub (pH (pA pNil))) (val_load tt_ok rfl (mH) rfl) rfl ?_
  refine k_val rfl rfl rfl (pSub (pH (pA pNil))) (stepV_ok tt_ok rfl) rfl ?_
  refine k_val rfl rfl rfl (pSub (pH (pA pNil))) (stepV_ok tt_ok rfl) rfl ?_
  refine k_val rfl rfl rfl (pSub (pH (pA pNil))) (stepV_ok tt_ok rfl) rfl ?_
  refine k_val (v := .pointer (some ⟨p0b, 0, none⟩)) rfl rfl rfl (pSub (pH (pA pNil))) (stepV_ok tt_ok rfl) rfl ?_
  refine k_val (v := .int .u64 p0.first_) rfl rfl rfl (pSub (pH (pA pNil))) (val_load tt_ok rfl (mH) rfl) rfl ?_
  refine k_val (v := .int .u64 (IntKind.wrap .u64 ((min p1 v17) - p0.first_))) rfl rfl rfl (pSub (pH (pA pNil))) (stepV_ok tt_ok rfl) rfl ?_
  replace h := bsome h; obtain ⟨v33, x33, h⟩ := h
  refine k_cut (enc := (e1 .u8)) rfl rfl rfl (pSub (pH (pA pNil))) tt_ok rfl rfl rfl p0N0 (vec_some p0V0) (e1_len _) (vec_cap p0V0) (.inr ⟨_, _, rfl, rfl⟩) (.inl ⟨rfl, by rw [p0N0]⟩) (.inl ⟨rfl, rfl⟩) (by intro h; first | rfl | cases h) (cut2 x33 p0N0 (vec_cap p0V0)) x33 rfl ?_
  intro a33 n33_ c33 N33 H33 I33 O33 Z33
  refine k_chg rfl rfl rfl (chg_copy (enc := (e1 .u8)) (ys := v33) tt_ok rfl rfl rfl rfl p0N0 N33 p0V0 (sC hA') (Rds.of_vec (O33 _ rfl p0V0)) ⟨_, (sC hA')⟩ (e1_len _) (fun _ => rfl)) rfl (.inl rfl) ?_
  rintro _ _ ⟨Bk10_15, rfl, Nk10_15, Vk10_15, rfl⟩
  refine k_chg rfl rfl rfl (Chg.of_val (stepV_ok tt_ok rfl)) rfl (.inl rfl) ?_
  rintro _ _ ⟨rfl, rfl⟩
  refine k_end (by kernel_rfl) ?_
  refine wx_then (wc_region ?_)
  iterate 4 refine wP rfl rfl ?_
  refine wP (v := .pointer (some ⟨p0b, 1, none⟩)) rfl rfl (wl_val (v := .slice p0a0 p0n0 p0c0) (val_load tt_ok rfl (mR (mH)) rfl) rfl (wP rfl rfl ?_))
  replace h := bsome h; obtain ⟨v42, x42, h⟩ := h
  refine wl_cut (enc := (e1 .u8)) tt_ok rfl rfl rfl Nk10_15 (vec_some Vk10_15) (e1_len _) (vec_cap Vk10_15) (.inl ⟨rfl, rfl⟩) (.inr ⟨_, _, rfl, rfl⟩) (.inl ⟨rfl, rfl⟩) (by intro h; first | rfl | cases h) (cut2 x42 Nk10_15 (vec_cap Vk10_15)) x42 rfl ?_
  intro a42 n42_ c42 N42 H42 I42 O42 Z42
  iterate 2 refine wP rfl rfl ?_
  refine wP (v := .pointer (some ⟨p0b, 1, none⟩)) rfl rfl ?_
  apply wl_store tt_ok; rfl; exact (Upd.right Upd.here); rfl; rfl; rfl; rfl; rfl; rfl
  refine wP rfl rfl (wP (v := .pointer (some ⟨p0b, 0, none⟩)) rfl rfl ?_)
  apply wl_store tt_ok; rfl; exact (Upd.right Upd.here); rfl; rfl; rfl; rfl; rfl; rfl
  refine wl_nil ?_
  obtain rfl := sI h
  exact wx_spD tt_ok (.inr rfl) Tryd.results38 Res.nil ⟨a42, n42_, c42, Bk10_15, N42, (O42 _ rfl Vk10_15), rfl, rfl⟩ (fun F => by simp) (pSub (pCons (sA hC) (pA pNil)))

theorem k_rollback_Engine_Confirm {F : Nat} {p0 : T_rollback_Engine} {p0b p0t : Nat} {p0a0 : Option Addr} {p0n0 : Nat} {p0c0 : Nat} {p0B0 : List Blk} {p0a1 : Option Addr} {p0n1 : Nat} {p0c1 : Nat} {p0B1 : List Blk} {p0_4 : T_queue_Queue} {p0_4b p0_4t : Nat} {p0_4a0 : Option Addr} {p0_4n0 : Nat} {p0_4c0 : Nat} {p0_4B0 : List Blk} {p0_5 : T_ring_Ring} {p0_5b p0_5t : Nat} {p0_5g0 : List (T_ring_place × G)} {p0_5P0 : List Blk} {p1 : Int} {r0 : T_rollback_Engine} {r1 : T_queue_Queue} {r2 : T_ring_Ring} {r3 : (Int × Int)} {r4 : Bool} (p0N0 : p0n0 = p0.sure.Shots.length) (p0V0 : Own 92 6 p0a0 p0n0 p0c0 (flat c_T_api_Shot p0.sure.Shots) p0B0) (p0N1 : p0n1 = p0.own.length) (p0V1 : Own 34 1 p0a1 p0n1 p0c1 (flat (e1 .u8) p0.own) p0B1) (p0_4N0 : p0_4n0 = p0_4.l.length) (p0_4V0 : Own 34 1 p0_4a0 p0_4n0 p0_4c0 (flat (e1 .u8) p0_4.l) p0_4B0) (p0_5G0 : p0_5.places.1 = unG p0_5g0) (p0_5A0 : AllP sh_T_ring_place c_T_api_Shot p0_5P0 p0_5g0) (h : m_rollback_Engine_Confirm F p0 p0_4 p0_5 p1 = some (r0, r1, r2, r3, r4)) :
    SpD Tryd.prog 14 [.pointer (some ⟨p0b, 0, none⟩), .int .u64 p1] (⟨p0b, (.int .u8 p0.player :: .int .i64 p0.window :: st19 p0.sure p0a0 p0n0 p0c0 [.slice p0a1 p0n1 p0c1, .pointer (some ⟨p0_4b, 0, none⟩), .pointer (some ⟨p0_5b, 0, none⟩)]), p0t, (0, 0)⟩ :: (p0B0 ++ (p0B1 ++ (⟨p0_4b, [.int .u64 p0_4.first_, .slice p0_4a0 p0_4n0 p0_4c0, .int .u8 p0_4.last], p0_4t, (0, 0)⟩ :: (p0_4B0 ++ (⟨p0_5b, ([.int .i64 p0_5.size] ++ flat cg_T_ring_place p0_5g0), p0_5t, (0, 0)⟩ :: (p0_5P0 ++ []))))))) (fun w => Rds w (ids (⟨p0b, (.int .u8 p0.player :: .int .i64 p0.window :: st19 p0.sure p0a0 p0n0 p0c0 [.slice p0a1 p0n1 p0c1, .pointer (some ⟨p0_4b, 0, none⟩), .pointer (some ⟨p0_5b, 0, none⟩)]), p0t, (0, 0)⟩ :: (p0B0 ++ (p0B1 ++ (⟨p0_4b, [.int .u64 p0_4.first_, .slice p0_4a0 p0_4n0 p0_4c0, .int .u8 p0_4.last], p0_4t, (0, 0)⟩ :: (p0_4B0 ++ (⟨p0_5b, ([.int .i64 p0_5.size] ++ flat cg_T_ring_place p0_5g0), p0_5t, (0, 0)⟩ :: (p0_5P0 ++ [])))))))) [] (some ⟨0, 0, none⟩) (flat (fun _ : Unit => gl_state_playerBounds) [()]) ∧ Rds w (ids (⟨p0b, (.int .u8 p0.player :: .int .i64 p0.window :: st19 p0.sure p0a0 p0n0 p0c0 [.slice p0a1 p0n1 p0c1, .pointer (some ⟨p0_4b, 0, none⟩), .pointer (some ⟨p0_5b, 0, none⟩)]), p0t, (0, 0)⟩ :: (p0B0 ++ (p0B1 ++ (⟨p0_4b, [.int .u64 p0_4.first_, .slice p0_4a0 p0_4n0 p0_4c0, .int .u8 p0_4.last], p0_4t, (0, 0)⟩ :: (p0_4B0 ++ (⟨p0_5b, ([.int .i64 p0_5.size] ++ flat cg_T_ring_place p0_5g0), p0_5t, (0, 0)⟩ :: (p0_5P0 ++ [])))))))) [] (some ⟨1, 0, none⟩) (flat (fun _ : Unit => gl_state_shotBounds) [()])) (fun v D => ∃ (r0a0 : Option Addr) (r0n0 : Nat) (r0c0 : Nat) (r0B0 : List Blk) (r0a1 : Option Addr) (r0n1 : Nat) (r0c1 : Nat) (r0B1 : List Blk) (r1a0 : Option Addr) (r1n0 : Nat) (r1c0 : Nat) (r1B0 : List Blk) (r2g0 : List (T_ring_place × G)) (r2P0 : List Blk), r0n0 = r0.sure.Shots.length ∧ Own 92 6 r0a0 r0n0 r0c0 (flat c_T_api_Shot r0.sure.Shots) r0B0 ∧ r0n1 = r0.own.length ∧ Own 34 1 r0a1 r0n1 r0c1 (flat (e1 .u8) r0.own) r0B1 ∧ r1n0 = r1.l.length ∧ Own 34 1 r1a0 r1n0 r1c0 (flat (e1 .u8) r1.l) r1B0 ∧ r2.places.1 = unG r2g0 ∧ AllP sh_T_ring_place c_T_api_Shot r2P0 r2g0 ∧ v = .tuple #[.agg #[.int .u8 r3.1, .int .u8 r3.2], .bool r4] ∧ D = fun F => (⟨p0b, (.int .u8 r0.player :: .int .i64 r0.window :: st19 r0.sure r0a0 r0n0 r0c0 [.slice r0a1 r0n1 r0c1, .pointer (some ⟨p0_4b, 0, none⟩), .pointer (some ⟨p0_5b, 0, none⟩)]), p0t, (0, 0)⟩ :: (r0B0 ++ (r0B1 ++ (⟨p0_4b, [.int .u64 r1.first_, .slice r1a0 r1n0 r1c0, .int .u8 r1.last], p0_4t, (0, 0)⟩ :: (r1B0 ++ (⟨p0_5b, ([.int .i64 r2.size] ++ flat cg_T_ring_place r2g0), p0_5t, (0, 0)⟩ :: (r2P0 ++ F)))))))) := by
  unfold m_rollback_Engine_Confirm at h
  refine sp_of_wc Tryd.func14 rfl Tryd.ntmps14 rfl rfl (fun w0 hR => ?_)
  obtain ⟨G0S, G1S⟩ := hR
  refine wc_seq (wc_region (wl_alloc tt_ok rfl rfl (fun b4 => (wP rfl rfl (wl_nil (wx_then (wc_seq (wc_region (wP rfl rfl ?_)))))))))
  replace h := bsome h; obtain ⟨⟨zb, zn⟩, x10, h⟩ := h; try dsimp only at h
  refine wl_cq Tryd.call35 rfl rfl rfl (q_rd (k_rollback_Engine_Next (p0 := p0) (p0_4 := p0_4) (p0_5 := p0_5) p0N0 p0V0 p0N1 p0V1 p0_4N0 p0_4V0 p0_5G0 p0_5A0 x10) (pCons (sC hC) (pApp (sC hA') (pApp (sC hA') (pCons (sC hC) (pApp (sC hA') (pCons (sC hC) (pApp (sC hA') pNil))))))) (fun _ _ => trivial)) rfl ?_
  iterate 3 refine wP rfl rfl ?_
  refine wl_alloc tt_ok rfl rfl (fun b6 => ?_)
  apply wl_store tt_ok; rfl; exact Upd.here; rfl; rfl; rfl; rfl; rfl; rfl
  refine wP rfl rfl (wl_nil (wx_then (wc_seq (wc_seq (wc_region (wP rfl rfl (wP (v := .bool (!zn)) rfl rfl (wP rfl rfl ?_))))))))
  replace h := bsome h; obtain ⟨v23, h, hg23⟩ := h
  refine wl_split (t := 15) rfl (fun hc => ?_) (fun hc => ?_)
  · replace h := ct hc h
    refine wl_skip rfl rfl (wl_skip rfl rfl (wl_skip rfl rfl (wl_skip rfl rfl (wl_skip rfl rfl (wl_skip rfl rfl (wl_skip rfl rfl ?_))))))
    obtain rfl := sI h
    have h := hg23; clear hg23
    refine wP (v := .bool true) rfl rfl (wl_nil (wx_then ?_))
    replace h := ct rfl h
    refine wc_cond_true rfl ?_
    refine wc_seq (wc_region (wP (v := .agg #[.int .u8 (0 : Int), .int .u8 (0 : Int)]) rfl rfl ?_))
    apply wl_store tt_ok; rfl; exact (Upd.there Upd.here); rfl; rfl; rfl; rfl; rfl; rfl
    refine wP rfl rfl (wl_nil (wx_then (wc_ret (wx_then_ret ?_))))
    simp only [Option.some.injEq, Prod.mk.injEq] at h
    obtain ⟨rfl, rfl, rfl, rfl, rfl⟩ := h
    exact wx_spD tt_ok (.inl rfl) Tryd.results14 (Res.cell rfl (mT (mH)) rfl (Res.tmp rfl Res.nil)) ⟨p0a0, p0n0, p0c0, p0B0, p0a1, p0n1, p0c1, p0B1, p0_4a0, p0_4n0, p0_4c0, p0_4B0, p0_5g0, p0_5P0, p0N0, p0V0, p0N1, p0V1, p0_4N0, p0_4V0, p0_5G0, p0_5A0, rfl, rfl⟩ (fun F => by simp) (pSub (pCons (sC (sC hC)) (pApp (sC (sC hA')) (pApp (sC (sC hA')) (pCons (sC (sC hC)) (pApp (sC (sC hA')) (pCons (sC (sC hC)) (pApp (sC (sC hA')) pNil))))))))
  replace h := cf hc h
  refine wl_run rfl (wP rfl rfl (wl_run rfl (wP rfl rfl (wl_run rfl (wP (v := .pointer (some ⟨p0b, 2, none⟩)) rfl rfl (wl_run rfl (wP (v := .pointer (some ⟨p0b, 2, none⟩)) rfl rfl (wl_run rfl (wl_val (v := .int .u64 p0.sure.Frame) (val_load tt_ok rfl (mT (mT (mH))) rfl) rfl (wl_run rfl (wP rfl rfl (wl_run rfl (wP (v := .bool (decide (p1 ≤ p0.sure.Frame))) rfl rfl ?_)))))))))))))
  obtain rfl := sI h
  have h := hg23; clear hg23
  refine wP (v := .bool (decide (p1 ≤ p0.sure.Frame))) rfl rfl (wl_nil (wx_then (wc_cond rfl (fun hc => ?_) (fun hc => ?_))))
  · replace h := ct hc h
    refine wc_seq (wc_region (wP (v := .agg #[.int .u8 (0 : Int), .int .u8 (0 : Int)]) rfl rfl ?_))
    apply wl_store tt_ok; rfl; exact (Upd.there Upd.here); rfl; rfl; rfl; rfl; rfl; rfl
    refine wP rfl rfl (wl_nil (wx_then (wc_ret (wx_then_ret ?_))))
    simp only [Option.some.injEq, Prod.mk.injEq] at h
    obtain ⟨rfl, rfl, rfl, rfl, rfl⟩ := h
    exact wx_spD tt_ok (.inl rfl) Tryd.results14 (Res.cell rfl (mT (mH)) rfl (Res.tmp rfl Res.nil)) ⟨p0a0, p0n0, p0c0, p0B0, p0a1, p0n1, p0c1, p0B1, p0_4a0, p0_4n0, p0_4c0, p0_4B0, p0_5g0, p0_5P0, p0N0, p0V0, p0N1, p0V1, p0_4N0, p0_4V0, p0_5G0, p0_5A0, rfl, rfl⟩ (fun F => by simp) (pSub (pCons (sC (sC hC)) (pApp (sC (sC hA')) (pApp (sC (sC hA')) (pCons (sC (sC hC)) (pApp (sC (sC hA')) (pCons (sC (sC hC)) (pApp (sC (sC hA')) pNil))))))))
  replace h := cf hc h
  refine wc_skip (wx_then (wc_seq (wc_k2 (Ls := (⟨b6, [.int .u8 zb.1, .int .u8 zb.2], 36, (0, 0)⟩ :: (⟨b4, [.int .u8 (0 : Int), .int .u8 (0 : Int)], 36, (0, 0)⟩ :: (⟨p0b, (.int .u8 p0.player :: .int .i64 p0.window :: st19 p0.sure p0a0 p0n0 p0c0 [.slice p0a1 p0n1 p0c1, .pointer (some ⟨p0_4b, 0, none⟩), .pointer (some ⟨p0_5b, 0, none⟩)]), p0t, (0, 0)⟩ :: (p0B0 ++ (p0B1 ++ (⟨p0_4b, [.int .u64 p0_4.first_, .slice p0_4a0 p0_4n0 p0_4c0, .int .u8 p0_4.last], p0_4t, (0, 0)⟩ :: (p0_4B0 ++ (⟨p0_5b, ([.int .i64 p0_5.size] ++ flat cg_T_ring_place p0_5g0), p0_5t, (0, 0)⟩ :: (p0_5P0 ++ [])))))))))) [6, 7, 8, 9] [7, 8, 9] [0, 0, 2, 6, 14, 0, 62, 127, 255, 511] [0, 1, 2, 3, 4, 5, 6, 7, 8, 9] (by kernel_rfl) (by kernel_rfl) (by kernel_rfl) ?_)))
  refine k_val rfl rfl rfl (pSub (pH (pH (pH (pA (pA (pH (pA (pH (pA pNil)))))))))) (stepV_ok tt_ok rfl) rfl ?_
  refine k_val rfl rfl rfl (pSub (pH (pH (pH (pA (pA (pH (pA (pH (pA pNil)))))))))) (stepV_ok tt_ok rfl) rfl ?_
  refine k_val rfl rfl rfl (pSub (pH (pH (pH (pA (pA (pH (pA (pH (pA pNil)))))))))) (stepV_ok tt_ok rfl) rfl ?_
  refine k_val (v := .pointer (some ⟨p0b, 2, none⟩)) rfl rfl rfl (pSub (pH (pH (pH (pA (pA (pH (pA (pH (pA pNil)))))))))) (stepV_ok tt_ok rfl) rfl ?_
  refine k_val (v := agS p0.sure p0a0 p0n0 p0c0) rfl rfl rfl (pSub (pH (pH (pH (pA (pA (pH (pA (pH (pA pNil)))))))))) (val_load tt_ok rfl (mT (mT (mH))) rfl) rfl ?_
  refine k_val (v := .agg #[.int .u8 zb.1, .int .u8 zb.2]) rfl rfl rfl (pSub (pH (pH (pH (pA (pA (pH (pA (pH (pA pNil)))))))))) (val_load tt_ok rfl (mH) rfl) rfl ?_
  replace h := bsome h; obtain ⟨v31, x31, h⟩ := h
  refine k_cs rfl rfl rfl Tryd.call36 rfl rfl rfl (s_sp (k_step_Step (p0 := p0.sure) p0N0 (vec_cap p0V0) x31) pNil (fun w hI => ⟨(Rds.call (Rds.of_vec p0V0) pNil ⟨_, (sC (sC (sC hA')))⟩) w hI, (Rds.call G0S pNil rsub_nil) w hI, (Rds.call G1S pNil rsub_nil) w hI⟩)) rfl (.inr (by rintro _ _ ⟨_, ⟨_, _, _, _, _, _, rfl, rfl⟩, rfl⟩; exact ⟨_, (pCons (sA hC) (pCons (sA hC) (pCons (sA hC) (pApp (sA hA') (pApp (sA hA') (pCons (sA hC) (pApp (sA hA') (pCons (sA hC) (pApp (sA hA') pNil)))))))))⟩)) ?_
  rintro _ _ ⟨_, ⟨v31a0, v31n0, v31c0, v31B0, v31N0, v31V0, rfl, rfl⟩, rfl⟩
  refine k_chg rfl rfl rfl (Chg.of_val (stepV_ok tt_ok rfl)) rfl (.inl rfl) ?_
  rintro _ _ ⟨rfl, rfl⟩
  refine k_chg rfl rfl rfl (Chg.of_val (v := .pointer (some ⟨p0b, 2, none⟩)) (stepV_ok tt_ok rfl)) rfl (.inl rfl) ?_
  rintro _ _ ⟨rfl, rfl⟩
  refine k_chg0 rfl rfl rfl (chg_store tt_ok rfl (Upd.right (Upd.there (Upd.there Upd.here))) rfl rfl rfl rfl rfl rfl) (.inl rfl) ?_
  rintro _ _ rfl
  refine k_end (by kernel_rfl) ?_
  refine wx_then (wc_seq (wc_region ?_))
  iterate 3 refine wP rfl rfl ?_
  refine wP (v := .pointer (some ⟨p0b, 21, none⟩)) rfl rfl (wl_val (v := .slice p0a1 p0n1 p0c1) (val_load tt_ok rfl (mR (mT (mT (mH)))) rfl) rfl ?_)
  replace h := bsome h; obtain ⟨v39, x39, h⟩ := h
  refine wl_cut (enc := (e1 .u8)) tt_ok rfl rfl rfl p0N1 (vec_some p0V1) (e1_len _) (vec_cap p0V1) (.inr ⟨_, _, rfl, rfl⟩) (.inl ⟨rfl, by rw [p0N1]⟩) (.inl ⟨rfl, rfl⟩) (by intro h; first | rfl | cases h) (cut2 x39 p0N1 (vec_cap p0V1)) x39 rfl ?_
  intro a39 n39_ c39 N39 H39 I39 O39 Z39
  replace h := bsome h; obtain ⟨v40, x40, h⟩ := h
  refine wl_cs Tryd.call37 rfl rfl rfl (s_sp (k_slices_Clone___api_Input_api_Input (p0 := v39) N39 H39 x40) pNil (Rds.call (Rds.of_vec (O39 _ rfl p0V1)) pNil ⟨_, (sA (sC (sC (sC (sA hA')))))⟩)) rfl ?_
  rintro _ _ ⟨_, ⟨v40a0, v40n0, v40c0, v40B0, v40N0, v40V0, rfl, rfl⟩, rfl⟩
  refine wP rfl rfl (wP (v := .pointer (some ⟨p0b, 21, none⟩)) rfl rfl ?_)
  apply wl_store tt_ok; rfl; exact (Upd.right (Upd.right (Upd.there (Upd.there Upd.here)))); rfl; rfl; rfl; rfl; rfl; rfl
  refine wl_nil (wx_then (wc_seq (wc_k2 (Ls := (v40B0 ++ (v31B0 ++ (⟨b6, [.int .u8 zb.1, .int .u8 zb.2], 36, (0, 0)⟩ :: (⟨b4, [.int .u8 (0 : Int), .int .u8 (0 : Int)], 36, (0, 0)⟩ :: (⟨p0b, (.int .u8 p0.player :: .int .i64 p0.window :: st19 v31 v31a0 v31n0 v31c0 [.slice v40a0 v40n0 v40c0, .pointer (some ⟨p0_4b, 0, none⟩), .pointer (some ⟨p0_5b, 0, none⟩)]), p0t, (0, 0)⟩ :: (p0B0 ++ (p0B1 ++ (⟨p0_4b, [.int .u64 p0_4.first_, .slice p0_4a0 p0_4n0 p0_4c0, .int .u8 p0_4.last], p0_4t, (0, 0)⟩ :: (p0_4B0 ++ (⟨p0_5b, ([.int .i64 p0_5.size] ++ flat cg_T_ring_place p0_5g0), p0_5t, (0, 0)⟩ :: (p0_5P0 ++ [])))))))))))) [9] [9] [0, 1, 3, 7, 0, 16, 48, 112, 240, 511] [0, 1, 2, 3, 4, 5, 6, 7, 8, 9] (by kernel_rfl) (by kernel_rfl) (by kernel_rfl) ?_)))
  refine k_val rfl rfl rfl (pSub (pA (pA (pH (pH (pH (pA (pA (pH (pA (pH (pA pNil)))))))))))) (stepV_ok tt_ok rfl) rfl ?_
  refine k_val rfl rfl rfl (pSub (pA (pA (pH (pH (pH (pA (pA (pH (pA (pH (pA pNil)))))))))))) (stepV_ok tt_ok rfl) rfl ?_
  refine k_val (v := .pointer (some ⟨p0b, 22, none⟩)) rfl rfl rfl (pSub (pA (pA (pH (pH (pH (pA (pA (pH (pA (pH (pA pNil)))))))))))) (stepV_ok tt_ok rfl) rfl ?_
  refine k_val (v := .pointer (some ⟨p0_4b, 0, none⟩)) rfl rfl rfl (pSub (pA (pA (pH (pH (pH (pA (pA (pH (pA (pH (pA pNil)))))))))))) (val_load tt_ok rfl (mR (mR (mT (mT (mH))))) rfl) rfl ?_
  refine k_val rfl rfl rfl (pSub (pA (pA (pH (pH (pH (pA (pA (pH (pA (pH (pA pNil)))))))))))) (stepV_ok tt_ok rfl) rfl ?_
  refine k_val rfl rfl rfl (pSub (pA (pA (pH (pH (pH (pA (pA (pH (pA (pH (pA pNil)))))))))))) (stepV_ok tt_ok rfl) rfl ?_
  refine k_val (v := .pointer (some ⟨p0b, 2, none⟩)) rfl rfl rfl (pSub (pA (pA (pH (pH (pH (pA (pA (pH (pA (pH (pA pNil)))))))))))) (stepV_ok tt_ok rfl) rfl ?_
  refine k_val (v := .pointer (some ⟨p0b, 2, none⟩)) rfl rfl rfl (pSub (pA (pA (pH (pH (pH (pA (pA (pH (pA (pH (pA pNil)))))))))))) (stepV_ok tt_ok rfl) rfl ?_
  refine k_val (v := .int .u64 v31.Frame) rfl rfl rfl (pSub (pA (pA (pH (pH (pH (pA (pA (pH (pA (pH (pA pNil)))))))))))) (val_load tt_ok rfl (mR (mR (mT (mT (mH))))) rfl) rfl ?_
  replace h := bsome h; obtain ⟨za, x52, h⟩ := h
  refine k_cs rfl rfl rfl Tryd.call38 rfl rfl rfl (s_sp (k_queue_Queue_Drop (p0 := p0_4) p0_4N0 p0_4V0 x52) (pCons (sA (sA (sC (sC (sC (sA (sA hC))))))) (pApp (sA (sA (sC (sC (sC (sA (sA hA'))))))) pNil)) (fun _ _ => trivial)) rfl (.inl rfl) ?_
  rintro _ _ ⟨_, ⟨ze, zg, zf, zd, zh, zi, rfl, rfl⟩, rfl⟩
  refine k_end (by kernel_rfl) ?_
  refine wx_then (wc_seq (wc_k2 (Ls := (⟨p0_4b, [.int .u64 za.first_, .slice ze zg zf, .int .u8 za.last], p0_4t, (0, 0)⟩ :: (zd ++ (v40B0 ++ (v31B0 ++ (⟨b6, [.int .u8 zb.1, .int .u8 zb.2], 36, (0, 0)⟩ :: (⟨b4, [.int .u8 (0 : Int), .int .u8 (0 : Int)], 36, (0, 0)⟩ :: (⟨p0b, (.int .u8 p0.player :: .int .i64 p0.window :: st19 v31 v31a0 v31n0 v31c0 [.slice v40a0 v40n0 v40c0, .pointer (some ⟨p0_4b, 0, none⟩), .pointer (some ⟨p0_5b, 0, none⟩)]), p0t, (0, 0)⟩ :: (p0B0 ++ (p0B1 ++ (⟨p0_5b, ([.int .i64 p0_5.size] ++ flat cg_T_ring_place p0_5g0), p0_5t, (0, 0)⟩ :: (p0_5P0 ++ [])))))))))))) [8] [8] [0, 1, 3, 7, 0, 16, 48, 112, 255] [0, 1, 2, 3, 4, 5, 6, 7, 8] (by kernel_rfl) (by kernel_rfl) (by kernel_rfl) ?_))
  refine k_val rfl rfl rfl (pSub (pH (pA (pA (pA (pH (pH (pH (pA (pA (pH (pA pNil)))))))))))) (stepV_ok tt_ok rfl) rfl ?_
  refine k_val rfl rfl rfl (pSub (pH (pA (pA (pA (pH (pH (pH (pA (pA (pH (pA pNil)))))))))))) (stepV_ok tt_ok rfl) rfl ?_
  refine k_val (v := .pointer (some ⟨p0b, 23, none⟩)) rfl rfl rfl (pSub (pH (pA (pA (pA (pH (pH (pH (pA (pA (pH (pA pNil)))))))))))) (stepV_ok tt_ok rfl) rfl ?_
  refine k_val (v := .pointer (some ⟨p0_5b, 0, none⟩)) rfl rfl rfl (pSub (pH (pA (pA (pA (pH (pH (pH (pA (pA (pH (pA pNil)))))))))))) (val_load tt_ok rfl (mT (mR (mR (mR (mT (mT (mH))))))) rfl) rfl ?_
  refine k_val rfl rfl rfl (pSub (pH (pA (pA (pA (pH (pH (pH (pA (pA (pH (pA pNil)))))))))))) (stepV_ok tt_ok rfl) rfl ?_
  refine k_val rfl rfl rfl (pSub (pH (pA (pA (pA (pH (pH (pH (pA (pA (pH (pA pNil)))))))))))) (stepV_ok tt_ok rfl) rfl ?_
  refine k_val (v := .pointer (some ⟨p0b, 2, none⟩)) rfl rfl rfl (pSub (pH (pA (pA (pA (pH (pH (pH (pA (pA (pH (pA pNil)))))))))))) (stepV_ok tt_ok rfl) rfl ?_
  refine k_val (v := agS v31 v31a0 v31n0 v31c0) rfl rfl rfl (pSub (pH (pA (pA (pA (pH (pH (pH (pA (pA (pH (pA pNil)))))))))))) (val_load tt_ok rfl (mT (mR (mR (mR (mT (mT (mH))))))) rfl) rfl ?_
  replace h := bsome h; obtain ⟨⟨zc, v61⟩, x61, h⟩ := h; try dsimp only at h
  refine k_cs rfl rfl rfl Tryd.call39 rfl rfl rfl (s_sp (k_ring_Ring_Put (p0 := p0_5) (p1 := v31) p0_5G0 p0_5A0 v31N0 (vec_cap v31V0) (own_Z v31V0) x61) (pCons (sC (sA (sA (sA (sC (sC (sC (sA (sA hC))))))))) (pApp (sC (sA (sA (sA (sC (sC (sC (sA (sA hA'))))))))) pNil)) (fun w hI => ⟨(Rds.call (Rds.of_vec v31V0) (pCons (sC (sA (sA (sA (sC (sC (sC (sA (sA hC))))))))) (pApp (sC (sA (sA (sA (sC (sC (sC (sA (sA hA'))))))))) pNil)) ⟨_, (sC (sA (sA hA')))⟩) w hI, (Rds.call G0S (pCons (sC (sA (sA (sA (sC (sC (sC (sA (sA hC))))))))) (pApp (sC (sA (sA (sA (sC (sC (sC (sA (sA hA'))))))))) pNil)) rsub_nil) w hI, (Rds.call G1S (pCons (sC (sA (sA (sA (sC (sC (sC (sA (sA hC))))))))) (pApp (sC (sA (sA (sA (sC (sC (sC (sA (sA hA'))))))))) pNil)) rsub_nil) w hI⟩)) rfl (.inl rfl) ?_
  rintro _ _ ⟨_, ⟨zm, zl, zk, zj, rfl, rfl⟩, rfl⟩
  refine k_end (by kernel_rfl) ?_
  refine wx_then (wc_seq (wc_region (wl_val (v := .agg #[.int .u8 zb.1, .int .u8 zb.2]) (val_load tt_ok rfl (mT (mR (mT (mR (mR (mR (mH))))))) rfl) rfl ?_)))
  apply wl_store tt_ok; rfl; exact (Upd.there (Upd.right (Upd.there (Upd.right (Upd.right (Upd.right (Upd.there Upd.here))))))); rfl; rfl; rfl; rfl; rfl; rfl
  refine wP rfl rfl (wl_nil (wx_then (wc_ret ?_)))
  simp only [Option.some.injEq, Prod.mk.injEq] at h
  obtain ⟨rfl, rfl, rfl, rfl, rfl⟩ := h
  exact wx_spD tt_ok (.inl rfl) Tryd.results14 (Res.cell rfl (mT (mR (mT (mR (mR (mR (mT (mH)))))))) rfl (Res.tmp rfl Res.nil)) ⟨v31a0, v31n0, v31c0, v31B0, v40a0, v40n0, v40c0, v40B0, ze, zg, zf, zd, zm, zl, v31N0, v31V0, v40N0, v40V0, zh, zi, zk, zj, rfl, rfl⟩ (fun F => by simp) (pSub (pCons (sC (sA (sC (sA (sA (sA (sC (sC hC)))))))) (pApp (sC (sA (sC (sA (sA hA'))))) (pApp (sC (sA (sC (sA hA')))) (pCons (sC (sA hC)) (pApp (sC (sA hA')) (pH (pA pNil))))))))

theorem k_fold_History_At {F : Nat} {p0 : T_fold_History} {p0b p0t : Nat} {p1 : Int} {r0 : (Int × Int)} {r1 : Bool} (h : m_fold_History_At F p0 p1 = some (r0, r1)) :
    Rd2 Tryd.prog 30 [.pointer (some ⟨p0b, 0, none⟩), .int .u64 p1] (⟨p0b, ([.int .u64 p0.from_, .int .u64 p0.count, .int .u64 p0.most] ++ flat (e2 .u8) p0.ring.1), p0t, (0, 0)⟩ :: []) (fun w => True) (.tuple #[.agg #[.int .u8 r0.1, .int .u8 r0.2], .bool r1]) := by
  unfold m_fold_History_At at h
  refine sp_of_wc Tryd.func30 rfl Tryd.ntmps30 rfl rfl (fun w0 hR => ?_)
  refine wc_seq (wc_region (wl_alloc tt_ok rfl rfl (fun b4 => (wP rfl rfl (wl_nil (wx_then (wc_seq (wc_seq (wc_region (wP rfl rfl ?_))))))))))
  replace h := bsome h; obtain ⟨v7, x7, h⟩ := h
  refine wl_cq Tryd.call27 rfl rfl rfl (q_rd (k_fold_History_is x7) (pCons (sC hC) pNil) (fun _ _ => trivial)) rfl ?_
  refine wP rfl rfl ?_
  replace h := bsome h; obtain ⟨v15, h, hg15⟩ := h
  refine wl_split (t := 8) rfl (fun hc => ?_) (fun hc => ?_)
  · replace h := ct hc h
    refine wl_run rfl (wP rfl rfl (wl_run rfl (wP rfl rfl (wl_run rfl (wP rfl rfl (wl_run rfl (wP (v := .pointer (some ⟨p0b, 0, none⟩)) rfl rfl (wl_run rfl (wl_val (v := .int .u64 p0.from_) (val_load tt_ok rfl (mT (mH)) rfl) rfl (wl_run rfl (wP (v := .bool (decide (p0.from_ ≤ p1))) rfl rfl ?_)))))))))))
    obtain rfl := sI h
    have h := hg15; clear hg15
    refine wP (v := .bool (decide (p0.from_ ≤ p1))) rfl rfl (wP rfl rfl ?_)
    replace h := bsome h; obtain ⟨v23, h, hg23⟩ := h
    refine wl_split (t := 16) rfl (fun hc => ?_) (fun hc => ?_)
    · replace h := ct hc h
      refine wl_run rfl (wP rfl rfl (wl_run rfl (wP rfl rfl (wl_run rfl (wP rfl rfl (wl_run rfl (wP (v := .pointer (some ⟨p0b, 1, none⟩)) rfl rfl (wl_run rfl (wl_val (v := .int .u64 p0.count) (val_load tt_ok rfl (mT (mH)) rfl) rfl (wl_run rfl (wP (v := .bool (decide (p1 < p0.count))) rfl rfl ?_)))))))))))
      obtain rfl := sI h
      have h := hg23; clear hg23
      refine wP (v := .bool (decide (p1 < p0.count))) rfl rfl (wP rfl rfl (wl_nil (wx_then (wc_seq (wc_region (wP rfl rfl (wl_nil (wx_then (wc_cond rfl (fun hc => ?_) (fun hc => ?_))))))))))
      · replace h := ct hc h
        refine wc_region ?_
        iterate 2 refine wP rfl rfl ?_
        refine wP (v := .int .u64 (Int.tmod p1 256)) rfl rfl (wP rfl rfl (wP (v := .pointer (some ⟨p0b, 3, none⟩)) rfl rfl ?_))
        replace h := bsome h; obtain ⟨v30, x30, h⟩ := h
        refine wl_val (v := .pointer (some ⟨p0b, 3 + (Int.tmod p1 256).toNat * 2 + 0, none⟩)) (val_xa (a := p0.ring) tt_ok rfl rfl rfl rfl x30) rfl ?_
        refine wl_val (v := .agg #[.int .u8 v30.1, .int .u8 v30.2]) (val_xl (enc := (e2 .u8)) (pre := [.int .u64 p0.from_, .int .u64 p0.count, .int .u64 p0.most]) (post := []) (xs := p0.ring.1) tt_ok rfl (mT (mH)) c_np rfl (e2_len _) x30 rfl) rfl ?_
        apply wl_store tt_ok; rfl; exact Upd.here; rfl; rfl; rfl; rfl; rfl; rfl
        refine wl_nil (wx_then (wc_ret ?_))
        simp only [Option.some.injEq, Prod.mk.injEq] at h
        obtain ⟨rfl, rfl⟩ := h
        exact wx_rd tt_ok (.inl rfl) Tryd.results30 (Res.cell rfl (mH) rfl (Res.tmp rfl Res.nil)) (pSub (pCons (sC hC) pNil)) rfl
      replace h := cf hc h
      refine wc_skip (wx_then (wc_ret ?_))
      simp only [Option.some.injEq, Prod.mk.injEq] at h
      obtain ⟨rfl, rfl⟩ := h
      exact wx_rd tt_ok (.inl rfl) Tryd.results30 (Res.cell rfl (mH) rfl (Res.tmp rfl Res.nil)) (pSub (pCons (sC hC) pNil)) rfl
    replace h := cf hc h
    refine wl_skip rfl rfl (wl_skip rfl rfl (wl_skip rfl rfl (wl_skip rfl rfl (wl_skip rfl rfl (wl_skip rfl rfl ?_)))))
    obtain rfl := sI h
    have h := hg23; clear hg23
    refine wP (v := .bool false) rfl rfl (wP rfl rfl (wl_nil (wx_then (wc_seq (wc_region (wP rfl rfl (wl_nil (wx_then ?_))))))))
    replace h := cf rfl h
    refine wc_cond_false rfl ?_
    refine wc_skip (wx_then (wc_ret ?_))
    simp only [Option.some.injEq, Prod.mk.injEq] at h
    obtain ⟨rfl, rfl⟩ := h
    exact wx_rd tt_ok (.inl rfl) Tryd.results30 (Res.cell rfl (mH) rfl (Res.tmp rfl Res.nil)) (pSub (pCons (sC hC) pNil)) rfl
  replace h := cf hc h
  refine wl_skip rfl rfl (wl_skip rfl rfl (wl_skip rfl rfl (wl_skip rfl rfl (wl_skip rfl rfl (wl_skip rfl rfl ?_)))))
  obtain rfl := sI h
  have h := hg15; clear hg15
  refine wP (v := .bool false) rfl rfl (wP rfl rfl ?_)
  replace h := bsome h; obtain ⟨v23, h, hg23⟩ := h
  replace h := cf rfl h
  refine wl_skip rfl rfl (wl_skip rfl rfl (wl_skip rfl rfl (wl_skip rfl rfl (wl_skip rfl rfl (wl_skip rfl rfl ?_)))))
  obtain rfl := sI h
  have h := hg23; clear hg23
  refine wP (v := .bool false) rfl rfl (wP rfl rfl (wl_nil (wx_then (wc_seq (wc_region (wP rfl rfl (wl_nil (wx_then ?_))))))))
  replace h := cf rfl h
  refine wc_cond_false rfl ?_
  refine wc_skip (wx_then (wc_ret ?_))
  simp only [Option.some.injEq, Prod.mk.injEq] at h
  obtain ⟨rfl, rfl⟩ := h
  exact wx_rd tt_ok (.inl rfl) Tryd.results30 (Res.cell rfl (mH) rfl (Res.tmp rfl Res.nil)) (pSub (pCons (sC hC) pNil)) rfl

theorem k_fold_History_Slice {F : Nat} {p0 : T_fold_History} {p0b p0t : Nat} {p1 : Int} {p2 : Int} {r0 : (List (Int × Int))} (h : m_fold_History_Slice F p0 p1 p2 = some r0) :
    SpD Tryd.prog 12 [.pointer (some ⟨p0b, 0, none⟩), .int .u64 p1, .int .i64 p2] (⟨p0b, ([.int .u64 p0.from_, .int .u64 p0.count, .int .u64 p0.most] ++ flat (e2 .u8) p0.ring.1), p0t, (0, 0)⟩ :: []) (fun w => True) (fun v D => ∃ (r0a0 : Option Addr) (r0n0 : Nat) (r0c0 : Nat) (r0B0 : List Blk), r0n0 = r0.length ∧ Own 36 2 r0a0 r0n0 r0c0 (flat (e2 .u8) r0) r0B0 ∧ v = .slice r0a0 r0n0 r0c0 ∧ D = fun F => (⟨p0b, ([.int .u64 p0.from_, .int .u64 p0.count, .int .u64 p0.most] ++ flat (e2 .u8) p0.ring.1), p0t, (0, 0)⟩ :: (r0B0 ++ F))) := by
  unfold m_fold_History_Slice at h
  refine sp_of_wc Tryd.func12 rfl Tryd.ntmps12 rfl rfl (fun w0 hR => ?_)
  refine wc_seq (wc_region (wP rfl rfl (wl_nil (wx_then (wc_seq (wc_seq (wc_region ?_)))))))
  iterate 2 refine wP rfl rfl ?_
  refine wl_nil (wx_then (wc_block ?_))
  replace h := bsome h; obtain ⟨zl, h, hl7⟩ := h
  refine wc_loop (fun m E L => ∃ (zb : Int) (za : (List (Int × Int))) (zg : Int) (ze : Option Addr) (zc : Nat) (zf : Nat) (zd : List Blk), m_fold_History_Slice_L6 F p0 p2 m zb za zg = some zl ∧ zc = za.length ∧ Own 36 2 ze zc zf (flat (e2 .u8) za) zd ∧ E = [(0, .pointer (some ⟨p0b, 0, none⟩)), (1, .int .u64 zb), (6, .slice ze zc zf), (9, .int .i64 p2), (10, .int .i64 zg)] ∧ L = (⟨p0b, ([.int .u64 p0.from_, .int .u64 p0.count, .int .u64 p0.most] ++ flat (e2 .u8) p0.ring.1), p0t, (0, 0)⟩ :: (zd ++ []))) F ⟨p1, ([] : List (Int × Int)), (0 : Int), none, 0, 0, [], h, rfl, Own.zero, rfl, rfl⟩ (agree_cons rfl (agree_cons rfl (agree_cons rfl (agree_cons rfl (agree_cons rfl agree_nil))))) (pSub (pH (pNo pNil))) ?_
  clear h
  rintro m7 _ _ ⟨zb, za, zg, ze, zc, zf, zd, h, zi, zj, rfl, rfl⟩
  rcases m7 with _ | m7
  · rw [m_fold_History_Slice_L6.eq_1] at h; cases h
  rw [m_fold_History_Slice_L6.eq_2] at h
  refine wc_seq (wc_region (wP (v := .bool (decide (zg < p2))) rfl rfl (wl_nil (wx_then (wc_seq (wc_cond rfl (fun hc => ?_) (fun hc => ?_)))))))
  · replace h := ct hc h
    refine wc_skip (wx_then (wc_seq (wc_block (wc_seq (wc_region ?_)))))
    iterate 2 refine wP rfl rfl ?_
    replace h := bsome h; obtain ⟨⟨zh, zk⟩, x15, h⟩ := h; try dsimp only at h
    refine wl_cq Tryd.call30 rfl rfl rfl (q_rd (k_fold_History_At x15) (pH pNil) (fun _ _ => trivial)) rfl ?_
    iterate 3 refine wP rfl rfl ?_
    refine wl_alloc tt_ok rfl rfl (fun b7 => ?_)
    apply wl_store tt_ok; rfl; exact Upd.here; rfl; rfl; rfl; rfl; rfl; rfl
    refine wP rfl rfl (wl_nil (wx_then (wc_seq (wc_seq (wc_region (wP rfl rfl (wP (v := .bool (!zk)) rfl rfl (wl_nil (wx_then (wc_cond rfl (fun hc => ?_) (fun hc => ?_)))))))))))
    · replace h := ct hc h
      refine wc_exit (wx_then_exit ?_)
      refine wx_block_other (by rfl) ?_
      refine wx_then_exit ?_
      obtain rfl := sI h
      have h := hl7; clear hl7; try dsimp only [orE_l, orE_r] at h
      refine wx_then_exit (wx_block_exit (wx_then (wc_ret ?_)))
      obtain rfl := sI h
      exact wx_spD tt_ok (.inl rfl) Tryd.results12 (Res.tmp rfl Res.nil) ⟨ze, zc, zf, zd, zi, zj, rfl, rfl⟩ (fun F => by simp) (pSub (pCons (sC hC) (pApp (sC hA') pNil)))
    replace h := cf hc h
    refine wc_skip (wx_then (wc_seq (wc_region (wP rfl rfl (wl_val (v := .agg #[.int .u8 zh.1, .int .u8 zh.2]) (val_load tt_ok rfl (mH) rfl) rfl (wl_chg (chg_bsv (enc := (e2 .u8)) (xs := ([zh] : List (Int × Int))) tt_ok rfl rfl rfl rfl rfl rfl rfl rfl (e2_len _)) rfl ?_))))))
    rintro _ _ ⟨a22, n22_, c22, B22, rfl, N22, V22, rfl⟩
    replace h := bsome h; obtain ⟨v23, x23, h⟩ := h
    refine wl_chg (chg_app (enc := (e2 .u8)) (ys := ([zh] : List (Int × Int))) tt_ok rfl rfl rfl rfl rfl rfl zi N22 zj (sA (sC (sC hA'))) (Rds.of_vec V22) ⟨_, hA'⟩ (e2_len _) (fun _ => rfl) rfl x23) rfl ?_
    rintro _ _ ⟨a23, n23_, c23, B23, rfl, N23, V23, rfl⟩
    refine wP rfl rfl (wl_nil (wx_then (wc_region (wP rfl rfl (wP (v := .int .u64 (IntKind.wrap .u64 (zb + (1 : Int)))) rfl rfl (wP rfl rfl (wl_nil (wx_block (wx_then (wc_region (wP (v := .int .i64 (IntKind.wrap .i64 (zg + (1 : Int)))) rfl rfl (wP rfl rfl (wl_nil ?_)))))))))))))
    exact wx_round m7 (Nat.lt_succ_self m7) ⟨(IntKind.wrap .u64 (zb + (1 : Int))), v23, (IntKind.wrap .i64 (zg + (1 : Int))), a23, n23_, c23, B23, h, N23, V23, rfl, rfl⟩ (agree_cons rfl (agree_cons rfl (agree_cons rfl (agree_cons rfl (agree_cons rfl agree_nil))))) (pSub (pCons (sA (sA (sC hC))) (pA pNil)))
  replace h := cf hc h
  refine wc_exit (wx_then_exit ?_)
  obtain rfl := sI h
  have h := hl7; clear hl7; try dsimp only [orE_l, orE_r] at h
  refine wx_then_exit (wx_block_exit (wx_then (wc_ret ?_)))
  obtain rfl := sI h
  exact wx_spD tt_ok (.inl rfl) Tryd.results12 (Res.tmp rfl Res.nil) ⟨ze, zc, zf, zd, zi, zj, rfl, rfl⟩ (fun F => by simp) (pSub (pH (pA pNil)))

theorem k_backfill_Plan {F : Nat} {p0 : T_fold_History} {p0b p0t : Nat} {p1 : Int} {r0 : Int} {r1 : Int} (h : m_backfill_Plan F p0 p1 = some (r0, r1)) :
    Rd2 Tryd.prog 10 [.pointer (some ⟨p0b, 0, none⟩), .int .u64 p1] (⟨p0b, ([.int .u64 p0.from_, .int .u64 p0.count, .int .u64 p0.most] ++ flat (e2 .u8) p0.ring.1), p0t, (0, 0)⟩ :: []) (fun w => True) (.tuple #[.int .u64 r0, .int .i64 r1]) := by
  unfold m_backfill_Plan at h
  refine sp_of_wc Tryd.func10 rfl Tryd.ntmps10 rfl rfl (fun w0 hR => ?_)
  refine wc_seq (wc_region ?_)
  iterate 2 refine wP rfl rfl ?_
  refine wl_nil (wx_then (wc_seq (wc_seq (wc_region ?_))))
  iterate 2 refine wP rfl rfl ?_
  replace h := bsome h; obtain ⟨v8, x8, h⟩ := h
  refine wl_cs Tryd.call12 rfl rfl rfl (s_sp (k_fold_History_Slice x8) (pH pNil) (fun _ _ => trivial)) rfl ?_
  rintro _ _ ⟨_, ⟨v8a0, v8n0, v8c0, v8B0, v8N0, v8V0, rfl, rfl⟩, rfl⟩
  refine wl_val (v := .int .i64 (v8.length : Int)) (val_len tt_ok rfl rfl v8N0) rfl ?_
  refine wP rfl rfl (wl_nil (wx_then (wc_seq (wc_region (wP rfl rfl (wP (v := .bool ((v8.length : Int) == (0 : Int))) rfl rfl (wl_nil (wx_then (wc_cond rfl (fun hc => ?_) (fun hc => ?_))))))))))
  · replace h := ct hc h
    refine wc_seq (wc_region ?_)
    iterate 2 refine wP rfl rfl ?_
    refine wl_nil (wx_then (wc_ret (wx_then_ret ?_)))
    simp only [Option.some.injEq, Prod.mk.injEq] at h
    obtain ⟨rfl, rfl⟩ := h
    exact wx_rd tt_ok (.inl rfl) Tryd.results10 (Res.tmp rfl (Res.tmp rfl Res.nil)) (pSub (pH pNil)) rfl
  replace h := cf hc h
  refine wc_skip (wx_then (wc_seq (wc_region ?_)))
  iterate 4 refine wP rfl rfl ?_
  refine wl_nil (wx_then (wc_ret ?_))
  simp only [Option.some.injEq, Prod.mk.injEq] at h
  obtain ⟨rfl, rfl⟩ := h
  exact wx_rd tt_ok (.inl rfl) Tryd.results10 (Res.tmp rfl (Res.tmp rfl Res.nil)) (pSub (pH pNil)) rfl

theorem k_rollback_Engine_C {F : Nat} {p0 : T_rollback_Engine} {p0b p0t : Nat} {p0a0 : Option Addr} {p0n0 : Nat} {p0c0 : Nat} {p0B0 : List Blk} {p0a1 : Option Addr} {p0n1 : Nat} {p0c1 : Nat} {p0B1 : List Blk} {p0_4 : T_queue_Queue} {p0_4b p0_4t : Nat} {p0_4a0 : Option Addr} {p0_4n0 : Nat} {p0_4c0 : Nat} {p0_4B0 : List Blk} {p0_5 : T_ring_Ring} {p0_5b p0_5t : Nat} {p0_5g0 : List (T_ring_place × G)} {p0_5P0 : List Blk} {r0 : Int} (p0N0 : p0n0 = p0.sure.Shots.length) (p0V0 : Own 92 6 p0a0 p0n0 p0c0 (flat c_T_api_Shot p0.sure.Shots) p0B0) (p0N1 : p0n1 = p0.own.length) (p0V1 : Own 34 1 p0a1 p0n1 p0c1 (flat (e1 .u8) p0.own) p0B1) (p0_4N0 : p0_4n0 = p0_4.l.length) (p0_4V0 : Own 34 1 p0_4a0 p0_4n0 p0_4c0 (flat (e1 .u8) p0_4.l) p0_4B0) (p0_5G0 : p0_5.places.1 = unG p0_5g0) (p0_5A0 : AllP sh_T_ring_place c_T_api_Shot p0_5P0 p0_5g0) (h : m_rollback_Engine_C F p0 p0_4 p0_5 = some r0) :
    Rd2 Tryd.prog 11 [.pointer (some ⟨p0b, 0, none⟩)] (⟨p0b, (.int .u8 p0.player :: .int .i64 p0.window :: st19 p0.sure p0a0 p0n0 p0c0 [.slice p0a1 p0n1 p0c1, .pointer (some ⟨p0_4b, 0, none⟩), .pointer (some ⟨p0_5b, 0, none⟩)]), p0t, (0, 0)⟩ :: (p0B0 ++ (p0B1 ++ (⟨p0_4b, [.int .u64 p0_4.first_, .slice p0_4a0 p0_4n0 p0_4c0, .int .u8 p0_4.last], p0_4t, (0, 0)⟩ :: (p0_4B0 ++ (⟨p0_5b, ([.int .i64 p0_5.size] ++ flat cg_T_ring_place p0_5g0), p0_5t, (0, 0)⟩ :: (p0_5P0 ++ []))))))) (fun w => True) (.int .u64 r0) := by
  unfold m_rollback_Engine_C at h
  refine sp_of_wc Tryd.func11 rfl Tryd.ntmps11 rfl rfl (fun w0 hR => ?_)
  refine wc_seq (wc_region (wP rfl rfl (wl_nil (wx_then (wc_seq (wc_seq (wc_region (wP rfl rfl ?_))))))))
  replace h := bsome h; obtain ⟨v4, x4, h⟩ := h
  refine wl_cq Tryd.call29 rfl rfl rfl (q_rd (k_rollback_Engine_is (p0 := p0) (p0_4 := p0_4) (p0_5 := p0_5) p0N0 p0V0 p0N1 p0V1 p0_4N0 p0_4V0 p0_5G0 p0_5A0 x4) (pH (pA (pA (pH (pA (pH (pA pNil))))))) (fun _ _ => trivial)) rfl ?_
  refine wP (v := .bool (!v4)) rfl rfl (wl_nil (wx_then (wc_cond rfl (fun hc => ?_) (fun hc => ?_))))
  · replace h := ct hc h
    refine wc_seq (wc_region (wP rfl rfl (wl_nil (wx_then (wc_ret (wx_then_ret ?_))))))
    obtain rfl := sI h
    exact wx_rd tt_ok (.inl rfl) Tryd.results11 (Res.tmp rfl Res.nil) (pSub (pH (pA (pA (pH (pA (pH (pA pNil)))))))) rfl
  replace h := cf hc h
  refine wc_skip (wx_then (wc_seq (wc_region ?_)))
  iterate 2 refine wP rfl rfl ?_
  refine wP (v := .pointer (some ⟨p0b, 2, none⟩)) rfl rfl (wP (v := .pointer (some ⟨p0b, 2, none⟩)) rfl rfl (wl_val (v := .int .u64 p0.sure.Frame) (val_load tt_ok rfl (mH) rfl) rfl (wP rfl rfl (wl_nil (wx_then (wc_ret ?_))))))
  obtain rfl := sI h
  exact wx_rd tt_ok (.inl rfl) Tryd.results11 (Res.tmp rfl Res.nil) (pSub (pH (pA (pA (pH (pA (pH (pA pNil)))))))) rfl

theorem k_rollback_Engine_Own {F : Nat} {p0 : T_rollback_Engine} {p0b p0t : Nat} {p0a0 : Option Addr} {p0n0 : Nat} {p0c0 : Nat} {p0B0 : List Blk} {p0a1 : Option Addr} {p0n1 : Nat} {p0c1 : Nat} {p0B1 : List Blk} {p0_4 : T_queue_Queue} {p0_4b p0_4t : Nat} {p0_4a0 : Option Addr} {p0_4n0 : Nat} {p0_4c0 : Nat} {p0_4B0 : List Blk} {p0_5 : T_ring_Ring} {p0_5b p0_5t : Nat} {p0_5g0 : List (T_ring_place × G)} {p0_5P0 : List Blk} {r0 : (List Int)} (p0N0 : p0n0 = p0.sure.Shots.length) (p0V0 : Own 92 6 p0a0 p0n0 p0c0 (flat c_T_api_Shot p0.sure.Shots) p0B0) (p0N1 : p0n1 = p0.own.length) (p0V1 : Own 34 1 p0a1 p0n1 p0c1 (flat (e1 .u8) p0.own) p0B1) (p0_4N0 : p0_4n0 = p0_4.l.length) (p0_4V0 : Own 34 1 p0_4a0 p0_4n0 p0_4c0 (flat (e1 .u8) p0_4.l) p0_4B0) (p0_5G0 : p0_5.places.1 = unG p0_5g0) (p0_5A0 : AllP sh_T_ring_place c_T_api_Shot p0_5P0 p0_5g0) (h : m_rollback_Engine_Own F p0 p0_4 p0_5 = some r0) :
    SpD Tryd.prog 34 [.pointer (some ⟨p0b, 0, none⟩)] (⟨p0b, (.int .u8 p0.player :: .int .i64 p0.window :: st19 p0.sure p0a0 p0n0 p0c0 [.slice p0a1 p0n1 p0c1, .pointer (some ⟨p0_4b, 0, none⟩), .pointer (some ⟨p0_5b, 0, none⟩)]), p0t, (0, 0)⟩ :: (p0B0 ++ (p0B1 ++ (⟨p0_4b, [.int .u64 p0_4.first_, .slice p0_4a0 p0_4n0 p0_4c0, .int .u8 p0_4.last], p0_4t, (0, 0)⟩ :: (p0_4B0 ++ (⟨p0_5b, ([.int .i64 p0_5.size] ++ flat cg_T_ring_place p0_5g0), p0_5t, (0, 0)⟩ :: (p0_5P0 ++ []))))))) (fun w => True) (fun v D => ∃ (r0a0 : Option Addr) (r0n0 : Nat) (r0c0 : Nat) (r0B0 : List Blk), r0n0 = r0.length ∧ Own 34 1 r0a0 r0n0 r0c0 (flat (e1 .u8) r0) r0B0 ∧ v = .slice r0a0 r0n0 r0c0 ∧ D = fun F => (⟨p0b, (.int .u8 p0.player :: .int .i64 p0.window :: st19 p0.sure p0a0 p0n0 p0c0 [.slice p0a1 p0n1 p0c1, .pointer (some ⟨p0_4b, 0, none⟩), .pointer (some ⟨p0_5b, 0, none⟩)]), p0t, (0, 0)⟩ :: (p0B0 ++ (p0B1 ++ (⟨p0_4b, [.int .u64 p0_4.first_, .slice p0_4a0 p0_4n0 p0_4c0, .int .u8 p0_4.last], p0_4t, (0, 0)⟩ :: (p0_4B0 ++ (⟨p0_5b, ([.int .i64 p0_5.size] ++ flat cg_T_ring_place p0_5g0), p0_5t, (0, 0)⟩ :: (p0_5P0 ++ (r0B0 ++ F))))))))) := by
  unfold m_rollback_Engine_Own at h
  refine sp_of_wc Tryd.func34 rfl Tryd.ntmps34 rfl rfl (fun w0 hR => ?_)
  refine wc_seq (wc_region (wP rfl rfl (wl_nil (wx_then (wc_seq (wc_seq (wc_region (wP rfl rfl ?_))))))))
  replace h := bsome h; obtain ⟨v4, x4, h⟩ := h
  refine wl_cq Tryd.call29 rfl rfl rfl (q_rd (k_rollback_Engine_is (p0 := p0) (p0_4 := p0_4) (p0_5 := p0_5) p0N0 p0V0 p0N1 p0V1 p0_4N0 p0_4V0 p0_5G0 p0_5A0 x4) (pH (pA (pA (pH (pA (pH (pA pNil))))))) (fun _ _ => trivial)) rfl ?_
  refine wP (v := .bool (!v4)) rfl rfl (wl_nil (wx_then (wc_cond rfl (fun hc => ?_) (fun hc => ?_))))
  · replace h := ct hc h
    refine wc_seq (wc_region (wP rfl rfl (wl_nil (wx_then (wc_ret (wx_then_ret ?_))))))
    obtain rfl := sI h
    exact wx_spD tt_ok (.inl rfl) Tryd.results34 (Res.tmp rfl Res.nil) ⟨none, 0, 0, [], rfl, Own.zero, rfl, rfl⟩ (fun F => by simp) (pSub (pH (pA (pA (pH (pA (pH (pA (pNo pNil)))))))))
  replace h := cf hc h
  refine wc_skip (wx_then (wc_seq (wc_region ?_)))
  iterate 2 refine wP rfl rfl ?_
  refine wP (v := .pointer (some ⟨p0b, 21, none⟩)) rfl rfl (wl_val (v := .slice p0a1 p0n1 p0c1) (val_load tt_ok rfl (mH) rfl) rfl ?_)
  replace h := bsome h; obtain ⟨v10, x10, h⟩ := h
  refine wl_cs Tryd.call37 rfl rfl rfl (s_sp (k_slices_Clone___api_Input_api_Input (p0 := p0.own) p0N1 (vec_cap p0V1) x10) pNil (Rds.call (Rds.of_vec p0V1) pNil ⟨_, (sC (sA hA'))⟩)) rfl ?_
  rintro _ _ ⟨_, ⟨v10a0, v10n0, v10c0, v10B0, v10N0, v10V0, rfl, rfl⟩, rfl⟩
  refine wP rfl rfl (wl_nil (wx_then (wc_ret ?_)))
  obtain rfl := sI h
  exact wx_spD tt_ok (.inl rfl) Tryd.results34 (Res.tmp rfl Res.nil) ⟨v10a0, v10n0, v10c0, v10B0, v10N0, v10V0, rfl, rfl⟩ (fun F => by simp) (pSub (pCons (sA hC) (pApp (sA hA') (pApp (sA hA') (pCons (sA hC) (pApp (sA hA') (pCons (sA hC) (pApp (sA hA') (pA pNil)))))))))

theorem k_rollback_Engine_T {F : Nat} {p0 : T_rollback_Engine} {p0b p0t : Nat} {p0a0 : Option Addr} {p0n0 : Nat} {p0c0 : Nat} {p0B0 : List Blk} {p0a1 : Option Addr} {p0n1 : Nat} {p0c1 : Nat} {p0B1 : List Blk} {p0_4 : T_queue_Queue} {p0_4b p0_4t : Nat} {p0_4a0 : Option Addr} {p0_4n0 : Nat} {p0_4c0 : Nat} {p0_4B0 : List Blk} {p0_5 : T_ring_Ring} {p0_5b p0_5t : Nat} {p0_5g0 : List (T_ring_place × G)} {p0_5P0 : List Blk} {r0 : Int} (p0N0 : p0n0 = p0.sure.Shots.length) (p0V0 : Own 92 6 p0a0 p0n0 p0c0 (flat c_T_api_Shot p0.sure.Shots) p0B0) (p0N1 : p0n1 = p0.own.length) (p0V1 : Own 34 1 p0a1 p0n1 p0c1 (flat (e1 .u8) p0.own) p0B1) (p0_4N0 : p0_4n0 = p0_4.l.length) (p0_4V0 : Own 34 1 p0_4a0 p0_4n0 p0_4c0 (flat (e1 .u8) p0_4.l) p0_4B0) (p0_5G0 : p0_5.places.1 = unG p0_5g0) (p0_5A0 : AllP sh_T_ring_place c_T_api_Shot p0_5P0 p0_5g0) (h : m_rollback_Engine_T F p0 p0_4 p0_5 = some r0) :
    Rd2 Tryd.prog 33 [.pointer (some ⟨p0b, 0, none⟩)] (⟨p0b, (.int .u8 p0.player :: .int .i64 p0.window :: st19 p0.sure p0a0 p0n0 p0c0 [.slice p0a1 p0n1 p0c1, .pointer (some ⟨p0_4b, 0, none⟩), .pointer (some ⟨p0_5b, 0, none⟩)]), p0t, (0, 0)⟩ :: (p0B0 ++ (p0B1 ++ (⟨p0_4b, [.int .u64 p0_4.first_, .slice p0_4a0 p0_4n0 p0_4c0, .int .u8 p0_4.last], p0_4t, (0, 0)⟩ :: (p0_4B0 ++ (⟨p0_5b, ([.int .i64 p0_5.size] ++ flat cg_T_ring_place p0_5g0), p0_5t, (0, 0)⟩ :: (p0_5P0 ++ []))))))) (fun w => True) (.int .u64 r0) := by
  unfold m_rollback_Engine_T at h
  refine sp_of_wc Tryd.func33 rfl Tryd.ntmps33 rfl rfl (fun w0 hR => ?_)
  refine wc_seq (wc_region (wP rfl rfl (wl_nil (wx_then (wc_seq (wc_region (wP rfl rfl ?_)))))))
  replace h := bsome h; obtain ⟨v4, x4, h⟩ := h
  refine wl_cq Tryd.call11 rfl rfl rfl (q_rd (k_rollback_Engine_C (p0 := p0) (p0_4 := p0_4) (p0_5 := p0_5) p0N0 p0V0 p0N1 p0V1 p0_4N0 p0_4V0 p0_5G0 p0_5A0 x4) (pH (pA (pA (pH (pA (pH (pA pNil))))))) (fun _ _ => trivial)) rfl ?_
  refine wP rfl rfl ?_
  replace h := bsome h; obtain ⟨v6, x6, h⟩ := h
  refine wl_cs Tryd.call34 rfl rfl rfl (s_sp (k_rollback_Engine_Own (p0 := p0) (p0_4 := p0_4) (p0_5 := p0_5) p0N0 p0V0 p0N1 p0V1 p0_4N0 p0_4V0 p0_5G0 p0_5A0 x6) (pH (pA (pA (pH (pA (pH (pA pNil))))))) (fun _ _ => trivial)) rfl ?_
  rintro _ _ ⟨_, ⟨v6a0, v6n0, v6c0, v6B0, v6N0, v6V0, rfl, rfl⟩, rfl⟩
  refine wl_val (v := .int .i64 (v6.length : Int)) (val_len tt_ok rfl rfl v6N0) rfl ?_
  refine wP (v := .int .u64 (IntKind.wrap .u64 (v6.length : Int))) rfl rfl (wP (v := .int .u64 (IntKind.wrap .u64 (v4 + (IntKind.wrap .u64 (v6.length : Int))))) rfl rfl (wP rfl rfl (wl_nil (wx_then (wc_ret ?_)))))
  obtain rfl := sI h
  exact wx_rd tt_ok (.inl rfl) Tryd.results33 (Res.tmp rfl Res.nil) (pSub (pH (pA (pA (pH (pA (pH (pA pNil)))))))) rfl

end Go.Proofs.YtkdbpenjkcjimaaDoor
