/-
  Each function computes what its model says. Printed by a program of this claim's own.
-/
import Derived.Test.YtkekgagekgadmaaDoorTab
import Derived.Test.YtkekgagekgadmaaDoorMod
import Derived.Test.YtkekgagekgadmaaDoorWalk2
namespace Go.Proofs.YtkekgagekgadmaaDoor
open Go.Proofs.YtkekgagekgadmaaDoor.Eng
set_option linter.unusedVariables false
set_option linter.unusedSimpArgs false
set_option maxHeartbeats 4000000
set_option maxRecDepth 20000

theorem k_rollback_Engine_Remote {F : Nat} {p0 : T_rollback_Engine} {p0b p0t : Nat} {p0a0 : Option Addr} {p0n0 : Nat} {p0c0 : Nat} {p0B0 : List Blk} {p0a1 : Option Addr} {p0n1 : Nat} {p0c1 : Nat} {p0B1 : List Blk} {p0_4 : T_queue_Queue} {p0_4b p0_4t : Nat} {p0_4a0 : Option Addr} {p0_4n0 : Nat} {p0_4c0 : Nat} {p0_4B0 : List Blk} {p0_5 : T_ring_Ring} {p0_5b p0_5t : Nat} {p0_5g0 : List (T_ring_place × G)} {p0_5P0 : List Blk} {p1 : Int} {p2 : Int} {r0 : T_queue_Queue} {r1 : T_ring_Ring} {r2 : Int} (p0N0 : p0n0 = p0.sure.Shots.length) (p0V0 : Own 80 6 p0a0 p0n0 p0c0 (flat c_T_api_Shot p0.sure.Shots) p0B0) (p0N1 : p0n1 = p0.own.length) (p0V1 : Own 40 1 p0a1 p0n1 p0c1 (flat (e1 .u8) p0.own) p0B1) (p0_4N0 : p0_4n0 = p0_4.l.length) (p0_4V0 : Own 40 1 p0_4a0 p0_4n0 p0_4c0 (flat (e1 .u8) p0_4.l) p0_4B0) (p0_5G0 : p0_5.places.1 = unG p0_5g0) (p0_5A0 : AllP sh_T_ring_place c_T_api_Shot p0_5P0 p0_5g0) (h : m_rollback_Engine_Remote F p0 p0_4 p0_5 p1 p2 = some (r0, r1, r2)) :
    SpD Tryd.prog 12 [.pointer (some ⟨p0b, 0, none⟩), .int .u64 p1, .int .u8 p2] (⟨p0b, (.int .u8 p0.player :: .int .i64 p0.window :: .int .u64 p0.sure.Frame :: .int .u64 p0.sure.Seed :: pl14 p0.sure.Players [.slice p0a0 p0n0 p0c0, .int .u16 p0.sure.Score.1, .int .u16 p0.sure.Score.2, .slice p0a1 p0n1 p0c1, .pointer (some ⟨p0_4b, 0, none⟩), .pointer (some ⟨p0_5b, 0, none⟩)]), p0t, (0, 0)⟩ :: (p0B0 ++ (p0B1 ++ (⟨p0_4b, [.int .u64 p0_4.first_, .slice p0_4a0 p0_4n0 p0_4c0, .int .u8 p0_4.last], p0_4t, (0, 0)⟩ :: (p0_4B0 ++ (⟨p0_5b, ([.int .i64 p0_5.size] ++ flat cg_T_ring_place p0_5g0), p0_5t, (0, 0)⟩ :: (p0_5P0 ++ []))))))) (fun w => True) (fun v D => ∃ (r0a0 : Option Addr) (r0n0 : Nat) (r0c0 : Nat) (r0B0 : List Blk) (r1g0 : List (T_ring_place × G)) (r1P0 : List Blk), r0n0 = r0.l.length ∧ Own 40 1 r0a0 r0n0 r0c0 (flat (e1 .u8) r0.l) r0B0 ∧ r1.places.1 = unG r1g0 ∧ AllP sh_T_ring_place c_T_api_Shot r1P0 r1g0 ∧ v = .int .i64 r2 ∧ D = fun F => (⟨p0b, (.int .u8 p0.player :: .int .i64 p0.window :: .int .u64 p0.sure.Frame :: .int .u64 p0.sure.Seed :: pl14 p0.sure.Players [.slice p0a0 p0n0 p0c0, .int .u16 p0.sure.Score.1, .int .u16 p0.sure.Score.2, .slice p0a1 p0n1 p0c1, .pointer (some ⟨p0_4b, 0, none⟩), .pointer (some ⟨p0_5b, 0, none⟩)]), p0t, (0, 0)⟩ :: (p0B0 ++ (p0B1 ++ (⟨p0_4b, [.int .u64 r0.first_, .slice r0a0 r0n0 r0c0, .int .u8 r0.last], p0_4t, (0, 0)⟩ :: (r0B0 ++ (⟨p0_5b, ([.int .i64 r1.size] ++ flat cg_T_ring_place r1g0), p0_5t, (0, 0)⟩ :: (r1P0 ++ F)))))))) := by
  unfold m_rollback_Engine_Remote at h
  refine sp_of_wc Tryd.func12 rfl Tryd.ntmps12 rfl rfl (fun w0 hR => ?_)
  refine wc_seq (wc_region (wP rfl rfl (wl_nil (wx_then (wc_seq (wc_seq (wc_region (wP rfl rfl ?_))))))))
  replace h := bsome h; obtain ⟨v11, x11, h⟩ := h
  refine wl_cq Tryd.call30 rfl rfl rfl (q_rd (k_rollback_Engine_is (p0 := p0) (p0_4 := p0_4) (p0_5 := p0_5) p0N0 p0V0 p0N1 p0V1 p0_4N0 p0_4V0 p0_5G0 p0_5A0 x11) (pH (pA (pA (pH (pA (pH (pA pNil))))))) (fun _ _ => trivial)) rfl ?_
  refine wP (v := .bool (!v11)) rfl rfl (wl_nil (wx_then (wc_cond rfl (fun hc => ?_) (fun hc => ?_))))
  · replace h := ct hc h
    refine wc_seq (wc_region (wP rfl rfl (wl_nil (wx_then (wc_ret (wx_then_ret ?_))))))
    simp only [Option.some.injEq, Prod.mk.injEq] at h
    obtain ⟨rfl, rfl, rfl⟩ := h
    exact wx_spD tt_ok (.inl rfl) Tryd.results12 (Res.tmp rfl Res.nil) ⟨p0_4a0, p0_4n0, p0_4c0, p0_4B0, p0_5g0, p0_5P0, p0_4N0, p0_4V0, p0_5G0, p0_5A0, rfl, rfl⟩ (fun F => by simp) (pSub (pH (pA (pA (pH (pA (pH (pA pNil))))))))
  replace h := cf hc h
  refine wc_skip (wx_then (wc_seq (wc_quiet (by kernel_rfl) (by kernel_rfl) (qP rfl rfl (qP rfl rfl (qP (v := .pointer (some ⟨p0b, 22, none⟩)) rfl rfl (wq_val (v := .pointer (some ⟨p0_4b, 0, none⟩)) (val_load tt_ok rfl (mH) rfl) rfl ?_)))))))
  replace h := bsome h; obtain ⟨v17, x17, h⟩ := h
  refine wq_cq Tryd.call34 rfl rfl rfl (q_rd (k_queue_Queue_Known (p0 := p0_4) p0_4N0 p0_4V0 x17) (pCons (sC (sA (sA hC))) (pApp (sC (sA (sA hA'))) pNil)) (fun _ _ => trivial)) rfl ?_
  refine qP rfl rfl (qP rfl rfl (qP (v := .pointer (some ⟨p0b, 22, none⟩)) rfl rfl (wq_val (v := .pointer (some ⟨p0_4b, 0, none⟩)) (val_load tt_ok rfl (mH) rfl) rfl (qP rfl rfl ?_))))
  replace h := bsome h; obtain ⟨v23, x23, h⟩ := h
  refine wq_cq Tryd.call35 rfl rfl rfl (q_rd (k_queue_Queue_Guess (p0 := p0_4) p0_4N0 p0_4V0 x23) (pCons (sC (sA (sA hC))) (pApp (sC (sA (sA hA'))) pNil)) (fun _ _ => trivial)) rfl ?_
  refine qP rfl rfl (qP rfl rfl (wq_nil (wx_then (wc_seq (wc_region ?_)))))
  iterate 2 refine wP rfl rfl ?_
  refine wP (v := .pointer (some ⟨p0b, 22, none⟩)) rfl rfl (wl_val (v := .pointer (some ⟨p0_4b, 0, none⟩)) (val_load tt_ok rfl (mH) rfl) rfl ?_)
  iterate 2 refine wP rfl rfl ?_
  replace h := bsome h; obtain ⟨⟨zb, v30⟩, x30, h⟩ := h; try dsimp only at h
  refine wl_cs Tryd.call36 rfl rfl rfl (s_sp (k_queue_Queue_Add (p0 := p0_4) p0_4N0 p0_4V0 x30) (pCons (sC (sA (sA hC))) (pApp (sC (sA (sA hA'))) pNil)) (fun _ _ => trivial)) rfl ?_
  rintro _ _ ⟨_, ⟨zj, zl, zk, zi, zm, zn, rfl, rfl⟩, rfl⟩
  refine wP rfl rfl (wl_nil (wx_then (wc_seq (wc_seq (wc_region ?_)))))
  iterate 2 refine wP rfl rfl ?_
  refine wP (v := .pointer (some ⟨p0b, 22, none⟩)) rfl rfl (wl_val (v := .pointer (some ⟨p0_4b, 0, none⟩)) (val_load tt_ok rfl (mT (mR (mH))) rfl) rfl ?_)
  replace h := bsome h; obtain ⟨v35, x35, h⟩ := h
  refine wl_cq Tryd.call34 rfl rfl rfl (q_rd (k_queue_Queue_Known (p0 := zb) zm zn x35) (pH (pA pNil)) (fun _ _ => trivial)) rfl ?_
  refine wP rfl rfl (wP (v := .bool (decide (v17 < v35))) rfl rfl (wP rfl rfl ?_))
  replace h := bsome h; obtain ⟨v42, h, hg42⟩ := h
  refine wl_split (t := 38) rfl (fun hc => ?_) (fun hc => ?_)
  · replace h := ct hc h
    refine wl_run rfl (wP rfl rfl (wl_run rfl (wP rfl rfl (wl_run rfl (wP (v := .bool (v23 != p2)) rfl rfl ?_)))))
    obtain rfl := sI h
    have h := hg42; clear hg42
    refine wP (v := .bool (v23 != p2)) rfl rfl (wl_nil (wx_then ?_))
    replace h := bsome h; obtain ⟨⟨zh, za⟩, h, hj18⟩ := h; try dsimp only at hj18
    refine wc_join2 (fun E L => ∃ (zc : List (T_ring_place × G)) (zd : List Blk), za.1 = unG zc ∧ AllP sh_T_ring_place c_T_api_Shot zd zc ∧ E = [(6, .int .i64 (0 : Int)), (9, .int .i64 v30)] ∧ L = (⟨p0b, (.int .u8 p0.player :: .int .i64 p0.window :: .int .u64 p0.sure.Frame :: .int .u64 p0.sure.Seed :: pl14 p0.sure.Players [.slice p0a0 p0n0 p0c0, .int .u16 p0.sure.Score.1, .int .u16 p0.sure.Score.2, .slice p0a1 p0n1 p0c1, .pointer (some ⟨p0_4b, 0, none⟩), .pointer (some ⟨p0_5b, 0, none⟩)]), p0t, (0, 0)⟩ :: (⟨p0_4b, [.int .u64 zb.first_, .slice zj zl zk, .int .u8 zb.last], p0_4t, (0, 0)⟩ :: (⟨p0_5b, ([.int .i64 zh] ++ flat cg_T_ring_place zc), p0_5t, (0, 0)⟩ :: (p0B0 ++ (p0B1 ++ (zi ++ (zd ++ [])))))))) ?_ ?_
    · refine wc_cond rfl (fun hc => ?_) (fun hc => ?_)
      · replace h := ct hc h
        refine wc_region ?_
        iterate 2 refine wP rfl rfl ?_
        refine wP (v := .pointer (some ⟨p0b, 23, none⟩)) rfl rfl (wl_val (v := .pointer (some ⟨p0_5b, 0, none⟩)) (val_load tt_ok rfl (mT (mR (mH))) rfl) rfl (wP rfl rfl ?_))
        replace h := bsome h; obtain ⟨⟨zg, v48⟩, x48, h⟩ := h; try dsimp only at h
        refine wl_cs Tryd.call37 rfl rfl rfl (s_sp (k_ring_Ring_Cut (p0 := p0_5) p0_5G0 p0_5A0 x48) (pCons (sC (sA (sC (sA (sA hC))))) (pApp (sC (sA (sC (sA (sA hA'))))) pNil)) (fun _ _ => trivial)) rfl ?_
        rintro _ _ ⟨_, ⟨zr, zq, zp, zo, rfl, rfl⟩, rfl⟩
        refine wl_nil ?_
        simp only [Option.some.injEq, Prod.mk.injEq] at h
        obtain ⟨rfl, rfl⟩ := h
        exact wx_join ⟨zr, zq, zp, zo, rfl, rfl⟩ (agree_cons rfl (agree_cons rfl agree_nil)) (pSub (pCons (sC (sA (sC (sA hC)))) (pCons (sC (sA hC)) (pH (pApp (sA (sA hA')) (pApp (sA (sA hA')) (pApp (sA hA') (pA pNil))))))))
      replace h := cf hc h
      refine wc_skip ?_
      simp only [Option.some.injEq, Prod.mk.injEq] at h
      obtain ⟨rfl, rfl⟩ := h
      exact wx_join ⟨p0_5g0, p0_5P0, p0_5G0, p0_5A0, rfl, rfl⟩ (agree_cons rfl (agree_cons rfl agree_nil)) (pSub (pCons (sC (sA hC)) (pH (pCons (sA (sA (sA hC))) (pApp (sA hA') (pApp (sA hA') (pA (pA pNil))))))))
    rintro _ _ ⟨zc, zd, zf, ze, rfl, rfl⟩
    have h := hj18; clear hj18
    refine wc_seq (wc_region ?_)
    iterate 2 refine wP rfl rfl ?_
    refine wl_nil (wx_then (wc_ret ?_))
    simp only [Option.some.injEq, Prod.mk.injEq] at h
    obtain ⟨rfl, rfl, rfl⟩ := h
    exact wx_spD tt_ok (.inl rfl) Tryd.results12 (Res.tmp rfl Res.nil) ⟨zj, zl, zk, zi, zc, zd, zm, zn, zf, ze, rfl, rfl⟩ (fun F => by simp) (pSub (pH (pApp (sC (sC hA')) (pApp (sC (sC hA')) (pH (pApp (sC hA') (pH (pA pNil))))))))
  replace h := cf hc h
  refine wl_skip rfl rfl (wl_skip rfl rfl (wl_skip rfl rfl ?_))
  obtain rfl := sI h
  have h := hg42; clear hg42
  refine wP (v := .bool false) rfl rfl (wl_nil (wx_then ?_))
  replace h := bsome h; obtain ⟨⟨zh, za⟩, h, hj18⟩ := h; try dsimp only at hj18
  refine wc_join2 (fun E L => ∃ (zc : List (T_ring_place × G)) (zd : List Blk), za.1 = unG zc ∧ AllP sh_T_ring_place c_T_api_Shot zd zc ∧ E = [(6, .int .i64 (0 : Int)), (9, .int .i64 v30)] ∧ L = (⟨p0b, (.int .u8 p0.player :: .int .i64 p0.window :: .int .u64 p0.sure.Frame :: .int .u64 p0.sure.Seed :: pl14 p0.sure.Players [.slice p0a0 p0n0 p0c0, .int .u16 p0.sure.Score.1, .int .u16 p0.sure.Score.2, .slice p0a1 p0n1 p0c1, .pointer (some ⟨p0_4b, 0, none⟩), .pointer (some ⟨p0_5b, 0, none⟩)]), p0t, (0, 0)⟩ :: (⟨p0_4b, [.int .u64 zb.first_, .slice zj zl zk, .int .u8 zb.last], p0_4t, (0, 0)⟩ :: (⟨p0_5b, ([.int .i64 zh] ++ flat cg_T_ring_place zc), p0_5t, (0, 0)⟩ :: (p0B0 ++ (p0B1 ++ (zi ++ (zd ++ [])))))))) ?_ ?_
  · replace h := cf rfl h
    refine wc_cond_false rfl ?_
    refine wc_skip ?_
    simp only [Option.some.injEq, Prod.mk.injEq] at h
    obtain ⟨rfl, rfl⟩ := h
    exact wx_join ⟨p0_5g0, p0_5P0, p0_5G0, p0_5A0, rfl, rfl⟩ (agree_cons rfl (agree_cons rfl agree_nil)) (pSub (pCons (sC (sA hC)) (pH (pCons (sA (sA (sA hC))) (pApp (sA hA') (pApp (sA hA') (pA (pA pNil))))))))
  rintro _ _ ⟨zc, zd, zf, ze, rfl, rfl⟩
  have h := hj18; clear hj18
  refine wc_seq (wc_region ?_)
  iterate 2 refine wP rfl rfl ?_
  refine wl_nil (wx_then (wc_ret ?_))
  simp only [Option.some.injEq, Prod.mk.injEq] at h
  obtain ⟨rfl, rfl, rfl⟩ := h
  exact wx_spD tt_ok (.inl rfl) Tryd.results12 (Res.tmp rfl Res.nil) ⟨zj, zl, zk, zi, zc, zd, zm, zn, zf, ze, rfl, rfl⟩ (fun F => by simp) (pSub (pH (pApp (sC (sC hA')) (pApp (sC (sC hA')) (pH (pApp (sC hA') (pH (pA pNil))))))))

theorem k_rollback_Engine_Next {F : Nat} {p0 : T_rollback_Engine} {p0b p0t : Nat} {p0a0 : Option Addr} {p0n0 : Nat} {p0c0 : Nat} {p0B0 : List Blk} {p0a1 : Option Addr} {p0n1 : Nat} {p0c1 : Nat} {p0B1 : List Blk} {p0_4 : T_queue_Queue} {p0_4b p0_4t : Nat} {p0_4a0 : Option Addr} {p0_4n0 : Nat} {p0_4c0 : Nat} {p0_4B0 : List Blk} {p0_5 : T_ring_Ring} {p0_5b p0_5t : Nat} {p0_5g0 : List (T_ring_place × G)} {p0_5P0 : List Blk} {r0 : (Int × Int)} {r1 : Bool} (p0N0 : p0n0 = p0.sure.Shots.length) (p0V0 : Own 80 6 p0a0 p0n0 p0c0 (flat c_T_api_Shot p0.sure.Shots) p0B0) (p0N1 : p0n1 = p0.own.length) (p0V1 : Own 40 1 p0a1 p0n1 p0c1 (flat (e1 .u8) p0.own) p0B1) (p0_4N0 : p0_4n0 = p0_4.l.length) (p0_4V0 : Own 40 1 p0_4a0 p0_4n0 p0_4c0 (flat (e1 .u8) p0_4.l) p0_4B0) (p0_5G0 : p0_5.places.1 = unG p0_5g0) (p0_5A0 : AllP sh_T_ring_place c_T_api_Shot p0_5P0 p0_5g0) (h : m_rollback_Engine_Next F p0 p0_4 p0_5 = some (r0, r1)) :
    Rd2 Tryd.prog 20 [.pointer (some ⟨p0b, 0, none⟩)] (⟨p0b, (.int .u8 p0.player :: .int .i64 p0.window :: .int .u64 p0.sure.Frame :: .int .u64 p0.sure.Seed :: pl14 p0.sure.Players [.slice p0a0 p0n0 p0c0, .int .u16 p0.sure.Score.1, .int .u16 p0.sure.Score.2, .slice p0a1 p0n1 p0c1, .pointer (some ⟨p0_4b, 0, none⟩), .pointer (some ⟨p0_5b, 0, none⟩)]), p0t, (0, 0)⟩ :: (p0B0 ++ (p0B1 ++ (⟨p0_4b, [.int .u64 p0_4.first_, .slice p0_4a0 p0_4n0 p0_4c0, .int .u8 p0_4.last], p0_4t, (0, 0)⟩ :: (p0_4B0 ++ (⟨p0_5b, ([.int .i64 p0_5.size] ++ flat cg_T_ring_place p0_5g0), p0_5t, (0, 0)⟩ :: (p0_5P0 ++ []))))))) (fun w => True) (.tuple #[.agg #[.int .u8 r0.1, .int .u8 r0.2], .bool r1]) := by
  unfold m_rollback_Engine_Next at h
  refine sp_of_wc Tryd.func20 rfl Tryd.ntmps20 rfl rfl (fun w0 hR => ?_)
  refine wc_seq (wc_region (wl_alloc tt_ok rfl rfl (fun b2 => (wP rfl rfl (wl_nil (wx_then (wc_seq (wc_seq (wc_quiet (by kernel_rfl) (by kernel_rfl) (qP rfl rfl ?_))))))))))
  replace h := bsome h; obtain ⟨v5, x5, h⟩ := h
  refine wq_cq Tryd.call30 rfl rfl rfl (q_rd (k_rollback_Engine_is (p0 := p0) (p0_4 := p0_4) (p0_5 := p0_5) p0N0 p0V0 p0N1 p0V1 p0_4N0 p0_4V0 p0_5G0 p0_5A0 x5) (pCons (sC hC) (pApp (sC hA') (pApp (sC hA') (pCons (sC hC) (pApp (sC hA') (pCons (sC hC) (pApp (sC hA') pNil))))))) (fun _ _ => trivial)) rfl ?_
  refine qP (v := .bool (!v5)) rfl rfl (qP rfl rfl ?_)
  replace h := bsome h; obtain ⟨v14, h, hg14⟩ := h
  refine wq_split (t := 7) rfl (fun hc => ?_) (fun hc => ?_)
  · replace h := ct hc h
    refine wq_skip rfl rfl (wq_skip rfl rfl (wq_skip rfl rfl (wq_skip rfl rfl (wq_skip rfl rfl (wq_skip rfl rfl ?_)))))
    obtain rfl := sI h
    have h := hg14; clear hg14
    refine qP (v := .bool true) rfl rfl (qP rfl rfl ?_)
    replace h := bsome h; obtain ⟨v27, h, hg27⟩ := h
    replace h := ct rfl h
    refine wq_skip rfl rfl (wq_skip rfl rfl (wq_skip rfl rfl (wq_skip rfl rfl (wq_skip rfl rfl (wq_skip rfl rfl (wq_skip rfl rfl (wq_skip rfl rfl (wq_skip rfl rfl (wq_skip rfl rfl (wq_skip rfl rfl ?_))))))))))
    obtain rfl := sI h
    have h := hg27; clear hg27
    refine qP (v := .bool true) rfl rfl (wq_nil (wx_then ?_))
    replace h := ct rfl h
    refine wc_cond_true rfl ?_
    refine wc_seq (wc_region (wP (v := .agg #[.int .u8 (0 : Int), .int .u8 (0 : Int)]) rfl rfl ?_))
    apply wl_store tt_ok; rfl; exact Upd.here; rfl; rfl; rfl; rfl; rfl; rfl
    refine wP rfl rfl (wl_nil (wx_then (wc_ret (wx_then_ret ?_))))
    simp only [Option.some.injEq, Prod.mk.injEq] at h
    obtain ⟨rfl, rfl⟩ := h
    exact wx_rd tt_ok (.inl rfl) Tryd.results20 (Res.cell rfl (mH) rfl (Res.tmp rfl Res.nil)) (pSub (pCons (sC hC) (pApp (sC hA') (pApp (sC hA') (pCons (sC hC) (pApp (sC hA') (pCons (sC hC) (pApp (sC hA') pNil)))))))) rfl
  replace h := cf hc h
  refine wq_run rfl (qP rfl rfl (wq_run rfl (qP rfl rfl (wq_run rfl (qP (v := .pointer (some ⟨p0b, 21, none⟩)) rfl rfl (wq_run rfl (wq_val (v := .slice p0a1 p0n1 p0c1) (val_load tt_ok rfl (mT (mH)) rfl) rfl (wq_run rfl (wq_val (v := .int .i64 (p0.own.length : Int)) (val_len tt_ok rfl rfl p0N1) rfl (wq_run rfl (qP (v := .bool ((p0.own.length : Int) == (0 : Int))) rfl rfl ?_)))))))))))
  obtain rfl := sI h
  have h := hg14; clear hg14
  refine qP (v := .bool ((p0.own.length : Int) == (0 : Int))) rfl rfl (qP rfl rfl ?_)
  replace h := bsome h; obtain ⟨v27, h, hg27⟩ := h
  refine wq_split (t := 15) rfl (fun hc => ?_) (fun hc => ?_)
  · replace h := ct hc h
    refine wq_skip rfl rfl (wq_skip rfl rfl (wq_skip rfl rfl (wq_skip rfl rfl (wq_skip rfl rfl (wq_skip rfl rfl (wq_skip rfl rfl (wq_skip rfl rfl (wq_skip rfl rfl (wq_skip rfl rfl (wq_skip rfl rfl ?_))))))))))
    obtain rfl := sI h
    have h := hg27; clear hg27
    refine qP (v := .bool true) rfl rfl (wq_nil (wx_then ?_))
    replace h := ct rfl h
    refine wc_cond_true rfl ?_
    refine wc_seq (wc_region (wP (v := .agg #[.int .u8 (0 : Int), .int .u8 (0 : Int)]) rfl rfl ?_))
    apply wl_store tt_ok; rfl; exact Upd.here; rfl; rfl; rfl; rfl; rfl; rfl
    refine wP rfl rfl (wl_nil (wx_then (wc_ret (wx_then_ret ?_))))
    simp only [Option.some.injEq, Prod.mk.injEq] at h
    obtain ⟨rfl, rfl⟩ := h
    exact wx_rd tt_ok (.inl rfl) Tryd.results20 (Res.cell rfl (mH) rfl (Res.tmp rfl Res.nil)) (pSub (pCons (sC hC) (pApp (sC hA') (pApp (sC hA') (pCons (sC hC) (pApp (sC hA') (pCons (sC hC) (pApp (sC hA') pNil)))))))) rfl
  replace h := cf hc h
  refine wq_run rfl (qP rfl rfl (wq_run rfl (qP rfl rfl (wq_run rfl (qP (v := .pointer (some ⟨p0b, 22, none⟩)) rfl rfl (wq_run rfl (wq_val (v := .pointer (some ⟨p0_4b, 0, none⟩)) (val_load tt_ok rfl (mT (mH)) rfl) rfl ?_)))))))
  replace h := bsome h; obtain ⟨v20, x20, h⟩ := h
  refine wq_run rfl (wq_cq Tryd.call34 rfl rfl rfl (q_rd (k_queue_Queue_Known (p0 := p0_4) p0_4N0 p0_4V0 x20) (pCons (sC (sC (sA (sA hC)))) (pApp (sC (sC (sA (sA hA')))) pNil)) (fun _ _ => trivial)) rfl (wq_run rfl (qP rfl rfl (wq_run rfl (qP rfl rfl (wq_run rfl (qP (v := .pointer (some ⟨p0b, 2, none⟩)) rfl rfl (wq_run rfl (qP (v := .pointer (some ⟨p0b, 2, none⟩)) rfl rfl (wq_run rfl (wq_val (v := .int .u64 p0.sure.Frame) (val_load tt_ok rfl (mT (mH)) rfl) rfl (wq_run rfl (qP (v := .bool (decide (v20 ≤ p0.sure.Frame))) rfl rfl ?_)))))))))))))
  obtain rfl := sI h
  have h := hg27; clear hg27
  refine qP (v := .bool (decide (v20 ≤ p0.sure.Frame))) rfl rfl (wq_nil (wx_then (wc_cond rfl (fun hc => ?_) (fun hc => ?_))))
  · replace h := ct hc h
    refine wc_seq (wc_region (wP (v := .agg #[.int .u8 (0 : Int), .int .u8 (0 : Int)]) rfl rfl ?_))
    apply wl_store tt_ok; rfl; exact Upd.here; rfl; rfl; rfl; rfl; rfl; rfl
    refine wP rfl rfl (wl_nil (wx_then (wc_ret (wx_then_ret ?_))))
    simp only [Option.some.injEq, Prod.mk.injEq] at h
    obtain ⟨rfl, rfl⟩ := h
    exact wx_rd tt_ok (.inl rfl) Tryd.results20 (Res.cell rfl (mH) rfl (Res.tmp rfl Res.nil)) (pSub (pCons (sC hC) (pApp (sC hA') (pApp (sC hA') (pCons (sC hC) (pApp (sC hA') (pCons (sC hC) (pApp (sC hA') pNil)))))))) rfl
  replace h := cf hc h
  refine wc_skip (wx_then (wc_seq (wc_region ?_)))
  iterate 3 refine wP rfl rfl ?_
  refine wP (v := .pointer (some ⟨p0b, 2, none⟩)) rfl rfl (wP (v := .pointer (some ⟨p0b, 2, none⟩)) rfl rfl (wl_val (v := .int .u64 p0.sure.Frame) (val_load tt_ok rfl (mT (mH)) rfl) rfl ?_))
  replace h := bsome h; obtain ⟨v35, x35, h⟩ := h
  refine wl_cq Tryd.call42 rfl rfl rfl (q_rd (k_rollback_Engine_pair (p0 := p0) (p0_4 := p0_4) (p0_5 := p0_5) p0N0 p0V0 p0N1 p0V1 p0_4N0 p0_4V0 p0_5G0 p0_5A0 x35) (pCons (sC hC) (pApp (sC hA') (pApp (sC hA') (pCons (sC hC) (pApp (sC hA') (pCons (sC hC) (pApp (sC hA') pNil))))))) (fun _ _ => trivial)) rfl ?_
  apply wl_store tt_ok; rfl; exact Upd.here; rfl; rfl; rfl; rfl; rfl; rfl
  refine wP rfl rfl (wl_nil (wx_then (wc_ret ?_)))
  simp only [Option.some.injEq, Prod.mk.injEq] at h
  obtain ⟨rfl, rfl⟩ := h
  exact wx_rd tt_ok (.inl rfl) Tryd.results20 (Res.cell rfl (mH) rfl (Res.tmp rfl Res.nil)) (pSub (pCons (sC hC) (pApp (sC hA') (pApp (sC hA') (pCons (sC hC) (pApp (sC hA') (pCons (sC hC) (pApp (sC hA') pNil)))))))) rfl

theorem k_queue_Queue_Drop {F : Nat} {p0 : T_queue_Queue} {p0b p0t : Nat} {p0a0 : Option Addr} {p0n0 : Nat} {p0c0 : Nat} {p0B0 : List Blk} {p1 : Int} {r0 : T_queue_Queue} (p0N0 : p0n0 = p0.l.length) (p0V0 : Own 40 1 p0a0 p0n0 p0c0 (flat (e1 .u8) p0.l) p0B0) (h : m_queue_Queue_Drop F p0 p1 = some r0) :
    SpD Tryd.prog 40 [.pointer (some ⟨p0b, 0, none⟩), .int .u64 p1] (⟨p0b, [.int .u64 p0.first_, .slice p0a0 p0n0 p0c0, .int .u8 p0.last], p0t, (0, 0)⟩ :: (p0B0 ++ [])) (fun w => True) (fun v D => ∃ (r0a0 : Option Addr) (r0n0 : Nat) (r0c0 : Nat) (r0B0 : List Blk), r0n0 = r0.l.length ∧ Own 40 1 r0a0 r0n0 r0c0 (flat (e1 .u8) r0.l) r0B0 ∧ v = .tuple #[] ∧ D = fun F => (⟨p0b, [.int .u64 r0.first_, .slice r0a0 r0n0 r0c0, .int .u8 r0.last], p0t, (0, 0)⟩ :: (r0B0 ++ F))) := by
  unfold m_queue_Queue_Drop at h
  refine sp_of_wc Tryd.func40 rfl Tryd.ntmps40 rfl rfl (fun w0 hR => ?_)
  refine wc_seq (wc_seq (wc_region (wP rfl rfl (wP (v := .bool false) rfl rfl (wP rfl rfl (wl_run rfl (wP rfl rfl (wl_run rfl (wP rfl rfl (wl_run rfl (wP rfl rfl (wl_run rfl (wP (v := .pointer (some ⟨p0b, 0, none⟩)) rfl rfl (wl_run rfl (wl_val (v := .int .u64 p0.first_) (val_load tt_ok rfl (mH) rfl) rfl (wl_run rfl (wP (v := .bool (decide (p1 ≤ p0.first_))) rfl rfl (wP (v := .bool (decide (p1 ≤ p0.first_))) rfl rfl (wl_nil (wx_then (wc_cond rfl (fun hc => ?_) (fun hc => ?_))))))))))))))))))))))
  · replace h := ct hc h
    refine wc_ret (wx_then_ret ?_)
    obtain rfl := sI h
    exact wx_spD tt_ok (.inl rfl) Tryd.results40 Res.nil ⟨p0a0, p0n0, p0c0, p0B0, p0N0, p0V0, rfl, rfl⟩ (fun F => by simp) (pSub (pH (pA pNil)))
  replace h := cf hc h
  refine wc_skip (wx_then (wc_seq (wc_region ?_)))
  iterate 2 refine wP rfl rfl ?_
  replace h := bsome h; obtain ⟨v17, x17, h⟩ := h
  refine wl_cq Tryd.call34 rfl rfl rfl (q_rd (k_queue_Queue_Known (p0 := p0) p0N0 p0V0 x17) (pH (pA pNil)) (fun _ _ => trivial)) rfl ?_
  refine wP (v := .int .u64 (min p1 v17)) rfl rfl (wP rfl rfl (wl_nil (wx_then (wc_seq (wc_k2 (Ls := (⟨p0b, [.int .u64 p0.first_, .slice p0a0 p0n0 p0c0, .int .u8 p0.last], p0t, (0, 0)⟩ :: (p0B0 ++ []))) [15, 16] [15, 16] [0, 1, 3, 7, 0, 16, 48, 112, 0, 0, 512, 1536, 3584, 7936, 16368, 32767, 65535] [0, 1, 2, 3, 4, 5, 6, 7, 8, 9, 10, 11, 12, 13, 14, 15, 16] (by kernel_rfl) (by kernel_rfl) (by kernel_rfl) (k_val rfl rfl rfl (pSub (pH (pA pNil))) (stepV_ok tt_ok rfl) rfl (k_val rfl rfl rfl (pSub (pH (pA pNil))) (stepV_ok tt_ok rfl) rfl (k_val (v := .pointer (some ⟨p0b, 1, none⟩)) rfl rfl rfl (pSub (pH (pA pNil))) (stepV_ok tt_ok rfl) rfl ?_))))))))
  refine k_val (v := .slice p0a0 p0n0 p0c0) rfl rfl rfl (pSub (pH (pA pNil))) (val_load tt_ok rfl (mH) rfl) rfl ?_
  refine k_val rfl rfl rfl (pSub (pH (pA pNil))) (stepV_ok tt_ok rfl) rfl ?_
  refine k_val rfl rfl rfl (pSub (pH (pA pNil))) (stepV_ok tt_ok rfl) rfl ?_
  refine k_val (v := .pointer (some ⟨p0b, 1, none⟩)) rfl rfl rfl (pSub (pH (pA pNil))) (stepV_ok tt_ok rfl) rfl ?_
  refine k_val (v := .slice p0a0 p0n0 p0c0) rfl rfl rfl (pSub (pH (pA pNil))) (val_load tt_ok rfl (mH) rfl) rfl ?_
  refine k_val rfl rfl rfl (pSub (pH (pA pNil))) (stepV_ok tt_ok rfl) rfl ?_
  refine k_val rfl rfl rfl (pSub (pH (pA pNil))) (stepV_ok tt_ok rfl) rfl ?_
  refine k_val rfl rfl rfl (pSub (pH (pA pNil))) (stepV_ok tt_ok rfl) rfl ?_
  refine k_val (v := .pointer (some ⟨p0b, 0, none⟩)) rfl rfl rfl (pSub (pH (pA pNil))) (stepV_ok tt_ok rfl) rfl ?_
  refine k_val (v := .int .u64 p0.first_) rfl rfl rfl (pSub (pH (pA pNil))) (val_load tt_ok rfl (mH) rfl) rfl ?_
  refine k_val (v := .int .u64 (IntKind.wrap .u64 ((min p1 v17) - p0.first_))) rfl rfl rfl (pSub (pH (pA pNil))) (stepV_ok tt_ok rfl) rfl ?_
  replace h := bsome h; obtain ⟨v33, x33, h⟩ := h
  refine k_cut (enc := (e1 .u8)) rfl rfl rfl (pSub (pH (pA pNil))) tt_ok rfl rfl rfl p0N0 (vec_some p0V0) (e1_len _) (vec_cap p0V0) (.inr ⟨_, _, rfl, rfl⟩) (.inl ⟨rfl, by rw [p0N0]⟩) (.inl ⟨rfl, rfl⟩) (by intro h; first | rfl | cases h) (cut2 x33 p0N0 (vec_cap p0V0)) x33 rfl ?_
  intro a33 n33_ c33 N33 H33 I33 O33 Z33
  refine k_chg rfl rfl rfl (chg_copy (enc := (e1 .u8)) (ys := v33) tt_ok rfl rfl rfl rfl p0N0 N33 p0V0 (sC hA') (Rds.of_vec (O33 _ rfl p0V0)) ⟨_, (sC hA')⟩ (e1_len _) (fun _ => rfl)) rfl (.inl rfl) ?_
  rintro _ _ ⟨Bk10_15, rfl, Nk10_15, Vk10_15, rfl⟩
  refine k_chg rfl rfl rfl (Chg.of_val (stepV_ok tt_ok rfl)) rfl (.inl rfl) ?_
  rintro _ _ ⟨rfl, rfl⟩
  refine k_end (by kernel_rfl) ?_
  refine wx_then (wc_region ?_)
  iterate 4 refine wP rfl rfl ?_
  refine wP (v := .pointer (some ⟨p0b, 1, none⟩)) rfl rfl (wl_val (v := .slice p0a0 p0n0 p0c0) (val_load tt_ok rfl (mR (mH)) rfl) rfl (wP rfl rfl ?_))
  replace h := bsome h; obtain ⟨v42, x42, h⟩ := h
  refine wl_cut (enc := (e1 .u8)) tt_ok rfl rfl rfl Nk10_15 (vec_some Vk10_15) (e1_len _) (vec_cap Vk10_15) (.inl ⟨rfl, rfl⟩) (.inr ⟨_, _, rfl, rfl⟩) (.inl ⟨rfl, rfl⟩) (by intro h; first | rfl | cases h) (cut2 x42 Nk10_15 (vec_cap Vk10_15)) x42 rfl ?_
  intro a42 n42_ c42 N42 H42 I42 O42 Z42
  iterate 2 refine wP rfl rfl ?_
  refine wP (v := .pointer (some ⟨p0b, 1, none⟩)) rfl rfl ?_
  apply wl_store tt_ok; rfl; exact (Upd.right Upd.here); rfl; rfl; rfl; rfl; rfl; rfl
  refine wP rfl rfl (wP (v := .pointer (some ⟨p0b, 0, none⟩)) rfl rfl ?_)
  apply wl_store tt_ok; rfl; exact (Upd.right Upd.here); rfl; rfl; rfl; rfl; rfl; rfl
  refine wl_nil ?_
  obtain rfl := sI h
  exact wx_spD tt_ok (.inr rfl) Tryd.results40 Res.nil ⟨a42, n42_, c42, Bk10_15, N42, (O42 _ rfl Vk10_15), rfl, rfl⟩ (fun F => by simp) (pSub (pCons (sA hC) (pA pNil)))

theorem k_rollback_Engine_Confirm {F : Nat} {p0 : T_rollback_Engine} {p0b p0t : Nat} {p0a0 : Option Addr} {p0n0 : Nat} {p0c0 : Nat} {p0B0 : List Blk} {p0a1 : Option Addr} {p0n1 : Nat} {p0c1 : Nat} {p0B1 : List Blk} {p0_4 : T_queue_Queue} {p0_4b p0_4t : Nat} {p0_4a0 : Option Addr} {p0_4n0 : Nat} {p0_4c0 : Nat} {p0_4B0 : List Blk} {p0_5 : T_ring_Ring} {p0_5b p0_5t : Nat} {p0_5g0 : List (T_ring_place × G)} {p0_5P0 : List Blk} {p1 : Int} {r0 : T_rollback_Engine} {r1 : T_queue_Queue} {r2 : T_ring_Ring} {r3 : (Int × Int)} {r4 : Bool} (p0N0 : p0n0 = p0.sure.Shots.length) (p0V0 : Own 80 6 p0a0 p0n0 p0c0 (flat c_T_api_Shot p0.sure.Shots) p0B0) (p0N1 : p0n1 = p0.own.length) (p0V1 : Own 40 1 p0a1 p0n1 p0c1 (flat (e1 .u8) p0.own) p0B1) (p0_4N0 : p0_4n0 = p0_4.l.length) (p0_4V0 : Own 40 1 p0_4a0 p0_4n0 p0_4c0 (flat (e1 .u8) p0_4.l) p0_4B0) (p0_5G0 : p0_5.places.1 = unG p0_5g0) (p0_5A0 : AllP sh_T_ring_place c_T_api_Shot p0_5P0 p0_5g0) (h : m_rollback_Engine_Confirm F p0 p0_4 p0_5 p1 = some (r0, r1, r2, r3, r4)) :
    SpD Tryd.prog 13 [.pointer (some ⟨p0b, 0, none⟩), .int .u64 p1] (⟨p0b, (.int .u8 p0.player :: .int .i64 p0.window :: .int .u64 p0.sure.Frame :: .int .u64 p0.sure.Seed :: pl14 p0.sure.Players [.slice p0a0 p0n0 p0c0, .int .u16 p0.sure.Score.1, .int .u16 p0.sure.Score.2, .slice p0a1 p0n1 p0c1, .pointer (some ⟨p0_4b, 0, none⟩), .pointer (some ⟨p0_5b, 0, none⟩)]), p0t, (0, 0)⟩ :: (p0B0 ++ (p0B1 ++ (⟨p0_4b, [.int .u64 p0_4.first_, .slice p0_4a0 p0_4n0 p0_4c0, .int .u8 p0_4.last], p0_4t, (0, 0)⟩ :: (p0_4B0 ++ (⟨p0_5b, ([.int .i64 p0_5.size] ++ flat cg_T_ring_place p0_5g0), p0_5t, (0, 0)⟩ :: (p0_5P0 ++ []))))))) (fun w => Rds w (ids (⟨p0b, (.int .u8 p0.player :: .int .i64 p0.window :: .int .u64 p0.sure.Frame :: .int .u64 p0.sure.Seed :: pl14 p0.sure.Players [.slice p0a0 p0n0 p0c0, .int .u16 p0.sure.Score.1, .int .u16 p0.sure.Score.2, .slice p0a1 p0n1 p0c1, .pointer (some ⟨p0_4b, 0, none⟩), .pointer (some ⟨p0_5b, 0, none⟩)]), p0t, (0, 0)⟩ :: (p0B0 ++ (p0B1 ++ (⟨p0_4b, [.int .u64 p0_4.first_, .slice p0_4a0 p0_4n0 p0_4c0, .int .u8 p0_4.last], p0_4t, (0, 0)⟩ :: (p0_4B0 ++ (⟨p0_5b, ([.int .i64 p0_5.size] ++ flat cg_T_ring_place p0_5g0), p0_5t, (0, 0)⟩ :: (p0_5P0 ++ [])))))))) [] (some ⟨0, 0, none⟩) (flat (fun _ : Unit => gl_state_playerBounds) [()]) ∧ Rds w (ids (⟨p0b, (.int .u8 p0.player :: .int .i64 p0.window :: .int .u64 p0.sure.Frame :: .int .u64 p0.sure.Seed :: pl14 p0.sure.Players [.slice p0a0 p0n0 p0c0, .int .u16 p0.sure.Score.1, .int .u16 p0.sure.Score.2, .slice p0a1 p0n1 p0c1, .pointer (some ⟨p0_4b, 0, none⟩), .pointer (some ⟨p0_5b, 0, none⟩)]), p0t, (0, 0)⟩ :: (p0B0 ++ (p0B1 ++ (⟨p0_4b, [.int .u64 p0_4.first_, .slice p0_4a0 p0_4n0 p0_4c0, .int .u8 p0_4.last], p0_4t, (0, 0)⟩ :: (p0_4B0 ++ (⟨p0_5b, ([.int .i64 p0_5.size] ++ flat cg_T_ring_place p0_5g0), p0_5t, (0, 0)⟩ :: (p0_5P0 ++ [])))))))) [] (some ⟨1, 0, none⟩) (flat (fun _ : Unit => gl_state_shotBounds) [()])) (fun v D => ∃ (r0a0 : Option Addr) (r0n0 : Nat) (r0c0 : Nat) (r0B0 : List Blk) (r0a1 : Option Addr) (r0n1 : Nat) (r0c1 : Nat) (r0B1 : List Blk) (r1a0 : Option Addr) (r1n0 : Nat) (r1c0 : Nat) (r1B0 : List Blk) (r2g0 : List (T_ring_place × G)) (r2P0 : List Blk), r0n0 = r0.sure.Shots.length ∧ Own 80 6 r0a0 r0n0 r0c0 (flat c_T_api_Shot r0.sure.Shots) r0B0 ∧ r0n1 = r0.own.length ∧ Own 40 1 r0a1 r0n1 r0c1 (flat (e1 .u8) r0.own) r0B1 ∧ r1n0 = r1.l.length ∧ Own 40 1 r1a0 r1n0 r1c0 (flat (e1 .u8) r1.l) r1B0 ∧ r2.places.1 = unG r2g0 ∧ AllP sh_T_ring_place c_T_api_Shot r2P0 r2g0 ∧ v = .tuple #[.agg #[.int .u8 r3.1, .int .u8 r3.2], .bool r4] ∧ D = fun F => (⟨p0b, (.int .u8 r0.player :: .int .i64 r0.window :: .int .u64 r0.sure.Frame :: .int .u64 r0.sure.Seed :: pl14 r0.sure.Players [.slice r0a0 r0n0 r0c0, .int .u16 r0.sure.Score.1, .int .u16 r0.sure.Score.2, .slice r0a1 r0n1 r0c1, .pointer (some ⟨p0_4b, 0, none⟩), .pointer (some ⟨p0_5b, 0, none⟩)]), p0t, (0, 0)⟩ :: (r0B0 ++ (r0B1 ++ (⟨p0_4b, [.int .u64 r1.first_, .slice r1a0 r1n0 r1c0, .int .u8 r1.last], p0_4t, (0, 0)⟩ :: (r1B0 ++ (⟨p0_5b, ([.int .i64 r2.size] ++ flat cg_T_ring_place r2g0), p0_5t, (0, 0)⟩ :: (r2P0 ++ F)))))))) := by
  unfold m_rollback_Engine_Confirm at h
  refine sp_of_wc Tryd.func13 rfl Tryd.ntmps13 rfl rfl (fun w0 hR => ?_)
  obtain ⟨G0S, G1S⟩ := hR
  refine wc_seq (wc_region (wl_alloc tt_ok rfl rfl (fun b4 => (wP rfl rfl (wl_nil (wx_then (wc_seq (wc_region (wP rfl rfl ?_)))))))))
  replace h := bsome h; obtain ⟨⟨zb, zn⟩, x10, h⟩ := h; try dsimp only at h
  refine wl_cq Tryd.call20 rfl rfl rfl (q_rd (k_rollback_Engine_Next (p0 := p0) (p0_4 := p0_4) (p0_5 := p0_5) p0N0 p0V0 p0N1 p0V1 p0_4N0 p0_4V0 p0_5G0 p0_5A0 x10) (pCons (sC hC) (pApp (sC hA') (pApp (sC hA') (pCons (sC hC) (pApp (sC hA') (pCons (sC hC) (pApp (sC hA') pNil))))))) (fun _ _ => trivial)) rfl ?_
  iterate 3 refine wP rfl rfl ?_
  refine wl_alloc tt_ok rfl rfl (fun b6 => ?_)
  apply wl_store tt_ok; rfl; exact Upd.here; rfl; rfl; rfl; rfl; rfl; rfl
  refine wP rfl rfl (wl_nil (wx_then (wc_seq (wc_seq (wc_region (wP rfl rfl (wP (v := .bool (!zn)) rfl rfl (wP rfl rfl ?_))))))))
  replace h := bsome h; obtain ⟨v23, h, hg23⟩ := h
  refine wl_split (t := 15) rfl (fun hc => ?_) (fun hc => ?_)
  · replace h := ct hc h
    refine wl_skip rfl rfl (wl_skip rfl rfl (wl_skip rfl rfl (wl_skip rfl rfl (wl_skip rfl rfl (wl_skip rfl rfl (wl_skip rfl rfl ?_))))))
    obtain rfl := sI h
    have h := hg23; clear hg23
    refine wP (v := .bool true) rfl rfl (wl_nil (wx_then ?_))
    replace h := ct rfl h
    refine wc_cond_true rfl ?_
    refine wc_seq (wc_region (wP (v := .agg #[.int .u8 (0 : Int), .int .u8 (0 : Int)]) rfl rfl ?_))
    apply wl_store tt_ok; rfl; exact (Upd.there Upd.here); rfl; rfl; rfl; rfl; rfl; rfl
    refine wP rfl rfl (wl_nil (wx_then (wc_ret (wx_then_ret ?_))))
    simp only [Option.some.injEq, Prod.mk.injEq] at h
    obtain ⟨rfl, rfl, rfl, rfl, rfl⟩ := h
    exact wx_spD tt_ok (.inl rfl) Tryd.results13 (Res.cell rfl (mT (mH)) rfl (Res.tmp rfl Res.nil)) ⟨p0a0, p0n0, p0c0, p0B0, p0a1, p0n1, p0c1, p0B1, p0_4a0, p0_4n0, p0_4c0, p0_4B0, p0_5g0, p0_5P0, p0N0, p0V0, p0N1, p0V1, p0_4N0, p0_4V0, p0_5G0, p0_5A0, rfl, rfl⟩ (fun F => by simp) (pSub (pCons (sC (sC hC)) (pApp (sC (sC hA')) (pApp (sC (sC hA')) (pCons (sC (sC hC)) (pApp (sC (sC hA')) (pCons (sC (sC hC)) (pApp (sC (sC hA')) pNil))))))))
  replace h := cf hc h
  refine wl_run rfl (wP rfl rfl (wl_run rfl (wP rfl rfl (wl_run rfl (wP (v := .pointer (some ⟨p0b, 2, none⟩)) rfl rfl (wl_run rfl (wP (v := .pointer (some ⟨p0b, 2, none⟩)) rfl rfl (wl_run rfl (wl_val (v := .int .u64 p0.sure.Frame) (val_load tt_ok rfl (mT (mT (mH))) rfl) rfl (wl_run rfl (wP rfl rfl (wl_run rfl (wP (v := .bool (decide (p1 ≤ p0.sure.Frame))) rfl rfl ?_)))))))))))))
  obtain rfl := sI h
  have h := hg23; clear hg23
  refine wP (v := .bool (decide (p1 ≤ p0.sure.Frame))) rfl rfl (wl_nil (wx_then (wc_cond rfl (fun hc => ?_) (fun hc => ?_))))
  · replace h := ct hc h
    refine wc_seq (wc_region (wP (v := .agg #[.int .u8 (0 : Int), .int .u8 (0 : Int)]) rfl rfl ?_))
    apply wl_store tt_ok; rfl; exact (Upd.there Upd.here); rfl; rfl; rfl; rfl; rfl; rfl
    refine wP rfl rfl (wl_nil (wx_then (wc_ret (wx_then_ret ?_))))
    simp only [Option.some.injEq, Prod.mk.injEq] at h
    obtain ⟨rfl, rfl, rfl, rfl, rfl⟩ := h
    exact wx_spD tt_ok (.inl rfl) Tryd.results13 (Res.cell rfl (mT (mH)) rfl (Res.tmp rfl Res.nil)) ⟨p0a0, p0n0, p0c0, p0B0, p0a1, p0n1, p0c1, p0B1, p0_4a0, p0_4n0, p0_4c0, p0_4B0, p0_5g0, p0_5P0, p0N0, p0V0, p0N1, p0V1, p0_4N0, p0_4V0, p0_5G0, p0_5A0, rfl, rfl⟩ (fun F => by simp) (pSub (pCons (sC (sC hC)) (pApp (sC (sC hA')) (pApp (sC (sC hA')) (pCons (sC (sC hC)) (pApp (sC (sC hA')) (pCons (sC (sC hC)) (pApp (sC (sC hA')) pNil))))))))
  replace h := cf hc h
  refine wc_skip (wx_then (wc_seq (wc_k2 (Ls := (⟨b6, [.int .u8 zb.1, .int .u8 zb.2], 45, (0, 0)⟩ :: (⟨b4, [.int .u8 (0 : Int), .int .u8 (0 : Int)], 45, (0, 0)⟩ :: (⟨p0b, (.int .u8 p0.player :: .int .i64 p0.window :: .int .u64 p0.sure.Frame :: .int .u64 p0.sure.Seed :: pl14 p0.sure.Players [.slice p0a0 p0n0 p0c0, .int .u16 p0.sure.Score.1, .int .u16 p0.sure.Score.2, .slice p0a1 p0n1 p0c1, .pointer (some ⟨p0_4b, 0, none⟩), .pointer (some ⟨p0_5b, 0, none⟩)]), p0t, (0, 0)⟩ :: (p0B0 ++ (p0B1 ++ (⟨p0_4b, [.int .u64 p0_4.first_, .slice p0_4a0 p0_4n0 p0_4c0, .int .u8 p0_4.last], p0_4t, (0, 0)⟩ :: (p0_4B0 ++ (⟨p0_5b, ([.int .i64 p0_5.size] ++ flat cg_T_ring_place p0_5g0), p0_5t, (0, 0)⟩ :: (p0_5P0 ++ [])))))))))) [6, 7, 8, 9] [7, 8, 9] [0, 0, 2, 6, 14, 0, 62, 127, 255, 511] [0, 1, 2, 3, 4, 5, 6, 7, 8, 9] (by kernel_rfl) (by kernel_rfl) (by kernel_rfl) ?_)))
  refine k_val rfl rfl rfl (pSub (pH (pH (pH (pA (pA (pH (pA (pH (pA pNil)))))))))) (stepV_ok tt_ok rfl) rfl ?_
  refine k_val rfl rfl rfl (pSub (pH (pH (pH (pA (pA (pH (pA (pH (pA pNil)))))))))) (stepV_ok tt_ok rfl) rfl ?_
  refine k_val rfl rfl rfl (pSub (pH (pH (pH (pA (pA (pH (pA (pH (pA pNil)))))))))) (stepV_ok tt_ok rfl) rfl ?_
  refine k_val (v := .pointer (some ⟨p0b, 2, none⟩)) rfl rfl rfl (pSub (pH (pH (pH (pA (pA (pH (pA (pH (pA pNil)))))))))) (stepV_ok tt_ok rfl) rfl ?_
  refine k_val (v := .agg #[.int .u64 p0.sure.Frame, .int .u64 p0.sure.Seed, .int .i32 p0.sure.Players.1.X, .int .i32 p0.sure.Players.1.Y, .int .i32 p0.sure.Players.1.VX, .int .i32 p0.sure.Players.1.VY, .int .u8 p0.sure.Players.1.Health, .int .u8 p0.sure.Players.1.Cool, .int .u8 p0.sure.Players.1.Face, .int .i32 p0.sure.Players.2.X, .int .i32 p0.sure.Players.2.Y, .int .i32 p0.sure.Players.2.VX, .int .i32 p0.sure.Players.2.VY, .int .u8 p0.sure.Players.2.Health, .int .u8 p0.sure.Players.2.Cool, .int .u8 p0.sure.Players.2.Face, .slice p0a0 p0n0 p0c0, .int .u16 p0.sure.Score.1, .int .u16 p0.sure.Score.2]) rfl rfl rfl (pSub (pH (pH (pH (pA (pA (pH (pA (pH (pA pNil)))))))))) (val_load tt_ok rfl (mT (mT (mH))) rfl) rfl ?_
  refine k_val (v := .agg #[.int .u8 zb.1, .int .u8 zb.2]) rfl rfl rfl (pSub (pH (pH (pH (pA (pA (pH (pA (pH (pA pNil)))))))))) (val_load tt_ok rfl (mH) rfl) rfl ?_
  replace h := bsome h; obtain ⟨v31, x31, h⟩ := h
  refine k_cs rfl rfl rfl Tryd.call38 rfl rfl rfl (s_sp (k_step_Step (p0 := p0.sure) p0N0 (vec_cap p0V0) x31) pNil (fun w hI => ⟨(Rds.call (Rds.of_vec p0V0) pNil ⟨_, (sC (sC (sC hA')))⟩) w hI, (Rds.call G0S pNil rsub_nil) w hI, (Rds.call G1S pNil rsub_nil) w hI⟩)) rfl (.inr (by rintro _ _ ⟨_, ⟨_, _, _, _, _, _, rfl, rfl⟩, rfl⟩; exact ⟨_, (pCons (sA hC) (pCons (sA hC) (pCons (sA hC) (pApp (sA hA') (pApp (sA hA') (pCons (sA hC) (pApp (sA hA') (pCons (sA hC) (pApp (sA hA') pNil)))))))))⟩)) ?_
  rintro _ _ ⟨_, ⟨v31a0, v31n0, v31c0, v31B0, v31N0, v31V0, rfl, rfl⟩, rfl⟩
  refine k_chg rfl rfl rfl (Chg.of_val (stepV_ok tt_ok rfl)) rfl (.inl rfl) ?_
  rintro _ _ ⟨rfl, rfl⟩
  refine k_chg rfl rfl rfl (Chg.of_val (v := .pointer (some ⟨p0b, 2, none⟩)) (stepV_ok tt_ok rfl)) rfl (.inl rfl) ?_
  rintro _ _ ⟨rfl, rfl⟩
  refine k_chg0 rfl rfl rfl (chg_store tt_ok rfl (Upd.right (Upd.there (Upd.there Upd.here))) rfl rfl rfl rfl rfl rfl) (.inl rfl) ?_
  rintro _ _ rfl
  refine k_end (by kernel_rfl) ?_
  refine wx_then (wc_seq (wc_region ?_))
  iterate 3 refine wP rfl rfl ?_
  refine wP (v := .pointer (some ⟨p0b, 21, none⟩)) rfl rfl (wl_val (v := .slice p0a1 p0n1 p0c1) (val_load tt_ok rfl (mR (mT (mT (mH)))) rfl) rfl ?_)
  replace h := bsome h; obtain ⟨v39, x39, h⟩ := h
  refine wl_cut (enc := (e1 .u8)) tt_ok rfl rfl rfl p0N1 (vec_some p0V1) (e1_len _) (vec_cap p0V1) (.inr ⟨_, _, rfl, rfl⟩) (.inl ⟨rfl, by rw [p0N1]⟩) (.inl ⟨rfl, rfl⟩) (by intro h; first | rfl | cases h) (cut2 x39 p0N1 (vec_cap p0V1)) x39 rfl ?_
  intro a39 n39_ c39 N39 H39 I39 O39 Z39
  replace h := bsome h; obtain ⟨v40, x40, h⟩ := h
  refine wl_cs Tryd.call39 rfl rfl rfl (s_sp (k_slices_Clone___api_Input_api_Input (p0 := v39) N39 H39 x40) pNil (Rds.call (Rds.of_vec (O39 _ rfl p0V1)) pNil ⟨_, (sA (sC (sC (sC (sA hA')))))⟩)) rfl ?_
  rintro _ _ ⟨_, ⟨v40a0, v40n0, v40c0, v40B0, v40N0, v40V0, rfl, rfl⟩, rfl⟩
  refine wP rfl rfl (wP (v := .pointer (some ⟨p0b, 21, none⟩)) rfl rfl ?_)
  apply wl_store tt_ok; rfl; exact (Upd.right (Upd.right (Upd.there (Upd.there Upd.here)))); rfl; rfl; rfl; rfl; rfl; rfl
  refine wl_nil (wx_then (wc_seq (wc_k2 (Ls := (v40B0 ++ (v31B0 ++ (⟨b6, [.int .u8 zb.1, .int .u8 zb.2], 45, (0, 0)⟩ :: (⟨b4, [.int .u8 (0 : Int), .int .u8 (0 : Int)], 45, (0, 0)⟩ :: (⟨p0b, (.int .u8 p0.player :: .int .i64 p0.window :: .int .u64 v31.Frame :: .int .u64 v31.Seed :: pl14 v31.Players [.slice v31a0 v31n0 v31c0, .int .u16 v31.Score.1, .int .u16 v31.Score.2, .slice v40a0 v40n0 v40c0, .pointer (some ⟨p0_4b, 0, none⟩), .pointer (some ⟨p0_5b, 0, none⟩)]), p0t, (0, 0)⟩ :: (p0B0 ++ (p0B1 ++ (⟨p0_4b, [.int .u64 p0_4.first_, .slice p0_4a0 p0_4n0 p0_4c0, .int .u8 p0_4.last], p0_4t, (0, 0)⟩ :: (p0_4B0 ++ (⟨p0_5b, ([.int .i64 p0_5.size] ++ flat cg_T_ring_place p0_5g0), p0_5t, (0, 0)⟩ :: (p0_5P0 ++ [])))))))))))) [9] [9] [0, 1, 3, 7, 0, 16, 48, 112, 240, 511] [0, 1, 2, 3, 4, 5, 6, 7, 8, 9] (by kernel_rfl) (by kernel_rfl) (by kernel_rfl) ?_)))
  refine k_val rfl rfl rfl (pSub (pA (pA (pH (pH (pH (pA (pA (pH (pA (pH (pA pNil)))))))))))) (stepV_ok tt_ok rfl) rfl ?_
  refine k_val rfl rfl rfl (pSub (pA (pA (pH (pH (pH (pA (pA (pH (pA (pH (pA pNil)))))))))))) (stepV_ok tt_ok rfl) rfl ?_
  refine k_val (v := .pointer (some ⟨p0b, 22, none⟩)) rfl rfl rfl (pSub (pA (pA (pH (pH (pH (pA (pA (pH (pA (pH (pA pNil)))))))))))) (stepV_ok tt_ok rfl) rfl ?_
  refine k_val (v := .pointer (some ⟨p0_4b, 0, none⟩)) rfl rfl rfl (pSub (pA (pA (pH (pH (pH (pA (pA (pH (pA (pH (pA pNil)))))))))))) (val_load tt_ok rfl (mR (mR (mT (mT (mH))))) rfl) rfl ?_
  refine k_val rfl rfl rfl (pSub (pA (pA (pH (pH (pH (pA (pA (pH (pA (pH (pA pNil)))))))))))) (stepV_ok tt_ok rfl) rfl ?_
  refine k_val rfl rfl rfl (pSub (pA (pA (pH (pH (pH (pA (pA (pH (pA (pH (pA pNil)))))))))))) (stepV_ok tt_ok rfl) rfl ?_
  refine k_val (v := .pointer (some ⟨p0b, 2, none⟩)) rfl rfl rfl (pSub (pA (pA (pH (pH (pH (pA (pA (pH (pA (pH (pA pNil)))))))))))) (stepV_ok tt_ok rfl) rfl ?_
  refine k_val (v := .pointer (some ⟨p0b, 2, none⟩)) rfl rfl rfl (pSub (pA (pA (pH (pH (pH (pA (pA (pH (pA (pH (pA pNil)))))))))))) (stepV_ok tt_ok rfl) rfl ?_
  refine k_val (v := .int .u64 v31.Frame) rfl rfl rfl (pSub (pA (pA (pH (pH (pH (pA (pA (pH (pA (pH (pA pNil)))))))))))) (val_load tt_ok rfl (mR (mR (mT (mT (mH))))) rfl) rfl ?_
  replace h := bsome h; obtain ⟨za, x52, h⟩ := h
  refine k_cs rfl rfl rfl Tryd.call40 rfl rfl rfl (s_sp (k_queue_Queue_Drop (p0 := p0_4) p0_4N0 p0_4V0 x52) (pCons (sA (sA (sC (sC (sC (sA (sA hC))))))) (pApp (sA (sA (sC (sC (sC (sA (sA hA'))))))) pNil)) (fun _ _ => trivial)) rfl (.inl rfl) ?_
  rintro _ _ ⟨_, ⟨ze, zg, zf, zd, zh, zi, rfl, rfl⟩, rfl⟩
  refine k_end (by kernel_rfl) ?_
  refine wx_then (wc_seq (wc_k2 (Ls := (⟨p0_4b, [.int .u64 za.first_, .slice ze zg zf, .int .u8 za.last], p0_4t, (0, 0)⟩ :: (zd ++ (v40B0 ++ (v31B0 ++ (⟨b6, [.int .u8 zb.1, .int .u8 zb.2], 45, (0, 0)⟩ :: (⟨b4, [.int .u8 (0 : Int), .int .u8 (0 : Int)], 45, (0, 0)⟩ :: (⟨p0b, (.int .u8 p0.player :: .int .i64 p0.window :: .int .u64 v31.Frame :: .int .u64 v31.Seed :: pl14 v31.Players [.slice v31a0 v31n0 v31c0, .int .u16 v31.Score.1, .int .u16 v31.Score.2, .slice v40a0 v40n0 v40c0, .pointer (some ⟨p0_4b, 0, none⟩), .pointer (some ⟨p0_5b, 0, none⟩)]), p0t, (0, 0)⟩ :: (p0B0 ++ (p0B1 ++ (⟨p0_5b, ([.int .i64 p0_5.size] ++ flat cg_T_ring_place p0_5g0), p0_5t, (0, 0)⟩ :: (p0_5P0 ++ [])))))))))))) [8] [8] [0, 1, 3, 7, 0, 16, 48, 112, 255] [0, 1, 2, 3, 4, 5, 6, 7, 8] (by kernel_rfl) (by kernel_rfl) (by kernel_rfl) ?_))
  refine k_val rfl rfl rfl (pSub (pH (pA (pA (pA (pH (pH (pH (pA (pA (pH (pA pNil)))))))))))) (stepV_ok tt_ok rfl) rfl ?_
  refine k_val rfl rfl rfl (pSub (pH (pA (pA (pA (pH (pH (pH (pA (pA (pH (pA pNil)))))))))))) (stepV_ok tt_ok rfl) rfl ?_
  refine k_val (v := .pointer (some ⟨p0b, 23, none⟩)) rfl rfl rfl (pSub (pH (pA (pA (pA (pH (pH (pH (pA (pA (pH (pA pNil)))))))))))) (stepV_ok tt_ok rfl) rfl ?_
  refine k_val (v := .pointer (some ⟨p0_5b, 0, none⟩)) rfl rfl rfl (pSub (pH (pA (pA (pA (pH (pH (pH (pA (pA (pH (pA pNil)))))))))))) (val_load tt_ok rfl (mT (mR (mR (mR (mT (mT (mH))))))) rfl) rfl ?_
  refine k_val rfl rfl rfl (pSub (pH (pA (pA (pA (pH (pH (pH (pA (pA (pH (pA pNil)))))))))))) (stepV_ok tt_ok rfl) rfl ?_
  refine k_val rfl rfl rfl (pSub (pH (pA (pA (pA (pH (pH (pH (pA (pA (pH (pA pNil)))))))))))) (stepV_ok tt_ok rfl) rfl ?_
  refine k_val (v := .pointer (some ⟨p0b, 2, none⟩)) rfl rfl rfl (pSub (pH (pA (pA (pA (pH (pH (pH (pA (pA (pH (pA pNil)))))))))))) (stepV_ok tt_ok rfl) rfl ?_
  refine k_val (v := .agg #[.int .u64 v31.Frame, .int .u64 v31.Seed, .int .i32 v31.Players.1.X, .int .i32 v31.Players.1.Y, .int .i32 v31.Players.1.VX, .int .i32 v31.Players.1.VY, .int .u8 v31.Players.1.Health, .int .u8 v31.Players.1.Cool, .int .u8 v31.Players.1.Face, .int .i32 v31.Players.2.X, .int .i32 v31.Players.2.Y, .int .i32 v31.Players.2.VX, .int .i32 v31.Players.2.VY, .int .u8 v31.Players.2.Health, .int .u8 v31.Players.2.Cool, .int .u8 v31.Players.2.Face, .slice v31a0 v31n0 v31c0, .int .u16 v31.Score.1, .int .u16 v31.Score.2]) rfl rfl rfl (pSub (pH (pA (pA (pA (pH (pH (pH (pA (pA (pH (pA pNil)))))))))))) (val_load tt_ok rfl (mT (mR (mR (mR (mT (mT (mH))))))) rfl) rfl ?_
  replace h := bsome h; obtain ⟨⟨zc, v61⟩, x61, h⟩ := h; try dsimp only at h
  refine k_cs rfl rfl rfl Tryd.call29 rfl rfl rfl (s_sp (k_ring_Ring_Put (p0 := p0_5) (p1 := v31) p0_5G0 p0_5A0 v31N0 (vec_cap v31V0) (own_Z v31V0) x61) (pCons (sC (sA (sA (sA (sC (sC (sC (sA (sA hC))))))))) (pApp (sC (sA (sA (sA (sC (sC (sC (sA (sA hA'))))))))) pNil)) (fun w hI => ⟨(Rds.call (Rds.of_vec v31V0) (pCons (sC (sA (sA (sA (sC (sC (sC (sA (sA hC))))))))) (pApp (sC (sA (sA (sA (sC (sC (sC (sA (sA hA'))))))))) pNil)) ⟨_, (sC (sA (sA hA')))⟩) w hI, (Rds.call G0S (pCons (sC (sA (sA (sA (sC (sC (sC (sA (sA hC))))))))) (pApp (sC (sA (sA (sA (sC (sC (sC (sA (sA hA'))))))))) pNil)) rsub_nil) w hI, (Rds.call G1S (pCons (sC (sA (sA (sA (sC (sC (sC (sA (sA hC))))))))) (pApp (sC (sA (sA (sA (sC (sC (sC (sA (sA hA'))))))))) pNil)) rsub_nil) w hI⟩)) rfl (.inl rfl) ?_
  rintro _ _ ⟨_, ⟨zm, zl, zk, zj, rfl, rfl⟩, rfl⟩
  refine k_end (by kernel_rfl) ?_
  refine wx_then (wc_seq (wc_region (wl_val (v := .agg #[.int .u8 zb.1, .int .u8 zb.2]) (val_load tt_ok rfl (mT (mR (mT (mR (mR (mR (mH))))))) rfl) rfl ?_)))
  apply wl_store tt_ok; rfl; exact (Upd.there (Upd.right (Upd.there (Upd.right (Upd.right (Upd.right (Upd.there Upd.here))))))); rfl; rfl; rfl; rfl; rfl; rfl
  refine wP rfl rfl (wl_nil (wx_then (wc_ret ?_)))
  simp only [Option.some.injEq, Prod.mk.injEq] at h
  obtain ⟨rfl, rfl, rfl, rfl, rfl⟩ := h
  exact wx_spD tt_ok (.inl rfl) Tryd.results13 (Res.cell rfl (mT (mR (mT (mR (mR (mR (mT (mH)))))))) rfl (Res.tmp rfl Res.nil)) ⟨v31a0, v31n0, v31c0, v31B0, v40a0, v40n0, v40c0, v40B0, ze, zg, zf, zd, zm, zl, v31N0, v31V0, v40N0, v40V0, zh, zi, zk, zj, rfl, rfl⟩ (fun F => by simp) (pSub (pCons (sC (sA (sC (sA (sA (sA (sC (sC hC)))))))) (pApp (sC (sA (sC (sA (sA hA'))))) (pApp (sC (sA (sC (sA hA')))) (pCons (sC (sA hC)) (pApp (sC (sA hA')) (pH (pA pNil))))))))

theorem k_hindcastlaw26_works {F : Nat} {r0 : Bool} (h : m_hindcastlaw26_works F = some r0) :
    Pf Tryd.prog 6 [] (fun w => Rds w [] [] (some ⟨0, 0, none⟩) (flat (fun _ : Unit => gl_state_playerBounds) [()]) ∧ Rds w [] [] (some ⟨1, 0, none⟩) (flat (fun _ : Unit => gl_state_shotBounds) [()])) (.bool r0) := by
  unfold m_hindcastlaw26_works at h
  refine pf_of_wc Tryd.func6 rfl Tryd.ntmps6 rfl rfl (fun w0 hR => ?_)
  obtain ⟨G0S, G1S⟩ := hR
  refine wc_seq (wc_region (wP rfl rfl (wl_nil (wx_then (wc_seq (wc_region ?_))))))
  replace h := bsome h; obtain ⟨v4, x4, h⟩ := h
  refine wl_cs Tryd.call8 rfl rfl rfl (s_sp (k_state_Start x4) pNil (fun _ _ => trivial)) rfl ?_
  rintro _ _ ⟨_, ⟨v4a0, v4n0, v4c0, v4B0, v4N0, v4V0, rfl, rfl⟩, rfl⟩
  replace h := bsome h; obtain ⟨v5, x5, h⟩ := h
  rcases v5 with _ | v5s
  · replace h := poN h
    refine wl_cs Tryd.call7 rfl rfl rfl (s_sp (k_rollback_New_none (p0 := v4) v4N0 (vec_cap v4V0) (own_Z v4V0) x5) pNil (fun w hI => ⟨(Rds.call (Rds.of_vec v4V0) pNil ⟨_, hA'⟩) w hI, (Rds.call G0S pNil rsub_nil) w hI, (Rds.call G1S pNil rsub_nil) w hI⟩)) rfl ?_
    rintro _ _ ⟨_, ⟨rfl, rfl⟩, rfl⟩
    refine wP rfl rfl (wl_nil (wx_then (wc_seq (wc_seq (wc_region (wP rfl rfl (wP (v := .bool true) rfl rfl (wP rfl rfl (wl_skip rfl rfl (wl_skip rfl rfl (wl_skip rfl rfl (wP (v := .bool true) rfl rfl (wP rfl rfl (wl_skip rfl rfl (wl_skip rfl rfl (wl_skip rfl rfl (wP (v := .bool true) rfl rfl (wP rfl rfl (wl_skip rfl rfl (wl_skip rfl rfl (wl_skip rfl rfl (wP (v := .bool true) rfl rfl (wP rfl rfl (wl_skip rfl rfl (wl_skip rfl rfl (wl_skip rfl rfl (wl_skip rfl rfl (wl_skip rfl rfl (wl_skip rfl rfl (wP (v := .bool true) rfl rfl ?_))))))))))))))))))))))))))))))
    refine wP rfl rfl (wl_skip rfl rfl (wl_skip rfl rfl (wl_skip rfl rfl (wP (v := .bool true) rfl rfl (wl_nil (wx_then (wc_cond_true rfl (wc_seq (wc_region (wP rfl rfl (wl_nil (wx_then (wc_ret (wx_then_ret ?_))))))))))))))
    obtain rfl := sI h
    exact wx_pf tt_ok (.inl rfl) Tryd.results6 (Res.tmp rfl Res.nil) rfl
  replace h := poS h
  refine wl_cs Tryd.call7 rfl rfl rfl (s_sp (k_rollback_New (p0 := v4) v4N0 (vec_cap v4V0) (own_Z v4V0) x5) pNil (fun w hI => ⟨(Rds.call (Rds.of_vec v4V0) pNil ⟨_, hA'⟩) w hI, (Rds.call G0S pNil rsub_nil) w hI, (Rds.call G1S pNil rsub_nil) w hI⟩)) rfl ?_
  rintro _ _ ⟨_, ⟨zbh, zdi, zdj, v5sa0, v5sn0, v5sc0, v5sB0, v5sa1, v5sn1, v5sc1, v5sB1, v5s_4a0, v5s_4n0, v5s_4c0, v5s_4B0, v5s_5g0, v5s_5P0, v5sN0, v5sV0, v5sN1, v5sV1, v5s_4N0, v5s_4V0, v5s_5G0, v5s_5A0, rfl, rfl⟩, rfl⟩
  refine wP rfl rfl (wl_nil (wx_then (wc_seq (wc_seq (wc_region (wP rfl rfl (wP (v := .bool false) rfl rfl (wP rfl rfl (wl_run rfl (wP rfl rfl ?_))))))))))
  replace h := bsome h; obtain ⟨⟨zc, v10⟩, x10, h⟩ := h; try dsimp only at h
  refine wl_run rfl (wl_cs Tryd.call9 rfl rfl rfl (s_sp (k_rollback_Engine_Local (p0 := v5s.1) (p0_4 := v5s.2.1) (p0_5 := v5s.2.2) v5sN0 v5sV0 v5sN1 v5sV1 v5s_4N0 v5s_4V0 v5s_5G0 v5s_5A0 x10) (pH (pA (pA (pH (pA (pH (pA pNil))))))) (fun _ _ => trivial)) rfl ?_)
  rintro _ _ ⟨_, ⟨zbo, zbs, zbq, zbm, zbp, zbt, zbr, zbn, zam, zao, zan, zap, rfl, rfl⟩, rfl⟩
  refine wl_run rfl (wP (v := .bool (v10 != (0 : Int))) rfl rfl (wP (v := .bool (v10 != (0 : Int))) rfl rfl (wP rfl rfl ?_)))
  replace h := bsome h; obtain ⟨⟨v17, zbi, zbj, zbc, zbd, zbe, zbf, zbg, zbk⟩, h, hg17⟩ := h
  refine wl_split (t := 13) rfl (fun hc => ?_) (fun hc => ?_)
  · replace h := ct hc h
    refine wl_skip rfl rfl (wl_skip rfl rfl (wl_skip rfl rfl ?_))
    simp only [Option.some.injEq, Prod.mk.injEq] at h
    obtain ⟨rfl, rfl, rfl, rfl, rfl, rfl, rfl, rfl, rfl⟩ := h
    have h := hg17; clear hg17; try dsimp only at h
    refine wP (v := .bool true) rfl rfl (wP rfl rfl ?_)
    replace h := bsome h; obtain ⟨⟨v22, zah, zai, zac, zad, zae, zaf, zag, zaj⟩, h, hg22⟩ := h
    replace h := ct rfl h
    refine wl_skip rfl rfl (wl_skip rfl rfl (wl_skip rfl rfl ?_))
    simp only [Option.some.injEq, Prod.mk.injEq] at h
    obtain ⟨rfl, rfl, rfl, rfl, rfl, rfl, rfl, rfl, rfl⟩ := h
    have h := hg22; clear hg22; try dsimp only at h
    refine wP (v := .bool true) rfl rfl (wP rfl rfl ?_)
    replace h := bsome h; obtain ⟨⟨v30, zp, zq⟩, h, hg30⟩ := h
    replace h := ct rfl h
    refine wl_skip rfl rfl (wl_skip rfl rfl (wl_skip rfl rfl (wl_skip rfl rfl (wl_skip rfl rfl (wl_skip rfl rfl ?_)))))
    simp only [Option.some.injEq, Prod.mk.injEq] at h
    obtain ⟨rfl, rfl, rfl⟩ := h
    have h := hg30; clear hg30; try dsimp only at h
    refine wP (v := .bool true) rfl rfl (wP rfl rfl ?_)
    replace h := bsome h; obtain ⟨⟨v35, zg, zh, zi, zj, zk⟩, h, hg35⟩ := h
    replace h := ct rfl h
    refine wl_skip rfl rfl (wl_skip rfl rfl (wl_skip rfl rfl ?_))
    simp only [Option.some.injEq, Prod.mk.injEq] at h
    obtain ⟨rfl, rfl, rfl, rfl, rfl, rfl⟩ := h
    have h := hg35; clear hg35; try dsimp only at h
    refine wP (v := .bool true) rfl rfl (wl_nil (wx_then ?_))
    replace h := ct rfl h
    refine wc_cond_true rfl ?_
    refine wc_seq (wc_region (wP rfl rfl (wl_nil (wx_then (wc_ret (wx_then_ret ?_))))))
    obtain rfl := sI h
    exact wx_pf tt_ok (.inl rfl) Tryd.results6 (Res.tmp rfl Res.nil) rfl
  replace h := cf hc h
  refine wl_run rfl (wP rfl rfl ?_)
  replace h := bsome h; obtain ⟨⟨zd, v15⟩, x15, h⟩ := h; try dsimp only at h
  refine wl_run rfl (wl_cs Tryd.call9 rfl rfl rfl (s_sp (k_rollback_Engine_Local (p0 := zc) (p0_4 := v5s.2.1) (p0_5 := v5s.2.2) zam zao zan zap v5s_4N0 v5s_4V0 v5s_5G0 v5s_5A0 x15) (pH (pA (pA (pH (pA (pH (pA pNil))))))) (fun _ _ => trivial)) rfl ?_)
  rintro _ _ ⟨_, ⟨zbw, zca, zby, zbu, zbx, zcb, zbz, zbv, zaq, zas, zar, zat, rfl, rfl⟩, rfl⟩
  refine wl_run rfl (wP (v := .bool (v15 != (0 : Int))) rfl rfl ?_)
  simp only [Option.some.injEq, Prod.mk.injEq] at h
  obtain ⟨rfl, rfl, rfl, rfl, rfl, rfl, rfl, rfl, rfl⟩ := h
  have h := hg17; clear hg17; try dsimp only at h
  refine wP (v := .bool (v15 != (0 : Int))) rfl rfl (wP rfl rfl ?_)
  replace h := bsome h; obtain ⟨⟨v22, zah, zai, zac, zad, zae, zaf, zag, zaj⟩, h, hg22⟩ := h
  refine wl_split (t := 18) rfl (fun hc => ?_) (fun hc => ?_)
  · replace h := ct hc h
    refine wl_skip rfl rfl (wl_skip rfl rfl (wl_skip rfl rfl ?_))
    simp only [Option.some.injEq, Prod.mk.injEq] at h
    obtain ⟨rfl, rfl, rfl, rfl, rfl, rfl, rfl, rfl, rfl⟩ := h
    have h := hg22; clear hg22; try dsimp only at h
    refine wP (v := .bool true) rfl rfl (wP rfl rfl ?_)
    replace h := bsome h; obtain ⟨⟨v30, zp, zq⟩, h, hg30⟩ := h
    replace h := ct rfl h
    refine wl_skip rfl rfl (wl_skip rfl rfl (wl_skip rfl rfl (wl_skip rfl rfl (wl_skip rfl rfl (wl_skip rfl rfl ?_)))))
    simp only [Option.some.injEq, Prod.mk.injEq] at h
    obtain ⟨rfl, rfl, rfl⟩ := h
    have h := hg30; clear hg30; try dsimp only at h
    refine wP (v := .bool true) rfl rfl (wP rfl rfl ?_)
    replace h := bsome h; obtain ⟨⟨v35, zg, zh, zi, zj, zk⟩, h, hg35⟩ := h
    replace h := ct rfl h
    refine wl_skip rfl rfl (wl_skip rfl rfl (wl_skip rfl rfl ?_))
    simp only [Option.some.injEq, Prod.mk.injEq] at h
    obtain ⟨rfl, rfl, rfl, rfl, rfl, rfl⟩ := h
    have h := hg35; clear hg35; try dsimp only at h
    refine wP (v := .bool true) rfl rfl (wl_nil (wx_then ?_))
    replace h := ct rfl h
    refine wc_cond_true rfl ?_
    refine wc_seq (wc_region (wP rfl rfl (wl_nil (wx_then (wc_ret (wx_then_ret ?_))))))
    obtain rfl := sI h
    exact wx_pf tt_ok (.inl rfl) Tryd.results6 (Res.tmp rfl Res.nil) rfl
  replace h := cf hc h
  refine wl_run rfl (wP rfl rfl ?_)
  replace h := bsome h; obtain ⟨⟨za, v20⟩, x20, h⟩ := h; try dsimp only at h
  refine wl_run rfl (wl_cs Tryd.call9 rfl rfl rfl (s_sp (k_rollback_Engine_Local (p0 := zd) (p0_4 := v5s.2.1) (p0_5 := v5s.2.2) zaq zas zar zat v5s_4N0 v5s_4V0 v5s_5G0 v5s_5A0 x20) (pH (pA (pA (pH (pA (pH (pA pNil))))))) (fun _ _ => trivial)) rfl ?_)
  rintro _ _ ⟨_, ⟨zce, zci, zcg, zcc, zcf, zcj, zch, zcd, zs, zu, zt, zv, rfl, rfl⟩, rfl⟩
  refine wl_run rfl (wP (v := .bool (v20 != (7 : Int))) rfl rfl ?_)
  simp only [Option.some.injEq, Prod.mk.injEq] at h
  obtain ⟨rfl, rfl, rfl, rfl, rfl, rfl, rfl, rfl, rfl⟩ := h
  have h := hg22; clear hg22; try dsimp only at h
  refine wP (v := .bool (v20 != (7 : Int))) rfl rfl (wP rfl rfl ?_)
  replace h := bsome h; obtain ⟨⟨v30, zp, zq⟩, h, hg30⟩ := h
  refine wl_split (t := 23) rfl (fun hc => ?_) (fun hc => ?_)
  · replace h := ct hc h
    refine wl_skip rfl rfl (wl_skip rfl rfl (wl_skip rfl rfl (wl_skip rfl rfl (wl_skip rfl rfl (wl_skip rfl rfl ?_)))))
    simp only [Option.some.injEq, Prod.mk.injEq] at h
    obtain ⟨rfl, rfl, rfl⟩ := h
    have h := hg30; clear hg30; try dsimp only at h
    refine wP (v := .bool true) rfl rfl (wP rfl rfl ?_)
    replace h := bsome h; obtain ⟨⟨v35, zg, zh, zi, zj, zk⟩, h, hg35⟩ := h
    replace h := ct rfl h
    refine wl_skip rfl rfl (wl_skip rfl rfl (wl_skip rfl rfl ?_))
    simp only [Option.some.injEq, Prod.mk.injEq] at h
    obtain ⟨rfl, rfl, rfl, rfl, rfl, rfl⟩ := h
    have h := hg35; clear hg35; try dsimp only at h
    refine wP (v := .bool true) rfl rfl (wl_nil (wx_then ?_))
    replace h := ct rfl h
    refine wc_cond_true rfl ?_
    refine wc_seq (wc_region (wP rfl rfl (wl_nil (wx_then (wc_ret (wx_then_ret ?_))))))
    obtain rfl := sI h
    exact wx_pf tt_ok (.inl rfl) Tryd.results6 (Res.tmp rfl Res.nil) rfl
  replace h := cf hc h
  refine wl_run rfl (wP rfl rfl ?_)
  replace h := bsome h; obtain ⟨⟨zm, v25⟩, x25, h⟩ := h; try dsimp only at h
  refine wl_run rfl (wl_cs Tryd.call11 rfl rfl rfl (s_sp (k_rollback_Engine_Shown (p0 := za) (p0_4 := v5s.2.1) (p0_5 := v5s.2.2) zs zu zt zv v5s_4N0 v5s_4V0 v5s_5G0 v5s_5A0 x25) (pH (pA (pA (pH (pA (pH (pA pNil))))))) (fun w hI => ⟨(Rds.call G0S (pH (pA (pA (pH (pA (pH (pA pNil))))))) rsub_nil) w hI, (Rds.call G1S (pH (pA (pA (pH (pA (pH (pA pNil))))))) rsub_nil) w hI⟩)) rfl ?_)
  rintro _ _ ⟨_, ⟨zcl, zck, v25a0, v25n0, v25c0, v25B0, zav, zau, v25N0, v25V0, rfl, rfl⟩, rfl⟩
  refine wl_run rfl (wP (v := .agg #[.int .i32 v25.Players.1.X, .int .i32 v25.Players.1.Y, .int .i32 v25.Players.1.VX, .int .i32 v25.Players.1.VY, .int .u8 v25.Players.1.Health, .int .u8 v25.Players.1.Cool, .int .u8 v25.Players.1.Face, .int .i32 v25.Players.2.X, .int .i32 v25.Players.2.Y, .int .i32 v25.Players.2.VX, .int .i32 v25.Players.2.VY, .int .u8 v25.Players.2.Health, .int .u8 v25.Players.2.Cool, .int .u8 v25.Players.2.Face]) rfl rfl (wl_run rfl (wP (v := .agg #[.int .i32 v25.Players.1.X, .int .i32 v25.Players.1.Y, .int .i32 v25.Players.1.VX, .int .i32 v25.Players.1.VY, .int .u8 v25.Players.1.Health, .int .u8 v25.Players.1.Cool, .int .u8 v25.Players.1.Face]) rfl rfl ?_)))
  refine wl_run rfl (wP (v := .int .i32 v25.Players.1.X) rfl rfl (wl_run rfl (wP (v := .bool (v25.Players.1.X != (8384 : Int))) rfl rfl ?_)))
  simp only [Option.some.injEq, Prod.mk.injEq] at h
  obtain ⟨rfl, rfl, rfl⟩ := h
  have h := hg30; clear hg30; try dsimp only at h
  refine wP (v := .bool (v25.Players.1.X != (8384 : Int))) rfl rfl (wP rfl rfl ?_)
  replace h := bsome h; obtain ⟨⟨v35, zg, zh, zi, zj, zk⟩, h, hg35⟩ := h
  refine wl_split (t := 31) rfl (fun hc => ?_) (fun hc => ?_)
  · replace h := ct hc h
    refine wl_skip rfl rfl (wl_skip rfl rfl (wl_skip rfl rfl ?_))
    simp only [Option.some.injEq, Prod.mk.injEq] at h
    obtain ⟨rfl, rfl, rfl, rfl, rfl, rfl⟩ := h
    have h := hg35; clear hg35; try dsimp only at h
    refine wP (v := .bool true) rfl rfl (wl_nil (wx_then ?_))
    replace h := ct rfl h
    refine wc_cond_true rfl ?_
    refine wc_seq (wc_region (wP rfl rfl (wl_nil (wx_then (wc_ret (wx_then_ret ?_))))))
    obtain rfl := sI h
    exact wx_pf tt_ok (.inl rfl) Tryd.results6 (Res.tmp rfl Res.nil) rfl
  replace h := cf hc h
  refine wl_run rfl (wP rfl rfl ?_)
  replace h := bsome h; obtain ⟨⟨zl, zn, v33⟩, x33, h⟩ := h; try dsimp only at h
  refine wl_run rfl (wl_cs Tryd.call12 rfl rfl rfl (s_sp (k_rollback_Engine_Remote (p0 := za) (p0_4 := v5s.2.1) (p0_5 := zm) zs zu zt zv v5s_4N0 v5s_4V0 zav zau x33) (pH (pA (pA (pH (pA (pH (pA pNil))))))) (fun _ _ => trivial)) rfl ?_)
  rintro _ _ ⟨_, ⟨zcn, zcp, zco, zcm, zcr, zcq, zaw, zax, zaz, zay, rfl, rfl⟩, rfl⟩
  refine wl_run rfl (wP (v := .bool (v33 != (0 : Int))) rfl rfl ?_)
  simp only [Option.some.injEq, Prod.mk.injEq] at h
  obtain ⟨rfl, rfl, rfl, rfl, rfl, rfl⟩ := h
  have h := hg35; clear hg35; try dsimp only at h
  refine wP (v := .bool (v33 != (0 : Int))) rfl rfl (wl_nil (wx_then (wc_cond rfl (fun hc => ?_) (fun hc => ?_))))
  · replace h := ct hc h
    refine wc_seq (wc_region (wP rfl rfl (wl_nil (wx_then (wc_ret (wx_then_ret ?_))))))
    obtain rfl := sI h
    exact wx_pf tt_ok (.inl rfl) Tryd.results6 (Res.tmp rfl Res.nil) rfl
  replace h := cf hc h
  refine wc_skip (wx_then (wc_seq (wc_region (wP rfl rfl ?_))))
  replace h := bsome h; obtain ⟨⟨zb, ze, zo, zr, zbl⟩, x38, h⟩ := h; try dsimp only at h
  refine wl_cs Tryd.call13 rfl rfl rfl (s_sp (k_rollback_Engine_Confirm (p0 := za) (p0_4 := zl) (p0_5 := zn) zs zu zt zv zaw zax zaz zay x38) (pH (pA (pA (pH (pA (pH (pA pNil))))))) (fun w hI => ⟨(Rds.call G0S (pH (pA (pA (pH (pA (pH (pA pNil))))))) rsub_nil) w hI, (Rds.call G1S (pH (pA (pA (pH (pA (pH (pA pNil))))))) rsub_nil) w hI⟩)) rfl ?_
  rintro _ _ ⟨_, ⟨zcu, zcy, zcw, zcs, zcv, zcz, zcx, zct, zdb, zdd, zdc, zda, zdf, zde, zw, zy, zx, zz, zaa, zab, zbb, zba, rfl, rfl⟩, rfl⟩
  iterate 3 refine wP rfl rfl ?_
  refine wl_alloc tt_ok rfl rfl (fun b2 => ?_)
  apply wl_store tt_ok; rfl; exact Upd.here; rfl; rfl; rfl; rfl; rfl; rfl
  refine wP rfl rfl (wl_nil (wx_then (wc_seq (wc_region (wP rfl rfl ?_)))))
  replace h := bsome h; obtain ⟨⟨zf, v42⟩, x42, h⟩ := h; try dsimp only at h
  refine wl_cs Tryd.call11 rfl rfl rfl (s_sp (k_rollback_Engine_Shown (p0 := zb) (p0_4 := ze) (p0_5 := zo) zw zy zx zz zaa zab zbb zba x42) (pCons (sC hC) (pApp (sC hA') (pApp (sC hA') (pCons (sC hC) (pApp (sC hA') (pCons (sC hC) (pApp (sC hA') pNil))))))) (fun w hI => ⟨(Rds.call G0S (pCons (sC hC) (pApp (sC hA') (pApp (sC hA') (pCons (sC hC) (pApp (sC hA') (pCons (sC hC) (pApp (sC hA') pNil))))))) rsub_nil) w hI, (Rds.call G1S (pCons (sC hC) (pApp (sC hA') (pApp (sC hA') (pCons (sC hC) (pApp (sC hA') (pCons (sC hC) (pApp (sC hA') pNil))))))) rsub_nil) w hI⟩)) rfl ?_
  rintro _ _ ⟨_, ⟨zdh, zdg, v42a0, v42n0, v42c0, v42B0, zal, zak, v42N0, v42V0, rfl, rfl⟩, rfl⟩
  refine wP (v := .agg #[.int .i32 v42.Players.1.X, .int .i32 v42.Players.1.Y, .int .i32 v42.Players.1.VX, .int .i32 v42.Players.1.VY, .int .u8 v42.Players.1.Health, .int .u8 v42.Players.1.Cool, .int .u8 v42.Players.1.Face, .int .i32 v42.Players.2.X, .int .i32 v42.Players.2.Y, .int .i32 v42.Players.2.VX, .int .i32 v42.Players.2.VY, .int .u8 v42.Players.2.Health, .int .u8 v42.Players.2.Cool, .int .u8 v42.Players.2.Face]) rfl rfl (wP (v := .agg #[.int .i32 v42.Players.2.X, .int .i32 v42.Players.2.Y, .int .i32 v42.Players.2.VX, .int .i32 v42.Players.2.VY, .int .u8 v42.Players.2.Health, .int .u8 v42.Players.2.Cool, .int .u8 v42.Players.2.Face]) rfl rfl (wP (v := .int .i32 v42.Players.2.VX) rfl rfl ?_))
  refine wP (v := .bool (v42.Players.2.VX == (-128 : Int))) rfl rfl (wP rfl rfl ?_)
  replace h := bsome h; obtain ⟨v49, h, hg49⟩ := h
  refine wl_split (t := 47) rfl (fun hc => ?_) (fun hc => ?_)
  · replace h := ct hc h
    refine wl_run rfl (wP rfl rfl ?_)
    obtain rfl := sI h
    have h := hg49; clear hg49
    refine wP (v := .bool zbl) rfl rfl (wP rfl rfl ?_)
    replace h := bsome h; obtain ⟨v54, h, hg54⟩ := h
    refine wl_split (t := 50) rfl (fun hc => ?_) (fun hc => ?_)
    · replace h := ct hc h
      refine wl_run rfl (wl_val (v := .agg #[.int .u8 zr.1, .int .u8 zr.2]) (val_load tt_ok rfl (mT (mR (mR (mT (mR (mT (mR (mR (mH))))))))) rfl) rfl (wl_run rfl (wP (v := .agg #[.int .u8 (2 : Int), .int .u8 (1 : Int)]) rfl rfl (wl_run rfl (wl_val (v := .bool ((zr.1 == (2 : Int)) && (zr.2 == (1 : Int)))) (val_eqs tt_ok tt_eq tt_one Tryd.eqGuardType45 rfl rfl rfl rfl rfl) rfl ?_)))))
      obtain rfl := sI h
      have h := hg54; clear hg54
      refine wP (v := .bool ((zr.1 == (2 : Int)) && (zr.2 == (1 : Int)))) rfl rfl (wP rfl rfl ?_)
      replace h := bsome h; obtain ⟨v59, h, hg59⟩ := h
      refine wl_split (t := 55) rfl (fun hc => ?_) (fun hc => ?_)
      · replace h := ct hc h
        refine wl_run rfl (wP rfl rfl ?_)
        replace h := bsome h; obtain ⟨v57, x57, h⟩ := h
        refine wl_run rfl (wl_cq Tryd.call16 rfl rfl rfl (q_rd (k_rollback_Engine_C (p0 := zb) (p0_4 := ze) (p0_5 := zf) zw zy zx zz zaa zab zal zak x57) (pH (pA (pA (pH (pA (pH (pA pNil))))))) (fun _ _ => trivial)) rfl (wl_run rfl (wP (v := .bool (v57 == (1 : Int))) rfl rfl ?_)))
        obtain rfl := sI h
        have h := hg59; clear hg59
        refine wP (v := .bool (v57 == (1 : Int))) rfl rfl (wP rfl rfl ?_)
        replace h := bsome h; obtain ⟨v64, h, hg64⟩ := h
        refine wl_split (t := 60) rfl (fun hc => ?_) (fun hc => ?_)
        · replace h := ct hc h
          refine wl_run rfl (wP rfl rfl ?_)
          replace h := bsome h; obtain ⟨v62, x62, h⟩ := h
          refine wl_run rfl (wl_cq Tryd.call17 rfl rfl rfl (q_rd (k_rollback_Engine_T (p0 := zb) (p0_4 := ze) (p0_5 := zf) zw zy zx zz zaa zab zal zak x62) (pH (pA (pA (pH (pA (pH (pA pNil))))))) (fun _ _ => trivial)) rfl (wl_run rfl (wP (v := .bool (v62 == (2 : Int))) rfl rfl ?_)))
          obtain rfl := sI h
          have h := hg64; clear hg64
          refine wP (v := .bool (v62 == (2 : Int))) rfl rfl (wP rfl rfl (wl_nil (wx_then (wc_ret ?_))))
          obtain rfl := sI h
          exact wx_pf tt_ok (.inl rfl) Tryd.results6 (Res.tmp rfl Res.nil) rfl
        replace h := cf hc h
        refine wl_skip rfl rfl (wl_skip rfl rfl (wl_skip rfl rfl ?_))
        obtain rfl := sI h
        have h := hg64; clear hg64
        refine wP (v := .bool false) rfl rfl (wP rfl rfl (wl_nil (wx_then (wc_ret ?_))))
        obtain rfl := sI h
        exact wx_pf tt_ok (.inl rfl) Tryd.results6 (Res.tmp rfl Res.nil) rfl
      replace h := cf hc h
      refine wl_skip rfl rfl (wl_skip rfl rfl (wl_skip rfl rfl ?_))
      obtain rfl := sI h
      have h := hg59; clear hg59
      refine wP (v := .bool false) rfl rfl (wP rfl rfl ?_)
      replace h := bsome h; obtain ⟨v64, h, hg64⟩ := h
      replace h := cf rfl h
      refine wl_skip rfl rfl (wl_skip rfl rfl (wl_skip rfl rfl ?_))
      obtain rfl := sI h
      have h := hg64; clear hg64
      refine wP (v := .bool false) rfl rfl (wP rfl rfl (wl_nil (wx_then (wc_ret ?_))))
      obtain rfl := sI h
      exact wx_pf tt_ok (.inl rfl) Tryd.results6 (Res.tmp rfl Res.nil) rfl
    replace h := cf hc h
    refine wl_skip rfl rfl (wl_skip rfl rfl (wl_skip rfl rfl ?_))
    obtain rfl := sI h
    have h := hg54; clear hg54
    refine wP (v := .bool false) rfl rfl (wP rfl rfl ?_)
    replace h := bsome h; obtain ⟨v59, h, hg59⟩ := h
    replace h := cf rfl h
    refine wl_skip rfl rfl (wl_skip rfl rfl (wl_skip rfl rfl ?_))
    obtain rfl := sI h
    have h := hg59; clear hg59
    refine wP (v := .bool false) rfl rfl (wP rfl rfl ?_)
    replace h := bsome h; obtain ⟨v64, h, hg64⟩ := h
    replace h := cf rfl h
    refine wl_skip rfl rfl (wl_skip rfl rfl (wl_skip rfl rfl ?_))
    obtain rfl := sI h
    have h := hg64; clear hg64
    refine wP (v := .bool false) rfl rfl (wP rfl rfl (wl_nil (wx_then (wc_ret ?_))))
    obtain rfl := sI h
    exact wx_pf tt_ok (.inl rfl) Tryd.results6 (Res.tmp rfl Res.nil) rfl
  replace h := cf hc h
  refine wl_skip rfl rfl ?_
  obtain rfl := sI h
  have h := hg49; clear hg49
  refine wP (v := .bool false) rfl rfl (wP rfl rfl ?_)
  replace h := bsome h; obtain ⟨v54, h, hg54⟩ := h
  replace h := cf rfl h
  refine wl_skip rfl rfl (wl_skip rfl rfl (wl_skip rfl rfl ?_))
  obtain rfl := sI h
  have h := hg54; clear hg54
  refine wP (v := .bool false) rfl rfl (wP rfl rfl ?_)
  replace h := bsome h; obtain ⟨v59, h, hg59⟩ := h
  replace h := cf rfl h
  refine wl_skip rfl rfl (wl_skip rfl rfl (wl_skip rfl rfl ?_))
  obtain rfl := sI h
  have h := hg59; clear hg59
  refine wP (v := .bool false) rfl rfl (wP rfl rfl ?_)
  replace h := bsome h; obtain ⟨v64, h, hg64⟩ := h
  replace h := cf rfl h
  refine wl_skip rfl rfl (wl_skip rfl rfl (wl_skip rfl rfl ?_))
  obtain rfl := sI h
  have h := hg64; clear hg64
  refine wP (v := .bool false) rfl rfl (wP rfl rfl (wl_nil (wx_then (wc_ret ?_))))
  obtain rfl := sI h
  exact wx_pf tt_ok (.inl rfl) Tryd.results6 (Res.tmp rfl Res.nil) rfl

theorem k_hindcastlaw26_at {F : Nat} {p0 : (List Int)} {p0a0 : Option Addr} {p0n0 p0c0 : Nat} {p1 : Int} {r0 : Int} (p0N0 : p0n0 = p0.length) (p0H0 : p0n0 ≤ p0c0) (h : m_hindcastlaw26_at F p0 p1 = some r0) :
    Pf Tryd.prog 10 [.slice p0a0 p0n0 p0c0, .int .i64 p1] (fun w => Rds w [] [] p0a0 (flat (e1 .u8) p0)) (.int .u8 r0) := by
  unfold m_hindcastlaw26_at at h
  refine pf_of_wc Tryd.func10 rfl Tryd.ntmps10 rfl rfl (fun w0 hR => ?_)
  have p0S0 := hR
  refine wc_seq (wc_region (wP rfl rfl (wl_nil (wx_then (wc_seq (wc_seq (wc_region ?_)))))))
  iterate 2 refine wP rfl rfl ?_
  refine wl_val (v := .int .i64 (p0.length : Int)) (val_len tt_ok rfl rfl p0N0) rfl ?_
  refine wP (v := .bool (decide (p1 < (p0.length : Int)))) rfl rfl (wl_nil (wx_then (wc_cond rfl (fun hc => ?_) (fun hc => ?_))))
  · replace h := ct hc h
    refine wc_seq (wc_region ?_)
    iterate 2 refine wP rfl rfl ?_
    replace h := bsome h; obtain ⟨v11, x11, h⟩ := h
    refine wl_val (v := .pointer (some ((adOf p0a0).add (p1.toNat * 1 + 0)))) (val_ix (enc := (e1 .u8)) tt_ok rfl rfl rfl rfl p0N0 p0S0 (e1_len _) rfl x11) rfl ?_
    refine wl_val (v := .int .u8 v11) (val_le (enc := (e1 .u8)) (xs := p0) tt_ok rfl p0S0 rsub_nil (e1_len _) x11 rfl) rfl ?_
    refine wP (v := .int .u8 (Int.tmod v11 64)) rfl rfl (wP rfl rfl (wl_nil (wx_then (wc_ret (wx_then_ret ?_)))))
    obtain rfl := sI h
    exact wx_pf tt_ok (.inl rfl) Tryd.results10 (Res.tmp rfl Res.nil) rfl
  replace h := cf hc h
  refine wc_skip (wx_then (wc_seq (wc_region (wP rfl rfl (wl_nil (wx_then (wc_ret ?_)))))))
  obtain rfl := sI h
  exact wx_pf tt_ok (.inl rfl) Tryd.results10 (Res.tmp rfl Res.nil) rfl

theorem k_rollback_Engine_Known {F : Nat} {p0 : T_rollback_Engine} {p0b p0t : Nat} {p0a0 : Option Addr} {p0n0 : Nat} {p0c0 : Nat} {p0B0 : List Blk} {p0a1 : Option Addr} {p0n1 : Nat} {p0c1 : Nat} {p0B1 : List Blk} {p0_4 : T_queue_Queue} {p0_4b p0_4t : Nat} {p0_4a0 : Option Addr} {p0_4n0 : Nat} {p0_4c0 : Nat} {p0_4B0 : List Blk} {p0_5 : T_ring_Ring} {p0_5b p0_5t : Nat} {p0_5g0 : List (T_ring_place × G)} {p0_5P0 : List Blk} {r0 : Int} (p0N0 : p0n0 = p0.sure.Shots.length) (p0V0 : Own 80 6 p0a0 p0n0 p0c0 (flat c_T_api_Shot p0.sure.Shots) p0B0) (p0N1 : p0n1 = p0.own.length) (p0V1 : Own 40 1 p0a1 p0n1 p0c1 (flat (e1 .u8) p0.own) p0B1) (p0_4N0 : p0_4n0 = p0_4.l.length) (p0_4V0 : Own 40 1 p0_4a0 p0_4n0 p0_4c0 (flat (e1 .u8) p0_4.l) p0_4B0) (p0_5G0 : p0_5.places.1 = unG p0_5g0) (p0_5A0 : AllP sh_T_ring_place c_T_api_Shot p0_5P0 p0_5g0) (h : m_rollback_Engine_Known F p0 p0_4 p0_5 = some r0) :
    Rd2 Tryd.prog 19 [.pointer (some ⟨p0b, 0, none⟩)] (⟨p0b, (.int .u8 p0.player :: .int .i64 p0.window :: .int .u64 p0.sure.Frame :: .int .u64 p0.sure.Seed :: pl14 p0.sure.Players [.slice p0a0 p0n0 p0c0, .int .u16 p0.sure.Score.1, .int .u16 p0.sure.Score.2, .slice p0a1 p0n1 p0c1, .pointer (some ⟨p0_4b, 0, none⟩), .pointer (some ⟨p0_5b, 0, none⟩)]), p0t, (0, 0)⟩ :: (p0B0 ++ (p0B1 ++ (⟨p0_4b, [.int .u64 p0_4.first_, .slice p0_4a0 p0_4n0 p0_4c0, .int .u8 p0_4.last], p0_4t, (0, 0)⟩ :: (p0_4B0 ++ (⟨p0_5b, ([.int .i64 p0_5.size] ++ flat cg_T_ring_place p0_5g0), p0_5t, (0, 0)⟩ :: (p0_5P0 ++ []))))))) (fun w => True) (.int .u64 r0) := by
  unfold m_rollback_Engine_Known at h
  refine sp_of_wc Tryd.func19 rfl Tryd.ntmps19 rfl rfl (fun w0 hR => ?_)
  refine wc_seq (wc_region (wP rfl rfl (wl_nil (wx_then (wc_seq (wc_seq (wc_region (wP rfl rfl ?_))))))))
  replace h := bsome h; obtain ⟨v4, x4, h⟩ := h
  refine wl_cq Tryd.call30 rfl rfl rfl (q_rd (k_rollback_Engine_is (p0 := p0) (p0_4 := p0_4) (p0_5 := p0_5) p0N0 p0V0 p0N1 p0V1 p0_4N0 p0_4V0 p0_5G0 p0_5A0 x4) (pH (pA (pA (pH (pA (pH (pA pNil))))))) (fun _ _ => trivial)) rfl ?_
  refine wP (v := .bool (!v4)) rfl rfl (wl_nil (wx_then (wc_cond rfl (fun hc => ?_) (fun hc => ?_))))
  · replace h := ct hc h
    refine wc_seq (wc_region (wP rfl rfl (wl_nil (wx_then (wc_ret (wx_then_ret ?_))))))
    obtain rfl := sI h
    exact wx_rd tt_ok (.inl rfl) Tryd.results19 (Res.tmp rfl Res.nil) (pSub (pH (pA (pA (pH (pA (pH (pA pNil)))))))) rfl
  replace h := cf hc h
  refine wc_skip (wx_then (wc_seq (wc_region ?_)))
  iterate 2 refine wP rfl rfl ?_
  refine wP (v := .pointer (some ⟨p0b, 22, none⟩)) rfl rfl (wl_val (v := .pointer (some ⟨p0_4b, 0, none⟩)) (val_load tt_ok rfl (mH) rfl) rfl ?_)
  replace h := bsome h; obtain ⟨v10, x10, h⟩ := h
  refine wl_cq Tryd.call34 rfl rfl rfl (q_rd (k_queue_Queue_Known (p0 := p0_4) p0_4N0 p0_4V0 x10) (pCons (sC (sA (sA hC))) (pApp (sC (sA (sA hA'))) pNil)) (fun _ _ => trivial)) rfl ?_
  refine wP rfl rfl (wl_nil (wx_then (wc_ret ?_)))
  obtain rfl := sI h
  exact wx_rd tt_ok (.inl rfl) Tryd.results19 (Res.tmp rfl Res.nil) (pSub (pH (pA (pA (pH (pA (pH (pA pNil)))))))) rfl

theorem k_hindcastlaw26_Game_pair {F : Nat} {p0 : T_hindcastlaw26_Game} {p0a0 : Option Addr} {p0n0 p0c0 : Nat} {p0a1 : Option Addr} {p0n1 p0c1 : Nat} {p1 : Int} {r0 : (Int × Int)} (p0N0 : p0n0 = p0.Mine.length) (p0H0 : p0n0 ≤ p0c0) (p0N1 : p0n1 = p0.Theirs.length) (p0H1 : p0n1 ≤ p0c1) (h : m_hindcastlaw26_Game_pair F p0 p1 = some r0) :
    Pf Tryd.prog 21 [.agg #[.int .u64 p0.Seed, .int .u8 p0.Player, .int .u8 p0.Window, .slice p0a0 p0n0 p0c0, .slice p0a1 p0n1 p0c1], .int .i64 p1] (fun w => Rds w [] [] p0a0 (flat (e1 .u8) p0.Mine) ∧ Rds w [] [] p0a1 (flat (e1 .u8) p0.Theirs)) (.agg #[.int .u8 r0.1, .int .u8 r0.2]) := by
  unfold m_hindcastlaw26_Game_pair at h
  refine pf_of_wc Tryd.func21 rfl Tryd.ntmps21 rfl rfl (fun w0 hR => ?_)
  obtain ⟨p0S0, p0S1⟩ := hR
  refine wc_seq (wc_region (wl_box rfl rfl rfl (fun b2 => (wl_alloc tt_ok rfl rfl (fun b4 => (wl_nil (wx_then (wc_seq (wc_region (wP (v := .agg #[.int .u8 (0 : Int), .int .u8 (0 : Int)]) rfl rfl (wl_alloc tt_ok rfl rfl (fun b5 => ?_))))))))))))
  apply wl_store tt_ok; rfl; exact Upd.here; rfl; rfl; rfl; rfl; rfl; rfl
  refine wl_nil (wx_then (wc_seq (wc_k2 (Ls := (⟨b5, [.int .u8 (0 : Int), .int .u8 (0 : Int)], 45, (0, 0)⟩ :: (⟨b4, [.int .u8 (0 : Int), .int .u8 (0 : Int)], 45, (0, 0)⟩ :: (⟨b2, [.int .u64 p0.Seed, .int .u8 p0.Player, .int .u8 p0.Window, .slice p0a0 p0n0 p0c0, .slice p0a1 p0n1 p0c1], 25, (0, 0)⟩ :: [])))) [6, 7, 8] [7, 8] [0, 1, 3, 0, 8, 0, 56, 127, 255] [0, 1, 2, 3, 4, 5, 6, 7, 8] (by kernel_rfl) (by kernel_rfl) (by kernel_rfl) (k_val (v := .pointer (some ⟨b2, 1, none⟩)) rfl rfl rfl (pSub (pH (pH (pH pNil)))) (stepV_ok tt_ok rfl) rfl (k_val (v := .int .u8 p0.Player) rfl rfl rfl (pSub (pH (pH (pH pNil)))) (val_load tt_ok rfl (mT (mT (mH))) rfl) rfl ?_)))))
  refine k_val (v := .int .u8 (Int.tmod p0.Player 2)) rfl rfl rfl (pSub (pH (pH (pH pNil)))) (stepV_ok tt_ok rfl) rfl ?_
  refine k_val (v := .pointer (some ⟨b2, 3, none⟩)) rfl rfl rfl (pSub (pH (pH (pH pNil)))) (stepV_ok tt_ok rfl) rfl ?_
  refine k_val (v := .slice p0a0 p0n0 p0c0) rfl rfl rfl (pSub (pH (pH (pH pNil)))) (val_load tt_ok rfl (mT (mT (mH))) rfl) rfl ?_
  refine k_val rfl rfl rfl (pSub (pH (pH (pH pNil)))) (stepV_ok tt_ok rfl) rfl ?_
  replace h := bsome h; obtain ⟨v13, x13, h⟩ := h
  refine k_cq rfl rfl rfl Tryd.call10 rfl rfl rfl (q_pf (k_hindcastlaw26_at (p0 := p0.Mine) p0N0 p0H0 x13) (Rds.call p0S0 pNil rsub_nil)) rfl (pSub (pH (pH (pH pNil)))) ?_
  rcases Bool.eq_false_or_eq_true ((Int.tmod p0.Player 2) == (0 : Int)) with hx140 | hx140
  · replace h := ct hx140 h
    refine k_chg rfl rfl rfl (Chg.of_val (v := .pointer (some ⟨b5, 0, none⟩)) (val_ia (j := 0) tt_ok rfl rfl rfl rfl (by simpa using hx140) rfl rfl)) rfl (.inl rfl) ?_
    rintro _ _ ⟨rfl, rfl⟩
    refine k_chg0 rfl rfl rfl (chg_store tt_ok rfl Upd.here rfl rfl rfl rfl rfl rfl) (.inl rfl) ?_
    rintro _ _ rfl
    refine k_end (by kernel_rfl) ?_
    refine wx_then (wc_seq (wc_k2 (Ls := (⟨b5, [.int .u8 v13, .int .u8 (0 : Int)], 45, (0, 0)⟩ :: (⟨b4, [.int .u8 (0 : Int), .int .u8 (0 : Int)], 45, (0, 0)⟩ :: (⟨b2, [.int .u64 p0.Seed, .int .u8 p0.Player, .int .u8 p0.Window, .slice p0a0 p0n0 p0c0, .slice p0a1 p0n1 p0c1], 25, (0, 0)⟩ :: [])))) [7, 8, 9] [8, 9] [0, 1, 3, 7, 0, 16, 0, 112, 255, 511] [0, 1, 2, 3, 4, 5, 6, 7, 8, 9] (by kernel_rfl) (by kernel_rfl) (by kernel_rfl) (k_val (v := .pointer (some ⟨b2, 1, none⟩)) rfl rfl rfl (pSub (pH (pH (pH pNil)))) (stepV_ok tt_ok rfl) rfl (k_val (v := .int .u8 p0.Player) rfl rfl rfl (pSub (pH (pH (pH pNil)))) (val_load tt_ok rfl (mT (mT (mH))) rfl) rfl ?_))))
    refine k_val (v := .int .u8 (Int.tmod p0.Player 2)) rfl rfl rfl (pSub (pH (pH (pH pNil)))) (stepV_ok tt_ok rfl) rfl ?_
    refine k_val (v := .int .u8 (IntKind.wrap .u8 ((1 : Int) - (Int.tmod p0.Player 2)))) rfl rfl rfl (pSub (pH (pH (pH pNil)))) (stepV_ok tt_ok rfl) rfl ?_
    refine k_val (v := .pointer (some ⟨b2, 4, none⟩)) rfl rfl rfl (pSub (pH (pH (pH pNil)))) (stepV_ok tt_ok rfl) rfl ?_
    refine k_val (v := .slice p0a1 p0n1 p0c1) rfl rfl rfl (pSub (pH (pH (pH pNil)))) (val_load tt_ok rfl (mT (mT (mH))) rfl) rfl ?_
    refine k_val rfl rfl rfl (pSub (pH (pH (pH pNil)))) (stepV_ok tt_ok rfl) rfl ?_
    replace h := bsome h; obtain ⟨v22, x22, h⟩ := h
    refine k_cq rfl rfl rfl Tryd.call10 rfl rfl rfl (q_pf (k_hindcastlaw26_at (p0 := p0.Theirs) p0N1 p0H1 x22) (Rds.call p0S1 pNil rsub_nil)) rfl (pSub (pH (pH (pH pNil)))) ?_
    rcases Bool.eq_false_or_eq_true ((IntKind.wrap .u8 ((1 : Int) - (Int.tmod p0.Player 2))) == (0 : Int)) with hx230 | hx230
    · replace h := ct hx230 h
      refine k_chg rfl rfl rfl (Chg.of_val (v := .pointer (some ⟨b5, 0, none⟩)) (val_ia (j := 0) tt_ok rfl rfl rfl rfl (by simpa using hx230) rfl rfl)) rfl (.inl rfl) ?_
      rintro _ _ ⟨rfl, rfl⟩
      refine k_chg0 rfl rfl rfl (chg_store tt_ok rfl Upd.here rfl rfl rfl rfl rfl rfl) (.inl rfl) ?_
      rintro _ _ rfl
      refine k_end (by kernel_rfl) ?_
      refine wx_then (wc_seq (wc_region (wl_val (v := .agg #[.int .u8 v22, .int .u8 (0 : Int)]) (val_load tt_ok rfl (mH) rfl) rfl ?_)))
      apply wl_store tt_ok; rfl; exact (Upd.there Upd.here); rfl; rfl; rfl; rfl; rfl; rfl
      refine wl_nil (wx_then (wc_ret ?_))
      obtain rfl := sI h
      exact wx_pf tt_ok (.inl rfl) Tryd.results21 (Res.cell rfl (mT (mH)) rfl Res.nil) rfl
    replace h := cf hx230 h
    rcases Bool.eq_false_or_eq_true ((IntKind.wrap .u8 ((1 : Int) - (Int.tmod p0.Player 2))) == (1 : Int)) with hx231 | hx231
    · replace h := ct hx231 h
      refine k_chg rfl rfl rfl (Chg.of_val (v := .pointer (some ⟨b5, 1, none⟩)) (val_ia (j := 1) tt_ok rfl rfl rfl rfl (by simpa using hx231) rfl rfl)) rfl (.inl rfl) ?_
      rintro _ _ ⟨rfl, rfl⟩
      refine k_chg0 rfl rfl rfl (chg_store tt_ok rfl Upd.here rfl rfl rfl rfl rfl rfl) (.inl rfl) ?_
      rintro _ _ rfl
      refine k_end (by kernel_rfl) ?_
      refine wx_then (wc_seq (wc_region (wl_val (v := .agg #[.int .u8 v13, .int .u8 v22]) (val_load tt_ok rfl (mH) rfl) rfl ?_)))
      apply wl_store tt_ok; rfl; exact (Upd.there Upd.here); rfl; rfl; rfl; rfl; rfl; rfl
      refine wl_nil (wx_then (wc_ret ?_))
      obtain rfl := sI h
      exact wx_pf tt_ok (.inl rfl) Tryd.results21 (Res.cell rfl (mT (mH)) rfl Res.nil) rfl
    replace h := cf hx231 h
    cases h
  replace h := cf hx140 h
  rcases Bool.eq_false_or_eq_true ((Int.tmod p0.Player 2) == (1 : Int)) with hx141 | hx141
  · replace h := ct hx141 h
    refine k_chg rfl rfl rfl (Chg.of_val (v := .pointer (some ⟨b5, 1, none⟩)) (val_ia (j := 1) tt_ok rfl rfl rfl rfl (by simpa using hx141) rfl rfl)) rfl (.inl rfl) ?_
    rintro _ _ ⟨rfl, rfl⟩
    refine k_chg0 rfl rfl rfl (chg_store tt_ok rfl Upd.here rfl rfl rfl rfl rfl rfl) (.inl rfl) ?_
    rintro _ _ rfl
    refine k_end (by kernel_rfl) ?_
    refine wx_then (wc_seq (wc_k2 (Ls := (⟨b5, [.int .u8 (0 : Int), .int .u8 v13], 45, (0, 0)⟩ :: (⟨b4, [.int .u8 (0 : Int), .int .u8 (0 : Int)], 45, (0, 0)⟩ :: (⟨b2, [.int .u64 p0.Seed, .int .u8 p0.Player, .int .u8 p0.Window, .slice p0a0 p0n0 p0c0, .slice p0a1 p0n1 p0c1], 25, (0, 0)⟩ :: [])))) [7, 8, 9] [8, 9] [0, 1, 3, 7, 0, 16, 0, 112, 255, 511] [0, 1, 2, 3, 4, 5, 6, 7, 8, 9] (by kernel_rfl) (by kernel_rfl) (by kernel_rfl) (k_val (v := .pointer (some ⟨b2, 1, none⟩)) rfl rfl rfl (pSub (pH (pH (pH pNil)))) (stepV_ok tt_ok rfl) rfl (k_val (v := .int .u8 p0.Player) rfl rfl rfl (pSub (pH (pH (pH pNil)))) (val_load tt_ok rfl (mT (mT (mH))) rfl) rfl ?_))))
    refine k_val (v := .int .u8 (Int.tmod p0.Player 2)) rfl rfl rfl (pSub (pH (pH (pH pNil)))) (stepV_ok tt_ok rfl) rfl ?_
    refine k_val (v := .int .u8 (IntKind.wrap .u8 ((1 : Int) - (Int.tmod p0.Player 2)))) rfl rfl rfl (pSub (pH (pH (pH pNil)))) (stepV_ok tt_ok rfl) rfl ?_
    refine k_val (v := .pointer (some ⟨b2, 4, none⟩)) rfl rfl rfl (pSub (pH (pH (pH pNil)))) (stepV_ok tt_ok rfl) rfl ?_
    refine k_val (v := .slice p0a1 p0n1 p0c1) rfl rfl rfl (pSub (pH (pH (pH pNil)))) (val_load tt_ok rfl (mT (mT (mH))) rfl) rfl ?_
    refine k_val rfl rfl rfl (pSub (pH (pH (pH pNil)))) (stepV_ok tt_ok rfl) rfl ?_
    replace h := bsome h; obtain ⟨v22, x22, h⟩ := h
    refine k_cq rfl rfl rfl Tryd.call10 rfl rfl rfl (q_pf (k_hindcastlaw26_at (p0 := p0.Theirs) p0N1 p0H1 x22) (Rds.call p0S1 pNil rsub_nil)) rfl (pSub (pH (pH (pH pNil)))) ?_
    rcases Bool.eq_false_or_eq_true ((IntKind.wrap .u8 ((1 : Int) - (Int.tmod p0.Player 2))) == (0 : Int)) with hx230 | hx230
    · replace h := ct hx230 h
      refine k_chg rfl rfl rfl (Chg.of_val (v := .pointer (some ⟨b5, 0, none⟩)) (val_ia (j := 0) tt_ok rfl rfl rfl rfl (by simpa using hx230) rfl rfl)) rfl (.inl rfl) ?_
      rintro _ _ ⟨rfl, rfl⟩
      refine k_chg0 rfl rfl rfl (chg_store tt_ok rfl Upd.here rfl rfl rfl rfl rfl rfl) (.inl rfl) ?_
      rintro _ _ rfl
      refine k_end (by kernel_rfl) ?_
      refine wx_then (wc_seq (wc_region (wl_val (v := .agg #[.int .u8 v22, .int .u8 v13]) (val_load tt_ok rfl (mH) rfl) rfl ?_)))
      apply wl_store tt_ok; rfl; exact (Upd.there Upd.here); rfl; rfl; rfl; rfl; rfl; rfl
      refine wl_nil (wx_then (wc_ret ?_))
      obtain rfl := sI h
      exact wx_pf tt_ok (.inl rfl) Tryd.results21 (Res.cell rfl (mT (mH)) rfl Res.nil) rfl
    replace h := cf hx230 h
    rcases Bool.eq_false_or_eq_true ((IntKind.wrap .u8 ((1 : Int) - (Int.tmod p0.Player 2))) == (1 : Int)) with hx231 | hx231
    · replace h := ct hx231 h
      refine k_chg rfl rfl rfl (Chg.of_val (v := .pointer (some ⟨b5, 1, none⟩)) (val_ia (j := 1) tt_ok rfl rfl rfl rfl (by simpa using hx231) rfl rfl)) rfl (.inl rfl) ?_
      rintro _ _ ⟨rfl, rfl⟩
      refine k_chg0 rfl rfl rfl (chg_store tt_ok rfl Upd.here rfl rfl rfl rfl rfl rfl) (.inl rfl) ?_
      rintro _ _ rfl
      refine k_end (by kernel_rfl) ?_
      refine wx_then (wc_seq (wc_region (wl_val (v := .agg #[.int .u8 (0 : Int), .int .u8 v22]) (val_load tt_ok rfl (mH) rfl) rfl ?_)))
      apply wl_store tt_ok; rfl; exact (Upd.there Upd.here); rfl; rfl; rfl; rfl; rfl; rfl
      refine wl_nil (wx_then (wc_ret ?_))
      obtain rfl := sI h
      exact wx_pf tt_ok (.inl rfl) Tryd.results21 (Res.cell rfl (mT (mH)) rfl Res.nil) rfl
    replace h := cf hx231 h
    cases h
  replace h := cf hx141 h
  cases h

theorem k_hindcastlaw26_Game_pairs {F : Nat} {p0 : T_hindcastlaw26_Game} {p0a0 : Option Addr} {p0n0 p0c0 : Nat} {p0a1 : Option Addr} {p0n1 p0c1 : Nat} {p1 : Int} {r0 : (List (Int × Int))} (p0N0 : p0n0 = p0.Mine.length) (p0H0 : p0n0 ≤ p0c0) (p0N1 : p0n1 = p0.Theirs.length) (p0H1 : p0n1 ≤ p0c1) (h : m_hindcastlaw26_Game_pairs F p0 p1 = some r0) :
    SpD Tryd.prog 24 [.agg #[.int .u64 p0.Seed, .int .u8 p0.Player, .int .u8 p0.Window, .slice p0a0 p0n0 p0c0, .slice p0a1 p0n1 p0c1], .int .i64 p1] [] (fun w => Rds w (ids []) [] p0a0 (flat (e1 .u8) p0.Mine) ∧ Rds w (ids []) [] p0a1 (flat (e1 .u8) p0.Theirs)) (fun v D => ∃ (r0a0 : Option Addr) (r0n0 : Nat) (r0c0 : Nat) (r0B0 : List Blk), r0n0 = r0.length ∧ Own 45 2 r0a0 r0n0 r0c0 (flat (e2 .u8) r0) r0B0 ∧ v = .slice r0a0 r0n0 r0c0 ∧ D = fun F => (r0B0 ++ F)) := by
  unfold m_hindcastlaw26_Game_pairs at h
  refine sp_of_wc Tryd.func24 rfl Tryd.ntmps24 rfl rfl (fun w0 hR => ?_)
  obtain ⟨p0S0, p0S1⟩ := hR
  refine wc_seq (wc_region (wl_box rfl rfl rfl (fun b2 => (wP rfl rfl (wl_nil (wx_then (wc_seq (wc_region (wP rfl rfl (wl_nil (wx_then (wc_seq (wc_seq (wc_region (wP rfl rfl (wl_nil (wx_then (wc_block ?_))))))))))))))))))
  replace h := bsome h; obtain ⟨zi, h, hl9⟩ := h
  refine wc_loop (fun m E L => ∃ (za : (List (Int × Int))) (zf : Int) (zd : Option Addr) (zb : Nat) (ze : Nat) (zc : List Blk), m_hindcastlaw26_Game_pairs_L8 F p0 p1 m za zf = some zi ∧ zb = za.length ∧ Own 45 2 zd zb ze (flat (e2 .u8) za) zc ∧ E = [(1, .int .i64 p1), (2, .pointer (some ⟨b2, 0, none⟩)), (4, .slice none 0 0), (5, .slice zd zb ze), (6, .int .i64 zf)] ∧ L = (⟨b2, [.int .u64 p0.Seed, .int .u8 p0.Player, .int .u8 p0.Window, .slice p0a0 p0n0 p0c0, .slice p0a1 p0n1 p0c1], 25, (0, 0)⟩ :: (zc ++ []))) F ⟨([] : List (Int × Int)), (0 : Int), none, 0, 0, [], h, rfl, Own.zero, rfl, rfl⟩ (agree_cons rfl (agree_cons rfl (agree_cons rfl (agree_cons rfl (agree_cons rfl agree_nil))))) (pSub (pH (pNo pNil))) ?_
  clear h
  rintro m9 _ _ ⟨za, zf, zd, zb, ze, zc, h, zg, zh, rfl, rfl⟩
  rcases m9 with _ | m9
  · rw [m_hindcastlaw26_Game_pairs_L8.eq_1] at h; cases h
  rw [m_hindcastlaw26_Game_pairs_L8.eq_2] at h
  refine wc_seq (wc_seq (wc_region ?_))
  iterate 2 refine wP rfl rfl ?_
  refine wP (v := .bool (decide (zf < p1))) rfl rfl (wl_nil (wx_then (wc_cond rfl (fun hc => ?_) (fun hc => ?_))))
  · replace h := ct hc h
    refine wc_skip (wx_then (wc_seq (wc_block (wc_region (wP rfl rfl (wl_val (v := .agg #[.int .u64 p0.Seed, .int .u8 p0.Player, .int .u8 p0.Window, .slice p0a0 p0n0 p0c0, .slice p0a1 p0n1 p0c1]) (val_load tt_ok rfl (mH) rfl) rfl (wP rfl rfl ?_)))))))
    replace h := bsome h; obtain ⟨v15, x15, h⟩ := h
    refine wl_cq Tryd.call21 rfl rfl rfl (q_pf (k_hindcastlaw26_Game_pair (p0 := p0) p0N0 p0H0 p0N1 p0H1 x15) (fun w hI => ⟨(Rds.call p0S0 pNil rsub_nil) w hI, (Rds.call p0S1 pNil rsub_nil) w hI⟩)) rfl ?_
    refine wl_chg (chg_bsv (enc := (e2 .u8)) (xs := ([v15] : List (Int × Int))) tt_ok rfl rfl rfl rfl rfl rfl rfl rfl (e2_len _)) rfl ?_
    rintro _ _ ⟨a16, n16_, c16, B16, rfl, N16, V16, rfl⟩
    replace h := bsome h; obtain ⟨v17, x17, h⟩ := h
    refine wl_chg (chg_app (enc := (e2 .u8)) (ys := ([v15] : List (Int × Int))) tt_ok rfl rfl rfl rfl rfl rfl zg N16 zh (sA (sC hA')) (Rds.of_vec V16) ⟨_, hA'⟩ (e2_len _) (fun _ => rfl) rfl x17) rfl ?_
    rintro _ _ ⟨a17, n17_, c17, B17, rfl, N17, V17, rfl⟩
    refine wP rfl rfl (wl_nil (wx_block (wx_then (wc_region (wP rfl rfl (wP (v := .int .i64 (IntKind.wrap .i64 (zf + (1 : Int)))) rfl rfl (wP rfl rfl (wl_nil ?_))))))))
    exact wx_round m9 (Nat.lt_succ_self m9) ⟨v17, (IntKind.wrap .i64 (zf + (1 : Int))), a17, n17_, c17, B17, h, N17, V17, rfl, rfl⟩ (agree_cons rfl (agree_cons rfl (agree_cons rfl (agree_cons rfl (agree_cons rfl agree_nil))))) (pSub (pCons (sA (sA hC)) (pA pNil)))
  replace h := cf hc h
  refine wc_exit (wx_then_exit ?_)
  obtain rfl := sI h
  have h := hl9; clear hl9; try dsimp only [orE_l, orE_r] at h
  refine wx_then_exit (wx_block_exit (wx_then (wc_seq (wc_region ?_))))
  iterate 2 refine wP rfl rfl ?_
  refine wl_nil (wx_then (wc_ret ?_))
  obtain rfl := sI h
  exact wx_spD tt_ok (.inl rfl) Tryd.results24 (Res.tmp rfl Res.nil) ⟨zd, zb, ze, zc, zg, zh, rfl, rfl⟩ (fun F => by simp) (pSub (pApp (sC hA') pNil))

theorem k_fold_Fold {F : Nat} {p0 : T_api_State} {p0a0 : Option Addr} {p0n0 p0c0 : Nat} {p1 : (List (Int × Int))} {p1a0 : Option Addr} {p1n0 p1c0 : Nat} {r0 : T_api_State} (p0N0 : p0n0 = p0.Shots.length) (p0H0 : p0n0 ≤ p0c0) (p1N0 : p1n0 = p1.length) (p1H0 : p1n0 ≤ p1c0) (h : m_fold_Fold F p0 p1 = some r0) :
    SpD Tryd.prog 23 [.agg #[.int .u64 p0.Frame, .int .u64 p0.Seed, .int .i32 p0.Players.1.X, .int .i32 p0.Players.1.Y, .int .i32 p0.Players.1.VX, .int .i32 p0.Players.1.VY, .int .u8 p0.Players.1.Health, .int .u8 p0.Players.1.Cool, .int .u8 p0.Players.1.Face, .int .i32 p0.Players.2.X, .int .i32 p0.Players.2.Y, .int .i32 p0.Players.2.VX, .int .i32 p0.Players.2.VY, .int .u8 p0.Players.2.Health, .int .u8 p0.Players.2.Cool, .int .u8 p0.Players.2.Face, .slice p0a0 p0n0 p0c0, .int .u16 p0.Score.1, .int .u16 p0.Score.2], .slice p1a0 p1n0 p1c0] [] (fun w => Rds w (ids []) [] p0a0 (flat c_T_api_Shot p0.Shots) ∧ Rds w (ids []) [] p1a0 (flat (e2 .u8) p1) ∧ Rds w (ids []) [] (some ⟨0, 0, none⟩) (flat (fun _ : Unit => gl_state_playerBounds) [()]) ∧ Rds w (ids []) [] (some ⟨1, 0, none⟩) (flat (fun _ : Unit => gl_state_shotBounds) [()])) (fun v D => ∃ (r0a0 : Option Addr) (r0n0 : Nat) (r0c0 : Nat) (r0B0 : List Blk), r0n0 = r0.Shots.length ∧ Own 80 6 r0a0 r0n0 r0c0 (flat c_T_api_Shot r0.Shots) r0B0 ∧ v = .agg #[.int .u64 r0.Frame, .int .u64 r0.Seed, .int .i32 r0.Players.1.X, .int .i32 r0.Players.1.Y, .int .i32 r0.Players.1.VX, .int .i32 r0.Players.1.VY, .int .u8 r0.Players.1.Health, .int .u8 r0.Players.1.Cool, .int .u8 r0.Players.1.Face, .int .i32 r0.Players.2.X, .int .i32 r0.Players.2.Y, .int .i32 r0.Players.2.VX, .int .i32 r0.Players.2.VY, .int .u8 r0.Players.2.Health, .int .u8 r0.Players.2.Cool, .int .u8 r0.Players.2.Face, .slice r0a0 r0n0 r0c0, .int .u16 r0.Score.1, .int .u16 r0.Score.2] ∧ D = fun F => (r0B0 ++ F)) := by
  unfold m_fold_Fold at h
  refine sp_of_wc Tryd.func23 rfl Tryd.ntmps23 rfl rfl (fun w0 hR => ?_)
  obtain ⟨p0S0, p1S0, G0S, G1S⟩ := hR
  refine wc_seq (wc_region (wl_box rfl rfl rfl (fun b2 => (wl_alloc tt_ok rfl rfl (fun b4 => (wl_nil (wx_then (wc_seq (wc_region (wl_val (v := .agg #[.int .u64 p0.Frame, .int .u64 p0.Seed, .int .i32 p0.Players.1.X, .int .i32 p0.Players.1.Y, .int .i32 p0.Players.1.VX, .int .i32 p0.Players.1.VY, .int .u8 p0.Players.1.Health, .int .u8 p0.Players.1.Cool, .int .u8 p0.Players.1.Face, .int .i32 p0.Players.2.X, .int .i32 p0.Players.2.Y, .int .i32 p0.Players.2.VX, .int .i32 p0.Players.2.VY, .int .u8 p0.Players.2.Health, .int .u8 p0.Players.2.Cool, .int .u8 p0.Players.2.Face, .slice p0a0 p0n0 p0c0, .int .u16 p0.Score.1, .int .u16 p0.Score.2]) (val_load tt_ok rfl (mT (mH)) rfl) rfl ?_))))))))))
  replace h := bsome h; obtain ⟨v8, x8, h⟩ := h
  refine wl_cs Tryd.call26 rfl rfl rfl (s_sp (k_state_Copy (p0 := p0) p0N0 p0H0 x8) pNil (Rds.call p0S0 pNil rsub_nil)) rfl ?_
  rintro _ _ ⟨_, ⟨v8a0, v8n0, v8c0, v8B0, v8N0, v8V0, rfl, rfl⟩, rfl⟩
  apply wl_store tt_ok; rfl; exact (Upd.right (Upd.there Upd.here)); rfl; rfl; rfl; rfl; rfl; rfl
  refine wl_nil (wx_then (wc_seq (wc_seq (wc_region (wP rfl rfl (wl_val (v := .int .i64 (p1.length : Int)) (val_len tt_ok rfl rfl p1N0) rfl (wP rfl rfl (wl_nil (wx_then (wc_block ?_))))))))))
  replace h := bsome h; obtain ⟨⟨zm, zn, zo, zp, zq⟩, h, hl9⟩ := h; try dsimp only at hl9
  refine wc_loop (fun m E L => ∃ (zj : Int) (zg : Int) (zh : Int) (zb : (T_api_Player × T_api_Player)) (za : (List T_api_Shot)) (zd : (Int × Int)) (ze : Option Addr) (zc : Nat) (zf : Nat) (zi : List Blk), m_fold_Fold_L8 F p1 m zj zg zh zb za zd = some (zm, zn, zo, zp, zq) ∧ zc = za.length ∧ Own 80 6 ze zc zf (flat c_T_api_Shot za) zi ∧ E = [(2, .pointer (some ⟨b2, 0, none⟩)), (4, .pointer (some ⟨b4, 0, none⟩)), (9, .slice p1a0 p1n0 p1c0), (10, .int .i64 (p1.length : Int)), (11, .int .i64 zj)] ∧ L = (⟨b2, (.int .u64 zg :: .int .u64 zh :: pl14 zb [.slice ze zc zf, .int .u16 zd.1, .int .u16 zd.2]), 36, (0, 0)⟩ :: (⟨b4, [.int .u64 (0 : Int), .int .u64 (0 : Int), .int .i32 (0 : Int), .int .i32 (0 : Int), .int .i32 (0 : Int), .int .i32 (0 : Int), .int .u8 (0 : Int), .int .u8 (0 : Int), .int .u8 (0 : Int), .int .i32 (0 : Int), .int .i32 (0 : Int), .int .i32 (0 : Int), .int .i32 (0 : Int), .int .u8 (0 : Int), .int .u8 (0 : Int), .int .u8 (0 : Int), .slice none 0 0, .int .u16 (0 : Int), .int .u16 (0 : Int)], 36, (0, 0)⟩ :: (zi ++ [])))) F ⟨(0 : Int), v8.Frame, v8.Seed, v8.Players, v8.Shots, v8.Score, v8a0, v8n0, v8c0, v8B0, h, v8N0, v8V0, rfl, rfl⟩ (agree_cons rfl (agree_cons rfl (agree_cons rfl (agree_cons rfl (agree_cons rfl agree_nil))))) (pSub (pCons (sA (sC hC)) (pCons (sA hC) (pA pNil)))) ?_
  clear h
  rintro m9 _ _ ⟨zj, zg, zh, zb, za, zd, ze, zc, zf, zi, h, zl, zk, rfl, rfl⟩
  rcases m9 with _ | m9
  · rw [m_fold_Fold_L8.eq_1] at h; cases h
  rw [m_fold_Fold_L8.eq_2] at h
  refine wc_seq (wc_region (wP (v := .bool (decide (zj < (p1.length : Int)))) rfl rfl (wl_nil (wx_then (wc_seq (wc_cond rfl (fun hc => ?_) (fun hc => ?_)))))))
  · replace h := ct hc h
    refine wc_skip (wx_then (wc_seq (wc_block (wc_seq (wc_region ?_)))))
    replace h := bsome h; obtain ⟨v13, x13, h⟩ := h
    refine wl_val (v := .pointer (some ((adOf p1a0).add (zj.toNat * 2 + 0)))) (val_ix (enc := (e2 .u8)) tt_ok rfl rfl rfl rfl p1N0 p1S0 (e2_len _) rfl x13) rfl ?_
    refine wl_val (v := .agg #[.int .u8 v13.1, .int .u8 v13.2]) (val_le (enc := (e2 .u8)) (xs := p1) tt_ok rfl p1S0 rsub_nil (e2_len _) x13 rfl) rfl ?_
    refine wl_alloc tt_ok rfl rfl (fun b6 => ?_)
    apply wl_store tt_ok; rfl; exact Upd.here; rfl; rfl; rfl; rfl; rfl; rfl
    refine wl_nil (wx_then (wc_region (wl_val (v := .agg #[.int .u64 zg, .int .u64 zh, .int .i32 zb.1.X, .int .i32 zb.1.Y, .int .i32 zb.1.VX, .int .i32 zb.1.VY, .int .u8 zb.1.Health, .int .u8 zb.1.Cool, .int .u8 zb.1.Face, .int .i32 zb.2.X, .int .i32 zb.2.Y, .int .i32 zb.2.VX, .int .i32 zb.2.VY, .int .u8 zb.2.Health, .int .u8 zb.2.Cool, .int .u8 zb.2.Face, .slice ze zc zf, .int .u16 zd.1, .int .u16 zd.2]) (val_load tt_ok rfl (mT (mH)) rfl) rfl (wl_val (v := .agg #[.int .u8 v13.1, .int .u8 v13.2]) (val_load tt_ok rfl (mH) rfl) rfl ?_))))
    replace h := bsome h; obtain ⟨v17, x17, h⟩ := h
    refine wl_cs Tryd.call38 rfl rfl rfl (s_sp (k_step_Step (p0 := (T_api_State.mk zg zh zb za zd)) zl (vec_cap zk) x17) pNil (fun w hI => ⟨(Rds.call (Rds.of_vec zk) pNil ⟨_, (sC (sC (sC hA')))⟩) w hI, (Rds.call G0S pNil rsub_nil) w hI, (Rds.call G1S pNil rsub_nil) w hI⟩)) rfl ?_
    rintro _ _ ⟨_, ⟨v17a0, v17n0, v17c0, v17B0, v17N0, v17V0, rfl, rfl⟩, rfl⟩
    apply wl_store tt_ok; rfl; exact (Upd.right (Upd.there Upd.here)); rfl; rfl; rfl; rfl; rfl; rfl
    refine wl_nil (wx_block (wx_then (wc_region (wP (v := .int .i64 (IntKind.wrap .i64 (zj + (1 : Int)))) rfl rfl (wP rfl rfl (wl_nil ?_))))))
    exact wx_round m9 (Nat.lt_succ_self m9) ⟨(IntKind.wrap .i64 (zj + (1 : Int))), v17.Frame, v17.Seed, v17.Players, v17.Shots, v17.Score, v17a0, v17n0, v17c0, v17B0, h, v17N0, v17V0, rfl, rfl⟩ (agree_cons rfl (agree_cons rfl (agree_cons rfl (agree_cons rfl (agree_cons rfl agree_nil))))) (pSub (pCons (sA (sC hC)) (pCons (sA (sC hC)) (pA pNil))))
  replace h := cf hc h
  refine wc_exit (wx_then_exit ?_)
  simp only [Option.some.injEq, Prod.mk.injEq] at h
  obtain ⟨rfl, rfl, rfl, rfl, rfl⟩ := h
  have h := hl9; clear hl9; try dsimp only [orE_l, orE_r] at h
  refine wx_then_exit (wx_block_exit (wx_then (wc_seq (wc_region ?_))))
  refine wl_val (v := .agg #[.int .u64 zg, .int .u64 zh, .int .i32 zb.1.X, .int .i32 zb.1.Y, .int .i32 zb.1.VX, .int .i32 zb.1.VY, .int .u8 zb.1.Health, .int .u8 zb.1.Cool, .int .u8 zb.1.Face, .int .i32 zb.2.X, .int .i32 zb.2.Y, .int .i32 zb.2.VX, .int .i32 zb.2.VY, .int .u8 zb.2.Health, .int .u8 zb.2.Cool, .int .u8 zb.2.Face, .slice ze zc zf, .int .u16 zd.1, .int .u16 zd.2]) (val_load tt_ok rfl (mH) rfl) rfl ?_
  apply wl_store tt_ok; rfl; exact (Upd.there Upd.here); rfl; rfl; rfl; rfl; rfl; rfl
  refine wl_nil (wx_then (wc_ret ?_))
  obtain rfl := sI h
  exact wx_spD tt_ok (.inl rfl) Tryd.results23 (Res.cell rfl (mT (mH)) rfl Res.nil) ⟨ze, zc, zf, zi, zl, zk, rfl, rfl⟩ (fun F => by simp) (pSub (pApp (sC (sC hA')) pNil))

theorem k_hindcastlaw26_Game_shown {F : Nat} {p0 : T_hindcastlaw26_Game} {p0a0 : Option Addr} {p0n0 p0c0 : Nat} {p0a1 : Option Addr} {p0n1 p0c1 : Nat} {p1 : Int} {p2 : Int} {p3 : Int} {r0 : T_api_State} (p0N0 : p0n0 = p0.Mine.length) (p0H0 : p0n0 ≤ p0c0) (p0N1 : p0n1 = p0.Theirs.length) (p0H1 : p0n1 ≤ p0c1) (h : m_hindcastlaw26_Game_shown F p0 p1 p2 p3 = some r0) :
    SpD Tryd.prog 22 [.agg #[.int .u64 p0.Seed, .int .u8 p0.Player, .int .u8 p0.Window, .slice p0a0 p0n0 p0c0, .slice p0a1 p0n1 p0c1], .int .i64 p1, .int .i64 p2, .int .i64 p3] [] (fun w => Rds w (ids []) [] p0a0 (flat (e1 .u8) p0.Mine) ∧ Rds w (ids []) [] p0a1 (flat (e1 .u8) p0.Theirs) ∧ Rds w (ids []) [] (some ⟨0, 0, none⟩) (flat (fun _ : Unit => gl_state_playerBounds) [()]) ∧ Rds w (ids []) [] (some ⟨1, 0, none⟩) (flat (fun _ : Unit => gl_state_shotBounds) [()])) (fun v D => ∃ (r0a0 : Option Addr) (r0n0 : Nat) (r0c0 : Nat) (r0B0 : List Blk), r0n0 = r0.Shots.length ∧ Own 80 6 r0a0 r0n0 r0c0 (flat c_T_api_Shot r0.Shots) r0B0 ∧ v = .agg #[.int .u64 r0.Frame, .int .u64 r0.Seed, .int .i32 r0.Players.1.X, .int .i32 r0.Players.1.Y, .int .i32 r0.Players.1.VX, .int .i32 r0.Players.1.VY, .int .u8 r0.Players.1.Health, .int .u8 r0.Players.1.Cool, .int .u8 r0.Players.1.Face, .int .i32 r0.Players.2.X, .int .i32 r0.Players.2.Y, .int .i32 r0.Players.2.VX, .int .i32 r0.Players.2.VY, .int .u8 r0.Players.2.Health, .int .u8 r0.Players.2.Cool, .int .u8 r0.Players.2.Face, .slice r0a0 r0n0 r0c0, .int .u16 r0.Score.1, .int .u16 r0.Score.2] ∧ D = fun F => (r0B0 ++ F)) := by
  unfold m_hindcastlaw26_Game_shown at h
  refine sp_of_wc Tryd.func22 rfl Tryd.ntmps22 rfl rfl (fun w0 hR => ?_)
  obtain ⟨p0S0, p0S1, G0S, G1S⟩ := hR
  refine wc_seq (wc_region (wl_box rfl rfl rfl (fun b4 => (wl_alloc tt_ok rfl rfl (fun b8 => (wl_nil (wx_then (wc_seq ?_))))))))
  replace h := bsome h; obtain ⟨v14, x14, h⟩ := h
  replace h := bsome h; obtain ⟨v17, x17, h⟩ := h
  replace h := bsome h; obtain ⟨v18, x18, h⟩ := h
  refine wc_join2 (fun E L => ∃ (b9 : Nat) (v18a0 : Option Addr) (v18n0 : Nat) (v18c0 : Nat) (v18B0 : List Blk), v18n0 = v18.Shots.length ∧ Own 80 6 v18a0 v18n0 v18c0 (flat c_T_api_Shot v18.Shots) v18B0 ∧ E = [(1, .int .i64 p1), (2, .int .i64 p2), (3, .int .i64 p3), (4, .pointer (some ⟨b4, 0, none⟩)), (8, .pointer (some ⟨b8, 0, none⟩)), (9, .pointer (some ⟨b9, 0, none⟩))] ∧ L = (⟨b4, [.int .u64 p0.Seed, .int .u8 p0.Player, .int .u8 p0.Window, .slice p0a0 p0n0 p0c0, .slice p0a1 p0n1 p0c1], 25, (0, 0)⟩ :: (⟨b8, [.int .u64 (0 : Int), .int .u64 (0 : Int), .int .i32 (0 : Int), .int .i32 (0 : Int), .int .i32 (0 : Int), .int .i32 (0 : Int), .int .u8 (0 : Int), .int .u8 (0 : Int), .int .u8 (0 : Int), .int .i32 (0 : Int), .int .i32 (0 : Int), .int .i32 (0 : Int), .int .i32 (0 : Int), .int .u8 (0 : Int), .int .u8 (0 : Int), .int .u8 (0 : Int), .slice none 0 0, .int .u16 (0 : Int), .int .u16 (0 : Int)], 36, (0, 0)⟩ :: (⟨b9, (.int .u64 v18.Frame :: .int .u64 v18.Seed :: pl14 v18.Players [.slice v18a0 v18n0 v18c0, .int .u16 v18.Score.1, .int .u16 v18.Score.2]), 36, (0, 0)⟩ :: (v18B0 ++ []))))) ?_ ?_
  · refine wc_k2 (Ls := (⟨b8, [.int .u64 (0 : Int), .int .u64 (0 : Int), .int .i32 (0 : Int), .int .i32 (0 : Int), .int .i32 (0 : Int), .int .i32 (0 : Int), .int .u8 (0 : Int), .int .u8 (0 : Int), .int .u8 (0 : Int), .int .i32 (0 : Int), .int .i32 (0 : Int), .int .i32 (0 : Int), .int .i32 (0 : Int), .int .u8 (0 : Int), .int .u8 (0 : Int), .int .u8 (0 : Int), .slice none 0 0, .int .u16 (0 : Int), .int .u16 (0 : Int)], 36, (0, 0)⟩ :: (⟨b4, [.int .u64 p0.Seed, .int .u8 p0.Player, .int .u8 p0.Window, .slice p0a0 p0n0 p0c0, .slice p0a1 p0n1 p0c1], 25, (0, 0)⟩ :: []))) [2, 5, 6, 7, 8] [5, 6, 8] [0, 1, 3, 0, 0, 31, 63, 0, 255] [0, 1, 3, 4] (by kernel_rfl) (by kernel_rfl) (by kernel_rfl) ?_
    refine k_val (v := .pointer (some ⟨b4, 0, none⟩)) rfl rfl rfl (pSub (pH (pH pNil))) (stepV_ok tt_ok rfl) rfl ?_
    refine k_val (v := .int .u64 p0.Seed) rfl rfl rfl (pSub (pH (pH pNil))) (val_load tt_ok rfl (mT (mH)) rfl) rfl ?_
    refine k_val (v := .agg #[.int .u64 p0.Seed, .int .u8 p0.Player, .int .u8 p0.Window, .slice p0a0 p0n0 p0c0, .slice p0a1 p0n1 p0c1]) rfl rfl rfl (pSub (pH (pH pNil))) (val_load tt_ok rfl (mT (mH)) rfl) rfl ?_
    refine k_val rfl rfl rfl (pSub (pH (pH pNil))) (stepV_ok tt_ok rfl) rfl ?_
    refine k_two (i := 2) (j := 7) (t1 := []) (t2 := [2, 5, 6, 8]) (by kernel_rfl) (by kernel_rfl) (by kernel_rfl) (by kernel_rfl) ?_ ?_
    · refine k_csf rfl rfl Tryd.call8 rfl rfl rfl (s_sp (k_state_Start x14) pNil (fun _ _ => trivial)) rfl (.inr (by rintro _ _ ⟨_, ⟨_, _, _, _, _, _, rfl, rfl⟩, rfl⟩; exact ⟨_, (pCons (sA hC) (pCons (sA hC) pNil))⟩)) ?_
      rintro _ _ ⟨_, ⟨v14a0, v14n0, v14c0, v14B0, v14N0, v14V0, rfl, rfl⟩, rfl⟩
      refine k_two (i := 5) (j := 7) (t1 := []) (t2 := [5, 6, 8]) (by kernel_rfl) (by kernel_rfl) (by kernel_rfl) (by kernel_rfl) ?_ ?_
      · refine k_csf rfl rfl Tryd.call24 rfl rfl rfl (s_sp (k_hindcastlaw26_Game_pairs (p0 := p0) p0N0 p0H0 p0N1 p0H1 x17) pNil (fun w hI => ⟨(Rds.call p0S0 pNil rsub_nil) w hI, (Rds.call p0S1 pNil rsub_nil) w hI⟩)) rfl (.inl rfl) ?_
        rintro _ _ ⟨_, ⟨v17a0, v17n0, v17c0, v17B0, v17N0, v17V0, rfl, rfl⟩, rfl⟩
        refine k_two (i := 6) (j := 7) (t1 := [7, 8]) (t2 := [6, 8]) (by kernel_rfl) (by kernel_rfl) (by kernel_rfl) (by kernel_rfl) ?_ ?_
        · refine k_csf rfl rfl Tryd.call23 rfl rfl rfl (s_sp (k_fold_Fold (p0 := v14) (p1 := v17) v14N0 (vec_cap v14V0) v17N0 (vec_cap v17V0) x18) pNil (fun w hI => ⟨(Rds.call (Rds.of_vec v14V0) pNil ⟨_, (sA hA')⟩) w hI, (Rds.call (Rds.of_vec v17V0) pNil ⟨_, hA'⟩) w hI, (Rds.call G0S pNil rsub_nil) w hI, (Rds.call G1S pNil rsub_nil) w hI⟩)) rfl (.inl rfl) ?_
          rintro _ _ ⟨_, ⟨v18a0, v18n0, v18c0, v18B0, v18N0, v18V0, rfl, rfl⟩, rfl⟩
          refine k_chg rfl rfl rfl (chg_alloc tt_ok rfl) rfl (.inr (by rintro _ _ ⟨_, rfl, rfl⟩; exact ⟨_, (pCons (sC (sA (sA (sA hC)))) (pCons (sC (sA (sA (sA hC)))) pNil))⟩)) ?_
          rintro _ _ ⟨b9, rfl, rfl⟩
          refine k_chg0 rfl rfl rfl (chg_store tt_ok rfl Upd.here rfl rfl rfl rfl rfl rfl) (.inl rfl) ?_
          rintro _ _ rfl
          refine k_end (by kernel_rfl) ?_
          exact wx_join ⟨b9, v18a0, v18n0, v18c0, v18B0, v18N0, v18V0, rfl, rfl⟩ (agree_cons rfl (agree_cons rfl (agree_cons rfl (agree_cons rfl (agree_cons rfl (agree_cons rfl agree_nil)))))) (pSub (pCons (sC (sA (sA (sA (sC hC))))) (pCons (sC (sA (sA (sA hC)))) (pH (pA pNil)))))
        refine k_chgf rfl rfl (chg_alloc tt_ok rfl) rfl (.inr (by rintro _ _ ⟨_, rfl, rfl⟩; exact ⟨_, (pCons (sC (sA (sA hC))) (pCons (sC (sA (sA hC))) pNil))⟩)) ?_
        rintro _ _ ⟨b9, rfl, rfl⟩
        refine k_cs rfl rfl rfl Tryd.call23 rfl rfl rfl (s_sp (k_fold_Fold (p0 := v14) (p1 := v17) v14N0 (vec_cap v14V0) v17N0 (vec_cap v17V0) x18) pNil (fun w hI => ⟨(Rds.call (Rds.of_vec v14V0) pNil ⟨_, (sC (sA hA'))⟩) w hI, (Rds.call (Rds.of_vec v17V0) pNil ⟨_, (sC hA')⟩) w hI, (Rds.call G0S pNil rsub_nil) w hI, (Rds.call G1S pNil rsub_nil) w hI⟩)) rfl (.inl rfl) ?_
        rintro _ _ ⟨_, ⟨v18a0, v18n0, v18c0, v18B0, v18N0, v18V0, rfl, rfl⟩, rfl⟩
        refine k_chg0 rfl rfl rfl (chg_store tt_ok rfl (Upd.right Upd.here) rfl rfl rfl rfl rfl rfl) (.inl rfl) ?_
        rintro _ _ rfl
        refine k_end (by kernel_rfl) ?_
        exact wx_join ⟨b9, v18a0, v18n0, v18c0, v18B0, v18N0, v18V0, rfl, rfl⟩ (agree_cons rfl (agree_cons rfl (agree_cons rfl (agree_cons rfl (agree_cons rfl (agree_cons rfl agree_nil)))))) (pSub (pCons (sA (sC (sA (sA (sC hC))))) (pCons (sA (sC (sA (sA hC)))) (pCons (sA hC) (pA pNil)))))
      refine k_chgf rfl rfl (chg_alloc tt_ok rfl) rfl (.inr (by rintro _ _ ⟨_, rfl, rfl⟩; exact ⟨_, (pCons (sC (sA hC)) (pCons (sC (sA hC)) pNil))⟩)) ?_
      rintro _ _ ⟨b9, rfl, rfl⟩
      refine k_cs rfl rfl rfl Tryd.call24 rfl rfl rfl (s_sp (k_hindcastlaw26_Game_pairs (p0 := p0) p0N0 p0H0 p0N1 p0H1 x17) pNil (fun w hI => ⟨(Rds.call p0S0 pNil rsub_nil) w hI, (Rds.call p0S1 pNil rsub_nil) w hI⟩)) rfl (.inl rfl) ?_
      rintro _ _ ⟨_, ⟨v17a0, v17n0, v17c0, v17B0, v17N0, v17V0, rfl, rfl⟩, rfl⟩
      refine k_cs rfl rfl rfl Tryd.call23 rfl rfl rfl (s_sp (k_fold_Fold (p0 := v14) (p1 := v17) v14N0 (vec_cap v14V0) v17N0 (vec_cap v17V0) x18) pNil (fun w hI => ⟨(Rds.call (Rds.of_vec v14V0) pNil ⟨_, (sA (sC hA'))⟩) w hI, (Rds.call (Rds.of_vec v17V0) pNil ⟨_, hA'⟩) w hI, (Rds.call G0S pNil rsub_nil) w hI, (Rds.call G1S pNil rsub_nil) w hI⟩)) rfl (.inl rfl) ?_
      rintro _ _ ⟨_, ⟨v18a0, v18n0, v18c0, v18B0, v18N0, v18V0, rfl, rfl⟩, rfl⟩
      refine k_chg0 rfl rfl rfl (chg_store tt_ok rfl (Upd.right (Upd.right Upd.here)) rfl rfl rfl rfl rfl rfl) (.inl rfl) ?_
      rintro _ _ rfl
      refine k_end (by kernel_rfl) ?_
      exact wx_join ⟨b9, v18a0, v18n0, v18c0, v18B0, v18N0, v18V0, rfl, rfl⟩ (agree_cons rfl (agree_cons rfl (agree_cons rfl (agree_cons rfl (agree_cons rfl (agree_cons rfl agree_nil)))))) (pSub (pCons (sA (sA (sC (sA (sC hC))))) (pCons (sA (sA (sC (sA hC)))) (pCons (sA (sA hC)) (pA pNil)))))
    refine k_chgf rfl rfl (chg_alloc tt_ok rfl) rfl (.inr (by rintro _ _ ⟨_, rfl, rfl⟩; exact ⟨_, (pCons (sC hC) (pCons (sC hC) pNil))⟩)) ?_
    rintro _ _ ⟨b9, rfl, rfl⟩
    refine k_cs rfl rfl rfl Tryd.call8 rfl rfl rfl (s_sp (k_state_Start x14) pNil (fun _ _ => trivial)) rfl (.inr (by rintro _ _ ⟨_, ⟨_, _, _, _, _, _, rfl, rfl⟩, rfl⟩; exact ⟨_, (pCons (sA (sC hC)) (pCons (sA (sC hC)) pNil))⟩)) ?_
    rintro _ _ ⟨_, ⟨v14a0, v14n0, v14c0, v14B0, v14N0, v14V0, rfl, rfl⟩, rfl⟩
    refine k_cs rfl rfl rfl Tryd.call24 rfl rfl rfl (s_sp (k_hindcastlaw26_Game_pairs (p0 := p0) p0N0 p0H0 p0N1 p0H1 x17) pNil (fun w hI => ⟨(Rds.call p0S0 pNil rsub_nil) w hI, (Rds.call p0S1 pNil rsub_nil) w hI⟩)) rfl (.inl rfl) ?_
    rintro _ _ ⟨_, ⟨v17a0, v17n0, v17c0, v17B0, v17N0, v17V0, rfl, rfl⟩, rfl⟩
    refine k_cs rfl rfl rfl Tryd.call23 rfl rfl rfl (s_sp (k_fold_Fold (p0 := v14) (p1 := v17) v14N0 (vec_cap v14V0) v17N0 (vec_cap v17V0) x18) pNil (fun w hI => ⟨(Rds.call (Rds.of_vec v14V0) pNil ⟨_, (sA hA')⟩) w hI, (Rds.call (Rds.of_vec v17V0) pNil ⟨_, hA'⟩) w hI, (Rds.call G0S pNil rsub_nil) w hI, (Rds.call G1S pNil rsub_nil) w hI⟩)) rfl (.inl rfl) ?_
    rintro _ _ ⟨_, ⟨v18a0, v18n0, v18c0, v18B0, v18N0, v18V0, rfl, rfl⟩, rfl⟩
    refine k_chg0 rfl rfl rfl (chg_store tt_ok rfl (Upd.right (Upd.right (Upd.right Upd.here))) rfl rfl rfl rfl rfl rfl) (.inl rfl) ?_
    rintro _ _ rfl
    refine k_end (by kernel_rfl) ?_
    exact wx_join ⟨b9, v18a0, v18n0, v18c0, v18B0, v18N0, v18V0, rfl, rfl⟩ (agree_cons rfl (agree_cons rfl (agree_cons rfl (agree_cons rfl (agree_cons rfl (agree_cons rfl agree_nil)))))) (pSub (pCons (sA (sA (sA (sC (sC hC))))) (pCons (sA (sA (sA (sC hC)))) (pCons (sA (sA (sA hC))) (pA pNil)))))
  rintro _ _ ⟨b9, v18a0, v18n0, v18c0, v18B0, v18N0, v18V0, rfl, rfl⟩
  refine wc_seq (wc_seq (wc_region ?_))
  iterate 2 refine wP rfl rfl ?_
  refine wl_nil (wx_then (wc_block ?_))
  replace h := bsome h; obtain ⟨⟨zn, zo, zp, zq, zr⟩, h, hl9⟩ := h; try dsimp only at hl9
  refine wc_loop (fun m E L => ∃ (zk : Int) (zg : Int) (zh : Int) (zb : (T_api_Player × T_api_Player)) (za : (List T_api_Shot)) (zc : (Int × Int)) (ze : Option Addr) (zd : Nat) (zf : Nat) (zi : List Blk), m_hindcastlaw26_Game_shown_L8 F p0 p2 p3 m zk zg zh zb za zc = some (zn, zo, zp, zq, zr) ∧ zd = za.length ∧ Own 80 6 ze zd zf (flat c_T_api_Shot za) zi ∧ E = [(2, .int .i64 p2), (3, .int .i64 p3), (4, .pointer (some ⟨b4, 0, none⟩)), (8, .pointer (some ⟨b8, 0, none⟩)), (9, .pointer (some ⟨b9, 0, none⟩)), (10, .int .i64 zk)] ∧ L = (⟨b4, [.int .u64 p0.Seed, .int .u8 p0.Player, .int .u8 p0.Window, .slice p0a0 p0n0 p0c0, .slice p0a1 p0n1 p0c1], 25, (0, 0)⟩ :: (⟨b8, [.int .u64 (0 : Int), .int .u64 (0 : Int), .int .i32 (0 : Int), .int .i32 (0 : Int), .int .i32 (0 : Int), .int .i32 (0 : Int), .int .u8 (0 : Int), .int .u8 (0 : Int), .int .u8 (0 : Int), .int .i32 (0 : Int), .int .i32 (0 : Int), .int .i32 (0 : Int), .int .i32 (0 : Int), .int .u8 (0 : Int), .int .u8 (0 : Int), .int .u8 (0 : Int), .slice none 0 0, .int .u16 (0 : Int), .int .u16 (0 : Int)], 36, (0, 0)⟩ :: (⟨b9, (.int .u64 zg :: .int .u64 zh :: pl14 zb [.slice ze zd zf, .int .u16 zc.1, .int .u16 zc.2]), 36, (0, 0)⟩ :: (zi ++ []))))) F ⟨p1, v18.Frame, v18.Seed, v18.Players, v18.Shots, v18.Score, v18a0, v18n0, v18c0, v18B0, h, v18N0, v18V0, rfl, rfl⟩ (agree_cons rfl (agree_cons rfl (agree_cons rfl (agree_cons rfl (agree_cons rfl (agree_cons rfl agree_nil)))))) (pSub (pH (pH (pH (pA pNil))))) ?_
  clear h
  rintro m9 _ _ ⟨zk, zg, zh, zb, za, zc, ze, zd, zf, zi, h, zm, zl, rfl, rfl⟩
  rcases m9 with _ | m9
  · rw [m_hindcastlaw26_Game_shown_L8.eq_1] at h; cases h
  rw [m_hindcastlaw26_Game_shown_L8.eq_2] at h
  refine wc_seq (wc_seq (wc_region ?_))
  iterate 2 refine wP rfl rfl ?_
  refine wP (v := .bool (decide (zk < p2))) rfl rfl (wl_nil (wx_then (wc_cond rfl (fun hc => ?_) (fun hc => ?_))))
  · replace h := ct hc h
    refine wc_skip (wx_then (wc_seq (wc_block (wc_seq (wc_region (wl_val (v := .agg #[.int .u64 p0.Seed, .int .u8 p0.Player, .int .u8 p0.Window, .slice p0a0 p0n0 p0c0, .slice p0a1 p0n1 p0c1]) (val_load tt_ok rfl (mH) rfl) rfl (wP rfl rfl ?_)))))))
    replace h := bsome h; obtain ⟨v27, x27, h⟩ := h
    refine wl_cq Tryd.call21 rfl rfl rfl (q_pf (k_hindcastlaw26_Game_pair (p0 := p0) p0N0 p0H0 p0N1 p0H1 x27) (fun w hI => ⟨(Rds.call p0S0 pNil rsub_nil) w hI, (Rds.call p0S1 pNil rsub_nil) w hI⟩)) rfl ?_
    refine wl_alloc tt_ok rfl rfl (fun b11 => ?_)
    apply wl_store tt_ok; rfl; exact Upd.here; rfl; rfl; rfl; rfl; rfl; rfl
    refine wl_nil (wx_then (wc_seq (wc_seq (wc_region ?_))))
    iterate 2 refine wP rfl rfl ?_
    refine wP (v := .bool (decide (p3 ≤ zk))) rfl rfl (wl_nil (wx_then ?_))
    replace h := bsome h; obtain ⟨zj, h, hj23⟩ := h
    refine wc_join2 (fun E L => E = [(2, .int .i64 p2), (3, .int .i64 p3), (4, .pointer (some ⟨b4, 0, none⟩)), (8, .pointer (some ⟨b8, 0, none⟩)), (9, .pointer (some ⟨b9, 0, none⟩)), (10, .int .i64 zk), (11, .pointer (some ⟨b11, 0, none⟩))] ∧ L = (⟨b4, [.int .u64 p0.Seed, .int .u8 p0.Player, .int .u8 p0.Window, .slice p0a0 p0n0 p0c0, .slice p0a1 p0n1 p0c1], 25, (0, 0)⟩ :: (⟨b8, [.int .u64 (0 : Int), .int .u64 (0 : Int), .int .i32 (0 : Int), .int .i32 (0 : Int), .int .i32 (0 : Int), .int .i32 (0 : Int), .int .u8 (0 : Int), .int .u8 (0 : Int), .int .u8 (0 : Int), .int .i32 (0 : Int), .int .i32 (0 : Int), .int .i32 (0 : Int), .int .i32 (0 : Int), .int .u8 (0 : Int), .int .u8 (0 : Int), .int .u8 (0 : Int), .slice none 0 0, .int .u16 (0 : Int), .int .u16 (0 : Int)], 36, (0, 0)⟩ :: (⟨b9, (.int .u64 zg :: .int .u64 zh :: pl14 zb [.slice ze zd zf, .int .u16 zc.1, .int .u16 zc.2]), 36, (0, 0)⟩ :: (⟨b11, [.int .u8 zj.1, .int .u8 zj.2], 45, (0, 0)⟩ :: (zi ++ [])))))) ?_ ?_
    · refine wc_cond rfl (fun hc => ?_) (fun hc => ?_)
      · replace h := ct hc h
        refine wc_seq (wc_region (wP (v := .pointer (some ⟨b4, 1, none⟩)) rfl rfl (wl_val (v := .int .u8 p0.Player) (val_load tt_ok rfl (mT (mH)) rfl) rfl (wP (v := .int .u8 (Int.tmod p0.Player 2)) rfl rfl (wP (v := .int .u8 (IntKind.wrap .u8 ((1 : Int) - (Int.tmod p0.Player 2)))) rfl rfl ?_)))))
        rcases Bool.eq_false_or_eq_true ((IntKind.wrap .u8 ((1 : Int) - (Int.tmod p0.Player 2))) == (0 : Int)) with hx350 | hx350
        · replace h := ct hx350 h
          refine wl_val (v := .pointer (some ⟨b11, 0, none⟩)) (val_ia (j := 0) tt_ok rfl rfl rfl rfl (by simpa using hx350) rfl rfl) rfl ?_
          apply wl_store tt_ok; rfl; exact Upd.here; rfl; rfl; rfl; rfl; rfl; rfl
          refine wl_nil (wx_then (wc_seq (wc_region (wP rfl rfl (wP (v := .bool (decide ((0 : Int) < p3))) rfl rfl (wl_nil (wx_then (wc_cond rfl (fun hc => ?_) (fun hc => ?_)))))))))
          · replace h := ct hc h
            refine wc_k2 (Ls := (⟨b11, [.int .u8 (0 : Int), .int .u8 v27.2], 45, (0, 0)⟩ :: (⟨b4, [.int .u64 p0.Seed, .int .u8 p0.Player, .int .u8 p0.Window, .slice p0a0 p0n0 p0c0, .slice p0a1 p0n1 p0c1], 25, (0, 0)⟩ :: (⟨b8, [.int .u64 (0 : Int), .int .u64 (0 : Int), .int .i32 (0 : Int), .int .i32 (0 : Int), .int .i32 (0 : Int), .int .i32 (0 : Int), .int .u8 (0 : Int), .int .u8 (0 : Int), .int .u8 (0 : Int), .int .i32 (0 : Int), .int .i32 (0 : Int), .int .i32 (0 : Int), .int .i32 (0 : Int), .int .u8 (0 : Int), .int .u8 (0 : Int), .int .u8 (0 : Int), .slice none 0 0, .int .u16 (0 : Int), .int .u16 (0 : Int)], 36, (0, 0)⟩ :: (⟨b9, (.int .u64 zg :: .int .u64 zh :: pl14 zb [.slice ze zd zf, .int .u16 zc.1, .int .u16 zc.2]), 36, (0, 0)⟩ :: (zi ++ [])))))) [8, 9, 10] [9, 10] [0, 1, 3, 7, 0, 16, 0, 64, 240, 511, 1023] [0, 1, 2, 3, 4, 5, 6, 7, 8, 9, 10] (by kernel_rfl) (by kernel_rfl) (by kernel_rfl) ?_
            refine k_val (v := .pointer (some ⟨b4, 1, none⟩)) rfl rfl rfl (pSub (pH (pH (pH (pH (pA pNil)))))) (stepV_ok tt_ok rfl) rfl ?_
            refine k_val (v := .int .u8 p0.Player) rfl rfl rfl (pSub (pH (pH (pH (pH (pA pNil)))))) (val_load tt_ok rfl (mT (mH)) rfl) rfl ?_
            refine k_val (v := .int .u8 (Int.tmod p0.Player 2)) rfl rfl rfl (pSub (pH (pH (pH (pH (pA pNil)))))) (stepV_ok tt_ok rfl) rfl ?_
            refine k_val (v := .int .u8 (IntKind.wrap .u8 ((1 : Int) - (Int.tmod p0.Player 2)))) rfl rfl rfl (pSub (pH (pH (pH (pH (pA pNil)))))) (stepV_ok tt_ok rfl) rfl ?_
            refine k_val (v := .pointer (some ⟨b4, 4, none⟩)) rfl rfl rfl (pSub (pH (pH (pH (pH (pA pNil)))))) (stepV_ok tt_ok rfl) rfl ?_
            refine k_val (v := .slice p0a1 p0n1 p0c1) rfl rfl rfl (pSub (pH (pH (pH (pH (pA pNil)))))) (val_load tt_ok rfl (mT (mH)) rfl) rfl ?_
            refine k_val rfl rfl rfl (pSub (pH (pH (pH (pH (pA pNil)))))) (stepV_ok tt_ok rfl) rfl ?_
            refine k_val (v := .int .i64 (IntKind.wrap .i64 (p3 - (1 : Int)))) rfl rfl rfl (pSub (pH (pH (pH (pH (pA pNil)))))) (stepV_ok tt_ok rfl) rfl ?_
            replace h := bsome h; obtain ⟨v46, x46, h⟩ := h
            refine k_cq rfl rfl rfl Tryd.call10 rfl rfl rfl (q_pf (k_hindcastlaw26_at (p0 := p0.Theirs) p0N1 p0H1 x46) (Rds.call p0S1 pNil rsub_nil)) rfl (pSub (pH (pH (pH (pH (pA pNil)))))) ?_
            refine k_chg rfl rfl rfl (Chg.of_val (v := .pointer (some ⟨b11, 0, none⟩)) (val_ia (j := 0) tt_ok rfl rfl rfl rfl (by simpa using hx350) rfl rfl)) rfl (.inl rfl) ?_
            rintro _ _ ⟨rfl, rfl⟩
            refine k_chg0 rfl rfl rfl (chg_store tt_ok rfl Upd.here rfl rfl rfl rfl rfl rfl) (.inl rfl) ?_
            rintro _ _ rfl
            refine k_end (by kernel_rfl) ?_
            obtain rfl := sI h
            exact wx_join ⟨rfl, rfl⟩ (agree_cons rfl (agree_cons rfl (agree_cons rfl (agree_cons rfl (agree_cons rfl (agree_cons rfl (agree_cons rfl agree_nil))))))) (pSub (pCons (sC hC) (pCons (sC hC) (pCons (sC hC) (pH (pA pNil))))))
          replace h := cf hc h
          refine wc_skip ?_
          obtain rfl := sI h
          exact wx_join ⟨rfl, rfl⟩ (agree_cons rfl (agree_cons rfl (agree_cons rfl (agree_cons rfl (agree_cons rfl (agree_cons rfl (agree_cons rfl agree_nil))))))) (pSub (pCons (sC hC) (pCons (sC hC) (pCons (sC hC) (pH (pA pNil))))))
        replace h := cf hx350 h
        rcases Bool.eq_false_or_eq_true ((IntKind.wrap .u8 ((1 : Int) - (Int.tmod p0.Player 2))) == (1 : Int)) with hx351 | hx351
        · replace h := ct hx351 h
          refine wl_val (v := .pointer (some ⟨b11, 1, none⟩)) (val_ia (j := 1) tt_ok rfl rfl rfl rfl (by simpa using hx351) rfl rfl) rfl ?_
          apply wl_store tt_ok; rfl; exact Upd.here; rfl; rfl; rfl; rfl; rfl; rfl
          refine wl_nil (wx_then (wc_seq (wc_region (wP rfl rfl (wP (v := .bool (decide ((0 : Int) < p3))) rfl rfl (wl_nil (wx_then (wc_cond rfl (fun hc => ?_) (fun hc => ?_)))))))))
          · replace h := ct hc h
            refine wc_k2 (Ls := (⟨b11, [.int .u8 v27.1, .int .u8 (0 : Int)], 45, (0, 0)⟩ :: (⟨b4, [.int .u64 p0.Seed, .int .u8 p0.Player, .int .u8 p0.Window, .slice p0a0 p0n0 p0c0, .slice p0a1 p0n1 p0c1], 25, (0, 0)⟩ :: (⟨b8, [.int .u64 (0 : Int), .int .u64 (0 : Int), .int .i32 (0 : Int), .int .i32 (0 : Int), .int .i32 (0 : Int), .int .i32 (0 : Int), .int .u8 (0 : Int), .int .u8 (0 : Int), .int .u8 (0 : Int), .int .i32 (0 : Int), .int .i32 (0 : Int), .int .i32 (0 : Int), .int .i32 (0 : Int), .int .u8 (0 : Int), .int .u8 (0 : Int), .int .u8 (0 : Int), .slice none 0 0, .int .u16 (0 : Int), .int .u16 (0 : Int)], 36, (0, 0)⟩ :: (⟨b9, (.int .u64 zg :: .int .u64 zh :: pl14 zb [.slice ze zd zf, .int .u16 zc.1, .int .u16 zc.2]), 36, (0, 0)⟩ :: (zi ++ [])))))) [8, 9, 10] [9, 10] [0, 1, 3, 7, 0, 16, 0, 64, 240, 511, 1023] [0, 1, 2, 3, 4, 5, 6, 7, 8, 9, 10] (by kernel_rfl) (by kernel_rfl) (by kernel_rfl) ?_
            refine k_val (v := .pointer (some ⟨b4, 1, none⟩)) rfl rfl rfl (pSub (pH (pH (pH (pH (pA pNil)))))) (stepV_ok tt_ok rfl) rfl ?_
            refine k_val (v := .int .u8 p0.Player) rfl rfl rfl (pSub (pH (pH (pH (pH (pA pNil)))))) (val_load tt_ok rfl (mT (mH)) rfl) rfl ?_
            refine k_val (v := .int .u8 (Int.tmod p0.Player 2)) rfl rfl rfl (pSub (pH (pH (pH (pH (pA pNil)))))) (stepV_ok tt_ok rfl) rfl ?_
            refine k_val (v := .int .u8 (IntKind.wrap .u8 ((1 : Int) - (Int.tmod p0.Player 2)))) rfl rfl rfl (pSub (pH (pH (pH (pH (pA pNil)))))) (stepV_ok tt_ok rfl) rfl ?_
            refine k_val (v := .pointer (some ⟨b4, 4, none⟩)) rfl rfl rfl (pSub (pH (pH (pH (pH (pA pNil)))))) (stepV_ok tt_ok rfl) rfl ?_
            refine k_val (v := .slice p0a1 p0n1 p0c1) rfl rfl rfl (pSub (pH (pH (pH (pH (pA pNil)))))) (val_load tt_ok rfl (mT (mH)) rfl) rfl ?_
            refine k_val rfl rfl rfl (pSub (pH (pH (pH (pH (pA pNil)))))) (stepV_ok tt_ok rfl) rfl ?_
            refine k_val (v := .int .i64 (IntKind.wrap .i64 (p3 - (1 : Int)))) rfl rfl rfl (pSub (pH (pH (pH (pH (pA pNil)))))) (stepV_ok tt_ok rfl) rfl ?_
            replace h := bsome h; obtain ⟨v46, x46, h⟩ := h
            refine k_cq rfl rfl rfl Tryd.call10 rfl rfl rfl (q_pf (k_hindcastlaw26_at (p0 := p0.Theirs) p0N1 p0H1 x46) (Rds.call p0S1 pNil rsub_nil)) rfl (pSub (pH (pH (pH (pH (pA pNil)))))) ?_
            refine k_chg rfl rfl rfl (Chg.of_val (v := .pointer (some ⟨b11, 1, none⟩)) (val_ia (j := 1) tt_ok rfl rfl rfl rfl (by simpa using hx351) rfl rfl)) rfl (.inl rfl) ?_
            rintro _ _ ⟨rfl, rfl⟩
            refine k_chg0 rfl rfl rfl (chg_store tt_ok rfl Upd.here rfl rfl rfl rfl rfl rfl) (.inl rfl) ?_
            rintro _ _ rfl
            refine k_end (by kernel_rfl) ?_
            obtain rfl := sI h
            exact wx_join ⟨rfl, rfl⟩ (agree_cons rfl (agree_cons rfl (agree_cons rfl (agree_cons rfl (agree_cons rfl (agree_cons rfl (agree_cons rfl agree_nil))))))) (pSub (pCons (sC hC) (pCons (sC hC) (pCons (sC hC) (pH (pA pNil))))))
          replace h := cf hc h
          refine wc_skip ?_
          obtain rfl := sI h
          exact wx_join ⟨rfl, rfl⟩ (agree_cons rfl (agree_cons rfl (agree_cons rfl (agree_cons rfl (agree_cons rfl (agree_cons rfl (agree_cons rfl agree_nil))))))) (pSub (pCons (sC hC) (pCons (sC hC) (pCons (sC hC) (pH (pA pNil))))))
        replace h := cf hx351 h
        cases h
      replace h := cf hc h
      refine wc_skip ?_
      obtain rfl := sI h
      exact wx_join ⟨rfl, rfl⟩ (agree_cons rfl (agree_cons rfl (agree_cons rfl (agree_cons rfl (agree_cons rfl (agree_cons rfl (agree_cons rfl agree_nil))))))) (pSub (pCons (sC hC) (pCons (sC hC) (pCons (sC hC) (pH (pA pNil))))))
    rintro _ _ ⟨rfl, rfl⟩
    have h := hj23; clear hj23
    refine wc_region (wl_val (v := .agg #[.int .u64 zg, .int .u64 zh, .int .i32 zb.1.X, .int .i32 zb.1.Y, .int .i32 zb.1.VX, .int .i32 zb.1.VY, .int .u8 zb.1.Health, .int .u8 zb.1.Cool, .int .u8 zb.1.Face, .int .i32 zb.2.X, .int .i32 zb.2.Y, .int .i32 zb.2.VX, .int .i32 zb.2.VY, .int .u8 zb.2.Health, .int .u8 zb.2.Cool, .int .u8 zb.2.Face, .slice ze zd zf, .int .u16 zc.1, .int .u16 zc.2]) (val_load tt_ok rfl (mT (mT (mH))) rfl) rfl (wl_val (v := .agg #[.int .u8 zj.1, .int .u8 zj.2]) (val_load tt_ok rfl (mT (mT (mT (mH)))) rfl) rfl ?_))
    refine wl_chg (chg_bsv (enc := (e2 .u8)) (xs := ([zj] : List (Int × Int))) tt_ok rfl rfl rfl rfl rfl rfl rfl rfl (e2_len _)) rfl ?_
    rintro _ _ ⟨a50, n50_, c50, B50, rfl, N50, V50, rfl⟩
    replace h := bsome h; obtain ⟨v51, x51, h⟩ := h
    refine wl_cs Tryd.call23 rfl rfl rfl (s_sp (k_fold_Fold (p0 := (T_api_State.mk zg zh zb za zc)) (p1 := ([zj] : List (Int × Int))) zm (vec_cap zl) N50 (vec_cap V50) x51) pNil (fun w hI => ⟨(Rds.call (Rds.of_vec zl) pNil ⟨_, (sA (sC (sC (sC (sC hA')))))⟩) w hI, (Rds.call (Rds.of_vec V50) pNil ⟨_, hA'⟩) w hI, (Rds.call G0S pNil rsub_nil) w hI, (Rds.call G1S pNil rsub_nil) w hI⟩)) rfl ?_
    rintro _ _ ⟨_, ⟨v51a0, v51n0, v51c0, v51B0, v51N0, v51V0, rfl, rfl⟩, rfl⟩
    apply wl_store tt_ok; rfl; exact (Upd.right (Upd.right (Upd.there (Upd.there Upd.here)))); rfl; rfl; rfl; rfl; rfl; rfl
    refine wl_nil (wx_block (wx_then (wc_region (wP rfl rfl (wP (v := .int .i64 (IntKind.wrap .i64 (zk + (1 : Int)))) rfl rfl (wP rfl rfl (wl_nil ?_)))))))
    exact wx_round m9 (Nat.lt_succ_self m9) ⟨(IntKind.wrap .i64 (zk + (1 : Int))), v51.Frame, v51.Seed, v51.Players, v51.Shots, v51.Score, v51a0, v51n0, v51c0, v51B0, h, v51N0, v51V0, rfl, rfl⟩ (agree_cons rfl (agree_cons rfl (agree_cons rfl (agree_cons rfl (agree_cons rfl (agree_cons rfl agree_nil)))))) (pSub (pCons (sA (sA hC)) (pCons (sA (sA hC)) (pCons (sA (sA hC)) (pA pNil)))))
  replace h := cf hc h
  refine wc_exit (wx_then_exit ?_)
  simp only [Option.some.injEq, Prod.mk.injEq] at h
  obtain ⟨rfl, rfl, rfl, rfl, rfl⟩ := h
  have h := hl9; clear hl9; try dsimp only [orE_l, orE_r] at h
  refine wx_then_exit (wx_block_exit (wx_then (wc_seq (wc_region ?_))))
  refine wl_val (v := .agg #[.int .u64 zg, .int .u64 zh, .int .i32 zb.1.X, .int .i32 zb.1.Y, .int .i32 zb.1.VX, .int .i32 zb.1.VY, .int .u8 zb.1.Health, .int .u8 zb.1.Cool, .int .u8 zb.1.Face, .int .i32 zb.2.X, .int .i32 zb.2.Y, .int .i32 zb.2.VX, .int .i32 zb.2.VY, .int .u8 zb.2.Health, .int .u8 zb.2.Cool, .int .u8 zb.2.Face, .slice ze zd zf, .int .u16 zc.1, .int .u16 zc.2]) (val_load tt_ok rfl (mT (mT (mH))) rfl) rfl ?_
  apply wl_store tt_ok; rfl; exact (Upd.there Upd.here); rfl; rfl; rfl; rfl; rfl; rfl
  refine wl_nil (wx_then (wc_ret ?_))
  obtain rfl := sI h
  exact wx_spD tt_ok (.inl rfl) Tryd.results22 (Res.cell rfl (mT (mH)) rfl Res.nil) ⟨ze, zd, zf, zi, zm, zl, rfl, rfl⟩ (fun F => by simp) (pSub (pApp (sC (sC (sC hA'))) pNil))

theorem k_slices_Equal___api_Shot_api_Shot {F : Nat} {p0 : (List T_api_Shot)} {p0a0 : Option Addr} {p0n0 p0c0 : Nat} {p1 : (List T_api_Shot)} {p1a0 : Option Addr} {p1n0 p1c0 : Nat} {r0 : Bool} (p0N0 : p0n0 = p0.length) (p0H0 : p0n0 ≤ p0c0) (p1N0 : p1n0 = p1.length) (p1H0 : p1n0 ≤ p1c0) (h : m_slices_Equal___api_Shot_api_Shot F p0 p1 = some r0) :
    Pf Tryd.prog 41 [.slice p0a0 p0n0 p0c0, .slice p1a0 p1n0 p1c0] (fun w => Rds w [] [] p0a0 (flat c_T_api_Shot p0) ∧ Rds w [] [] p1a0 (flat c_T_api_Shot p1)) (.bool r0) := by
  unfold m_slices_Equal___api_Shot_api_Shot at h
  refine pf_of_wc Tryd.func41 rfl Tryd.ntmps41 rfl rfl (fun w0 hR => ?_)
  obtain ⟨p0S0, p1S0⟩ := hR
  refine wc_seq (wc_region (wP rfl rfl (wl_nil (wx_then (wc_seq (wc_seq (wc_region (wP rfl rfl (wl_val (v := .int .i64 (p0.length : Int)) (val_len tt_ok rfl rfl p0N0) rfl (wP rfl rfl (wl_val (v := .int .i64 (p1.length : Int)) (val_len tt_ok rfl rfl p1N0) rfl (wP (v := .bool ((p0.length : Int) != (p1.length : Int))) rfl rfl (wl_nil (wx_then (wc_cond rfl (fun hc => ?_) (fun hc => ?_))))))))))))))))
  · replace h := ct hc h
    refine wc_seq (wc_region (wP rfl rfl (wl_nil (wx_then (wc_ret (wx_then_ret ?_))))))
    obtain rfl := sI h
    exact wx_pf tt_ok (.inl rfl) Tryd.results41 (Res.tmp rfl Res.nil) rfl
  replace h := cf hc h
  refine wc_skip (wx_then (wc_seq (wc_seq (wc_region (wP rfl rfl (wl_val (v := .int .i64 (p0.length : Int)) (val_len tt_ok rfl rfl p0N0) rfl (wP rfl rfl (wl_nil (wx_then (wc_block ?_))))))))))
  replace h := bsome h; obtain ⟨o15, h, hl15⟩ := h
  refine wc_loop (fun m E L => ∃ (za : Int), m_slices_Equal___api_Shot_api_Shot_L14 F p0 p1 m za = some o15 ∧ E = [(0, .slice p0a0 p0n0 p0c0), (1, .slice p1a0 p1n0 p1c0), (4, .bool false), (12, .int .i64 (p0.length : Int)), (13, .int .i64 za)] ∧ L = []) F ⟨(0 : Int), h, rfl, rfl⟩ (agree_cons rfl (agree_cons rfl (agree_cons rfl (agree_cons rfl (agree_cons rfl agree_nil))))) (pSub pNil) ?_
  clear h
  rintro m15 _ _ ⟨za, h, rfl, rfl⟩
  rcases m15 with _ | m15
  · rw [m_slices_Equal___api_Shot_api_Shot_L14.eq_1] at h; cases h
  rw [m_slices_Equal___api_Shot_api_Shot_L14.eq_2] at h
  refine wc_seq (wc_region (wP (v := .bool (decide (za < (p0.length : Int)))) rfl rfl (wl_nil (wx_then (wc_seq (wc_cond rfl (fun hc => ?_) (fun hc => ?_)))))))
  · replace h := ct hc h
    refine wc_skip (wx_then (wc_seq (wc_block (wc_seq (wc_region ?_)))))
    iterate 2 refine wP rfl rfl ?_
    refine wl_nil (wx_then (wc_seq (wc_quiet (by kernel_rfl) (by kernel_rfl) (qP rfl rfl (qP rfl rfl ?_)))))
    replace h := bsome h; obtain ⟨v18, x18, h⟩ := h
    refine wq_val (v := .pointer (some ((adOf p0a0).add (za.toNat * 6 + 0)))) (val_ix (enc := c_T_api_Shot) tt_ok rfl rfl rfl rfl p0N0 p0S0 c_T_api_Shot_len rfl x18) rfl ?_
    refine wq_val (v := .agg #[.int .i32 v18.X, .int .i32 v18.Y, .int .i32 v18.VX, .int .i32 v18.VY, .int .u8 v18.Owner, .int .u8 v18.Life]) (val_le (enc := c_T_api_Shot) (xs := p0) tt_ok rfl p0S0 rsub_nil c_T_api_Shot_len x18 rfl) rfl ?_
    refine qP rfl rfl (qP rfl rfl ?_)
    replace h := bsome h; obtain ⟨v22, x22, h⟩ := h
    refine wq_val (v := .pointer (some ((adOf p1a0).add (za.toNat * 6 + 0)))) (val_ix (enc := c_T_api_Shot) tt_ok rfl rfl rfl rfl p1N0 p1S0 c_T_api_Shot_len rfl x22) rfl ?_
    refine wq_val (v := .agg #[.int .i32 v22.X, .int .i32 v22.Y, .int .i32 v22.VX, .int .i32 v22.VY, .int .u8 v22.Owner, .int .u8 v22.Life]) (val_le (enc := c_T_api_Shot) (xs := p1) tt_ok rfl p1S0 rsub_nil c_T_api_Shot_len x22 rfl) rfl ?_
    refine wq_val (v := .bool (!((v18.X == v22.X) && ((v18.Y == v22.Y) && ((v18.VX == v22.VX) && ((v18.VY == v22.VY) && ((v18.Owner == v22.Owner) && (v18.Life == v22.Life)))))))) (val_nes tt_ok tt_eq tt_one Tryd.eqGuardType80 rfl rfl rfl rfl rfl) rfl ?_
    refine wq_nil (wx_then (wc_cond rfl (fun hc => ?_) (fun hc => ?_)))
    · replace h := ct hc h
      refine wc_seq (wc_region (wP rfl rfl (wl_nil (wx_then (wc_ret (wx_block_ret (wx_then_ret ?_)))))))
      obtain rfl := Option.some.inj h
      have h := hl15; clear hl15; try dsimp only [orE_l, orE_r] at h
      refine wx_then_ret (wx_block_ret (wx_then_ret ?_))
      obtain rfl := sI h
      exact wx_pf tt_ok (.inl rfl) Tryd.results41 (Res.tmp rfl Res.nil) rfl
    replace h := cf hc h
    refine wc_skip (wx_block (wx_then (wc_region (wP (v := .int .i64 (IntKind.wrap .i64 (za + (1 : Int)))) rfl rfl (wP rfl rfl (wl_nil ?_))))))
    exact wx_round m15 (Nat.lt_succ_self m15) ⟨(IntKind.wrap .i64 (za + (1 : Int))), h, rfl, rfl⟩ (agree_cons rfl (agree_cons rfl (agree_cons rfl (agree_cons rfl (agree_cons rfl agree_nil))))) (pSub pNil)
  replace h := cf hc h
  refine wc_exit (wx_then_exit ?_)
  obtain rfl := Option.some.inj h
  have h := hl15; clear hl15; try dsimp only [orE_l, orE_r] at h
  refine wx_then_exit (wx_block_exit (wx_then (wc_seq (wc_region ?_))))
  refine wP rfl rfl (wl_nil (wx_then (wc_ret ?_)))
  obtain rfl := sI h
  exact wx_pf tt_ok (.inl rfl) Tryd.results41 (Res.tmp rfl Res.nil) rfl

theorem k_state_Same {F : Nat} {p0 : T_api_State} {p0a0 : Option Addr} {p0n0 p0c0 : Nat} {p1 : T_api_State} {p1a0 : Option Addr} {p1n0 p1c0 : Nat} {r0 : Bool} (p0N0 : p0n0 = p0.Shots.length) (p0H0 : p0n0 ≤ p0c0) (p1N0 : p1n0 = p1.Shots.length) (p1H0 : p1n0 ≤ p1c0) (h : m_state_Same F p0 p1 = some r0) :
    Pf Tryd.prog 14 [.agg #[.int .u64 p0.Frame, .int .u64 p0.Seed, .int .i32 p0.Players.1.X, .int .i32 p0.Players.1.Y, .int .i32 p0.Players.1.VX, .int .i32 p0.Players.1.VY, .int .u8 p0.Players.1.Health, .int .u8 p0.Players.1.Cool, .int .u8 p0.Players.1.Face, .int .i32 p0.Players.2.X, .int .i32 p0.Players.2.Y, .int .i32 p0.Players.2.VX, .int .i32 p0.Players.2.VY, .int .u8 p0.Players.2.Health, .int .u8 p0.Players.2.Cool, .int .u8 p0.Players.2.Face, .slice p0a0 p0n0 p0c0, .int .u16 p0.Score.1, .int .u16 p0.Score.2], .agg #[.int .u64 p1.Frame, .int .u64 p1.Seed, .int .i32 p1.Players.1.X, .int .i32 p1.Players.1.Y, .int .i32 p1.Players.1.VX, .int .i32 p1.Players.1.VY, .int .u8 p1.Players.1.Health, .int .u8 p1.Players.1.Cool, .int .u8 p1.Players.1.Face, .int .i32 p1.Players.2.X, .int .i32 p1.Players.2.Y, .int .i32 p1.Players.2.VX, .int .i32 p1.Players.2.VY, .int .u8 p1.Players.2.Health, .int .u8 p1.Players.2.Cool, .int .u8 p1.Players.2.Face, .slice p1a0 p1n0 p1c0, .int .u16 p1.Score.1, .int .u16 p1.Score.2]] (fun w => Rds w [] [] p0a0 (flat c_T_api_Shot p0.Shots) ∧ Rds w [] [] p1a0 (flat c_T_api_Shot p1.Shots)) (.bool r0) := by
  unfold m_state_Same at h
  refine pf_of_wc Tryd.func14 rfl Tryd.ntmps14 rfl rfl (fun w0 hR => ?_)
  obtain ⟨p0S0, p1S0⟩ := hR
  refine wc_seq (wc_region (wl_box rfl rfl rfl (fun b2 => (wl_box rfl rfl rfl (fun b3 => (wP rfl rfl (wl_nil (wx_then (wc_seq (wc_region (wP (v := .pointer (some ⟨b2, 0, none⟩)) rfl rfl (wl_val (v := .int .u64 p0.Frame) (val_load tt_ok rfl (mT (mH)) rfl) rfl (wP (v := .pointer (some ⟨b3, 0, none⟩)) rfl rfl (wl_val (v := .int .u64 p1.Frame) (val_load tt_ok rfl (mH) rfl) rfl (wP (v := .bool (p0.Frame == p1.Frame)) rfl rfl (wP rfl rfl ?_))))))))))))))))
  replace h := bsome h; obtain ⟨v16, h, hg16⟩ := h
  refine wl_split (t := 10) rfl (fun hc => ?_) (fun hc => ?_)
  · replace h := ct hc h
    refine wl_run rfl (wP (v := .pointer (some ⟨b2, 1, none⟩)) rfl rfl (wl_run rfl (wl_val (v := .int .u64 p0.Seed) (val_load tt_ok rfl (mT (mH)) rfl) rfl (wl_run rfl (wP (v := .pointer (some ⟨b3, 1, none⟩)) rfl rfl (wl_run rfl (wl_val (v := .int .u64 p1.Seed) (val_load tt_ok rfl (mH) rfl) rfl (wl_run rfl (wP (v := .bool (p0.Seed == p1.Seed)) rfl rfl ?_)))))))))
    obtain rfl := sI h
    have h := hg16; clear hg16
    refine wP (v := .bool (p0.Seed == p1.Seed)) rfl rfl (wP rfl rfl ?_)
    replace h := bsome h; obtain ⟨v23, h, hg23⟩ := h
    refine wl_split (t := 17) rfl (fun hc => ?_) (fun hc => ?_)
    · replace h := ct hc h
      refine wl_run rfl (wP (v := .pointer (some ⟨b2, 2, none⟩)) rfl rfl (wl_run rfl (wl_val (v := .agg #[.int .i32 p0.Players.1.X, .int .i32 p0.Players.1.Y, .int .i32 p0.Players.1.VX, .int .i32 p0.Players.1.VY, .int .u8 p0.Players.1.Health, .int .u8 p0.Players.1.Cool, .int .u8 p0.Players.1.Face, .int .i32 p0.Players.2.X, .int .i32 p0.Players.2.Y, .int .i32 p0.Players.2.VX, .int .i32 p0.Players.2.VY, .int .u8 p0.Players.2.Health, .int .u8 p0.Players.2.Cool, .int .u8 p0.Players.2.Face]) (val_load tt_ok rfl (mT (mH)) rfl) rfl (wl_run rfl (wP (v := .pointer (some ⟨b3, 2, none⟩)) rfl rfl (wl_run rfl (wl_val (v := .agg #[.int .i32 p1.Players.1.X, .int .i32 p1.Players.1.Y, .int .i32 p1.Players.1.VX, .int .i32 p1.Players.1.VY, .int .u8 p1.Players.1.Health, .int .u8 p1.Players.1.Cool, .int .u8 p1.Players.1.Face, .int .i32 p1.Players.2.X, .int .i32 p1.Players.2.Y, .int .i32 p1.Players.2.VX, .int .i32 p1.Players.2.VY, .int .u8 p1.Players.2.Health, .int .u8 p1.Players.2.Cool, .int .u8 p1.Players.2.Face]) (val_load tt_ok rfl (mH) rfl) rfl ?_)))))))
      refine wl_run rfl (wl_val (v := .bool (((p0.Players.1.X == p1.Players.1.X) && ((p0.Players.1.Y == p1.Players.1.Y) && ((p0.Players.1.VX == p1.Players.1.VX) && ((p0.Players.1.VY == p1.Players.1.VY) && ((p0.Players.1.Health == p1.Players.1.Health) && ((p0.Players.1.Cool == p1.Players.1.Cool) && (p0.Players.1.Face == p1.Players.1.Face))))))) && ((p0.Players.2.X == p1.Players.2.X) && ((p0.Players.2.Y == p1.Players.2.Y) && ((p0.Players.2.VX == p1.Players.2.VX) && ((p0.Players.2.VY == p1.Players.2.VY) && ((p0.Players.2.Health == p1.Players.2.Health) && ((p0.Players.2.Cool == p1.Players.2.Cool) && (p0.Players.2.Face == p1.Players.2.Face))))))))) (val_eqs tt_ok tt_eq tt_one Tryd.eqGuardType31 rfl rfl rfl rfl rfl) rfl ?_)
      obtain rfl := sI h
      have h := hg23; clear hg23
      refine wP (v := .bool (((p0.Players.1.X == p1.Players.1.X) && ((p0.Players.1.Y == p1.Players.1.Y) && ((p0.Players.1.VX == p1.Players.1.VX) && ((p0.Players.1.VY == p1.Players.1.VY) && ((p0.Players.1.Health == p1.Players.1.Health) && ((p0.Players.1.Cool == p1.Players.1.Cool) && (p0.Players.1.Face == p1.Players.1.Face))))))) && ((p0.Players.2.X == p1.Players.2.X) && ((p0.Players.2.Y == p1.Players.2.Y) && ((p0.Players.2.VX == p1.Players.2.VX) && ((p0.Players.2.VY == p1.Players.2.VY) && ((p0.Players.2.Health == p1.Players.2.Health) && ((p0.Players.2.Cool == p1.Players.2.Cool) && (p0.Players.2.Face == p1.Players.2.Face))))))))) rfl rfl (wP rfl rfl ?_)
      replace h := bsome h; obtain ⟨v30, h, hg30⟩ := h
      refine wl_split (t := 24) rfl (fun hc => ?_) (fun hc => ?_)
      · replace h := ct hc h
        refine wl_run rfl (wP (v := .pointer (some ⟨b2, 17, none⟩)) rfl rfl (wl_run rfl (wl_val (v := .agg #[.int .u16 p0.Score.1, .int .u16 p0.Score.2]) (val_load tt_ok rfl (mT (mH)) rfl) rfl (wl_run rfl (wP (v := .pointer (some ⟨b3, 17, none⟩)) rfl rfl (wl_run rfl (wl_val (v := .agg #[.int .u16 p1.Score.1, .int .u16 p1.Score.2]) (val_load tt_ok rfl (mH) rfl) rfl (wl_run rfl (wl_val (v := .bool ((p0.Score.1 == p1.Score.1) && (p0.Score.2 == p1.Score.2))) (val_eqs tt_ok tt_eq tt_one Tryd.eqGuardType34 rfl rfl rfl rfl rfl) rfl ?_)))))))))
        obtain rfl := sI h
        have h := hg30; clear hg30
        refine wP (v := .bool ((p0.Score.1 == p1.Score.1) && (p0.Score.2 == p1.Score.2))) rfl rfl (wP rfl rfl ?_)
        replace h := bsome h; obtain ⟨v37, h, hg37⟩ := h
        refine wl_split (t := 31) rfl (fun hc => ?_) (fun hc => ?_)
        · replace h := ct hc h
          refine wl_run rfl (wP (v := .pointer (some ⟨b2, 16, none⟩)) rfl rfl (wl_run rfl (wl_val (v := .slice p0a0 p0n0 p0c0) (val_load tt_ok rfl (mT (mH)) rfl) rfl (wl_run rfl (wP (v := .pointer (some ⟨b3, 16, none⟩)) rfl rfl (wl_run rfl (wl_val (v := .slice p1a0 p1n0 p1c0) (val_load tt_ok rfl (mH) rfl) rfl ?_)))))))
          replace h := bsome h; obtain ⟨v36, x36, h⟩ := h
          refine wl_run rfl (wl_cq Tryd.call41 rfl rfl rfl (q_pf (k_slices_Equal___api_Shot_api_Shot (p0 := p0.Shots) (p1 := p1.Shots) p0N0 p0H0 p1N0 p1H0 x36) (fun w hI => ⟨(Rds.call p0S0 pNil rsub_nil) w hI, (Rds.call p1S0 pNil rsub_nil) w hI⟩)) rfl ?_)
          obtain rfl := sI h
          have h := hg37; clear hg37
          refine wP (v := .bool v36) rfl rfl (wP rfl rfl (wl_nil (wx_then (wc_ret ?_))))
          obtain rfl := sI h
          exact wx_pf tt_ok (.inl rfl) Tryd.results14 (Res.tmp rfl Res.nil) rfl
        replace h := cf hc h
        refine wl_skip rfl rfl (wl_skip rfl rfl (wl_skip rfl rfl (wl_skip rfl rfl (wl_skip rfl rfl ?_))))
        obtain rfl := sI h
        have h := hg37; clear hg37
        refine wP (v := .bool false) rfl rfl (wP rfl rfl (wl_nil (wx_then (wc_ret ?_))))
        obtain rfl := sI h
        exact wx_pf tt_ok (.inl rfl) Tryd.results14 (Res.tmp rfl Res.nil) rfl
      replace h := cf hc h
      refine wl_skip rfl rfl (wl_skip rfl rfl (wl_skip rfl rfl (wl_skip rfl rfl (wl_skip rfl rfl ?_))))
      obtain rfl := sI h
      have h := hg30; clear hg30
      refine wP (v := .bool false) rfl rfl (wP rfl rfl ?_)
      replace h := bsome h; obtain ⟨v37, h, hg37⟩ := h
      replace h := cf rfl h
      refine wl_skip rfl rfl (wl_skip rfl rfl (wl_skip rfl rfl (wl_skip rfl rfl (wl_skip rfl rfl ?_))))
      obtain rfl := sI h
      have h := hg37; clear hg37
      refine wP (v := .bool false) rfl rfl (wP rfl rfl (wl_nil (wx_then (wc_ret ?_))))
      obtain rfl := sI h
      exact wx_pf tt_ok (.inl rfl) Tryd.results14 (Res.tmp rfl Res.nil) rfl
    replace h := cf hc h
    refine wl_skip rfl rfl (wl_skip rfl rfl (wl_skip rfl rfl (wl_skip rfl rfl (wl_skip rfl rfl ?_))))
    obtain rfl := sI h
    have h := hg23; clear hg23
    refine wP (v := .bool false) rfl rfl (wP rfl rfl ?_)
    replace h := bsome h; obtain ⟨v30, h, hg30⟩ := h
    replace h := cf rfl h
    refine wl_skip rfl rfl (wl_skip rfl rfl (wl_skip rfl rfl (wl_skip rfl rfl (wl_skip rfl rfl ?_))))
    obtain rfl := sI h
    have h := hg30; clear hg30
    refine wP (v := .bool false) rfl rfl (wP rfl rfl ?_)
    replace h := bsome h; obtain ⟨v37, h, hg37⟩ := h
    replace h := cf rfl h
    refine wl_skip rfl rfl (wl_skip rfl rfl (wl_skip rfl rfl (wl_skip rfl rfl (wl_skip rfl rfl ?_))))
    obtain rfl := sI h
    have h := hg37; clear hg37
    refine wP (v := .bool false) rfl rfl (wP rfl rfl (wl_nil (wx_then (wc_ret ?_))))
    obtain rfl := sI h
    exact wx_pf tt_ok (.inl rfl) Tryd.results14 (Res.tmp rfl Res.nil) rfl
  replace h := cf hc h
  refine wl_skip rfl rfl (wl_skip rfl rfl (wl_skip rfl rfl (wl_skip rfl rfl (wl_skip rfl rfl ?_))))
  obtain rfl := sI h
  have h := hg16; clear hg16
  refine wP (v := .bool false) rfl rfl (wP rfl rfl ?_)
  replace h := bsome h; obtain ⟨v23, h, hg23⟩ := h
  replace h := cf rfl h
  refine wl_skip rfl rfl (wl_skip rfl rfl (wl_skip rfl rfl (wl_skip rfl rfl (wl_skip rfl rfl ?_))))
  obtain rfl := sI h
  have h := hg23; clear hg23
  refine wP (v := .bool false) rfl rfl (wP rfl rfl ?_)
  replace h := bsome h; obtain ⟨v30, h, hg30⟩ := h
  replace h := cf rfl h
  refine wl_skip rfl rfl (wl_skip rfl rfl (wl_skip rfl rfl (wl_skip rfl rfl (wl_skip rfl rfl ?_))))
  obtain rfl := sI h
  have h := hg30; clear hg30
  refine wP (v := .bool false) rfl rfl (wP rfl rfl ?_)
  replace h := bsome h; obtain ⟨v37, h, hg37⟩ := h
  replace h := cf rfl h
  refine wl_skip rfl rfl (wl_skip rfl rfl (wl_skip rfl rfl (wl_skip rfl rfl (wl_skip rfl rfl ?_))))
  obtain rfl := sI h
  have h := hg37; clear hg37
  refine wP (v := .bool false) rfl rfl (wP rfl rfl (wl_nil (wx_then (wc_ret ?_))))
  obtain rfl := sI h
  exact wx_pf tt_ok (.inl rfl) Tryd.results14 (Res.tmp rfl Res.nil) rfl

theorem k_rollback_Engine_State {F : Nat} {p0 : T_rollback_Engine} {p0b p0t : Nat} {p0a0 : Option Addr} {p0n0 : Nat} {p0c0 : Nat} {p0B0 : List Blk} {p0a1 : Option Addr} {p0n1 : Nat} {p0c1 : Nat} {p0B1 : List Blk} {p0_4 : T_queue_Queue} {p0_4b p0_4t : Nat} {p0_4a0 : Option Addr} {p0_4n0 : Nat} {p0_4c0 : Nat} {p0_4B0 : List Blk} {p0_5 : T_ring_Ring} {p0_5b p0_5t : Nat} {p0_5g0 : List (T_ring_place × G)} {p0_5P0 : List Blk} {r0 : T_api_State} (p0N0 : p0n0 = p0.sure.Shots.length) (p0V0 : Own 80 6 p0a0 p0n0 p0c0 (flat c_T_api_Shot p0.sure.Shots) p0B0) (p0N1 : p0n1 = p0.own.length) (p0V1 : Own 40 1 p0a1 p0n1 p0c1 (flat (e1 .u8) p0.own) p0B1) (p0_4N0 : p0_4n0 = p0_4.l.length) (p0_4V0 : Own 40 1 p0_4a0 p0_4n0 p0_4c0 (flat (e1 .u8) p0_4.l) p0_4B0) (p0_5G0 : p0_5.places.1 = unG p0_5g0) (p0_5A0 : AllP sh_T_ring_place c_T_api_Shot p0_5P0 p0_5g0) (h : m_rollback_Engine_State F p0 p0_4 p0_5 = some r0) :
    SpD Tryd.prog 15 [.pointer (some ⟨p0b, 0, none⟩)] (⟨p0b, (.int .u8 p0.player :: .int .i64 p0.window :: .int .u64 p0.sure.Frame :: .int .u64 p0.sure.Seed :: pl14 p0.sure.Players [.slice p0a0 p0n0 p0c0, .int .u16 p0.sure.Score.1, .int .u16 p0.sure.Score.2, .slice p0a1 p0n1 p0c1, .pointer (some ⟨p0_4b, 0, none⟩), .pointer (some ⟨p0_5b, 0, none⟩)]), p0t, (0, 0)⟩ :: (p0B0 ++ (p0B1 ++ (⟨p0_4b, [.int .u64 p0_4.first_, .slice p0_4a0 p0_4n0 p0_4c0, .int .u8 p0_4.last], p0_4t, (0, 0)⟩ :: (p0_4B0 ++ (⟨p0_5b, ([.int .i64 p0_5.size] ++ flat cg_T_ring_place p0_5g0), p0_5t, (0, 0)⟩ :: (p0_5P0 ++ []))))))) (fun w => True) (fun v D => ∃ (r0a0 : Option Addr) (r0n0 : Nat) (r0c0 : Nat) (r0B0 : List Blk), r0n0 = r0.Shots.length ∧ Own 80 6 r0a0 r0n0 r0c0 (flat c_T_api_Shot r0.Shots) r0B0 ∧ v = .agg #[.int .u64 r0.Frame, .int .u64 r0.Seed, .int .i32 r0.Players.1.X, .int .i32 r0.Players.1.Y, .int .i32 r0.Players.1.VX, .int .i32 r0.Players.1.VY, .int .u8 r0.Players.1.Health, .int .u8 r0.Players.1.Cool, .int .u8 r0.Players.1.Face, .int .i32 r0.Players.2.X, .int .i32 r0.Players.2.Y, .int .i32 r0.Players.2.VX, .int .i32 r0.Players.2.VY, .int .u8 r0.Players.2.Health, .int .u8 r0.Players.2.Cool, .int .u8 r0.Players.2.Face, .slice r0a0 r0n0 r0c0, .int .u16 r0.Score.1, .int .u16 r0.Score.2] ∧ D = fun F => (⟨p0b, (.int .u8 p0.player :: .int .i64 p0.window :: .int .u64 p0.sure.Frame :: .int .u64 p0.sure.Seed :: pl14 p0.sure.Players [.slice p0a0 p0n0 p0c0, .int .u16 p0.sure.Score.1, .int .u16 p0.sure.Score.2, .slice p0a1 p0n1 p0c1, .pointer (some ⟨p0_4b, 0, none⟩), .pointer (some ⟨p0_5b, 0, none⟩)]), p0t, (0, 0)⟩ :: (p0B0 ++ (p0B1 ++ (⟨p0_4b, [.int .u64 p0_4.first_, .slice p0_4a0 p0_4n0 p0_4c0, .int .u8 p0_4.last], p0_4t, (0, 0)⟩ :: (p0_4B0 ++ (⟨p0_5b, ([.int .i64 p0_5.size] ++ flat cg_T_ring_place p0_5g0), p0_5t, (0, 0)⟩ :: (p0_5P0 ++ (r0B0 ++ F))))))))) := by
  unfold m_rollback_Engine_State at h
  refine sp_of_wc Tryd.func15 rfl Tryd.ntmps15 rfl rfl (fun w0 hR => ?_)
  refine wc_seq (wc_region (wl_alloc tt_ok rfl rfl (fun b2 => (wl_nil (wx_then (wc_seq (wc_seq (wc_region (wP rfl rfl ?_)))))))))
  replace h := bsome h; obtain ⟨v4, x4, h⟩ := h
  refine wl_cq Tryd.call30 rfl rfl rfl (q_rd (k_rollback_Engine_is (p0 := p0) (p0_4 := p0_4) (p0_5 := p0_5) p0N0 p0V0 p0N1 p0V1 p0_4N0 p0_4V0 p0_5G0 p0_5A0 x4) (pCons (sC hC) (pApp (sC hA') (pApp (sC hA') (pCons (sC hC) (pApp (sC hA') (pCons (sC hC) (pApp (sC hA') pNil))))))) (fun _ _ => trivial)) rfl ?_
  refine wP (v := .bool (!v4)) rfl rfl (wl_nil (wx_then (wc_cond rfl (fun hc => ?_) (fun hc => ?_))))
  · replace h := ct hc h
    refine wc_seq (wc_region (wP (v := .agg #[.int .u64 (0 : Int), .int .u64 (0 : Int), .int .i32 (0 : Int), .int .i32 (0 : Int), .int .i32 (0 : Int), .int .i32 (0 : Int), .int .u8 (0 : Int), .int .u8 (0 : Int), .int .u8 (0 : Int), .int .i32 (0 : Int), .int .i32 (0 : Int), .int .i32 (0 : Int), .int .i32 (0 : Int), .int .u8 (0 : Int), .int .u8 (0 : Int), .int .u8 (0 : Int), .slice none 0 0, .int .u16 (0 : Int), .int .u16 (0 : Int)]) rfl rfl ?_))
    apply wl_store tt_ok; rfl; exact Upd.here; rfl; rfl; rfl; rfl; rfl; rfl
    refine wl_nil (wx_then (wc_ret (wx_then_ret ?_)))
    obtain rfl := sI h
    exact wx_spD tt_ok (.inl rfl) Tryd.results15 (Res.cell rfl (mH) rfl Res.nil) ⟨none, 0, 0, [], rfl, Own.zero, rfl, rfl⟩ (fun F => by simp) (pSub (pCons (sC hC) (pApp (sC hA') (pApp (sC hA') (pCons (sC hC) (pApp (sC hA') (pCons (sC hC) (pApp (sC hA') (pNo pNil)))))))))
  replace h := cf hc h
  refine wc_skip (wx_then (wc_seq (wc_region ?_)))
  iterate 2 refine wP rfl rfl ?_
  refine wP (v := .pointer (some ⟨p0b, 2, none⟩)) rfl rfl (wl_val (v := .agg #[.int .u64 p0.sure.Frame, .int .u64 p0.sure.Seed, .int .i32 p0.sure.Players.1.X, .int .i32 p0.sure.Players.1.Y, .int .i32 p0.sure.Players.1.VX, .int .i32 p0.sure.Players.1.VY, .int .u8 p0.sure.Players.1.Health, .int .u8 p0.sure.Players.1.Cool, .int .u8 p0.sure.Players.1.Face, .int .i32 p0.sure.Players.2.X, .int .i32 p0.sure.Players.2.Y, .int .i32 p0.sure.Players.2.VX, .int .i32 p0.sure.Players.2.VY, .int .u8 p0.sure.Players.2.Health, .int .u8 p0.sure.Players.2.Cool, .int .u8 p0.sure.Players.2.Face, .slice p0a0 p0n0 p0c0, .int .u16 p0.sure.Score.1, .int .u16 p0.sure.Score.2]) (val_load tt_ok rfl (mT (mH)) rfl) rfl ?_)
  replace h := bsome h; obtain ⟨v11, x11, h⟩ := h
  refine wl_cs Tryd.call26 rfl rfl rfl (s_sp (k_state_Copy (p0 := p0.sure) p0N0 (vec_cap p0V0) x11) pNil (Rds.call (Rds.of_vec p0V0) pNil ⟨_, (sC (sC hA'))⟩)) rfl ?_
  rintro _ _ ⟨_, ⟨v11a0, v11n0, v11c0, v11B0, v11N0, v11V0, rfl, rfl⟩, rfl⟩
  apply wl_store tt_ok; rfl; exact (Upd.right Upd.here); rfl; rfl; rfl; rfl; rfl; rfl
  refine wl_nil (wx_then (wc_ret ?_))
  obtain rfl := sI h
  exact wx_spD tt_ok (.inl rfl) Tryd.results15 (Res.cell rfl (mR (mH)) rfl Res.nil) ⟨v11a0, v11n0, v11c0, v11B0, v11N0, v11V0, rfl, rfl⟩ (fun F => by simp) (pSub (pCons (sA (sC hC)) (pApp (sA (sC hA')) (pApp (sA (sC hA')) (pCons (sA (sC hC)) (pApp (sA (sC hA')) (pCons (sA (sC hC)) (pApp (sA (sC hA')) (pA pNil)))))))))

end Go.Proofs.YtkekgagekgadmaaDoor
