/-
  Each function computes what its model says. Printed by a program of this claim's own.
-/
import Derived.Test.YtkdbpenjkcjimaaDoorTab
import Derived.Test.YtkdbpenjkcjimaaDoorMod
import Derived.Test.YtkdbpenjkcjimaaDoorWalk2
namespace Go.Proofs.YtkdbpenjkcjimaaDoor
open Go.Proofs.YtkdbpenjkcjimaaDoor.Eng
set_option linter.unusedVariables false
set_option linter.unusedSimpArgs false
set_option maxHeartbeats 4000000
set_option maxRecDepth 20000

theorem k_backfill_Pairs_1 {F : Nat} {p0 : Int} {p1 : (Int × Int)} {p2 : Unit} {p2b p2t : Nat} {p2_o : T_fold_History} {p2_ob p2_ot : Nat} {p3 : Unit} {p3b p3t : Nat} {p3_o : T_rollback_Engine} {p3_ob p3_ot : Nat} {p3_oa0 : Option Addr} {p3_on0 : Nat} {p3_oc0 : Nat} {p3_oB0 : List Blk} {p3_oa1 : Option Addr} {p3_on1 : Nat} {p3_oc1 : Nat} {p3_oB1 : List Blk} {p3_o_4 : T_queue_Queue} {p3_o_4b p3_o_4t : Nat} {p3_o_4a0 : Option Addr} {p3_o_4n0 : Nat} {p3_o_4c0 : Nat} {p3_o_4B0 : List Blk} {p3_o_5 : T_ring_Ring} {p3_o_5b p3_o_5t : Nat} {p3_o_5g0 : List (T_ring_place × G)} {p3_o_5P0 : List Blk} {p4 : Int} {p4b p4t : Nat} {r0 : T_queue_Queue} {r1 : T_ring_Ring} {r2 : Int} (p3_oN0 : p3_on0 = p3_o.sure.Shots.length) (p3_oV0 : Own 92 6 p3_oa0 p3_on0 p3_oc0 (flat c_T_api_Shot p3_o.sure.Shots) p3_oB0) (p3_oN1 : p3_on1 = p3_o.own.length) (p3_oV1 : Own 34 1 p3_oa1 p3_on1 p3_oc1 (flat (e1 .u8) p3_o.own) p3_oB1) (p3_o_4N0 : p3_o_4n0 = p3_o_4.l.length) (p3_o_4V0 : Own 34 1 p3_o_4a0 p3_o_4n0 p3_o_4c0 (flat (e1 .u8) p3_o_4.l) p3_o_4B0) (p3_o_5G0 : p3_o_5.places.1 = unG p3_o_5g0) (p3_o_5A0 : AllP sh_T_ring_place c_T_api_Shot p3_o_5P0 p3_o_5g0) (h : m_backfill_Pairs_1 F p0 p1 p2 p2_o p3 p3_o p3_o_4 p3_o_5 p4 = some (r0, r1, r2)) :
    SpD Tryd.prog 32 [.int .u64 p0, .agg #[.int .u8 p1.1, .int .u8 p1.2], .pointer (some ⟨p2b, 0, none⟩), .pointer (some ⟨p3b, 0, none⟩), .pointer (some ⟨p4b, 0, none⟩)] (⟨p2b, [.pointer (some ⟨p2_ob, 0, none⟩)], p2t, (0, 0)⟩ :: (⟨p2_ob, ([.int .u64 p2_o.from_, .int .u64 p2_o.count, .int .u64 p2_o.most] ++ flat (e2 .u8) p2_o.ring.1), p2_ot, (0, 0)⟩ :: (⟨p3b, [.pointer (some ⟨p3_ob, 0, none⟩)], p3t, (0, 0)⟩ :: (⟨p3_ob, (.int .u8 p3_o.player :: .int .i64 p3_o.window :: st19 p3_o.sure p3_oa0 p3_on0 p3_oc0 [.slice p3_oa1 p3_on1 p3_oc1, .pointer (some ⟨p3_o_4b, 0, none⟩), .pointer (some ⟨p3_o_5b, 0, none⟩)]), p3_ot, (0, 0)⟩ :: (p3_oB0 ++ (p3_oB1 ++ (⟨p3_o_4b, [.int .u64 p3_o_4.first_, .slice p3_o_4a0 p3_o_4n0 p3_o_4c0, .int .u8 p3_o_4.last], p3_o_4t, (0, 0)⟩ :: (p3_o_4B0 ++ (⟨p3_o_5b, ([.int .i64 p3_o_5.size] ++ flat cg_T_ring_place p3_o_5g0), p3_o_5t, (0, 0)⟩ :: (p3_o_5P0 ++ (⟨p4b, [.int .u8 p4], p4t, (0, 0)⟩ :: []))))))))))) (fun w => True) (fun v D => ∃ (r0a0 : Option Addr) (r0n0 : Nat) (r0c0 : Nat) (r0B0 : List Blk) (r1g0 : List (T_ring_place × G)) (r1P0 : List Blk), r0n0 = r0.l.length ∧ Own 34 1 r0a0 r0n0 r0c0 (flat (e1 .u8) r0.l) r0B0 ∧ r1.places.1 = unG r1g0 ∧ AllP sh_T_ring_place c_T_api_Shot r1P0 r1g0 ∧ v = .int .i64 r2 ∧ D = fun F => (⟨p2b, [.pointer (some ⟨p2_ob, 0, none⟩)], p2t, (0, 0)⟩ :: (⟨p2_ob, ([.int .u64 p2_o.from_, .int .u64 p2_o.count, .int .u64 p2_o.most] ++ flat (e2 .u8) p2_o.ring.1), p2_ot, (0, 0)⟩ :: (⟨p3b, [.pointer (some ⟨p3_ob, 0, none⟩)], p3t, (0, 0)⟩ :: (⟨p3_ob, (.int .u8 p3_o.player :: .int .i64 p3_o.window :: st19 p3_o.sure p3_oa0 p3_on0 p3_oc0 [.slice p3_oa1 p3_on1 p3_oc1, .pointer (some ⟨p3_o_4b, 0, none⟩), .pointer (some ⟨p3_o_5b, 0, none⟩)]), p3_ot, (0, 0)⟩ :: (p3_oB0 ++ (p3_oB1 ++ (⟨p3_o_4b, [.int .u64 r0.first_, .slice r0a0 r0n0 r0c0, .int .u8 r0.last], p3_o_4t, (0, 0)⟩ :: (r0B0 ++ (⟨p3_o_5b, ([.int .i64 r1.size] ++ flat cg_T_ring_place r1g0), p3_o_5t, (0, 0)⟩ :: (r1P0 ++ (⟨p4b, [.int .u8 p4], p4t, (0, 0)⟩ :: F)))))))))))) := by
  unfold m_backfill_Pairs_1 at h
  refine sp_of_wc Tryd.func32 rfl Tryd.ntmps32 rfl rfl (fun w0 hR => ?_)
  refine wc_seq (wc_region (wl_box rfl rfl rfl (fun b6 => (wP rfl rfl (wl_nil (wx_then (wc_seq (wc_seq (wc_region (wl_val (v := .pointer (some ⟨p2_ob, 0, none⟩)) (val_load tt_ok rfl (mT (mH)) rfl) rfl (wP rfl rfl ?_)))))))))))
  replace h := bsome h; obtain ⟨⟨zc, zn⟩, x13, h⟩ := h; try dsimp only at h
  refine wl_cq Tryd.call30 rfl rfl rfl (q_rd (k_fold_History_At x13) (pCons (sC (sC hC)) pNil) (fun _ _ => trivial)) rfl ?_
  iterate 3 refine wP rfl rfl ?_
  refine wl_alloc tt_ok rfl rfl (fun b8 => ?_)
  apply wl_store tt_ok; rfl; exact Upd.here; rfl; rfl; rfl; rfl; rfl; rfl
  refine wP rfl rfl (wl_nil (wx_then (wc_block (wc_seq (wc_region (wP rfl rfl (wl_val (v := .pointer (some ⟨p3_ob, 0, none⟩)) (val_load tt_ok rfl (mT (mT (mT (mT (mH))))) rfl) rfl ?_)))))))
  replace h := bsome h; obtain ⟨v19, x19, h⟩ := h
  refine wl_cq Tryd.call11 rfl rfl rfl (q_rd (k_rollback_Engine_C (p0 := p3_o) (p0_4 := p3_o_4) (p0_5 := p3_o_5) p3_oN0 p3_oV0 p3_oN1 p3_oV1 p3_o_4N0 p3_o_4V0 p3_o_5G0 p3_o_5A0 x19) (pCons (sC (sC (sC (sC (sC hC))))) (pApp (sC (sC (sC (sC (sC hA'))))) (pApp (sC (sC (sC (sC (sC hA'))))) (pCons (sC (sC (sC (sC (sC hC))))) (pApp (sC (sC (sC (sC (sC hA'))))) (pCons (sC (sC (sC (sC (sC hC))))) (pApp (sC (sC (sC (sC (sC hA'))))) pNil))))))) (fun _ _ => trivial)) rfl ?_
  refine wP (v := .bool (decide (p0 < v19))) rfl rfl (wP rfl rfl (wl_nil (wx_then (wc_cond rfl (fun hc => ?_) (fun hc => ?_)))))
  · replace h := ct hc h
    refine wc_seq (wc_seq (wc_region ?_))
    iterate 2 refine wP rfl rfl ?_
    replace h := bsome h; obtain ⟨v26, h, hg26⟩ := h
    refine wl_split (t := 22) rfl (fun hc => ?_) (fun hc => ?_)
    · replace h := ct hc h
      refine wl_run rfl (wl_val (v := .agg #[.int .u8 zc.1, .int .u8 zc.2]) (val_load tt_ok rfl (mH) rfl) rfl (wl_run rfl (wl_val (v := .agg #[.int .u8 p1.1, .int .u8 p1.2]) (val_load tt_ok rfl (mT (mH)) rfl) rfl (wl_run rfl (wl_val (v := .bool (!((zc.1 == p1.1) && (zc.2 == p1.2)))) (val_nes tt_ok tt_eq tt_one Tryd.eqGuardType36 rfl rfl rfl rfl rfl) rfl ?_)))))
      obtain rfl := sI h
      have h := hg26; clear hg26
      refine wP (v := .bool (!((zc.1 == p1.1) && (zc.2 == p1.2)))) rfl rfl (wl_nil (wx_then (wc_cond rfl (fun hc => ?_) (fun hc => ?_))))
      · replace h := ct hc h
        refine wc_seq (wc_region (wP rfl rfl (wl_nil (wx_then (wc_ret (wx_then_ret (wx_block_ret (wx_then_ret ?_))))))))
        simp only [Option.some.injEq, Prod.mk.injEq] at h
        obtain ⟨rfl, rfl, rfl⟩ := h
        exact wx_spD tt_ok (.inl rfl) Tryd.results32 (Res.tmp rfl Res.nil) ⟨p3_o_4a0, p3_o_4n0, p3_o_4c0, p3_o_4B0, p3_o_5g0, p3_o_5P0, p3_o_4N0, p3_o_4V0, p3_o_5G0, p3_o_5A0, rfl, rfl⟩ (fun F => by simp) (pSub (pCons (sC (sC hC)) (pCons (sC (sC hC)) (pCons (sC (sC hC)) (pCons (sC (sC hC)) (pApp (sC (sC hA')) (pApp (sC (sC hA')) (pCons (sC (sC hC)) (pApp (sC (sC hA')) (pCons (sC (sC hC)) (pApp (sC (sC hA')) (pCons (sC (sC hC)) pNil))))))))))))
      replace h := cf hc h
      refine wc_skip (wx_then (wc_seq (wc_region (wP rfl rfl (wl_nil (wx_then (wc_ret (wx_block_ret (wx_then_ret ?_)))))))))
      simp only [Option.some.injEq, Prod.mk.injEq] at h
      obtain ⟨rfl, rfl, rfl⟩ := h
      exact wx_spD tt_ok (.inl rfl) Tryd.results32 (Res.tmp rfl Res.nil) ⟨p3_o_4a0, p3_o_4n0, p3_o_4c0, p3_o_4B0, p3_o_5g0, p3_o_5P0, p3_o_4N0, p3_o_4V0, p3_o_5G0, p3_o_5A0, rfl, rfl⟩ (fun F => by simp) (pSub (pCons (sC (sC hC)) (pCons (sC (sC hC)) (pCons (sC (sC hC)) (pCons (sC (sC hC)) (pApp (sC (sC hA')) (pApp (sC (sC hA')) (pCons (sC (sC hC)) (pApp (sC (sC hA')) (pCons (sC (sC hC)) (pApp (sC (sC hA')) (pCons (sC (sC hC)) pNil))))))))))))
    replace h := cf hc h
    refine wl_skip rfl rfl (wl_skip rfl rfl (wl_skip rfl rfl ?_))
    obtain rfl := sI h
    have h := hg26; clear hg26
    refine wP (v := .bool false) rfl rfl (wl_nil (wx_then ?_))
    replace h := cf rfl h
    refine wc_cond_false rfl ?_
    refine wc_skip (wx_then (wc_seq (wc_region (wP rfl rfl (wl_nil (wx_then (wc_ret (wx_block_ret (wx_then_ret ?_)))))))))
    simp only [Option.some.injEq, Prod.mk.injEq] at h
    obtain ⟨rfl, rfl, rfl⟩ := h
    exact wx_spD tt_ok (.inl rfl) Tryd.results32 (Res.tmp rfl Res.nil) ⟨p3_o_4a0, p3_o_4n0, p3_o_4c0, p3_o_4B0, p3_o_5g0, p3_o_5P0, p3_o_4N0, p3_o_4V0, p3_o_5G0, p3_o_5A0, rfl, rfl⟩ (fun F => by simp) (pSub (pCons (sC (sC hC)) (pCons (sC (sC hC)) (pCons (sC (sC hC)) (pCons (sC (sC hC)) (pApp (sC (sC hA')) (pApp (sC (sC hA')) (pCons (sC (sC hC)) (pApp (sC (sC hA')) (pCons (sC (sC hC)) (pApp (sC (sC hA')) (pCons (sC (sC hC)) pNil))))))))))))
  replace h := cf hc h
  refine wc_seq (wc_region (wP rfl rfl (wl_val (v := .pointer (some ⟨p3_ob, 0, none⟩)) (val_load tt_ok rfl (mT (mT (mT (mT (mH))))) rfl) rfl ?_)))
  replace h := bsome h; obtain ⟨v30, x30, h⟩ := h
  refine wl_cq Tryd.call33 rfl rfl rfl (q_rd (k_rollback_Engine_T (p0 := p3_o) (p0_4 := p3_o_4) (p0_5 := p3_o_5) p3_oN0 p3_oV0 p3_oN1 p3_oV1 p3_o_4N0 p3_o_4V0 p3_o_5G0 p3_o_5A0 x30) (pCons (sC (sC (sC (sC (sC hC))))) (pApp (sC (sC (sC (sC (sC hA'))))) (pApp (sC (sC (sC (sC (sC hA'))))) (pCons (sC (sC (sC (sC (sC hC))))) (pApp (sC (sC (sC (sC (sC hA'))))) (pCons (sC (sC (sC (sC (sC hC))))) (pApp (sC (sC (sC (sC (sC hA'))))) pNil))))))) (fun _ _ => trivial)) rfl ?_
  refine wP (v := .bool (decide (v30 ≤ p0))) rfl rfl (wP rfl rfl (wl_nil (wx_then (wc_cond rfl (fun hc => ?_) (fun hc => ?_)))))
  · replace h := ct hc h
    refine wc_seq (wc_region (wP rfl rfl (wl_nil (wx_then (wc_ret (wx_block_ret (wx_then_ret ?_)))))))
    simp only [Option.some.injEq, Prod.mk.injEq] at h
    obtain ⟨rfl, rfl, rfl⟩ := h
    exact wx_spD tt_ok (.inl rfl) Tryd.results32 (Res.tmp rfl Res.nil) ⟨p3_o_4a0, p3_o_4n0, p3_o_4c0, p3_o_4B0, p3_o_5g0, p3_o_5P0, p3_o_4N0, p3_o_4V0, p3_o_5G0, p3_o_5A0, rfl, rfl⟩ (fun F => by simp) (pSub (pCons (sC (sC hC)) (pCons (sC (sC hC)) (pCons (sC (sC hC)) (pCons (sC (sC hC)) (pApp (sC (sC hA')) (pApp (sC (sC hA')) (pCons (sC (sC hC)) (pApp (sC (sC hA')) (pCons (sC (sC hC)) (pApp (sC (sC hA')) (pCons (sC (sC hC)) pNil))))))))))))
  replace h := cf hc h
  refine wc_seq (wc_k2 (Ls := (⟨b8, [.int .u8 zc.1, .int .u8 zc.2], 36, (0, 0)⟩ :: (⟨b6, [.int .u8 p1.1, .int .u8 p1.2], 36, (0, 0)⟩ :: (⟨p2b, [.pointer (some ⟨p2_ob, 0, none⟩)], p2t, (0, 0)⟩ :: (⟨p2_ob, ([.int .u64 p2_o.from_, .int .u64 p2_o.count, .int .u64 p2_o.most] ++ flat (e2 .u8) p2_o.ring.1), p2_ot, (0, 0)⟩ :: (⟨p3b, [.pointer (some ⟨p3_ob, 0, none⟩)], p3t, (0, 0)⟩ :: (⟨p3_ob, (.int .u8 p3_o.player :: .int .i64 p3_o.window :: st19 p3_o.sure p3_oa0 p3_on0 p3_oc0 [.slice p3_oa1 p3_on1 p3_oc1, .pointer (some ⟨p3_o_4b, 0, none⟩), .pointer (some ⟨p3_o_5b, 0, none⟩)]), p3_ot, (0, 0)⟩ :: (p3_oB0 ++ (p3_oB1 ++ (⟨p3_o_4b, [.int .u64 p3_o_4.first_, .slice p3_o_4a0 p3_o_4n0 p3_o_4c0, .int .u8 p3_o_4.last], p3_o_4t, (0, 0)⟩ :: (p3_o_4B0 ++ (⟨p3_o_5b, ([.int .i64 p3_o_5.size] ++ flat cg_T_ring_place p3_o_5g0), p3_o_5t, (0, 0)⟩ :: (p3_o_5P0 ++ (⟨p4b, [.int .u8 p4], p4t, (0, 0)⟩ :: [])))))))))))))) [1, 4, 5, 6, 7, 11, 12] [11, 12] [0, 1, 0, 0, 11, 31, 63, 127, 0, 256, 768, 2047, 4095] [0, 2, 3, 8, 9, 10, 1, 4, 5, 6, 7, 11, 12] (by kernel_rfl) (by kernel_rfl) (by kernel_rfl) ?_)
  refine k_val (v := .pointer (some ⟨p3_ob, 0, none⟩)) rfl rfl rfl (pSub (pH (pH (pH (pH (pH (pH (pA (pA (pH (pA (pH (pA (pH pNil)))))))))))))) (val_load tt_ok rfl (mT (mT (mT (mT (mH))))) rfl) rfl ?_
  refine k_val rfl rfl rfl (pSub (pH (pH (pH (pH (pH (pH (pA (pA (pH (pA (pH (pA (pH pNil)))))))))))))) (stepV_ok tt_ok rfl) rfl ?_
  refine k_val (v := .pointer (some ⟨p3_ob, 0, none⟩)) rfl rfl rfl (pSub (pH (pH (pH (pH (pH (pH (pA (pA (pH (pA (pH (pA (pH pNil)))))))))))))) (val_load tt_ok rfl (mT (mT (mT (mT (mH))))) rfl) rfl ?_
  refine k_val (v := .int .u8 p4) rfl rfl rfl (pSub (pH (pH (pH (pH (pH (pH (pA (pA (pH (pA (pH (pA (pH pNil)))))))))))))) (val_load tt_ok rfl (mT (mT (mT (mT (mT (mT (mR (mR (mT (mR (mT (mR (mH))))))))))))) rfl) rfl ?_
  rcases Bool.eq_false_or_eq_true (p4 == (0 : Int)) with hx420 | hx420
  · replace h := ct hx420 h
    refine k_val (v := .pointer (some ⟨b6, 0, none⟩)) rfl rfl rfl (pSub (pH (pH (pH (pH (pH (pH (pA (pA (pH (pA (pH (pA (pH pNil)))))))))))))) (val_ia (j := 0) tt_ok rfl rfl rfl rfl (by simpa using hx420) rfl rfl) rfl ?_
    refine k_val (v := .int .u8 p1.1) rfl rfl rfl (pSub (pH (pH (pH (pH (pH (pH (pA (pA (pH (pA (pH (pA (pH pNil)))))))))))))) (val_load tt_ok rfl (mT (mH)) rfl) rfl ?_
    replace h := bsome h; obtain ⟨v34, x34, h⟩ := h
    refine k_cs rfl rfl rfl Tryd.call34 rfl rfl rfl (s_sp (k_rollback_Engine_Own (p0 := p3_o) (p0_4 := p3_o_4) (p0_5 := p3_o_5) p3_oN0 p3_oV0 p3_oN1 p3_oV1 p3_o_4N0 p3_o_4V0 p3_o_5G0 p3_o_5A0 x34) (pCons (sC (sC (sC (sC (sC hC))))) (pApp (sC (sC (sC (sC (sC hA'))))) (pApp (sC (sC (sC (sC (sC hA'))))) (pCons (sC (sC (sC (sC (sC hC))))) (pApp (sC (sC (sC (sC (sC hA'))))) (pCons (sC (sC (sC (sC (sC hC))))) (pApp (sC (sC (sC (sC (sC hA'))))) pNil))))))) (fun _ _ => trivial)) rfl (.inr (by rintro _ _ ⟨_, ⟨_, _, _, _, _, _, rfl, rfl⟩, rfl⟩; exact ⟨_, (pCons (sC (sA (sA (sC (sA (sC (sA (sA hC)))))))) (pCons (sC (sA (sA (sC (sA (sC (sA (sA hC)))))))) (pCons (sC (sA (sA (sC (sA (sC (sA (sA hC)))))))) (pCons (sC (sA (sA (sC (sA (sC (sA (sA hC)))))))) (pCons (sC (sA (sA (sC (sA (sC (sA (sA hC)))))))) (pH (pA (pA (pH (pA (pH (pA (pCons (sA hC) pNil)))))))))))))⟩)) ?_
    rintro _ _ ⟨_, ⟨v34a0, v34n0, v34c0, v34B0, v34N0, v34V0, rfl, rfl⟩, rfl⟩
    replace h := bsome h; obtain ⟨v37, x37, h⟩ := h
    refine k_cq rfl rfl rfl Tryd.call11 rfl rfl rfl (q_rd (k_rollback_Engine_C (p0 := p3_o) (p0_4 := p3_o_4) (p0_5 := p3_o_5) p3_oN0 p3_oV0 p3_oN1 p3_oV1 p3_o_4N0 p3_o_4V0 p3_o_5G0 p3_o_5A0 x37) (pH (pA (pA (pH (pA (pH (pA pNil))))))) (fun _ _ => trivial)) rfl (pSub (pCons (sC (sA (sA (sC (sA (sC (sA (sA hC)))))))) (pCons (sC (sA (sA (sC (sA (sC (sA (sA hC)))))))) (pCons (sC (sA (sA (sC (sA (sC (sA (sA hC)))))))) (pCons (sC (sA (sA (sC (sA (sC (sA (sA hC)))))))) (pCons (sC (sA (sA (sC (sA (sC (sA (sA hC)))))))) (pH (pA (pA (pH (pA (pH (pA (pCons (sA hC) pNil)))))))))))))) ?_
    refine k_chg rfl rfl rfl (Chg.of_val (v := .int .u64 (IntKind.wrap .u64 (p0 - v37))) (stepV_ok tt_ok rfl)) rfl (.inr (by rintro _ _ ⟨rfl, rfl⟩; exact (pSub (pCons (sC (sA (sA (sC (sA (sC (sA (sA hC)))))))) (pCons (sC (sA (sA (sC (sA (sC (sA (sA hC)))))))) (pCons (sC (sA (sA (sC (sA (sC (sA (sA hC)))))))) (pCons (sC (sA (sA (sC (sA (sC (sA (sA hC)))))))) (pCons (sC (sA (sA (sC (sA (sC (sA (sA hC)))))))) (pH (pA (pA (pH (pA (pH (pA (pCons (sA hC) pNil)))))))))))))))) ?_
    rintro _ _ ⟨rfl, rfl⟩
    replace h := bsome h; obtain ⟨v39, x39, h⟩ := h
    refine k_chg rfl rfl rfl (Chg.of_val (v := .pointer (some ((adOf v34a0).add ((IntKind.wrap .u64 (p0 - v37)).toNat * 1 + 0)))) (val_ix (enc := (e1 .u8)) tt_ok rfl rfl rfl rfl v34N0 (Rds.of_vec v34V0) (e1_len _) rfl x39)) rfl (.inr (by rintro _ _ ⟨rfl, rfl⟩; exact (pSub (pCons (sC (sA (sA (sC (sA (sC (sA (sA hC)))))))) (pCons (sC (sA (sA (sC (sA (sC (sA (sA hC)))))))) (pCons (sC (sA (sA (sC (sA (sC (sA (sA hC)))))))) (pCons (sC (sA (sA (sC (sA (sC (sA (sA hC)))))))) (pCons (sC (sA (sA (sC (sA (sC (sA (sA hC)))))))) (pH (pA (pA (pH (pA (pH (pA (pCons (sA hC) pNil)))))))))))))))) ?_
    rintro _ _ ⟨rfl, rfl⟩
    refine k_chg rfl rfl rfl (Chg.of_val (v := .int .u8 v39) (val_le (enc := (e1 .u8)) (xs := v34) tt_ok rfl (Rds.of_vec v34V0) ⟨_, (sC (sA (sA (sC (sA (sC (sA hA')))))))⟩ (e1_len _) x39 rfl)) rfl (.inr (by rintro _ _ ⟨rfl, rfl⟩; exact (pSub (pCons (sC (sA (sA (sC (sA (sC (sA (sA hC)))))))) (pCons (sC (sA (sA (sC (sA (sC (sA (sA hC)))))))) (pCons (sC (sA (sA (sC (sA (sC (sA (sA hC)))))))) (pCons (sC (sA (sA (sC (sA (sC (sA (sA hC)))))))) (pCons (sC (sA (sA (sC (sA (sC (sA (sA hC)))))))) (pH (pA (pA (pH (pA (pH (pA (pCons (sA hC) pNil)))))))))))))))) ?_
    rintro _ _ ⟨rfl, rfl⟩
    refine k_chg rfl rfl rfl (Chg.of_val (v := .bool (v39 != p1.1)) (stepV_ok tt_ok rfl)) rfl (.inl rfl) ?_
    rintro _ _ ⟨rfl, rfl⟩
    refine k_chg rfl rfl rfl (Chg.of_val (stepV_ok tt_ok rfl)) rfl (.inl rfl) ?_
    rintro _ _ ⟨rfl, rfl⟩
    refine k_end (by kernel_rfl) ?_
    refine wx_then (wc_cond rfl (fun hc => ?_) (fun hc => ?_))
    · replace h := ct hc h
      refine wc_seq (wc_region (wP rfl rfl (wl_nil (wx_then (wc_ret (wx_block_ret (wx_then_ret ?_)))))))
      simp only [Option.some.injEq, Prod.mk.injEq] at h
      obtain ⟨rfl, rfl, rfl⟩ := h
      exact wx_spD tt_ok (.inl rfl) Tryd.results32 (Res.tmp rfl Res.nil) ⟨p3_o_4a0, p3_o_4n0, p3_o_4c0, p3_o_4B0, p3_o_5g0, p3_o_5P0, p3_o_4N0, p3_o_4V0, p3_o_5G0, p3_o_5A0, rfl, rfl⟩ (fun F => by simp) (pSub (pCons (sC (sA (sA (sC (sA (sC (sA (sA (sC (sC hC)))))))))) (pCons (sC (sA (sA (sC (sA (sC (sA (sA (sC (sC hC)))))))))) (pCons (sC (sA (sA (sC (sA (sC (sA (sA (sC (sC hC)))))))))) (pH (pA (pA (pH (pA (pH (pA (pCons (sA (sC (sC hC))) pNil))))))))))))
    replace h := cf hc h
    refine wc_skip (wx_block (wx_then (wc_seq (wc_k2 (Ls := (⟨p3_ob, (.int .u8 p3_o.player :: .int .i64 p3_o.window :: st19 p3_o.sure p3_oa0 p3_on0 p3_oc0 [.slice p3_oa1 p3_on1 p3_oc1, .pointer (some ⟨p3_o_4b, 0, none⟩), .pointer (some ⟨p3_o_5b, 0, none⟩)]), p3_ot, (0, 0)⟩ :: (p3_oB0 ++ (p3_oB1 ++ (⟨p3_o_4b, [.int .u64 p3_o_4.first_, .slice p3_o_4a0 p3_o_4n0 p3_o_4c0, .int .u8 p3_o_4.last], p3_o_4t, (0, 0)⟩ :: (p3_o_4B0 ++ (⟨p3_o_5b, ([.int .i64 p3_o_5.size] ++ flat cg_T_ring_place p3_o_5g0), p3_o_5t, (0, 0)⟩ :: (p3_o_5P0 ++ (v34B0 ++ (⟨b8, [.int .u8 zc.1, .int .u8 zc.2], 36, (0, 0)⟩ :: (⟨b6, [.int .u8 p1.1, .int .u8 p1.2], 36, (0, 0)⟩ :: (⟨p2b, [.pointer (some ⟨p2_ob, 0, none⟩)], p2t, (0, 0)⟩ :: (⟨p2_ob, ([.int .u64 p2_o.from_, .int .u64 p2_o.count, .int .u64 p2_o.most] ++ flat (e2 .u8) p2_o.ring.1), p2_ot, (0, 0)⟩ :: (⟨p3b, [.pointer (some ⟨p3_ob, 0, none⟩)], p3t, (0, 0)⟩ :: (⟨p4b, [.int .u8 p4], p4t, (0, 0)⟩ :: []))))))))))))))) [6, 7] [6, 7] [0, 0, 0, 4, 12, 28, 63, 127] [0, 1, 2, 3, 4, 5, 6, 7] (by kernel_rfl) (by kernel_rfl) (by kernel_rfl) ?_))))
    refine k_val (v := .pointer (some ⟨p3_ob, 0, none⟩)) rfl rfl rfl (pSub (pH (pA (pA (pH (pA (pH (pA (pA (pH (pH (pH (pH (pH (pH pNil))))))))))))))) (val_load tt_ok rfl (mT (mR (mR (mT (mR (mT (mR (mR (mT (mT (mT (mT (mH))))))))))))) rfl) rfl ?_
    refine k_val rfl rfl rfl (pSub (pH (pA (pA (pH (pA (pH (pA (pA (pH (pH (pH (pH (pH (pH pNil))))))))))))))) (stepV_ok tt_ok rfl) rfl ?_
    refine k_val (v := .int .u8 p4) rfl rfl rfl (pSub (pH (pA (pA (pH (pA (pH (pA (pA (pH (pH (pH (pH (pH (pH pNil))))))))))))))) (val_load tt_ok rfl (mT (mR (mR (mT (mR (mT (mR (mR (mT (mT (mT (mT (mT (mH)))))))))))))) rfl) rfl ?_
    refine k_val (v := .int .u8 (IntKind.wrap .u8 ((1 : Int) - p4))) rfl rfl rfl (pSub (pH (pA (pA (pH (pA (pH (pA (pA (pH (pH (pH (pH (pH (pH pNil))))))))))))))) (stepV_ok tt_ok rfl) rfl ?_
    rcases Bool.eq_false_or_eq_true ((IntKind.wrap .u8 ((1 : Int) - p4)) == (0 : Int)) with hx490 | hx490
    · replace h := ct hx490 h
      refine k_val (v := .pointer (some ⟨b6, 0, none⟩)) rfl rfl rfl (pSub (pH (pA (pA (pH (pA (pH (pA (pA (pH (pH (pH (pH (pH (pH pNil))))))))))))))) (val_ia (j := 0) tt_ok rfl rfl rfl rfl (by simpa using hx490) rfl rfl) rfl ?_
      refine k_val (v := .int .u8 p1.1) rfl rfl rfl (pSub (pH (pA (pA (pH (pA (pH (pA (pA (pH (pH (pH (pH (pH (pH pNil))))))))))))))) (val_load tt_ok rfl (mT (mR (mR (mT (mR (mT (mR (mR (mT (mH)))))))))) rfl) rfl ?_
      replace h := bsome h; obtain ⟨⟨za, zb, v51⟩, x51, h⟩ := h; try dsimp only at h
      refine k_cs rfl rfl rfl Tryd.call26 rfl rfl rfl (s_sp (k_rollback_Engine_Remote (p0 := p3_o) (p0_4 := p3_o_4) (p0_5 := p3_o_5) p3_oN0 p3_oV0 p3_oN1 p3_oV1 p3_o_4N0 p3_o_4V0 p3_o_5G0 p3_o_5A0 x51) (pH (pA (pA (pH (pA (pH (pA pNil))))))) (fun _ _ => trivial)) rfl (.inl rfl) ?_
      rintro _ _ ⟨_, ⟨zg, zi, zh, zd, zm, zl, ze, zf, zk, zj, rfl, rfl⟩, rfl⟩
      refine k_chg rfl rfl rfl (Chg.of_val (stepV_ok tt_ok rfl)) rfl (.inl rfl) ?_
      rintro _ _ ⟨rfl, rfl⟩
      refine k_end (by kernel_rfl) ?_
      refine wx_then (wc_ret ?_)
      simp only [Option.some.injEq, Prod.mk.injEq] at h
      obtain ⟨rfl, rfl, rfl⟩ := h
      exact wx_spD tt_ok (.inl rfl) Tryd.results32 (Res.tmp rfl Res.nil) ⟨zg, zi, zh, zd, zm, zl, ze, zf, zk, zj, rfl, rfl⟩ (fun F => by simp) (pSub (pCons (sC (sA (sA (sC (sA (sC (sA (sA (sC (sC hC)))))))))) (pCons (sC (sA (sA (sC (sA (sC (sA (sA (sC (sC hC)))))))))) (pCons (sC (sA (sA (sC (sA (sC (sA (sA (sC (sC hC)))))))))) (pH (pA (pA (pH (pA (pH (pA (pCons (sA (sC (sC hC))) pNil))))))))))))
    replace h := cf hx490 h
    rcases Bool.eq_false_or_eq_true ((IntKind.wrap .u8 ((1 : Int) - p4)) == (1 : Int)) with hx491 | hx491
    · replace h := ct hx491 h
      refine k_val (v := .pointer (some ⟨b6, 1, none⟩)) rfl rfl rfl (pSub (pH (pA (pA (pH (pA (pH (pA (pA (pH (pH (pH (pH (pH (pH pNil))))))))))))))) (val_ia (j := 1) tt_ok rfl rfl rfl rfl (by simpa using hx491) rfl rfl) rfl ?_
      refine k_val (v := .int .u8 p1.2) rfl rfl rfl (pSub (pH (pA (pA (pH (pA (pH (pA (pA (pH (pH (pH (pH (pH (pH pNil))))))))))))))) (val_load tt_ok rfl (mT (mR (mR (mT (mR (mT (mR (mR (mT (mH)))))))))) rfl) rfl ?_
      replace h := bsome h; obtain ⟨⟨za, zb, v51⟩, x51, h⟩ := h; try dsimp only at h
      refine k_cs rfl rfl rfl Tryd.call26 rfl rfl rfl (s_sp (k_rollback_Engine_Remote (p0 := p3_o) (p0_4 := p3_o_4) (p0_5 := p3_o_5) p3_oN0 p3_oV0 p3_oN1 p3_oV1 p3_o_4N0 p3_o_4V0 p3_o_5G0 p3_o_5A0 x51) (pH (pA (pA (pH (pA (pH (pA pNil))))))) (fun _ _ => trivial)) rfl (.inl rfl) ?_
      rintro _ _ ⟨_, ⟨zg, zi, zh, zd, zm, zl, ze, zf, zk, zj, rfl, rfl⟩, rfl⟩
      refine k_chg rfl rfl rfl (Chg.of_val (stepV_ok tt_ok rfl)) rfl (.inl rfl) ?_
      rintro _ _ ⟨rfl, rfl⟩
      refine k_end (by kernel_rfl) ?_
      refine wx_then (wc_ret ?_)
      simp only [Option.some.injEq, Prod.mk.injEq] at h
      obtain ⟨rfl, rfl, rfl⟩ := h
      exact wx_spD tt_ok (.inl rfl) Tryd.results32 (Res.tmp rfl Res.nil) ⟨zg, zi, zh, zd, zm, zl, ze, zf, zk, zj, rfl, rfl⟩ (fun F => by simp) (pSub (pCons (sC (sA (sA (sC (sA (sC (sA (sA (sC (sC hC)))))))))) (pCons (sC (sA (sA (sC (sA (sC (sA (sA (sC (sC hC)))))))))) (pCons (sC (sA (sA (sC (sA (sC (sA (sA (sC (sC hC)))))))))) (pH (pA (pA (pH (pA (pH (pA (pCons (sA (sC (sC hC))) pNil))))))))))))
    replace h := cf hx491 h
    cases h
  replace h := cf hx420 h
  rcases Bool.eq_false_or_eq_true (p4 == (1 : Int)) with hx421 | hx421
  · replace h := ct hx421 h
    refine k_val (v := .pointer (some ⟨b6, 1, none⟩)) rfl rfl rfl (pSub (pH (pH (pH (pH (pH (pH (pA (pA (pH (pA (pH (pA (pH pNil)))))))))))))) (val_ia (j := 1) tt_ok rfl rfl rfl rfl (by simpa using hx421) rfl rfl) rfl ?_
    refine k_val (v := .int .u8 p1.2) rfl rfl rfl (pSub (pH (pH (pH (pH (pH (pH (pA (pA (pH (pA (pH (pA (pH pNil)))))))))))))) (val_load tt_ok rfl (mT (mH)) rfl) rfl ?_
    replace h := bsome h; obtain ⟨v34, x34, h⟩ := h
    refine k_cs rfl rfl rfl Tryd.call34 rfl rfl rfl (s_sp (k_rollback_Engine_Own (p0 := p3_o) (p0_4 := p3_o_4) (p0_5 := p3_o_5) p3_oN0 p3_oV0 p3_oN1 p3_oV1 p3_o_4N0 p3_o_4V0 p3_o_5G0 p3_o_5A0 x34) (pCons (sC (sC (sC (sC (sC hC))))) (pApp (sC (sC (sC (sC (sC hA'))))) (pApp (sC (sC (sC (sC (sC hA'))))) (pCons (sC (sC (sC (sC (sC hC))))) (pApp (sC (sC (sC (sC (sC hA'))))) (pCons (sC (sC (sC (sC (sC hC))))) (pApp (sC (sC (sC (sC (sC hA'))))) pNil))))))) (fun _ _ => trivial)) rfl (.inr (by rintro _ _ ⟨_, ⟨_, _, _, _, _, _, rfl, rfl⟩, rfl⟩; exact ⟨_, (pCons (sC (sA (sA (sC (sA (sC (sA (sA hC)))))))) (pCons (sC (sA (sA (sC (sA (sC (sA (sA hC)))))))) (pCons (sC (sA (sA (sC (sA (sC (sA (sA hC)))))))) (pCons (sC (sA (sA (sC (sA (sC (sA (sA hC)))))))) (pCons (sC (sA (sA (sC (sA (sC (sA (sA hC)))))))) (pH (pA (pA (pH (pA (pH (pA (pCons (sA hC) pNil)))))))))))))⟩)) ?_
    rintro _ _ ⟨_, ⟨v34a0, v34n0, v34c0, v34B0, v34N0, v34V0, rfl, rfl⟩, rfl⟩
    replace h := bsome h; obtain ⟨v37, x37, h⟩ := h
    refine k_cq rfl rfl rfl Tryd.call11 rfl rfl rfl (q_rd (k_rollback_Engine_C (p0 := p3_o) (p0_4 := p3_o_4) (p0_5 := p3_o_5) p3_oN0 p3_oV0 p3_oN1 p3_oV1 p3_o_4N0 p3_o_4V0 p3_o_5G0 p3_o_5A0 x37) (pH (pA (pA (pH (pA (pH (pA pNil))))))) (fun _ _ => trivial)) rfl (pSub (pCons (sC (sA (sA (sC (sA (sC (sA (sA hC)))))))) (pCons (sC (sA (sA (sC (sA (sC (sA (sA hC)))))))) (pCons (sC (sA (sA (sC (sA (sC (sA (sA hC)))))))) (pCons (sC (sA (sA (sC (sA (sC (sA (sA hC)))))))) (pCons (sC (sA (sA (sC (sA (sC (sA (sA hC)))))))) (pH (pA (pA (pH (pA (pH (pA (pCons (sA hC) pNil)))))))))))))) ?_
    refine k_chg rfl rfl rfl (Chg.of_val (v := .int .u64 (IntKind.wrap .u64 (p0 - v37))) (stepV_ok tt_ok rfl)) rfl (.inr (by rintro _ _ ⟨rfl, rfl⟩; exact (pSub (pCons (sC (sA (sA (sC (sA (sC (sA (sA hC)))))))) (pCons (sC (sA (sA (sC (sA (sC (sA (sA hC)))))))) (pCons (sC (sA (sA (sC (sA (sC (sA (sA hC)))))))) (pCons (sC (sA (sA (sC (sA (sC (sA (sA hC)))))))) (pCons (sC (sA (sA (sC (sA (sC (sA (sA hC)))))))) (pH (pA (pA (pH (pA (pH (pA (pCons (sA hC) pNil)))))))))))))))) ?_
    rintro _ _ ⟨rfl, rfl⟩
    replace h := bsome h; obtain ⟨v39, x39, h⟩ := h
    refine k_chg rfl rfl rfl (Chg.of_val (v := .pointer (some ((adOf v34a0).add ((IntKind.wrap .u64 (p0 - v37)).toNat * 1 + 0)))) (val_ix (enc := (e1 .u8)) tt_ok rfl rfl rfl rfl v34N0 (Rds.of_vec v34V0) (e1_len _) rfl x39)) rfl (.inr (by rintro _ _ ⟨rfl, rfl⟩; exact (pSub (pCons (sC (sA (sA (sC (sA (sC (sA (sA hC)))))))) (pCons (sC (sA (sA (sC (sA (sC (sA (sA hC)))))))) (pCons (sC (sA (sA (sC (sA (sC (sA (sA hC)))))))) (pCons (sC (sA (sA (sC (sA (sC (sA (sA hC)))))))) (pCons (sC (sA (sA (sC (sA (sC (sA (sA hC)))))))) (pH (pA (pA (pH (pA (pH (pA (pCons (sA hC) pNil)))))))))))))))) ?_
    rintro _ _ ⟨rfl, rfl⟩
    refine k_chg rfl rfl rfl (Chg.of_val (v := .int .u8 v39) (val_le (enc := (e1 .u8)) (xs := v34) tt_ok rfl (Rds.of_vec v34V0) ⟨_, (sC (sA (sA (sC (sA (sC (sA hA')))))))⟩ (e1_len _) x39 rfl)) rfl (.inr (by rintro _ _ ⟨rfl, rfl⟩; exact (pSub (pCons (sC (sA (sA (sC (sA (sC (sA (sA hC)))))))) (pCons (sC (sA (sA (sC (sA (sC (sA (sA hC)))))))) (pCons (sC (sA (sA (sC (sA (sC (sA (sA hC)))))))) (pCons (sC (sA (sA (sC (sA (sC (sA (sA hC)))))))) (pCons (sC (sA (sA (sC (sA (sC (sA (sA hC)))))))) (pH (pA (pA (pH (pA (pH (pA (pCons (sA hC) pNil)))))))))))))))) ?_
    rintro _ _ ⟨rfl, rfl⟩
    refine k_chg rfl rfl rfl (Chg.of_val (v := .bool (v39 != p1.2)) (stepV_ok tt_ok rfl)) rfl (.inl rfl) ?_
    rintro _ _ ⟨rfl, rfl⟩
    refine k_chg rfl rfl rfl (Chg.of_val (stepV_ok tt_ok rfl)) rfl (.inl rfl) ?_
    rintro _ _ ⟨rfl, rfl⟩
    refine k_end (by kernel_rfl) ?_
    refine wx_then (wc_cond rfl (fun hc => ?_) (fun hc => ?_))
    · replace h := ct hc h
      refine wc_seq (wc_region (wP rfl rfl (wl_nil (wx_then (wc_ret (wx_block_ret (wx_then_ret ?_)))))))
      simp only [Option.some.injEq, Prod.mk.injEq] at h
      obtain ⟨rfl, rfl, rfl⟩ := h
      exact wx_spD tt_ok (.inl rfl) Tryd.results32 (Res.tmp rfl Res.nil) ⟨p3_o_4a0, p3_o_4n0, p3_o_4c0, p3_o_4B0, p3_o_5g0, p3_o_5P0, p3_o_4N0, p3_o_4V0, p3_o_5G0, p3_o_5A0, rfl, rfl⟩ (fun F => by simp) (pSub (pCons (sC (sA (sA (sC (sA (sC (sA (sA (sC (sC hC)))))))))) (pCons (sC (sA (sA (sC (sA (sC (sA (sA (sC (sC hC)))))))))) (pCons (sC (sA (sA (sC (sA (sC (sA (sA (sC (sC hC)))))))))) (pH (pA (pA (pH (pA (pH (pA (pCons (sA (sC (sC hC))) pNil))))))))))))
    replace h := cf hc h
    refine wc_skip (wx_block (wx_then (wc_seq (wc_k2 (Ls := (⟨p3_ob, (.int .u8 p3_o.player :: .int .i64 p3_o.window :: st19 p3_o.sure p3_oa0 p3_on0 p3_oc0 [.slice p3_oa1 p3_on1 p3_oc1, .pointer (some ⟨p3_o_4b, 0, none⟩), .pointer (some ⟨p3_o_5b, 0, none⟩)]), p3_ot, (0, 0)⟩ :: (p3_oB0 ++ (p3_oB1 ++ (⟨p3_o_4b, [.int .u64 p3_o_4.first_, .slice p3_o_4a0 p3_o_4n0 p3_o_4c0, .int .u8 p3_o_4.last], p3_o_4t, (0, 0)⟩ :: (p3_o_4B0 ++ (⟨p3_o_5b, ([.int .i64 p3_o_5.size] ++ flat cg_T_ring_place p3_o_5g0), p3_o_5t, (0, 0)⟩ :: (p3_o_5P0 ++ (v34B0 ++ (⟨b8, [.int .u8 zc.1, .int .u8 zc.2], 36, (0, 0)⟩ :: (⟨b6, [.int .u8 p1.1, .int .u8 p1.2], 36, (0, 0)⟩ :: (⟨p2b, [.pointer (some ⟨p2_ob, 0, none⟩)], p2t, (0, 0)⟩ :: (⟨p2_ob, ([.int .u64 p2_o.from_, .int .u64 p2_o.count, .int .u64 p2_o.most] ++ flat (e2 .u8) p2_o.ring.1), p2_ot, (0, 0)⟩ :: (⟨p3b, [.pointer (some ⟨p3_ob, 0, none⟩)], p3t, (0, 0)⟩ :: (⟨p4b, [.int .u8 p4], p4t, (0, 0)⟩ :: []))))))))))))))) [6, 7] [6, 7] [0, 0, 0, 4, 12, 28, 63, 127] [0, 1, 2, 3, 4, 5, 6, 7] (by kernel_rfl) (by kernel_rfl) (by kernel_rfl) ?_))))
    refine k_val (v := .pointer (some ⟨p3_ob, 0, none⟩)) rfl rfl rfl (pSub (pH (pA (pA (pH (pA (pH (pA (pA (pH (pH (pH (pH (pH (pH pNil))))))))))))))) (val_load tt_ok rfl (mT (mR (mR (mT (mR (mT (mR (mR (mT (mT (mT (mT (mH))))))))))))) rfl) rfl ?_
    refine k_val rfl rfl rfl (pSub (pH (pA (pA (pH (pA (pH (pA (pA (pH (pH (pH (pH (pH (pH pNil))))))))))))))) (stepV_ok tt_ok rfl) rfl ?_
    refine k_val (v := .int .u8 p4) rfl rfl rfl (pSub (pH (pA (pA (pH (pA (pH (pA (pA (pH (pH (pH (pH (pH (pH pNil))))))))))))))) (val_load tt_ok rfl (mT (mR (mR (mT (mR (mT (mR (mR (mT (mT (mT (mT (mT (mH)))))))))))))) rfl) rfl ?_
    refine k_val (v := .int .u8 (IntKind.wrap .u8 ((1 : Int) - p4))) rfl rfl rfl (pSub (pH (pA (pA (pH (pA (pH (pA (pA (pH (pH (pH (pH (pH (pH pNil))))))))))))))) (stepV_ok tt_ok rfl) rfl ?_
    rcases Bool.eq_false_or_eq_true ((IntKind.wrap .u8 ((1 : Int) - p4)) == (0 : Int)) with hx490 | hx490
    · replace h := ct hx490 h
      refine k_val (v := .pointer (some ⟨b6, 0, none⟩)) rfl rfl rfl (pSub (pH (pA (pA (pH (pA (pH (pA (pA (pH (pH (pH (pH (pH (pH pNil))))))))))))))) (val_ia (j := 0) tt_ok rfl rfl rfl rfl (by simpa using hx490) rfl rfl) rfl ?_
      refine k_val (v := .int .u8 p1.1) rfl rfl rfl (pSub (pH (pA (pA (pH (pA (pH (pA (pA (pH (pH (pH (pH (pH (pH pNil))))))))))))))) (val_load tt_ok rfl (mT (mR (mR (mT (mR (mT (mR (mR (mT (mH)))))))))) rfl) rfl ?_
      replace h := bsome h; obtain ⟨⟨za, zb, v51⟩, x51, h⟩ := h; try dsimp only at h
      refine k_cs rfl rfl rfl Tryd.call26 rfl rfl rfl (s_sp (k_rollback_Engine_Remote (p0 := p3_o) (p0_4 := p3_o_4) (p0_5 := p3_o_5) p3_oN0 p3_oV0 p3_oN1 p3_oV1 p3_o_4N0 p3_o_4V0 p3_o_5G0 p3_o_5A0 x51) (pH (pA (pA (pH (pA (pH (pA pNil))))))) (fun _ _ => trivial)) rfl (.inl rfl) ?_
      rintro _ _ ⟨_, ⟨zg, zi, zh, zd, zm, zl, ze, zf, zk, zj, rfl, rfl⟩, rfl⟩
      refine k_chg rfl rfl rfl (Chg.of_val (stepV_ok tt_ok rfl)) rfl (.inl rfl) ?_
      rintro _ _ ⟨rfl, rfl⟩
      refine k_end (by kernel_rfl) ?_
      refine wx_then (wc_ret ?_)
      simp only [Option.some.injEq, Prod.mk.injEq] at h
      obtain ⟨rfl, rfl, rfl⟩ := h
      exact wx_spD tt_ok (.inl rfl) Tryd.results32 (Res.tmp rfl Res.nil) ⟨zg, zi, zh, zd, zm, zl, ze, zf, zk, zj, rfl, rfl⟩ (fun F => by simp) (pSub (pCons (sC (sA (sA (sC (sA (sC (sA (sA (sC (sC hC)))))))))) (pCons (sC (sA (sA (sC (sA (sC (sA (sA (sC (sC hC)))))))))) (pCons (sC (sA (sA (sC (sA (sC (sA (sA (sC (sC hC)))))))))) (pH (pA (pA (pH (pA (pH (pA (pCons (sA (sC (sC hC))) pNil))))))))))))
    replace h := cf hx490 h
    rcases Bool.eq_false_or_eq_true ((IntKind.wrap .u8 ((1 : Int) - p4)) == (1 : Int)) with hx491 | hx491
    · replace h := ct hx491 h
      refine k_val (v := .pointer (some ⟨b6, 1, none⟩)) rfl rfl rfl (pSub (pH (pA (pA (pH (pA (pH (pA (pA (pH (pH (pH (pH (pH (pH pNil))))))))))))))) (val_ia (j := 1) tt_ok rfl rfl rfl rfl (by simpa using hx491) rfl rfl) rfl ?_
      refine k_val (v := .int .u8 p1.2) rfl rfl rfl (pSub (pH (pA (pA (pH (pA (pH (pA (pA (pH (pH (pH (pH (pH (pH pNil))))))))))))))) (val_load tt_ok rfl (mT (mR (mR (mT (mR (mT (mR (mR (mT (mH)))))))))) rfl) rfl ?_
      replace h := bsome h; obtain ⟨⟨za, zb, v51⟩, x51, h⟩ := h; try dsimp only at h
      refine k_cs rfl rfl rfl Tryd.call26 rfl rfl rfl (s_sp (k_rollback_Engine_Remote (p0 := p3_o) (p0_4 := p3_o_4) (p0_5 := p3_o_5) p3_oN0 p3_oV0 p3_oN1 p3_oV1 p3_o_4N0 p3_o_4V0 p3_o_5G0 p3_o_5A0 x51) (pH (pA (pA (pH (pA (pH (pA pNil))))))) (fun _ _ => trivial)) rfl (.inl rfl) ?_
      rintro _ _ ⟨_, ⟨zg, zi, zh, zd, zm, zl, ze, zf, zk, zj, rfl, rfl⟩, rfl⟩
      refine k_chg rfl rfl rfl (Chg.of_val (stepV_ok tt_ok rfl)) rfl (.inl rfl) ?_
      rintro _ _ ⟨rfl, rfl⟩
      refine k_end (by kernel_rfl) ?_
      refine wx_then (wc_ret ?_)
      simp only [Option.some.injEq, Prod.mk.injEq] at h
      obtain ⟨rfl, rfl, rfl⟩ := h
      exact wx_spD tt_ok (.inl rfl) Tryd.results32 (Res.tmp rfl Res.nil) ⟨zg, zi, zh, zd, zm, zl, ze, zf, zk, zj, rfl, rfl⟩ (fun F => by simp) (pSub (pCons (sC (sA (sA (sC (sA (sC (sA (sA (sC (sC hC)))))))))) (pCons (sC (sA (sA (sC (sA (sC (sA (sA (sC (sC hC)))))))))) (pCons (sC (sA (sA (sC (sA (sC (sA (sA (sC (sC hC)))))))))) (pH (pA (pA (pH (pA (pH (pA (pCons (sA (sC (sC hC))) pNil))))))))))))
    replace h := cf hx491 h
    cases h
  replace h := cf hx421 h
  cases h

theorem k_backfill_Pairs {F : Nat} {p0 : T_rollback_Engine} {p0b p0t : Nat} {p0a0 : Option Addr} {p0n0 : Nat} {p0c0 : Nat} {p0B0 : List Blk} {p0a1 : Option Addr} {p0n1 : Nat} {p0c1 : Nat} {p0B1 : List Blk} {p0_4 : T_queue_Queue} {p0_4b p0_4t : Nat} {p0_4a0 : Option Addr} {p0_4n0 : Nat} {p0_4c0 : Nat} {p0_4B0 : List Blk} {p0_5 : T_ring_Ring} {p0_5b p0_5t : Nat} {p0_5g0 : List (T_ring_place × G)} {p0_5P0 : List Blk} {p1 : T_fold_History} {p1b p1t : Nat} {p2 : Int} {p3 : Int} {p4 : (List (Int × Int))} {p4a0 : Option Addr} {p4n0 p4c0 : Nat} {r0 : T_queue_Queue} {r1 : T_ring_Ring} {r2 : Int} {r3 : Int} (p0N0 : p0n0 = p0.sure.Shots.length) (p0V0 : Own 92 6 p0a0 p0n0 p0c0 (flat c_T_api_Shot p0.sure.Shots) p0B0) (p0N1 : p0n1 = p0.own.length) (p0V1 : Own 34 1 p0a1 p0n1 p0c1 (flat (e1 .u8) p0.own) p0B1) (p0_4N0 : p0_4n0 = p0_4.l.length) (p0_4V0 : Own 34 1 p0_4a0 p0_4n0 p0_4c0 (flat (e1 .u8) p0_4.l) p0_4B0) (p0_5G0 : p0_5.places.1 = unG p0_5g0) (p0_5A0 : AllP sh_T_ring_place c_T_api_Shot p0_5P0 p0_5g0) (p4N0 : p4n0 = p4.length) (p4H0 : p4n0 ≤ p4c0) (h : m_backfill_Pairs F p0 p0_4 p0_5 p1 p2 p3 p4 = some (r0, r1, r2, r3)) :
    SpD Tryd.prog 13 [.pointer (some ⟨p0b, 0, none⟩), .pointer (some ⟨p1b, 0, none⟩), .int .u8 p2, .int .u64 p3, .slice p4a0 p4n0 p4c0] (⟨p0b, (.int .u8 p0.player :: .int .i64 p0.window :: st19 p0.sure p0a0 p0n0 p0c0 [.slice p0a1 p0n1 p0c1, .pointer (some ⟨p0_4b, 0, none⟩), .pointer (some ⟨p0_5b, 0, none⟩)]), p0t, (0, 0)⟩ :: (p0B0 ++ (p0B1 ++ (⟨p0_4b, [.int .u64 p0_4.first_, .slice p0_4a0 p0_4n0 p0_4c0, .int .u8 p0_4.last], p0_4t, (0, 0)⟩ :: (p0_4B0 ++ (⟨p0_5b, ([.int .i64 p0_5.size] ++ flat cg_T_ring_place p0_5g0), p0_5t, (0, 0)⟩ :: (p0_5P0 ++ (⟨p1b, ([.int .u64 p1.from_, .int .u64 p1.count, .int .u64 p1.most] ++ flat (e2 .u8) p1.ring.1), p1t, (0, 0)⟩ :: [])))))))) (fun w => Rds w (ids (⟨p0b, (.int .u8 p0.player :: .int .i64 p0.window :: st19 p0.sure p0a0 p0n0 p0c0 [.slice p0a1 p0n1 p0c1, .pointer (some ⟨p0_4b, 0, none⟩), .pointer (some ⟨p0_5b, 0, none⟩)]), p0t, (0, 0)⟩ :: (p0B0 ++ (p0B1 ++ (⟨p0_4b, [.int .u64 p0_4.first_, .slice p0_4a0 p0_4n0 p0_4c0, .int .u8 p0_4.last], p0_4t, (0, 0)⟩ :: (p0_4B0 ++ (⟨p0_5b, ([.int .i64 p0_5.size] ++ flat cg_T_ring_place p0_5g0), p0_5t, (0, 0)⟩ :: (p0_5P0 ++ (⟨p1b, ([.int .u64 p1.from_, .int .u64 p1.count, .int .u64 p1.most] ++ flat (e2 .u8) p1.ring.1), p1t, (0, 0)⟩ :: []))))))))) [] p4a0 (flat (e2 .u8) p4)) (fun v D => ∃ (r0a0 : Option Addr) (r0n0 : Nat) (r0c0 : Nat) (r0B0 : List Blk) (r1g0 : List (T_ring_place × G)) (r1P0 : List Blk), r0n0 = r0.l.length ∧ Own 34 1 r0a0 r0n0 r0c0 (flat (e1 .u8) r0.l) r0B0 ∧ r1.places.1 = unG r1g0 ∧ AllP sh_T_ring_place c_T_api_Shot r1P0 r1g0 ∧ v = .tuple #[.int .i64 r2, .int .i64 r3] ∧ D = fun F => (⟨p0b, (.int .u8 p0.player :: .int .i64 p0.window :: st19 p0.sure p0a0 p0n0 p0c0 [.slice p0a1 p0n1 p0c1, .pointer (some ⟨p0_4b, 0, none⟩), .pointer (some ⟨p0_5b, 0, none⟩)]), p0t, (0, 0)⟩ :: (p0B0 ++ (p0B1 ++ (⟨p0_4b, [.int .u64 r0.first_, .slice r0a0 r0n0 r0c0, .int .u8 r0.last], p0_4t, (0, 0)⟩ :: (r0B0 ++ (⟨p0_5b, ([.int .i64 r1.size] ++ flat cg_T_ring_place r1g0), p0_5t, (0, 0)⟩ :: (r1P0 ++ (⟨p1b, ([.int .u64 p1.from_, .int .u64 p1.count, .int .u64 p1.most] ++ flat (e2 .u8) p1.ring.1), p1t, (0, 0)⟩ :: F))))))))) := by
  unfold m_backfill_Pairs at h
  refine sp_of_wc Tryd.func13 rfl Tryd.ntmps13 rfl rfl (fun w0 hR => ?_)
  have p4S0 := hR
  refine wc_seq (wc_region (wl_box rfl rfl rfl (fun b5 => (wl_box rfl rfl rfl (fun b6 => (wl_box rfl rfl rfl (fun b7 => ?_)))))))
  iterate 2 refine wP rfl rfl ?_
  refine wl_nil (wx_then (wc_seq (wc_region (wl_val (v := .pointer (some ⟨p0b, 0, none⟩)) (val_load tt_ok rfl (mT (mT (mH))) rfl) rfl (wl_val (v := .pointer (some ⟨p1b, 0, none⟩)) (val_load tt_ok rfl (mT (mH)) rfl) rfl (wl_val (v := .int .u8 p2) (val_load tt_ok rfl (mH) rfl) rfl ?_))))))
  iterate 3 refine wP rfl rfl ?_
  refine wl_inl Tryd.call31 rfl rfl rfl Tryd.func31 rfl Tryd.ntmps31 rfl rfl rfl ?_
  refine wc_seq (wc_region ?_)
  iterate 2 refine wP rfl rfl ?_
  refine wl_nil (wx_then (wc_seq (wc_block (wc_seq (wc_region (wP rfl rfl (wP (v := .bool false) rfl rfl (wP rfl rfl (wl_run rfl (wP rfl rfl (wl_run rfl (wP (v := .bool false) rfl rfl (wP (v := .bool false) rfl rfl (wP rfl rfl (wl_nil (wx_then (wc_cond_false rfl (wc_seq (wc_region (wP rfl rfl (wP (v := .bool (decide ((1 : Int) < p2))) rfl rfl (wP rfl rfl ?_))))))))))))))))))))))
  replace h := bsome h; obtain ⟨v100034, h, hg100034⟩ := h
  refine wl_split (t := 27) rfl (fun hc => ?_) (fun hc => ?_)
  · replace h := ct hc h
    refine wl_skip rfl rfl (wl_skip rfl rfl (wl_skip rfl rfl (wl_skip rfl rfl (wl_skip rfl rfl (wl_skip rfl rfl ?_)))))
    obtain rfl := sI h
    have h := hg100034; clear hg100034
    refine wP (v := .bool true) rfl rfl (wP rfl rfl (wl_nil (wx_then ?_)))
    replace h := ct rfl h
    refine wc_cond_true rfl ?_
    refine wc_seq (wc_region ?_)
    iterate 2 refine wP rfl rfl ?_
    refine wl_nil (wx_then (wc_ret (wx_block_ret (wx_then_ret (wx_inl (v := .tuple #[.int .i64 (0 : Int), .int .i64 (2 : Int)]) tt_ok (.inl rfl) Tryd.results31 (Res.tmp rfl (Res.tmp rfl Res.nil)) rfl ?_)))))
    iterate 4 refine wP rfl rfl ?_
    refine wl_nil (wx_then (wc_ret ?_))
    simp only [Option.some.injEq, Prod.mk.injEq] at h
    obtain ⟨rfl, rfl, rfl, rfl⟩ := h
    exact wx_spD tt_ok (.inl rfl) Tryd.results13 (Res.tmp rfl (Res.tmp rfl Res.nil)) ⟨p0_4a0, p0_4n0, p0_4c0, p0_4B0, p0_5g0, p0_5P0, p0_4N0, p0_4V0, p0_5G0, p0_5A0, rfl, rfl⟩ (fun F => by simp) (pSub (pCons (sC (sC (sC hC))) (pApp (sC (sC (sC hA'))) (pApp (sC (sC (sC hA'))) (pCons (sC (sC (sC hC))) (pApp (sC (sC (sC hA'))) (pCons (sC (sC (sC hC))) (pApp (sC (sC (sC hA'))) (pCons (sC (sC (sC hC))) pNil)))))))))
  replace h := cf hc h
  refine wl_run rfl (wP rfl rfl (wl_run rfl (wl_val (v := .int .i64 (p4.length : Int)) (val_len tt_ok rfl rfl p4N0) rfl (wl_run rfl (wP (v := .int .u64 (IntKind.wrap .u64 (p4.length : Int))) rfl rfl (wl_run rfl (wP rfl rfl (wl_run rfl (wP (v := .int .u64 (IntKind.wrap .u64 ((18446744073709551615 : Int) - p3))) rfl rfl (wl_run rfl (wP (v := .bool (decide ((IntKind.wrap .u64 ((18446744073709551615 : Int) - p3)) < (IntKind.wrap .u64 (p4.length : Int))))) rfl rfl ?_)))))))))))
  obtain rfl := sI h
  have h := hg100034; clear hg100034
  refine wP (v := .bool (decide ((IntKind.wrap .u64 ((18446744073709551615 : Int) - p3)) < (IntKind.wrap .u64 (p4.length : Int))))) rfl rfl (wP rfl rfl (wl_nil (wx_then (wc_cond rfl (fun hc => ?_) (fun hc => ?_)))))
  · replace h := ct hc h
    refine wc_seq (wc_region ?_)
    iterate 2 refine wP rfl rfl ?_
    refine wl_nil (wx_then (wc_ret (wx_block_ret (wx_then_ret (wx_inl (v := .tuple #[.int .i64 (0 : Int), .int .i64 (2 : Int)]) tt_ok (.inl rfl) Tryd.results31 (Res.tmp rfl (Res.tmp rfl Res.nil)) rfl ?_)))))
    iterate 4 refine wP rfl rfl ?_
    refine wl_nil (wx_then (wc_ret ?_))
    simp only [Option.some.injEq, Prod.mk.injEq] at h
    obtain ⟨rfl, rfl, rfl, rfl⟩ := h
    exact wx_spD tt_ok (.inl rfl) Tryd.results13 (Res.tmp rfl (Res.tmp rfl Res.nil)) ⟨p0_4a0, p0_4n0, p0_4c0, p0_4B0, p0_5g0, p0_5P0, p0_4N0, p0_4V0, p0_5G0, p0_5A0, rfl, rfl⟩ (fun F => by simp) (pSub (pCons (sC (sC (sC hC))) (pApp (sC (sC (sC hA'))) (pApp (sC (sC (sC hA'))) (pCons (sC (sC (sC hC))) (pApp (sC (sC (sC hA'))) (pCons (sC (sC (sC hC))) (pApp (sC (sC (sC hA'))) (pCons (sC (sC (sC hC))) pNil)))))))))
  replace h := cf hc h
  refine wc_skip (wx_block (wx_then (wc_seq (wc_seq (wc_region (wP rfl rfl (wl_val (v := .int .i64 (p4.length : Int)) (val_len tt_ok rfl rfl p4N0) rfl (wP rfl rfl (wl_nil (wx_then (wc_block ?_)))))))))))
  replace h := bsome h; obtain ⟨o100022, h, hl100022⟩ := h
  refine wc_loop (fun m E L => ∃ (zd : Int) (zf : Int) (zm : Int) (za : (List Int)) (zn : Int) (zo : Int) (zb : (Arr T_ring_place 14)) (zj : Option Addr) (zg : Nat) (zk : Nat) (zi : List Blk) (zh : List (T_ring_place × G)) (zl : List Blk), m_backfill_Pairs_L100021 F p0 p1 p2 p3 p4 m zd zf zm za zn zo zb = some o100022 ∧ zg = za.length ∧ Own 34 1 zj zg zk (flat (e1 .u8) za) zi ∧ zb.1 = unG zh ∧ AllP sh_T_ring_place c_T_api_Shot zl zh ∧ E = [(3, .int .u64 p3), (5, .func (.func 32) #[] #[.pointer (some ⟨b6, 0, none⟩), .pointer (some ⟨b5, 0, none⟩), .pointer (some ⟨b7, 0, none⟩)]), (12, .int .i64 zd), (35, .slice p4a0 p4n0 p4c0), (36, .int .i64 (p4.length : Int)), (37, .int .i64 zf)] ∧ L = (⟨b5, [.pointer (some ⟨p0b, 0, none⟩)], 27, (0, 0)⟩ :: (⟨p0b, (.int .u8 p0.player :: .int .i64 p0.window :: st19 p0.sure p0a0 p0n0 p0c0 [.slice p0a1 p0n1 p0c1, .pointer (some ⟨p0_4b, 0, none⟩), .pointer (some ⟨p0_5b, 0, none⟩)]), p0t, (0, 0)⟩ :: (⟨p0_4b, [.int .u64 zm, .slice zj zg zk, .int .u8 zn], p0_4t, (0, 0)⟩ :: (⟨p0_5b, ([.int .i64 zo] ++ flat cg_T_ring_place zh), p0_5t, (0, 0)⟩ :: (⟨b6, [.pointer (some ⟨p1b, 0, none⟩)], 28, (0, 0)⟩ :: (⟨p1b, ([.int .u64 p1.from_, .int .u64 p1.count, .int .u64 p1.most] ++ flat (e2 .u8) p1.ring.1), p1t, (0, 0)⟩ :: (⟨b7, [.int .u8 p2], 5, (0, 0)⟩ :: (p0B0 ++ (p0B1 ++ (zi ++ (zl ++ [])))))))))))) F ⟨(0 : Int), (0 : Int), p0_4.first_, p0_4.l, p0_4.last, p0_5.size, p0_5.places, p0_4a0, p0_4n0, p0_4c0, p0_4B0, p0_5g0, p0_5P0, h, p0_4N0, p0_4V0, p0_5G0, p0_5A0, rfl, rfl⟩ (agree_cons rfl (agree_cons rfl (agree_cons rfl (agree_cons rfl (agree_cons rfl (agree_cons rfl agree_nil)))))) (pSub (pCons (sC (sC hC)) (pCons (sC (sC hC)) (pCons (sC (sC (sA (sA hC)))) (pCons (sC (sC (sA (sA (sA hC))))) (pCons (sC hC) (pCons (sC (sA (sA (sA (sA hC))))) (pH (pA (pA (pA (pA pNil)))))))))))) ?_
  clear h
  rintro m100022 _ _ ⟨zd, zf, zm, za, zn, zo, zb, zj, zg, zk, zi, zh, zl, h, zp, zq, zs, zr, rfl, rfl⟩
  rcases m100022 with _ | m100022
  · rw [m_backfill_Pairs_L100021.eq_1] at h; cases h
  rw [m_backfill_Pairs_L100021.eq_2] at h
  refine wc_seq (wc_region (wP (v := .bool (decide (zf < (p4.length : Int)))) rfl rfl (wl_nil (wx_then (wc_seq (wc_cond rfl (fun hc => ?_) (fun hc => ?_)))))))
  · replace h := ct hc h
    refine wc_skip (wx_then (wc_seq (wc_block (wc_seq (wc_region ?_)))))
    replace h := bsome h; obtain ⟨v100039, x100039, h⟩ := h
    refine wl_val (v := .pointer (some ((adOf p4a0).add (zf.toNat * 2 + 0)))) (val_ix (enc := (e2 .u8)) tt_ok rfl rfl rfl rfl p4N0 p4S0 (e2_len _) rfl x100039) rfl ?_
    refine wl_val (v := .agg #[.int .u8 v100039.1, .int .u8 v100039.2]) (val_le (enc := (e2 .u8)) (xs := p4) tt_ok rfl p4S0 rsub_nil (e2_len _) x100039 rfl) rfl ?_
    refine wl_alloc tt_ok rfl rfl (fun b100015 => ?_)
    apply wl_store tt_ok; rfl; exact Upd.here; rfl; rfl; rfl; rfl; rfl; rfl
    refine wl_nil (wx_then (wc_seq (wc_seq (wc_region ?_))))
    iterate 3 refine wP rfl rfl ?_
    refine wP (v := .int .u64 (IntKind.wrap .u64 zd)) rfl rfl (wP (v := .int .u64 (IntKind.wrap .u64 (p3 + (IntKind.wrap .u64 zd)))) rfl rfl (wl_val (v := .agg #[.int .u8 v100039.1, .int .u8 v100039.2]) (val_load tt_ok rfl (mH) rfl) rfl ?_))
    replace h := bsome h; obtain ⟨⟨zc, ze, v100047⟩, x100047, h⟩ := h; try dsimp only at h
    refine wl_cs Tryd.call32 rfl rfl rfl (s_sp (k_backfill_Pairs_1 (p2 := ()) (p3 := ()) (p3_o := p0) (p3_o_4 := (T_queue_Queue.mk zm za zn)) (p3_o_5 := (T_ring_Ring.mk zo zb)) p0N0 p0V0 p0N1 p0V1 zp zq zs zr x100047) (pCons (sC (sC (sC (sC (sC hC))))) (pCons (sC (sC (sC (sC (sC hC))))) (pCons (sC hC) (pCons (sC hC) (pApp (sC (sC (sC (sC hA')))) (pApp (sC (sC (sC (sC hA')))) (pCons (sC hC) (pApp (sC (sC (sC hA'))) (pCons (sC hC) (pApp (sC (sC hA')) (pCons (sC hC) pNil))))))))))) (fun _ _ => trivial)) rfl ?_
    rintro _ _ ⟨_, ⟨zw, zy, zx, zt, zac, zab, zu, zv, zaa, zz, rfl, rfl⟩, rfl⟩
    refine wP rfl rfl (wl_nil (wx_then (wc_seq (wc_region (wP rfl rfl (wP (v := .bool (v100047 != (0 : Int))) rfl rfl (wl_nil (wx_then (wc_cond rfl (fun hc => ?_) (fun hc => ?_))))))))))
    · replace h := ct hc h
      refine wc_seq (wc_region ?_)
      iterate 4 refine wP rfl rfl ?_
      refine wl_nil (wx_then (wc_ret (wx_then_ret (wx_block_ret (wx_then_ret ?_)))))
      obtain rfl := Option.some.inj h
      have h := hl100022; clear hl100022; try dsimp only [orE_l, orE_r] at h
      refine wx_then_ret (wx_block_ret (wx_then_ret (wx_inl (v := .tuple #[.int .i64 zd, .int .i64 v100047]) tt_ok (.inl rfl) Tryd.results31 (Res.tmp rfl (Res.tmp rfl Res.nil)) rfl ?_)))
      iterate 4 refine wP rfl rfl ?_
      refine wl_nil (wx_then (wc_ret ?_))
      simp only [Option.some.injEq, Prod.mk.injEq] at h
      obtain ⟨rfl, rfl, rfl, rfl⟩ := h
      exact wx_spD tt_ok (.inl rfl) Tryd.results13 (Res.tmp rfl (Res.tmp rfl Res.nil)) ⟨zw, zy, zx, zt, zac, zab, zu, zv, zaa, zz, rfl, rfl⟩ (fun F => by simp) (pSub (pCons (sC (sC (sC hC))) (pApp (sC (sC (sC hA'))) (pApp (sC (sC (sC hA'))) (pCons (sC (sC (sC hC))) (pApp (sC (sC (sC hA'))) (pCons (sC (sC (sC hC))) (pApp (sC (sC (sC hA'))) (pCons (sC hC) pNil)))))))))
    replace h := cf hc h
    refine wc_skip (wx_then (wc_region (wP rfl rfl (wP (v := .int .i64 (IntKind.wrap .i64 (zd + (1 : Int)))) rfl rfl (wP rfl rfl (wl_nil (wx_block (wx_then (wc_region (wP (v := .int .i64 (IntKind.wrap .i64 (zf + (1 : Int)))) rfl rfl (wP rfl rfl (wl_nil ?_))))))))))))
    exact wx_round m100022 (Nat.lt_succ_self m100022) ⟨(IntKind.wrap .i64 (zd + (1 : Int))), (IntKind.wrap .i64 (zf + (1 : Int))), zc.first_, zc.l, zc.last, ze.size, ze.places, zw, zy, zx, zt, zac, zab, h, zu, zv, zaa, zz, rfl, rfl⟩ (agree_cons rfl (agree_cons rfl (agree_cons rfl (agree_cons rfl (agree_cons rfl (agree_cons rfl agree_nil)))))) (pSub (pCons (sC (sC hC)) (pCons (sC (sC hC)) (pCons (sC (sC (sA (sA hC)))) (pCons (sC (sC (sA (sA (sA hC))))) (pH (pH (pCons (sA (sA (sA (sA hC)))) (pA (pA (pA (pA pNil))))))))))))
  replace h := cf hc h
  refine wc_exit (wx_then_exit ?_)
  obtain rfl := Option.some.inj h
  have h := hl100022; clear hl100022; try dsimp only [orE_l, orE_r] at h
  refine wx_then_exit (wx_block_exit (wx_then (wc_seq (wc_region ?_))))
  iterate 3 refine wP rfl rfl ?_
  refine wl_nil (wx_then (wc_ret (wx_inl (v := .tuple #[.int .i64 zd, .int .i64 (0 : Int)]) tt_ok (.inl rfl) Tryd.results31 (Res.tmp rfl (Res.tmp rfl Res.nil)) rfl ?_)))
  iterate 4 refine wP rfl rfl ?_
  refine wl_nil (wx_then (wc_ret ?_))
  simp only [Option.some.injEq, Prod.mk.injEq] at h
  obtain ⟨rfl, rfl, rfl, rfl⟩ := h
  exact wx_spD tt_ok (.inl rfl) Tryd.results13 (Res.tmp rfl (Res.tmp rfl Res.nil)) ⟨zj, zg, zk, zi, zh, zl, zp, zq, zs, zr, rfl, rfl⟩ (fun F => by simp) (pSub (pCons (sC hC) (pApp (sC (sC (sC (sC (sC (sC hA')))))) (pApp (sC (sC (sC (sC (sC (sC hA')))))) (pCons (sC hC) (pApp (sC (sC (sC (sC (sC hA'))))) (pCons (sC hC) (pApp (sC (sC (sC (sC hA')))) (pCons (sC (sC hC)) pNil)))))))))

theorem k_hindcastlaw28_pairs {F : Nat} {p0 : T_rollback_Engine} {p0b p0t : Nat} {p0a0 : Option Addr} {p0n0 : Nat} {p0c0 : Nat} {p0B0 : List Blk} {p0a1 : Option Addr} {p0n1 : Nat} {p0c1 : Nat} {p0B1 : List Blk} {p0_4 : T_queue_Queue} {p0_4b p0_4t : Nat} {p0_4a0 : Option Addr} {p0_4n0 : Nat} {p0_4c0 : Nat} {p0_4B0 : List Blk} {p0_5 : T_ring_Ring} {p0_5b p0_5t : Nat} {p0_5g0 : List (T_ring_place × G)} {p0_5P0 : List Blk} {p1 : T_fold_History} {p1b p1t : Nat} {p2 : Int} {p3 : (List (Int × Int))} {p3a0 : Option Addr} {p3n0 p3c0 : Nat} {r0 : T_queue_Queue} {r1 : T_ring_Ring} {r2 : Int} (p0N0 : p0n0 = p0.sure.Shots.length) (p0V0 : Own 92 6 p0a0 p0n0 p0c0 (flat c_T_api_Shot p0.sure.Shots) p0B0) (p0N1 : p0n1 = p0.own.length) (p0V1 : Own 34 1 p0a1 p0n1 p0c1 (flat (e1 .u8) p0.own) p0B1) (p0_4N0 : p0_4n0 = p0_4.l.length) (p0_4V0 : Own 34 1 p0_4a0 p0_4n0 p0_4c0 (flat (e1 .u8) p0_4.l) p0_4B0) (p0_5G0 : p0_5.places.1 = unG p0_5g0) (p0_5A0 : AllP sh_T_ring_place c_T_api_Shot p0_5P0 p0_5g0) (p3N0 : p3n0 = p3.length) (p3H0 : p3n0 ≤ p3c0) (h : m_hindcastlaw28_pairs F p0 p0_4 p0_5 p1 p2 p3 = some (r0, r1, r2)) :
    SpD Tryd.prog 18 [.pointer (some ⟨p0b, 0, none⟩), .pointer (some ⟨p1b, 0, none⟩), .int .u64 p2, .slice p3a0 p3n0 p3c0] (⟨p0b, (.int .u8 p0.player :: .int .i64 p0.window :: st19 p0.sure p0a0 p0n0 p0c0 [.slice p0a1 p0n1 p0c1, .pointer (some ⟨p0_4b, 0, none⟩), .pointer (some ⟨p0_5b, 0, none⟩)]), p0t, (0, 0)⟩ :: (p0B0 ++ (p0B1 ++ (⟨p0_4b, [.int .u64 p0_4.first_, .slice p0_4a0 p0_4n0 p0_4c0, .int .u8 p0_4.last], p0_4t, (0, 0)⟩ :: (p0_4B0 ++ (⟨p0_5b, ([.int .i64 p0_5.size] ++ flat cg_T_ring_place p0_5g0), p0_5t, (0, 0)⟩ :: (p0_5P0 ++ (⟨p1b, ([.int .u64 p1.from_, .int .u64 p1.count, .int .u64 p1.most] ++ flat (e2 .u8) p1.ring.1), p1t, (0, 0)⟩ :: [])))))))) (fun w => Rds w (ids (⟨p0b, (.int .u8 p0.player :: .int .i64 p0.window :: st19 p0.sure p0a0 p0n0 p0c0 [.slice p0a1 p0n1 p0c1, .pointer (some ⟨p0_4b, 0, none⟩), .pointer (some ⟨p0_5b, 0, none⟩)]), p0t, (0, 0)⟩ :: (p0B0 ++ (p0B1 ++ (⟨p0_4b, [.int .u64 p0_4.first_, .slice p0_4a0 p0_4n0 p0_4c0, .int .u8 p0_4.last], p0_4t, (0, 0)⟩ :: (p0_4B0 ++ (⟨p0_5b, ([.int .i64 p0_5.size] ++ flat cg_T_ring_place p0_5g0), p0_5t, (0, 0)⟩ :: (p0_5P0 ++ (⟨p1b, ([.int .u64 p1.from_, .int .u64 p1.count, .int .u64 p1.most] ++ flat (e2 .u8) p1.ring.1), p1t, (0, 0)⟩ :: []))))))))) [] p3a0 (flat (e2 .u8) p3)) (fun v D => ∃ (r0a0 : Option Addr) (r0n0 : Nat) (r0c0 : Nat) (r0B0 : List Blk) (r1g0 : List (T_ring_place × G)) (r1P0 : List Blk), r0n0 = r0.l.length ∧ Own 34 1 r0a0 r0n0 r0c0 (flat (e1 .u8) r0.l) r0B0 ∧ r1.places.1 = unG r1g0 ∧ AllP sh_T_ring_place c_T_api_Shot r1P0 r1g0 ∧ v = .int .i64 r2 ∧ D = fun F => (⟨p0b, (.int .u8 p0.player :: .int .i64 p0.window :: st19 p0.sure p0a0 p0n0 p0c0 [.slice p0a1 p0n1 p0c1, .pointer (some ⟨p0_4b, 0, none⟩), .pointer (some ⟨p0_5b, 0, none⟩)]), p0t, (0, 0)⟩ :: (p0B0 ++ (p0B1 ++ (⟨p0_4b, [.int .u64 r0.first_, .slice r0a0 r0n0 r0c0, .int .u8 r0.last], p0_4t, (0, 0)⟩ :: (r0B0 ++ (⟨p0_5b, ([.int .i64 r1.size] ++ flat cg_T_ring_place r1g0), p0_5t, (0, 0)⟩ :: (r1P0 ++ (⟨p1b, ([.int .u64 p1.from_, .int .u64 p1.count, .int .u64 p1.most] ++ flat (e2 .u8) p1.ring.1), p1t, (0, 0)⟩ :: F))))))))) := by
  unfold m_hindcastlaw28_pairs at h
  refine sp_of_wc Tryd.func18 rfl Tryd.ntmps18 rfl rfl (fun w0 hR => ?_)
  have p3S0 := hR
  refine wc_seq (wc_region (wP rfl rfl (wl_nil (wx_then (wc_seq (wc_region ?_))))))
  iterate 4 refine wP rfl rfl ?_
  replace h := bsome h; obtain ⟨⟨za, zb, zn, zc⟩, x16, h⟩ := h; try dsimp only at h
  refine wl_cs Tryd.call13 rfl rfl rfl (s_sp (k_backfill_Pairs (p0 := p0) (p0_4 := p0_4) (p0_5 := p0_5) (p4 := p3) p0N0 p0V0 p0N1 p0V1 p0_4N0 p0_4V0 p0_5G0 p0_5A0 p3N0 p3H0 x16) (pH (pA (pA (pH (pA (pH (pA (pH pNil)))))))) (Rds.call p3S0 (pH (pA (pA (pH (pA (pH (pA (pH pNil)))))))) rsub_nil)) rfl ?_
  rintro _ _ ⟨_, ⟨zg, zi, zh, zd, zm, zl, ze, zf, zk, zj, rfl, rfl⟩, rfl⟩
  iterate 5 refine wP rfl rfl ?_
  refine wl_nil (wx_then (wc_seq (wc_region ?_)))
  iterate 2 refine wP rfl rfl ?_
  refine wP (v := .int .i64 (IntKind.wrap .i64 ((100 : Int) * zc))) rfl rfl (wP (v := .int .i64 (IntKind.wrap .i64 (zn + (IntKind.wrap .i64 ((100 : Int) * zc))))) rfl rfl (wP rfl rfl (wl_nil (wx_then (wc_ret ?_)))))
  simp only [Option.some.injEq, Prod.mk.injEq] at h
  obtain ⟨rfl, rfl, rfl⟩ := h
  exact wx_spD tt_ok (.inl rfl) Tryd.results18 (Res.tmp rfl Res.nil) ⟨zg, zi, zh, zd, zm, zl, ze, zf, zk, zj, rfl, rfl⟩ (fun F => by simp) (pSub (pH (pA (pA (pH (pA (pH (pA (pH pNil)))))))))

theorem k_rollback_Engine_Known {F : Nat} {p0 : T_rollback_Engine} {p0b p0t : Nat} {p0a0 : Option Addr} {p0n0 : Nat} {p0c0 : Nat} {p0B0 : List Blk} {p0a1 : Option Addr} {p0n1 : Nat} {p0c1 : Nat} {p0B1 : List Blk} {p0_4 : T_queue_Queue} {p0_4b p0_4t : Nat} {p0_4a0 : Option Addr} {p0_4n0 : Nat} {p0_4c0 : Nat} {p0_4B0 : List Blk} {p0_5 : T_ring_Ring} {p0_5b p0_5t : Nat} {p0_5g0 : List (T_ring_place × G)} {p0_5P0 : List Blk} {r0 : Int} (p0N0 : p0n0 = p0.sure.Shots.length) (p0V0 : Own 92 6 p0a0 p0n0 p0c0 (flat c_T_api_Shot p0.sure.Shots) p0B0) (p0N1 : p0n1 = p0.own.length) (p0V1 : Own 34 1 p0a1 p0n1 p0c1 (flat (e1 .u8) p0.own) p0B1) (p0_4N0 : p0_4n0 = p0_4.l.length) (p0_4V0 : Own 34 1 p0_4a0 p0_4n0 p0_4c0 (flat (e1 .u8) p0_4.l) p0_4B0) (p0_5G0 : p0_5.places.1 = unG p0_5g0) (p0_5A0 : AllP sh_T_ring_place c_T_api_Shot p0_5P0 p0_5g0) (h : m_rollback_Engine_Known F p0 p0_4 p0_5 = some r0) :
    Rd2 Tryd.prog 16 [.pointer (some ⟨p0b, 0, none⟩)] (⟨p0b, (.int .u8 p0.player :: .int .i64 p0.window :: st19 p0.sure p0a0 p0n0 p0c0 [.slice p0a1 p0n1 p0c1, .pointer (some ⟨p0_4b, 0, none⟩), .pointer (some ⟨p0_5b, 0, none⟩)]), p0t, (0, 0)⟩ :: (p0B0 ++ (p0B1 ++ (⟨p0_4b, [.int .u64 p0_4.first_, .slice p0_4a0 p0_4n0 p0_4c0, .int .u8 p0_4.last], p0_4t, (0, 0)⟩ :: (p0_4B0 ++ (⟨p0_5b, ([.int .i64 p0_5.size] ++ flat cg_T_ring_place p0_5g0), p0_5t, (0, 0)⟩ :: (p0_5P0 ++ []))))))) (fun w => True) (.int .u64 r0) := by
  unfold m_rollback_Engine_Known at h
  refine sp_of_wc Tryd.func16 rfl Tryd.ntmps16 rfl rfl (fun w0 hR => ?_)
  refine wc_seq (wc_region (wP rfl rfl (wl_nil (wx_then (wc_seq (wc_seq (wc_region (wP rfl rfl ?_))))))))
  replace h := bsome h; obtain ⟨v4, x4, h⟩ := h
  refine wl_cq Tryd.call29 rfl rfl rfl (q_rd (k_rollback_Engine_is (p0 := p0) (p0_4 := p0_4) (p0_5 := p0_5) p0N0 p0V0 p0N1 p0V1 p0_4N0 p0_4V0 p0_5G0 p0_5A0 x4) (pH (pA (pA (pH (pA (pH (pA pNil))))))) (fun _ _ => trivial)) rfl ?_
  refine wP (v := .bool (!v4)) rfl rfl (wl_nil (wx_then (wc_cond rfl (fun hc => ?_) (fun hc => ?_))))
  · replace h := ct hc h
    refine wc_seq (wc_region (wP rfl rfl (wl_nil (wx_then (wc_ret (wx_then_ret ?_))))))
    obtain rfl := sI h
    exact wx_rd tt_ok (.inl rfl) Tryd.results16 (Res.tmp rfl Res.nil) (pSub (pH (pA (pA (pH (pA (pH (pA pNil)))))))) rfl
  replace h := cf hc h
  refine wc_skip (wx_then (wc_seq (wc_region ?_)))
  iterate 2 refine wP rfl rfl ?_
  refine wP (v := .pointer (some ⟨p0b, 22, none⟩)) rfl rfl (wl_val (v := .pointer (some ⟨p0_4b, 0, none⟩)) (val_load tt_ok rfl (mH) rfl) rfl ?_)
  replace h := bsome h; obtain ⟨v10, x10, h⟩ := h
  refine wl_cq Tryd.call40 rfl rfl rfl (q_rd (k_queue_Queue_Known (p0 := p0_4) p0_4N0 p0_4V0 x10) (pCons (sC (sA (sA hC))) (pApp (sC (sA (sA hA'))) pNil)) (fun _ _ => trivial)) rfl ?_
  refine wP rfl rfl (wl_nil (wx_then (wc_ret ?_)))
  obtain rfl := sI h
  exact wx_rd tt_ok (.inl rfl) Tryd.results16 (Res.tmp rfl Res.nil) (pSub (pH (pA (pA (pH (pA (pH (pA pNil)))))))) rfl

theorem k_hindcastlaw28_works {F : Nat} {r0 : Bool} (h : m_hindcastlaw28_works F = some r0) :
    Pf Tryd.prog 5 [] (fun w => Rds w [] [] (some ⟨0, 0, none⟩) (flat (fun _ : Unit => gl_state_playerBounds) [()]) ∧ Rds w [] [] (some ⟨1, 0, none⟩) (flat (fun _ : Unit => gl_state_shotBounds) [()])) (.bool r0) := by
  unfold m_hindcastlaw28_works at h
  refine pf_of_wc Tryd.func5 rfl Tryd.ntmps5 rfl rfl (fun w0 hR => ?_)
  obtain ⟨G0S, G1S⟩ := hR
  refine wc_seq (wc_region (wP rfl rfl (wl_nil (wx_then (wc_seq (wc_region (wl_inl Tryd.call17 rfl rfl rfl Tryd.func17 rfl Tryd.ntmps17 rfl rfl rfl (wc_seq (wc_region ?_)))))))))
  iterate 2 refine wP rfl rfl ?_
  refine wl_nil (wx_then (wc_seq (wc_region ?_)))
  replace h := bsome h; obtain ⟨v100005, x100005, h⟩ := h
  refine wl_cs Tryd.call23 rfl rfl rfl (s_sp (k_state_Start x100005) pNil (fun _ _ => trivial)) rfl ?_
  rintro _ _ ⟨_, ⟨v100005a0, v100005n0, v100005c0, v100005B0, v100005N0, v100005V0, rfl, rfl⟩, rfl⟩
  replace h := bsome h; obtain ⟨v100006, x100006, h⟩ := h
  rcases v100006 with _ | v100006s
  · replace h := poN h
    refine wl_cs Tryd.call22 rfl rfl rfl (s_sp (k_rollback_New_none (p0 := v100005) v100005N0 (vec_cap v100005V0) (own_Z v100005V0) x100006) pNil (fun w hI => ⟨(Rds.call (Rds.of_vec v100005V0) pNil ⟨_, hA'⟩) w hI, (Rds.call G0S pNil rsub_nil) w hI, (Rds.call G1S pNil rsub_nil) w hI⟩)) rfl ?_
    rintro _ _ ⟨_, ⟨rfl, rfl⟩, rfl⟩
    refine wP rfl rfl (wl_nil (wx_then (wc_seq (wc_region ?_))))
    replace h := bsome h; obtain ⟨v100007, x100007, h⟩ := h
    rcases v100007 with _ | v100007s
    · replace h := poN h
      refine wl_cs Tryd.call7 rfl rfl rfl (s_sp (k_fold_New_none x100007) pNil (fun _ _ => trivial)) rfl ?_
      rintro _ _ ⟨_, ⟨rfl, rfl⟩, rfl⟩
      refine wP rfl rfl (wl_nil (wx_then (wc_seq (wc_seq (wc_region (wP rfl rfl (wl_nil (wx_then (wc_block ?_)))))))))
      replace h := bsome h; obtain ⟨_, h, hl100011⟩ := h
      refine wc_loop (fun m E L => ∃ (zd : Int), m_hindcastlaw28_works_L100010 F m zd = some () ∧ E = [(2, .pointer none), (3, .pointer none), (4, .int .i64 zd)] ∧ L = []) F ⟨(0 : Int), h, rfl, rfl⟩ (agree_cons rfl (agree_cons rfl (agree_cons rfl agree_nil))) (pSub pNil) ?_
      clear h
      rintro m100011 _ _ ⟨zd, h, rfl, rfl⟩
      rcases m100011 with _ | m100011
      · rw [m_hindcastlaw28_works_L100010.eq_1] at h; cases h
      rw [m_hindcastlaw28_works_L100010.eq_2] at h
      refine wc_seq (wc_seq (wc_region (wP rfl rfl (wP (v := .bool (decide (zd < (3 : Int)))) rfl rfl (wl_nil (wx_then (wc_cond rfl (fun hc => ?_) (fun hc => ?_))))))))
      · replace h := ct hc h
        refine wc_skip (wx_then (wc_seq (wc_block (wc_region (wP rfl rfl ?_)))))
        replace h := bsome h; obtain ⟨v100013, x100013, h⟩ := h
        refine wl_cq Tryd.call24 rfl rfl rfl (q_pf (k_rollback_Engine_Local_nil0 x100013) (fun _ _ => trivial)) rfl ?_
        refine wl_nil (wx_block (wx_then (wc_region (wP rfl rfl (wP (v := .int .i64 (IntKind.wrap .i64 (zd + (1 : Int)))) rfl rfl (wP rfl rfl (wl_nil ?_)))))))
        exact wx_round m100011 (Nat.lt_succ_self m100011) ⟨(IntKind.wrap .i64 (zd + (1 : Int))), h, rfl, rfl⟩ (agree_cons rfl (agree_cons rfl (agree_cons rfl agree_nil))) (pSub pNil)
      replace h := cf hc h
      refine wc_exit (wx_then_exit ?_)
      have h := hl100011; clear hl100011; try dsimp only [orE_l, orE_r] at h
      refine wx_then_exit (wx_block_exit (wx_then (wc_seq (wc_region ?_))))
      refine wP rfl rfl ?_
      replace h := bsome h; obtain ⟨v100015, x100015, h⟩ := h
      refine wl_cq Tryd.call26 rfl rfl rfl (q_pf (k_rollback_Engine_Remote_nil0 x100015) (fun _ _ => trivial)) rfl ?_
      refine wl_nil (wx_then (wc_seq (wc_region (wP rfl rfl ?_))))
      replace h := bsome h; obtain ⟨⟨zbt, zbu⟩, x100017, h⟩ := h; try dsimp only at h
      refine wl_cq Tryd.call14 rfl rfl rfl (q_pf (k_rollback_Engine_Confirm_nil0 x100017) (fun _ _ => trivial)) rfl ?_
      refine wl_nil (wx_then (wc_seq (wc_region (wP rfl rfl (wP (v := .agg #[.int .u8 (2 : Int), .int .u8 (1 : Int)]) rfl rfl ?_)))))
      replace h := bsome h; obtain ⟨v100020, x100020, h⟩ := h
      refine wl_cq Tryd.call8 rfl rfl rfl (q_pf (k_fold_History_Add_nil0 x100020) (fun _ _ => trivial)) rfl ?_
      refine wl_nil (wx_then (wc_seq (wc_region ?_)))
      iterate 4 refine wP rfl rfl ?_
      refine wl_nil (wx_then (wc_ret (wx_inl (v := .tuple #[.pointer none, .pointer none]) tt_ok (.inl rfl) Tryd.results17 (Res.tmp rfl (Res.tmp rfl Res.nil)) rfl ?_)))
      iterate 5 refine wP rfl rfl ?_
      refine wl_nil (wx_then (wc_seq (wc_seq (wc_region (wP rfl rfl (wP (v := .bool true) rfl rfl (wP rfl rfl (wl_skip rfl rfl (wl_skip rfl rfl (wP (v := .bool true) rfl rfl (wl_nil (wx_then (wc_cond_true rfl (wc_seq (wc_region (wP rfl rfl (wl_nil (wx_then (wc_ret (wx_then_ret ?_))))))))))))))))))))
      obtain rfl := sI h
      exact wx_pf tt_ok (.inl rfl) Tryd.results5 (Res.tmp rfl Res.nil) rfl
    replace h := poS h
    refine wl_cs Tryd.call7 rfl rfl rfl (s_sp (k_fold_New x100007) pNil (fun _ _ => trivial)) rfl ?_
    rintro _ _ ⟨_, ⟨zak, rfl, rfl⟩, rfl⟩
    refine wP rfl rfl (wl_nil (wx_then (wc_seq (wc_seq (wc_region (wP rfl rfl (wl_nil (wx_then (wc_block ?_)))))))))
    replace h := bsome h; obtain ⟨_, h, hl100011⟩ := h
    refine wc_loop (fun m E L => ∃ (zd : Int), m_hindcastlaw28_works_L100010_1 F m zd = some () ∧ E = [(2, .pointer none), (3, .pointer (some ⟨zak, 0, none⟩)), (4, .int .i64 zd)] ∧ L = (⟨zak, ([.int .u64 v100007s.from_, .int .u64 v100007s.count, .int .u64 v100007s.most] ++ flat (e2 .u8) v100007s.ring.1), 68, (0, 0)⟩ :: [])) F ⟨(0 : Int), h, rfl, rfl⟩ (agree_cons rfl (agree_cons rfl (agree_cons rfl agree_nil))) (pSub (pH pNil)) ?_
    clear h
    rintro m100011 _ _ ⟨zd, h, rfl, rfl⟩
    rcases m100011 with _ | m100011
    · rw [m_hindcastlaw28_works_L100010_1.eq_1] at h; cases h
    rw [m_hindcastlaw28_works_L100010_1.eq_2] at h
    refine wc_seq (wc_seq (wc_region (wP rfl rfl (wP (v := .bool (decide (zd < (3 : Int)))) rfl rfl (wl_nil (wx_then (wc_cond rfl (fun hc => ?_) (fun hc => ?_))))))))
    · replace h := ct hc h
      refine wc_skip (wx_then (wc_seq (wc_block (wc_region (wP rfl rfl ?_)))))
      replace h := bsome h; obtain ⟨v100013, x100013, h⟩ := h
      refine wl_cq Tryd.call24 rfl rfl rfl (q_pf (k_rollback_Engine_Local_nil0 x100013) (fun _ _ => trivial)) rfl ?_
      refine wl_nil (wx_block (wx_then (wc_region (wP rfl rfl (wP (v := .int .i64 (IntKind.wrap .i64 (zd + (1 : Int)))) rfl rfl (wP rfl rfl (wl_nil ?_)))))))
      exact wx_round m100011 (Nat.lt_succ_self m100011) ⟨(IntKind.wrap .i64 (zd + (1 : Int))), h, rfl, rfl⟩ (agree_cons rfl (agree_cons rfl (agree_cons rfl agree_nil))) (pSub (pH pNil))
    replace h := cf hc h
    refine wc_exit (wx_then_exit ?_)
    have h := hl100011; clear hl100011; try dsimp only [orE_l, orE_r] at h
    refine wx_then_exit (wx_block_exit (wx_then (wc_seq (wc_region ?_))))
    refine wP rfl rfl ?_
    replace h := bsome h; obtain ⟨v100015, x100015, h⟩ := h
    refine wl_cq Tryd.call26 rfl rfl rfl (q_pf (k_rollback_Engine_Remote_nil0 x100015) (fun _ _ => trivial)) rfl ?_
    refine wl_nil (wx_then (wc_seq (wc_region (wP rfl rfl ?_))))
    replace h := bsome h; obtain ⟨⟨zbt, zbu⟩, x100017, h⟩ := h; try dsimp only at h
    refine wl_cq Tryd.call14 rfl rfl rfl (q_pf (k_rollback_Engine_Confirm_nil0 x100017) (fun _ _ => trivial)) rfl ?_
    refine wl_nil (wx_then (wc_seq (wc_region (wP rfl rfl (wP (v := .agg #[.int .u8 (2 : Int), .int .u8 (1 : Int)]) rfl rfl ?_)))))
    replace h := bsome h; obtain ⟨⟨zcz, v100020⟩, x100020, h⟩ := h; try dsimp only at h
    refine wl_cs Tryd.call8 rfl rfl rfl (s_sp (k_fold_History_Add x100020) (pH pNil) (fun _ _ => trivial)) rfl ?_
    rintro _ _ ⟨_, ⟨rfl, rfl⟩, rfl⟩
    refine wl_nil (wx_then (wc_seq (wc_region ?_)))
    iterate 4 refine wP rfl rfl ?_
    refine wl_nil (wx_then (wc_ret (wx_inl (v := .tuple #[.pointer none, .pointer (some ⟨zak, 0, none⟩)]) tt_ok (.inl rfl) Tryd.results17 (Res.tmp rfl (Res.tmp rfl Res.nil)) rfl ?_)))
    iterate 5 refine wP rfl rfl ?_
    refine wl_nil (wx_then (wc_seq (wc_seq (wc_region (wP rfl rfl (wP (v := .bool true) rfl rfl (wP rfl rfl (wl_skip rfl rfl (wl_skip rfl rfl (wP (v := .bool true) rfl rfl (wl_nil (wx_then (wc_cond_true rfl (wc_seq (wc_region (wP rfl rfl (wl_nil (wx_then (wc_ret (wx_then_ret ?_))))))))))))))))))))
    obtain rfl := sI h
    exact wx_pf tt_ok (.inl rfl) Tryd.results5 (Res.tmp rfl Res.nil) rfl
  replace h := poS h
  refine wl_cs Tryd.call22 rfl rfl rfl (s_sp (k_rollback_New (p0 := v100005) v100005N0 (vec_cap v100005V0) (own_Z v100005V0) x100006) pNil (fun w hI => ⟨(Rds.call (Rds.of_vec v100005V0) pNil ⟨_, hA'⟩) w hI, (Rds.call G0S pNil rsub_nil) w hI, (Rds.call G1S pNil rsub_nil) w hI⟩)) rfl ?_
  rintro _ _ ⟨_, ⟨zy, zar, zas, v100006sa0, v100006sn0, v100006sc0, v100006sB0, v100006sa1, v100006sn1, v100006sc1, v100006sB1, v100006s_4a0, v100006s_4n0, v100006s_4c0, v100006s_4B0, v100006s_5g0, v100006s_5P0, v100006sN0, v100006sV0, v100006sN1, v100006sV1, v100006s_4N0, v100006s_4V0, v100006s_5G0, v100006s_5A0, rfl, rfl⟩, rfl⟩
  refine wP rfl rfl (wl_nil (wx_then (wc_seq (wc_region ?_))))
  replace h := bsome h; obtain ⟨v100007, x100007, h⟩ := h
  rcases v100007 with _ | v100007s
  · replace h := poN h
    refine wl_cs Tryd.call7 rfl rfl rfl (s_sp (k_fold_New_none x100007) pNil (fun _ _ => trivial)) rfl ?_
    rintro _ _ ⟨_, ⟨rfl, rfl⟩, rfl⟩
    refine wP rfl rfl (wl_nil (wx_then (wc_seq (wc_seq (wc_region (wP rfl rfl (wl_nil (wx_then (wc_block ?_)))))))))
    replace h := bsome h; obtain ⟨⟨zah, zai, zac, zad, zae, zaf, zag, zaj⟩, h, hl100011⟩ := h; try dsimp only at hl100011
    refine wc_loop (fun m E L => ∃ (zd : Int) (zj : Int) (zk : Int) (zg : Int) (zh : Int) (zi : (T_api_Player × T_api_Player)) (za : (List T_api_Shot)) (zf : (Int × Int)) (zb : (List Int)) (zq : Option Addr) (zl : Nat) (zr : Nat) (zn : List Blk) (zw : Option Addr) (zm : Nat) (zx : Nat) (zt : List Blk), m_hindcastlaw28_works_L100010_2 F v100006s m zd zj zk zg zh zi za zf zb = some (zah, zai, zac, zad, zae, zaf, zag, zaj) ∧ zl = za.length ∧ Own 92 6 zq zl zr (flat c_T_api_Shot za) zn ∧ zm = zb.length ∧ Own 34 1 zw zm zx (flat (e1 .u8) zb) zt ∧ E = [(2, .pointer (some ⟨zy, 0, none⟩)), (3, .pointer none), (4, .int .i64 zd)] ∧ L = (⟨zy, (.int .u8 zj :: .int .i64 zk :: .int .u64 zg :: .int .u64 zh :: pl14 zi [.slice zq zl zr, .int .u16 zf.1, .int .u16 zf.2, .slice zw zm zx, .pointer (some ⟨zar, 0, none⟩), .pointer (some ⟨zas, 0, none⟩)]), 73, (0, 0)⟩ :: (⟨zar, [.int .u64 v100006s.2.1.first_, .slice v100006s_4a0 v100006s_4n0 v100006s_4c0, .int .u8 v100006s.2.1.last], 103, (0, 0)⟩ :: (⟨zas, ([.int .i64 v100006s.2.2.size] ++ flat cg_T_ring_place v100006s_5g0), 121, (0, 0)⟩ :: (zn ++ (zt ++ (v100006s_4B0 ++ (v100006s_5P0 ++ [])))))))) F ⟨(0 : Int), v100006s.1.player, v100006s.1.window, v100006s.1.sure.Frame, v100006s.1.sure.Seed, v100006s.1.sure.Players, v100006s.1.sure.Shots, v100006s.1.sure.Score, v100006s.1.own, v100006sa0, v100006sn0, v100006sc0, v100006sB0, v100006sa1, v100006sn1, v100006sc1, v100006sB1, h, v100006sN0, v100006sV0, v100006sN1, v100006sV1, rfl, rfl⟩ (agree_cons rfl (agree_cons rfl (agree_cons rfl agree_nil))) (pSub (pH (pCons (sA (sA hC)) (pCons (sA (sA (sA hC))) (pA (pA (pA (pA pNil)))))))) ?_
    clear h
    rintro m100011 _ _ ⟨zd, zj, zk, zg, zh, zi, za, zf, zb, zq, zl, zr, zn, zw, zm, zx, zt, h, zo, zp, zu, zv, rfl, rfl⟩
    rcases m100011 with _ | m100011
    · rw [m_hindcastlaw28_works_L100010_2.eq_1] at h; cases h
    rw [m_hindcastlaw28_works_L100010_2.eq_2] at h
    refine wc_seq (wc_seq (wc_region (wP rfl rfl (wP (v := .bool (decide (zd < (3 : Int)))) rfl rfl (wl_nil (wx_then (wc_cond rfl (fun hc => ?_) (fun hc => ?_))))))))
    · replace h := ct hc h
      refine wc_skip (wx_then (wc_seq (wc_block (wc_region (wP rfl rfl ?_)))))
      replace h := bsome h; obtain ⟨⟨zc, v100013⟩, x100013, h⟩ := h; try dsimp only at h
      refine wl_cs Tryd.call24 rfl rfl rfl (s_sp (k_rollback_Engine_Local (p0 := (T_rollback_Engine.mk zj zk (T_api_State.mk zg zh zi za zf) zb)) (p0_4 := v100006s.2.1) (p0_5 := v100006s.2.2) zo zp zu zv v100006s_4N0 v100006s_4V0 v100006s_5G0 v100006s_5A0 x100013) (pH (pApp (sC (sC hA')) (pApp (sC (sC hA')) (pH (pApp (sC hA') (pH (pA pNil))))))) (fun _ _ => trivial)) rfl ?_
      rintro _ _ ⟨_, ⟨zbe, zbi, zbg, zay, zbf, zbj, zbh, zaz, zba, zbc, zbb, zbd, rfl, rfl⟩, rfl⟩
      refine wl_nil (wx_block (wx_then (wc_region (wP rfl rfl (wP (v := .int .i64 (IntKind.wrap .i64 (zd + (1 : Int)))) rfl rfl (wP rfl rfl (wl_nil ?_)))))))
      exact wx_round m100011 (Nat.lt_succ_self m100011) ⟨(IntKind.wrap .i64 (zd + (1 : Int))), zc.player, zc.window, zc.sure.Frame, zc.sure.Seed, zc.sure.Players, zc.sure.Shots, zc.sure.Score, zc.own, zbe, zbi, zbg, zay, zbf, zbj, zbh, zaz, h, zba, zbc, zbb, zbd, rfl, rfl⟩ (agree_cons rfl (agree_cons rfl (agree_cons rfl agree_nil))) (pSub (pH (pCons (sA (sA hC)) (pCons (sA (sA (sA hC))) (pA (pA (pA (pA pNil))))))))
    replace h := cf hc h
    refine wc_exit (wx_then_exit ?_)
    simp only [Option.some.injEq, Prod.mk.injEq] at h
    obtain ⟨rfl, rfl, rfl, rfl, rfl, rfl, rfl, rfl⟩ := h
    have h := hl100011; clear hl100011; try dsimp only [orE_l, orE_r] at h
    refine wx_then_exit (wx_block_exit (wx_then (wc_seq (wc_region ?_))))
    refine wP rfl rfl ?_
    replace h := bsome h; obtain ⟨⟨zs, zaa, v100015⟩, x100015, h⟩ := h; try dsimp only at h
    refine wl_cs Tryd.call26 rfl rfl rfl (s_sp (k_rollback_Engine_Remote (p0 := (T_rollback_Engine.mk zj zk (T_api_State.mk zg zh zi za zf) zb)) (p0_4 := v100006s.2.1) (p0_5 := v100006s.2.2) zo zp zu zv v100006s_4N0 v100006s_4V0 v100006s_5G0 v100006s_5A0 x100015) (pH (pApp (sC (sC hA')) (pApp (sC (sC hA')) (pH (pApp (sC hA') (pH (pA pNil))))))) (fun _ _ => trivial)) rfl ?_
    rintro _ _ ⟨_, ⟨zcc, zce, zcd, zcb, zcg, zcf, zbk, zbl, zbn, zbm, rfl, rfl⟩, rfl⟩
    refine wl_nil (wx_then (wc_seq (wc_region (wP rfl rfl ?_))))
    replace h := bsome h; obtain ⟨⟨ze, zz, zab, zbt, zbu⟩, x100017, h⟩ := h; try dsimp only at h
    refine wl_cs Tryd.call14 rfl rfl rfl (s_sp (k_rollback_Engine_Confirm (p0 := (T_rollback_Engine.mk zj zk (T_api_State.mk zg zh zi za zf) zb)) (p0_4 := zs) (p0_5 := zaa) zo zp zu zv zbk zbl zbn zbm x100017) (pH (pA (pA (pH (pA (pH (pA pNil))))))) (fun w hI => ⟨(Rds.call G0S (pH (pA (pA (pH (pA (pH (pA pNil))))))) rsub_nil) w hI, (Rds.call G1S (pH (pA (pA (pH (pA (pH (pA pNil))))))) rsub_nil) w hI⟩)) rfl ?_
    rintro _ _ ⟨_, ⟨zcj, zcn, zcl, zch, zck, zco, zcm, zci, zcq, zcs, zcr, zcp, zcu, zct, zat, zav, zau, zaw, zbw, zbx, zbz, zby, rfl, rfl⟩, rfl⟩
    refine wl_nil (wx_then (wc_seq (wc_region (wP rfl rfl (wP (v := .agg #[.int .u8 (2 : Int), .int .u8 (1 : Int)]) rfl rfl ?_)))))
    replace h := bsome h; obtain ⟨v100020, x100020, h⟩ := h
    refine wl_cq Tryd.call8 rfl rfl rfl (q_pf (k_fold_History_Add_nil0 x100020) (fun _ _ => trivial)) rfl ?_
    refine wl_nil (wx_then (wc_seq (wc_region ?_)))
    iterate 4 refine wP rfl rfl ?_
    refine wl_nil (wx_then (wc_ret (wx_inl (v := .tuple #[.pointer (some ⟨zy, 0, none⟩), .pointer none]) tt_ok (.inl rfl) Tryd.results17 (Res.tmp rfl (Res.tmp rfl Res.nil)) rfl ?_)))
    iterate 5 refine wP rfl rfl ?_
    refine wl_nil (wx_then (wc_seq (wc_seq (wc_region (wP rfl rfl (wP (v := .bool false) rfl rfl (wP rfl rfl (wl_run rfl (wP rfl rfl (wl_run rfl (wP (v := .bool true) rfl rfl (wP (v := .bool true) rfl rfl (wl_nil (wx_then (wc_cond_true rfl (wc_seq (wc_region (wP rfl rfl (wl_nil (wx_then (wc_ret (wx_then_ret ?_))))))))))))))))))))))
    obtain rfl := sI h
    exact wx_pf tt_ok (.inl rfl) Tryd.results5 (Res.tmp rfl Res.nil) rfl
  replace h := poS h
  refine wl_cs Tryd.call7 rfl rfl rfl (s_sp (k_fold_New x100007) pNil (fun _ _ => trivial)) rfl ?_
  rintro _ _ ⟨_, ⟨zak, rfl, rfl⟩, rfl⟩
  refine wP rfl rfl (wl_nil (wx_then (wc_seq (wc_seq (wc_region (wP rfl rfl (wl_nil (wx_then (wc_block ?_)))))))))
  replace h := bsome h; obtain ⟨⟨zah, zai, zac, zad, zae, zaf, zag, zaj⟩, h, hl100011⟩ := h; try dsimp only at hl100011
  refine wc_loop (fun m E L => ∃ (zd : Int) (zj : Int) (zk : Int) (zg : Int) (zh : Int) (zi : (T_api_Player × T_api_Player)) (za : (List T_api_Shot)) (zf : (Int × Int)) (zb : (List Int)) (zq : Option Addr) (zl : Nat) (zr : Nat) (zn : List Blk) (zw : Option Addr) (zm : Nat) (zx : Nat) (zt : List Blk), m_hindcastlaw28_works_L100010_3 F v100006s m zd zj zk zg zh zi za zf zb = some (zah, zai, zac, zad, zae, zaf, zag, zaj) ∧ zl = za.length ∧ Own 92 6 zq zl zr (flat c_T_api_Shot za) zn ∧ zm = zb.length ∧ Own 34 1 zw zm zx (flat (e1 .u8) zb) zt ∧ E = [(2, .pointer (some ⟨zy, 0, none⟩)), (3, .pointer (some ⟨zak, 0, none⟩)), (4, .int .i64 zd)] ∧ L = (⟨zy, (.int .u8 zj :: .int .i64 zk :: .int .u64 zg :: .int .u64 zh :: pl14 zi [.slice zq zl zr, .int .u16 zf.1, .int .u16 zf.2, .slice zw zm zx, .pointer (some ⟨zar, 0, none⟩), .pointer (some ⟨zas, 0, none⟩)]), 73, (0, 0)⟩ :: (⟨zar, [.int .u64 v100006s.2.1.first_, .slice v100006s_4a0 v100006s_4n0 v100006s_4c0, .int .u8 v100006s.2.1.last], 103, (0, 0)⟩ :: (⟨zas, ([.int .i64 v100006s.2.2.size] ++ flat cg_T_ring_place v100006s_5g0), 121, (0, 0)⟩ :: (⟨zak, ([.int .u64 v100007s.from_, .int .u64 v100007s.count, .int .u64 v100007s.most] ++ flat (e2 .u8) v100007s.ring.1), 68, (0, 0)⟩ :: (zn ++ (zt ++ (v100006s_4B0 ++ (v100006s_5P0 ++ []))))))))) F ⟨(0 : Int), v100006s.1.player, v100006s.1.window, v100006s.1.sure.Frame, v100006s.1.sure.Seed, v100006s.1.sure.Players, v100006s.1.sure.Shots, v100006s.1.sure.Score, v100006s.1.own, v100006sa0, v100006sn0, v100006sc0, v100006sB0, v100006sa1, v100006sn1, v100006sc1, v100006sB1, h, v100006sN0, v100006sV0, v100006sN1, v100006sV1, rfl, rfl⟩ (agree_cons rfl (agree_cons rfl (agree_cons rfl agree_nil))) (pSub (pCons (sC hC) (pCons (sC (sA (sA hC))) (pCons (sC (sA (sA (sA hC)))) (pH (pA (pA (pA (pA pNil))))))))) ?_
  clear h
  rintro m100011 _ _ ⟨zd, zj, zk, zg, zh, zi, za, zf, zb, zq, zl, zr, zn, zw, zm, zx, zt, h, zo, zp, zu, zv, rfl, rfl⟩
  rcases m100011 with _ | m100011
  · rw [m_hindcastlaw28_works_L100010_3.eq_1] at h; cases h
  rw [m_hindcastlaw28_works_L100010_3.eq_2] at h
  refine wc_seq (wc_seq (wc_region (wP rfl rfl (wP (v := .bool (decide (zd < (3 : Int)))) rfl rfl (wl_nil (wx_then (wc_cond rfl (fun hc => ?_) (fun hc => ?_))))))))
  · replace h := ct hc h
    refine wc_skip (wx_then (wc_seq (wc_block (wc_region (wP rfl rfl ?_)))))
    replace h := bsome h; obtain ⟨⟨zc, v100013⟩, x100013, h⟩ := h; try dsimp only at h
    refine wl_cs Tryd.call24 rfl rfl rfl (s_sp (k_rollback_Engine_Local (p0 := (T_rollback_Engine.mk zj zk (T_api_State.mk zg zh zi za zf) zb)) (p0_4 := v100006s.2.1) (p0_5 := v100006s.2.2) zo zp zu zv v100006s_4N0 v100006s_4V0 v100006s_5G0 v100006s_5A0 x100013) (pH (pApp (sC (sC (sC hA'))) (pApp (sC (sC (sC hA'))) (pH (pApp (sC (sC hA')) (pH (pApp (sC hA') pNil))))))) (fun _ _ => trivial)) rfl ?_
    rintro _ _ ⟨_, ⟨zbe, zbi, zbg, zay, zbf, zbj, zbh, zaz, zba, zbc, zbb, zbd, rfl, rfl⟩, rfl⟩
    refine wl_nil (wx_block (wx_then (wc_region (wP rfl rfl (wP (v := .int .i64 (IntKind.wrap .i64 (zd + (1 : Int)))) rfl rfl (wP rfl rfl (wl_nil ?_)))))))
    exact wx_round m100011 (Nat.lt_succ_self m100011) ⟨(IntKind.wrap .i64 (zd + (1 : Int))), zc.player, zc.window, zc.sure.Frame, zc.sure.Seed, zc.sure.Players, zc.sure.Shots, zc.sure.Score, zc.own, zbe, zbi, zbg, zay, zbf, zbj, zbh, zaz, h, zba, zbc, zbb, zbd, rfl, rfl⟩ (agree_cons rfl (agree_cons rfl (agree_cons rfl agree_nil))) (pSub (pH (pCons (sA (sA hC)) (pCons (sA (sA (sA hC))) (pCons (sA (sA (sA (sA hC)))) (pA (pA (pA (pA pNil)))))))))
  replace h := cf hc h
  refine wc_exit (wx_then_exit ?_)
  simp only [Option.some.injEq, Prod.mk.injEq] at h
  obtain ⟨rfl, rfl, rfl, rfl, rfl, rfl, rfl, rfl⟩ := h
  have h := hl100011; clear hl100011; try dsimp only [orE_l, orE_r] at h
  refine wx_then_exit (wx_block_exit (wx_then (wc_seq (wc_region ?_))))
  refine wP rfl rfl ?_
  replace h := bsome h; obtain ⟨⟨zs, zaa, v100015⟩, x100015, h⟩ := h; try dsimp only at h
  refine wl_cs Tryd.call26 rfl rfl rfl (s_sp (k_rollback_Engine_Remote (p0 := (T_rollback_Engine.mk zj zk (T_api_State.mk zg zh zi za zf) zb)) (p0_4 := v100006s.2.1) (p0_5 := v100006s.2.2) zo zp zu zv v100006s_4N0 v100006s_4V0 v100006s_5G0 v100006s_5A0 x100015) (pH (pApp (sC (sC (sC hA'))) (pApp (sC (sC (sC hA'))) (pH (pApp (sC (sC hA')) (pH (pApp (sC hA') pNil))))))) (fun _ _ => trivial)) rfl ?_
  rintro _ _ ⟨_, ⟨zcc, zce, zcd, zcb, zcg, zcf, zbk, zbl, zbn, zbm, rfl, rfl⟩, rfl⟩
  refine wl_nil (wx_then (wc_seq (wc_region (wP rfl rfl ?_))))
  replace h := bsome h; obtain ⟨⟨ze, zz, zab, zbt, zbu⟩, x100017, h⟩ := h; try dsimp only at h
  refine wl_cs Tryd.call14 rfl rfl rfl (s_sp (k_rollback_Engine_Confirm (p0 := (T_rollback_Engine.mk zj zk (T_api_State.mk zg zh zi za zf) zb)) (p0_4 := zs) (p0_5 := zaa) zo zp zu zv zbk zbl zbn zbm x100017) (pH (pA (pA (pH (pA (pH (pA pNil))))))) (fun w hI => ⟨(Rds.call G0S (pH (pA (pA (pH (pA (pH (pA pNil))))))) rsub_nil) w hI, (Rds.call G1S (pH (pA (pA (pH (pA (pH (pA pNil))))))) rsub_nil) w hI⟩)) rfl ?_
  rintro _ _ ⟨_, ⟨zcj, zcn, zcl, zch, zck, zco, zcm, zci, zcq, zcs, zcr, zcp, zcu, zct, zat, zav, zau, zaw, zbw, zbx, zbz, zby, rfl, rfl⟩, rfl⟩
  refine wl_nil (wx_then (wc_seq (wc_region (wP rfl rfl (wP (v := .agg #[.int .u8 (2 : Int), .int .u8 (1 : Int)]) rfl rfl ?_)))))
  replace h := bsome h; obtain ⟨⟨zcz, v100020⟩, x100020, h⟩ := h; try dsimp only at h
  refine wl_cs Tryd.call8 rfl rfl rfl (s_sp (k_fold_History_Add x100020) (pCons (sC (sA (sA (sC (sA (sC (sA hC))))))) pNil) (fun _ _ => trivial)) rfl ?_
  rintro _ _ ⟨_, ⟨rfl, rfl⟩, rfl⟩
  refine wl_nil (wx_then (wc_seq (wc_region ?_)))
  iterate 4 refine wP rfl rfl ?_
  refine wl_nil (wx_then (wc_ret (wx_inl (v := .tuple #[.pointer (some ⟨zy, 0, none⟩), .pointer (some ⟨zak, 0, none⟩)]) tt_ok (.inl rfl) Tryd.results17 (Res.tmp rfl (Res.tmp rfl Res.nil)) rfl ?_)))
  iterate 5 refine wP rfl rfl ?_
  refine wl_nil (wx_then (wc_seq (wc_seq (wc_region (wP rfl rfl (wP (v := .bool false) rfl rfl (wP rfl rfl (wl_run rfl (wP rfl rfl (wl_run rfl (wP (v := .bool false) rfl rfl (wP (v := .bool false) rfl rfl (wl_nil (wx_then (wc_cond_false rfl (wc_skip (wx_then (wc_seq (wc_region (wP rfl rfl ?_))))))))))))))))))))
  replace h := bsome h; obtain ⟨⟨zdb, zda⟩, x17, h⟩ := h; try dsimp only at h
  refine wl_cq Tryd.call10 rfl rfl rfl (q_rd (k_backfill_Plan x17) (pH pNil) (fun _ _ => trivial)) rfl ?_
  iterate 5 refine wP rfl rfl ?_
  refine wl_nil (wx_then (wc_seq (wc_region (wP rfl rfl (wP (v := .bool (zdb == (0 : Int))) rfl rfl (wP rfl rfl ?_))))))
  replace h := bsome h; obtain ⟨v25, h, hg25⟩ := h
  refine wl_split (t := 22) rfl (fun hc => ?_) (fun hc => ?_)
  · replace h := ct hc h
    refine wl_run rfl (wP rfl rfl (wl_run rfl (wP (v := .bool (zda == (1 : Int))) rfl rfl ?_)))
    obtain rfl := sI h
    have h := hg25; clear hg25
    refine wP (v := .bool (zda == (1 : Int))) rfl rfl (wP rfl rfl ?_)
    replace h := bsome h; obtain ⟨⟨v34, zbo, zbp, zbq, zbr, zbs⟩, h, hg34⟩ := h
    refine wl_split (t := 26) rfl (fun hc => ?_) (fun hc => ?_)
    · replace h := ct hc h
      refine wl_run rfl (wP rfl rfl (wl_run rfl (wP rfl rfl (wl_run rfl (wP (v := .agg #[.int .u8 (2 : Int), .int .u8 (1 : Int)]) rfl rfl (wl_run rfl (wP (v := .agg #[.int .u8 (2 : Int), .int .u8 (5 : Int)]) rfl rfl (wl_run rfl (wl_chg (chg_bsv (enc := (e2 .u8)) (xs := ([((2 : Int), (1 : Int)), ((2 : Int), (5 : Int))] : List (Int × Int))) tt_ok rfl rfl rfl rfl rfl rfl rfl rfl (e2_len _)) rfl ?_)))))))))
      rintro _ _ ⟨a31, n31_, c31, B31, rfl, N31, V31, rfl⟩
      replace h := bsome h; obtain ⟨⟨zaq, zax, v32⟩, x32, h⟩ := h; try dsimp only at h
      refine wl_run rfl (wl_cs Tryd.call18 rfl rfl rfl (s_sp (k_hindcastlaw28_pairs (p0 := ze) (p0_4 := zz) (p0_5 := zab) (p3 := ([((2 : Int), (1 : Int)), ((2 : Int), (5 : Int))] : List (Int × Int))) zat zav zau zaw zbw zbx zbz zby N31 (vec_cap V31) x32) (pCons (sA (sC hC)) (pApp (sA (sC hA')) (pApp (sA (sC hA')) (pCons (sA (sC hC)) (pApp (sA (sC hA')) (pCons (sA (sC hC)) (pApp (sA (sC hA')) (pCons (sA hC) pNil)))))))) (Rds.call (Rds.of_vec V31) (pCons (sA (sC hC)) (pApp (sA (sC hA')) (pApp (sA (sC hA')) (pCons (sA (sC hC)) (pApp (sA (sC hA')) (pCons (sA (sC hC)) (pApp (sA (sC hA')) (pCons (sA hC) pNil)))))))) ⟨_, hA'⟩)) rfl ?_)
      rintro _ _ ⟨_, ⟨zdd, zdf, zde, zdc, zdh, zdg, zcv, zcw, zcy, zcx, rfl, rfl⟩, rfl⟩
      refine wl_run rfl (wP (v := .bool (v32 == (2 : Int))) rfl rfl ?_)
      simp only [Option.some.injEq, Prod.mk.injEq] at h
      obtain ⟨rfl, rfl, rfl, rfl, rfl, rfl⟩ := h
      have h := hg34; clear hg34; try dsimp only at h
      refine wP (v := .bool (v32 == (2 : Int))) rfl rfl (wP rfl rfl ?_)
      replace h := bsome h; obtain ⟨v39, h, hg39⟩ := h
      refine wl_split (t := 35) rfl (fun hc => ?_) (fun hc => ?_)
      · replace h := ct hc h
        refine wl_run rfl (wP rfl rfl ?_)
        replace h := bsome h; obtain ⟨v37, x37, h⟩ := h
        refine wl_run rfl (wl_cq Tryd.call16 rfl rfl rfl (q_rd (k_rollback_Engine_Known (p0 := ze) (p0_4 := zaq) (p0_5 := zax) zat zav zau zaw zcv zcw zcy zcx x37) (pH (pA (pA (pH (pA (pH (pA pNil))))))) (fun _ _ => trivial)) rfl (wl_run rfl (wP (v := .bool (v37 == (2 : Int))) rfl rfl ?_)))
        obtain rfl := sI h
        have h := hg39; clear hg39
        refine wP (v := .bool (v37 == (2 : Int))) rfl rfl (wP rfl rfl ?_)
        replace h := bsome h; obtain ⟨⟨v47, zal, zam, zan, zao, zap⟩, h, hg47⟩ := h
        refine wl_split (t := 40) rfl (fun hc => ?_) (fun hc => ?_)
        · replace h := ct hc h
          refine wl_run rfl (wP rfl rfl (wl_run rfl (wP rfl rfl (wl_run rfl (wP (v := .agg #[.int .u8 (2 : Int), .int .u8 (3 : Int)]) rfl rfl (wl_run rfl (wl_chg (chg_bsv (enc := (e2 .u8)) (xs := ([((2 : Int), (3 : Int))] : List (Int × Int))) tt_ok rfl rfl rfl rfl rfl rfl rfl rfl (e2_len _)) rfl ?_)))))))
          rintro _ _ ⟨a44, n44_, c44, B44, rfl, N44, V44, rfl⟩
          replace h := bsome h; obtain ⟨⟨zbv, zca, v45⟩, x45, h⟩ := h; try dsimp only at h
          refine wl_run rfl (wl_cs Tryd.call18 rfl rfl rfl (s_sp (k_hindcastlaw28_pairs (p0 := ze) (p0_4 := zaq) (p0_5 := zax) (p3 := ([((2 : Int), (3 : Int))] : List (Int × Int))) zat zav zau zaw zcv zcw zcy zcx N44 (vec_cap V44) x45) (pCons (sA hC) (pApp (sA hA') (pApp (sA hA') (pCons (sA hC) (pApp (sA hA') (pCons (sA hC) (pApp (sA hA') (pCons (sA hC) pNil)))))))) (Rds.call (Rds.of_vec V44) (pCons (sA hC) (pApp (sA hA') (pApp (sA hA') (pCons (sA hC) (pApp (sA hA') (pCons (sA hC) (pApp (sA hA') (pCons (sA hC) pNil)))))))) ⟨_, hA'⟩)) rfl ?_)
          rintro _ _ ⟨_, ⟨zdl, zdn, zdm, zdi, zdr, zdq, zdj, zdk, zdp, zdo, rfl, rfl⟩, rfl⟩
          refine wl_run rfl (wP (v := .bool (v45 == (1400 : Int))) rfl rfl ?_)
          simp only [Option.some.injEq, Prod.mk.injEq] at h
          obtain ⟨rfl, rfl, rfl, rfl, rfl, rfl⟩ := h
          have h := hg47; clear hg47; try dsimp only at h
          refine wP (v := .bool (v45 == (1400 : Int))) rfl rfl (wP rfl rfl (wl_nil (wx_then (wc_ret ?_))))
          obtain rfl := sI h
          exact wx_pf tt_ok (.inl rfl) Tryd.results5 (Res.tmp rfl Res.nil) rfl
        replace h := cf hc h
        refine wl_skip rfl rfl (wl_skip rfl rfl (wl_skip rfl rfl (wl_skip rfl rfl (wl_skip rfl rfl (wl_skip rfl rfl ?_)))))
        simp only [Option.some.injEq, Prod.mk.injEq] at h
        obtain ⟨rfl, rfl, rfl, rfl, rfl, rfl⟩ := h
        have h := hg47; clear hg47; try dsimp only at h
        refine wP (v := .bool false) rfl rfl (wP rfl rfl (wl_nil (wx_then (wc_ret ?_))))
        obtain rfl := sI h
        exact wx_pf tt_ok (.inl rfl) Tryd.results5 (Res.tmp rfl Res.nil) rfl
      replace h := cf hc h
      refine wl_skip rfl rfl (wl_skip rfl rfl (wl_skip rfl rfl ?_))
      obtain rfl := sI h
      have h := hg39; clear hg39
      refine wP (v := .bool false) rfl rfl (wP rfl rfl ?_)
      replace h := bsome h; obtain ⟨⟨v47, zal, zam, zan, zao, zap⟩, h, hg47⟩ := h
      replace h := cf rfl h
      refine wl_skip rfl rfl (wl_skip rfl rfl (wl_skip rfl rfl (wl_skip rfl rfl (wl_skip rfl rfl (wl_skip rfl rfl ?_)))))
      simp only [Option.some.injEq, Prod.mk.injEq] at h
      obtain ⟨rfl, rfl, rfl, rfl, rfl, rfl⟩ := h
      have h := hg47; clear hg47; try dsimp only at h
      refine wP (v := .bool false) rfl rfl (wP rfl rfl (wl_nil (wx_then (wc_ret ?_))))
      obtain rfl := sI h
      exact wx_pf tt_ok (.inl rfl) Tryd.results5 (Res.tmp rfl Res.nil) rfl
    replace h := cf hc h
    refine wl_skip rfl rfl (wl_skip rfl rfl (wl_skip rfl rfl (wl_skip rfl rfl (wl_skip rfl rfl (wl_skip rfl rfl (wl_skip rfl rfl ?_))))))
    simp only [Option.some.injEq, Prod.mk.injEq] at h
    obtain ⟨rfl, rfl, rfl, rfl, rfl, rfl⟩ := h
    have h := hg34; clear hg34; try dsimp only at h
    refine wP (v := .bool false) rfl rfl (wP rfl rfl ?_)
    replace h := bsome h; obtain ⟨v39, h, hg39⟩ := h
    replace h := cf rfl h
    refine wl_skip rfl rfl (wl_skip rfl rfl (wl_skip rfl rfl ?_))
    obtain rfl := sI h
    have h := hg39; clear hg39
    refine wP (v := .bool false) rfl rfl (wP rfl rfl ?_)
    replace h := bsome h; obtain ⟨⟨v47, zal, zam, zan, zao, zap⟩, h, hg47⟩ := h
    replace h := cf rfl h
    refine wl_skip rfl rfl (wl_skip rfl rfl (wl_skip rfl rfl (wl_skip rfl rfl (wl_skip rfl rfl (wl_skip rfl rfl ?_)))))
    simp only [Option.some.injEq, Prod.mk.injEq] at h
    obtain ⟨rfl, rfl, rfl, rfl, rfl, rfl⟩ := h
    have h := hg47; clear hg47; try dsimp only at h
    refine wP (v := .bool false) rfl rfl (wP rfl rfl (wl_nil (wx_then (wc_ret ?_))))
    obtain rfl := sI h
    exact wx_pf tt_ok (.inl rfl) Tryd.results5 (Res.tmp rfl Res.nil) rfl
  replace h := cf hc h
  refine wl_skip rfl rfl (wl_skip rfl rfl ?_)
  obtain rfl := sI h
  have h := hg25; clear hg25
  refine wP (v := .bool false) rfl rfl (wP rfl rfl ?_)
  replace h := bsome h; obtain ⟨⟨v34, zbo, zbp, zbq, zbr, zbs⟩, h, hg34⟩ := h
  replace h := cf rfl h
  refine wl_skip rfl rfl (wl_skip rfl rfl (wl_skip rfl rfl (wl_skip rfl rfl (wl_skip rfl rfl (wl_skip rfl rfl (wl_skip rfl rfl ?_))))))
  simp only [Option.some.injEq, Prod.mk.injEq] at h
  obtain ⟨rfl, rfl, rfl, rfl, rfl, rfl⟩ := h
  have h := hg34; clear hg34; try dsimp only at h
  refine wP (v := .bool false) rfl rfl (wP rfl rfl ?_)
  replace h := bsome h; obtain ⟨v39, h, hg39⟩ := h
  replace h := cf rfl h
  refine wl_skip rfl rfl (wl_skip rfl rfl (wl_skip rfl rfl ?_))
  obtain rfl := sI h
  have h := hg39; clear hg39
  refine wP (v := .bool false) rfl rfl (wP rfl rfl ?_)
  replace h := bsome h; obtain ⟨⟨v47, zal, zam, zan, zao, zap⟩, h, hg47⟩ := h
  replace h := cf rfl h
  refine wl_skip rfl rfl (wl_skip rfl rfl (wl_skip rfl rfl (wl_skip rfl rfl (wl_skip rfl rfl (wl_skip rfl rfl ?_)))))
  simp only [Option.some.injEq, Prod.mk.injEq] at h
  obtain ⟨rfl, rfl, rfl, rfl, rfl, rfl⟩ := h
  have h := hg47; clear hg47; try dsimp only at h
  refine wP (v := .bool false) rfl rfl (wP rfl rfl (wl_nil (wx_then (wc_ret ?_))))
  obtain rfl := sI h
  exact wx_pf tt_ok (.inl rfl) Tryd.results5 (Res.tmp rfl Res.nil) rfl

theorem k_hindcastlaw28_at {F : Nat} {p0 : (List Int)} {p0a0 : Option Addr} {p0n0 p0c0 : Nat} {p1 : Int} {r0 : Int} (p0N0 : p0n0 = p0.length) (p0H0 : p0n0 ≤ p0c0) (h : m_hindcastlaw28_at F p0 p1 = some r0) :
    Pf Tryd.prog 25 [.slice p0a0 p0n0 p0c0, .int .i64 p1] (fun w => Rds w [] [] p0a0 (flat (e1 .u8) p0)) (.int .u8 r0) := by
  unfold m_hindcastlaw28_at at h
  refine pf_of_wc Tryd.func25 rfl Tryd.ntmps25 rfl rfl (fun w0 hR => ?_)
  have p0S0 := hR
  refine wc_seq (wc_region (wP rfl rfl (wl_nil (wx_then (wc_seq (wc_seq (wc_region ?_)))))))
  iterate 2 refine wP rfl rfl ?_
  refine wl_val (v := .int .i64 (p0.length : Int)) (val_len tt_ok rfl rfl p0N0) rfl ?_
  refine wP (v := .bool (decide (p1 < (p0.length : Int)))) rfl rfl (wl_nil (wx_then (wc_cond rfl (fun hc => ?_) (fun hc => ?_))))
  · replace h := ct hc h
    refine wc_seq (wc_region ?_)
    iterate 2 refine wP rfl rfl ?_
    replace h := bsome h; obtain ⟨v11, x11, h⟩ := h
    refine wl_val (v := .pointer (some ((adOf p0a0).add (p1.toNat * 1 + 0)))) (val_ix (enc := (e1 .u8)) tt_ok rfl rfl rfl rfl p0N0 p0S0 (e1_len _) rfl x11) rfl ?_
    refine wl_val (v := .int .u8 v11) (val_le (enc := (e1 .u8)) (xs := p0) tt_ok rfl p0S0 rsub_nil (e1_len _) x11 rfl) rfl ?_
    refine wP (v := .int .u8 (Int.tmod v11 64)) rfl rfl (wP rfl rfl (wl_nil (wx_then (wc_ret (wx_then_ret ?_)))))
    obtain rfl := sI h
    exact wx_pf tt_ok (.inl rfl) Tryd.results25 (Res.tmp rfl Res.nil) rfl
  replace h := cf hc h
  refine wc_skip (wx_then (wc_seq (wc_region (wP rfl rfl (wl_nil (wx_then (wc_ret ?_)))))))
  obtain rfl := sI h
  exact wx_pf tt_ok (.inl rfl) Tryd.results25 (Res.tmp rfl Res.nil) rfl

theorem k_hindcastlaw28_Setup_pair {F : Nat} {p0 : T_hindcastlaw28_Setup} {p0a0 : Option Addr} {p0n0 p0c0 : Nat} {p0a1 : Option Addr} {p0n1 p0c1 : Nat} {p1 : Int} {r0 : (Int × Int)} (p0N0 : p0n0 = p0.Mine.length) (p0H0 : p0n0 ≤ p0c0) (p0N1 : p0n1 = p0.Theirs.length) (p0H1 : p0n1 ≤ p0c1) (h : m_hindcastlaw28_Setup_pair F p0 p1 = some r0) :
    Pf Tryd.prog 9 [.agg #[.int .u64 p0.Seed, .int .u8 p0.Player, .int .u8 p0.Window, .int .u8 p0.Sure, .int .u8 p0.Ahead, .int .u8 p0.Told, .int .u8 p0.From, .slice p0a0 p0n0 p0c0, .slice p0a1 p0n1 p0c1], .int .i64 p1] (fun w => Rds w [] [] p0a0 (flat (e1 .u8) p0.Mine) ∧ Rds w [] [] p0a1 (flat (e1 .u8) p0.Theirs)) (.agg #[.int .u8 r0.1, .int .u8 r0.2]) := by
  unfold m_hindcastlaw28_Setup_pair at h
  refine pf_of_wc Tryd.func9 rfl Tryd.ntmps9 rfl rfl (fun w0 hR => ?_)
  obtain ⟨p0S0, p0S1⟩ := hR
  refine wc_seq (wc_region (wl_box rfl rfl rfl (fun b2 => (wl_alloc tt_ok rfl rfl (fun b4 => (wl_nil (wx_then (wc_seq (wc_region (wP (v := .agg #[.int .u8 (0 : Int), .int .u8 (0 : Int)]) rfl rfl (wl_alloc tt_ok rfl rfl (fun b5 => ?_))))))))))))
  apply wl_store tt_ok; rfl; exact Upd.here; rfl; rfl; rfl; rfl; rfl; rfl
  refine wl_nil (wx_then (wc_seq (wc_k2 (Ls := (⟨b5, [.int .u8 (0 : Int), .int .u8 (0 : Int)], 36, (0, 0)⟩ :: (⟨b4, [.int .u8 (0 : Int), .int .u8 (0 : Int)], 36, (0, 0)⟩ :: (⟨b2, [.int .u64 p0.Seed, .int .u8 p0.Player, .int .u8 p0.Window, .int .u8 p0.Sure, .int .u8 p0.Ahead, .int .u8 p0.Told, .int .u8 p0.From, .slice p0a0 p0n0 p0c0, .slice p0a1 p0n1 p0c1], 25, (0, 0)⟩ :: [])))) [6, 7, 8] [7, 8] [0, 1, 3, 0, 8, 0, 56, 127, 255] [0, 1, 2, 3, 4, 5, 6, 7, 8] (by kernel_rfl) (by kernel_rfl) (by kernel_rfl) (k_val (v := .pointer (some ⟨b2, 1, none⟩)) rfl rfl rfl (pSub (pH (pH (pH pNil)))) (stepV_ok tt_ok rfl) rfl (k_val (v := .int .u8 p0.Player) rfl rfl rfl (pSub (pH (pH (pH pNil)))) (val_load tt_ok rfl (mT (mT (mH))) rfl) rfl ?_)))))
  refine k_val (v := .int .u8 (Int.tmod p0.Player 2)) rfl rfl rfl (pSub (pH (pH (pH pNil)))) (stepV_ok tt_ok rfl) rfl ?_
  refine k_val (v := .pointer (some ⟨b2, 7, none⟩)) rfl rfl rfl (pSub (pH (pH (pH pNil)))) (stepV_ok tt_ok rfl) rfl ?_
  refine k_val (v := .slice p0a0 p0n0 p0c0) rfl rfl rfl (pSub (pH (pH (pH pNil)))) (val_load tt_ok rfl (mT (mT (mH))) rfl) rfl ?_
  refine k_val rfl rfl rfl (pSub (pH (pH (pH pNil)))) (stepV_ok tt_ok rfl) rfl ?_
  replace h := bsome h; obtain ⟨v13, x13, h⟩ := h
  refine k_cq rfl rfl rfl Tryd.call25 rfl rfl rfl (q_pf (k_hindcastlaw28_at (p0 := p0.Mine) p0N0 p0H0 x13) (Rds.call p0S0 pNil rsub_nil)) rfl (pSub (pH (pH (pH pNil)))) ?_
  rcases Bool.eq_false_or_eq_true ((Int.tmod p0.Player 2) == (0 : Int)) with hx140 | hx140
  · replace h := ct hx140 h
    refine k_chg rfl rfl rfl (Chg.of_val (v := .pointer (some ⟨b5, 0, none⟩)) (val_ia (j := 0) tt_ok rfl rfl rfl rfl (by simpa using hx140) rfl rfl)) rfl (.inl rfl) ?_
    rintro _ _ ⟨rfl, rfl⟩
    refine k_chg0 rfl rfl rfl (chg_store tt_ok rfl Upd.here rfl rfl rfl rfl rfl rfl) (.inl rfl) ?_
    rintro _ _ rfl
    refine k_end (by kernel_rfl) ?_
    refine wx_then (wc_seq (wc_k2 (Ls := (⟨b5, [.int .u8 v13, .int .u8 (0 : Int)], 36, (0, 0)⟩ :: (⟨b4, [.int .u8 (0 : Int), .int .u8 (0 : Int)], 36, (0, 0)⟩ :: (⟨b2, [.int .u64 p0.Seed, .int .u8 p0.Player, .int .u8 p0.Window, .int .u8 p0.Sure, .int .u8 p0.Ahead, .int .u8 p0.Told, .int .u8 p0.From, .slice p0a0 p0n0 p0c0, .slice p0a1 p0n1 p0c1], 25, (0, 0)⟩ :: [])))) [7, 8, 9] [8, 9] [0, 1, 3, 7, 0, 16, 0, 112, 255, 511] [0, 1, 2, 3, 4, 5, 6, 7, 8, 9] (by kernel_rfl) (by kernel_rfl) (by kernel_rfl) (k_val (v := .pointer (some ⟨b2, 1, none⟩)) rfl rfl rfl (pSub (pH (pH (pH pNil)))) (stepV_ok tt_ok rfl) rfl (k_val (v := .int .u8 p0.Player) rfl rfl rfl (pSub (pH (pH (pH pNil)))) (val_load tt_ok rfl (mT (mT (mH))) rfl) rfl ?_))))
    refine k_val (v := .int .u8 (Int.tmod p0.Player 2)) rfl rfl rfl (pSub (pH (pH (pH pNil)))) (stepV_ok tt_ok rfl) rfl ?_
    refine k_val (v := .int .u8 (IntKind.wrap .u8 ((1 : Int) - (Int.tmod p0.Player 2)))) rfl rfl rfl (pSub (pH (pH (pH pNil)))) (stepV_ok tt_ok rfl) rfl ?_
    refine k_val (v := .pointer (some ⟨b2, 8, none⟩)) rfl rfl rfl (pSub (pH (pH (pH pNil)))) (stepV_ok tt_ok rfl) rfl ?_
    refine k_val (v := .slice p0a1 p0n1 p0c1) rfl rfl rfl (pSub (pH (pH (pH pNil)))) (val_load tt_ok rfl (mT (mT (mH))) rfl) rfl ?_
    refine k_val rfl rfl rfl (pSub (pH (pH (pH pNil)))) (stepV_ok tt_ok rfl) rfl ?_
    replace h := bsome h; obtain ⟨v22, x22, h⟩ := h
    refine k_cq rfl rfl rfl Tryd.call25 rfl rfl rfl (q_pf (k_hindcastlaw28_at (p0 := p0.Theirs) p0N1 p0H1 x22) (Rds.call p0S1 pNil rsub_nil)) rfl (pSub (pH (pH (pH pNil)))) ?_
    rcases Bool.eq_false_or_eq_true ((IntKind.wrap .u8 ((1 : Int) - (Int.tmod p0.Player 2))) == (0 : Int)) with hx230 | hx230
    · replace h := ct hx230 h
      refine k_chg rfl rfl rfl (Chg.of_val (v := .pointer (some ⟨b5, 0, none⟩)) (val_ia (j := 0) tt_ok rfl rfl rfl rfl (by simpa using hx230) rfl rfl)) rfl (.inl rfl) ?_
      rintro _ _ ⟨rfl, rfl⟩
      refine k_chg0 rfl rfl rfl (chg_store tt_ok rfl Upd.here rfl rfl rfl rfl rfl rfl) (.inl rfl) ?_
      rintro _ _ rfl
      refine k_end (by kernel_rfl) ?_
      refine wx_then (wc_seq (wc_region (wl_val (v := .agg #[.int .u8 v22, .int .u8 (0 : Int)]) (val_load tt_ok rfl (mH) rfl) rfl ?_)))
      apply wl_store tt_ok; rfl; exact (Upd.there Upd.here); rfl; rfl; rfl; rfl; rfl; rfl
      refine wl_nil (wx_then (wc_ret ?_))
      obtain rfl := sI h
      exact wx_pf tt_ok (.inl rfl) Tryd.results9 (Res.cell rfl (mT (mH)) rfl Res.nil) rfl
    replace h := cf hx230 h
    rcases Bool.eq_false_or_eq_true ((IntKind.wrap .u8 ((1 : Int) - (Int.tmod p0.Player 2))) == (1 : Int)) with hx231 | hx231
    · replace h := ct hx231 h
      refine k_chg rfl rfl rfl (Chg.of_val (v := .pointer (some ⟨b5, 1, none⟩)) (val_ia (j := 1) tt_ok rfl rfl rfl rfl (by simpa using hx231) rfl rfl)) rfl (.inl rfl) ?_
      rintro _ _ ⟨rfl, rfl⟩
      refine k_chg0 rfl rfl rfl (chg_store tt_ok rfl Upd.here rfl rfl rfl rfl rfl rfl) (.inl rfl) ?_
      rintro _ _ rfl
      refine k_end (by kernel_rfl) ?_
      refine wx_then (wc_seq (wc_region (wl_val (v := .agg #[.int .u8 v13, .int .u8 v22]) (val_load tt_ok rfl (mH) rfl) rfl ?_)))
      apply wl_store tt_ok; rfl; exact (Upd.there Upd.here); rfl; rfl; rfl; rfl; rfl; rfl
      refine wl_nil (wx_then (wc_ret ?_))
      obtain rfl := sI h
      exact wx_pf tt_ok (.inl rfl) Tryd.results9 (Res.cell rfl (mT (mH)) rfl Res.nil) rfl
    replace h := cf hx231 h
    cases h
  replace h := cf hx140 h
  rcases Bool.eq_false_or_eq_true ((Int.tmod p0.Player 2) == (1 : Int)) with hx141 | hx141
  · replace h := ct hx141 h
    refine k_chg rfl rfl rfl (Chg.of_val (v := .pointer (some ⟨b5, 1, none⟩)) (val_ia (j := 1) tt_ok rfl rfl rfl rfl (by simpa using hx141) rfl rfl)) rfl (.inl rfl) ?_
    rintro _ _ ⟨rfl, rfl⟩
    refine k_chg0 rfl rfl rfl (chg_store tt_ok rfl Upd.here rfl rfl rfl rfl rfl rfl) (.inl rfl) ?_
    rintro _ _ rfl
    refine k_end (by kernel_rfl) ?_
    refine wx_then (wc_seq (wc_k2 (Ls := (⟨b5, [.int .u8 (0 : Int), .int .u8 v13], 36, (0, 0)⟩ :: (⟨b4, [.int .u8 (0 : Int), .int .u8 (0 : Int)], 36, (0, 0)⟩ :: (⟨b2, [.int .u64 p0.Seed, .int .u8 p0.Player, .int .u8 p0.Window, .int .u8 p0.Sure, .int .u8 p0.Ahead, .int .u8 p0.Told, .int .u8 p0.From, .slice p0a0 p0n0 p0c0, .slice p0a1 p0n1 p0c1], 25, (0, 0)⟩ :: [])))) [7, 8, 9] [8, 9] [0, 1, 3, 7, 0, 16, 0, 112, 255, 511] [0, 1, 2, 3, 4, 5, 6, 7, 8, 9] (by kernel_rfl) (by kernel_rfl) (by kernel_rfl) (k_val (v := .pointer (some ⟨b2, 1, none⟩)) rfl rfl rfl (pSub (pH (pH (pH pNil)))) (stepV_ok tt_ok rfl) rfl (k_val (v := .int .u8 p0.Player) rfl rfl rfl (pSub (pH (pH (pH pNil)))) (val_load tt_ok rfl (mT (mT (mH))) rfl) rfl ?_))))
    refine k_val (v := .int .u8 (Int.tmod p0.Player 2)) rfl rfl rfl (pSub (pH (pH (pH pNil)))) (stepV_ok tt_ok rfl) rfl ?_
    refine k_val (v := .int .u8 (IntKind.wrap .u8 ((1 : Int) - (Int.tmod p0.Player 2)))) rfl rfl rfl (pSub (pH (pH (pH pNil)))) (stepV_ok tt_ok rfl) rfl ?_
    refine k_val (v := .pointer (some ⟨b2, 8, none⟩)) rfl rfl rfl (pSub (pH (pH (pH pNil)))) (stepV_ok tt_ok rfl) rfl ?_
    refine k_val (v := .slice p0a1 p0n1 p0c1) rfl rfl rfl (pSub (pH (pH (pH pNil)))) (val_load tt_ok rfl (mT (mT (mH))) rfl) rfl ?_
    refine k_val rfl rfl rfl (pSub (pH (pH (pH pNil)))) (stepV_ok tt_ok rfl) rfl ?_
    replace h := bsome h; obtain ⟨v22, x22, h⟩ := h
    refine k_cq rfl rfl rfl Tryd.call25 rfl rfl rfl (q_pf (k_hindcastlaw28_at (p0 := p0.Theirs) p0N1 p0H1 x22) (Rds.call p0S1 pNil rsub_nil)) rfl (pSub (pH (pH (pH pNil)))) ?_
    rcases Bool.eq_false_or_eq_true ((IntKind.wrap .u8 ((1 : Int) - (Int.tmod p0.Player 2))) == (0 : Int)) with hx230 | hx230
    · replace h := ct hx230 h
      refine k_chg rfl rfl rfl (Chg.of_val (v := .pointer (some ⟨b5, 0, none⟩)) (val_ia (j := 0) tt_ok rfl rfl rfl rfl (by simpa using hx230) rfl rfl)) rfl (.inl rfl) ?_
      rintro _ _ ⟨rfl, rfl⟩
      refine k_chg0 rfl rfl rfl (chg_store tt_ok rfl Upd.here rfl rfl rfl rfl rfl rfl) (.inl rfl) ?_
      rintro _ _ rfl
      refine k_end (by kernel_rfl) ?_
      refine wx_then (wc_seq (wc_region (wl_val (v := .agg #[.int .u8 v22, .int .u8 v13]) (val_load tt_ok rfl (mH) rfl) rfl ?_)))
      apply wl_store tt_ok; rfl; exact (Upd.there Upd.here); rfl; rfl; rfl; rfl; rfl; rfl
      refine wl_nil (wx_then (wc_ret ?_))
      obtain rfl := sI h
      exact wx_pf tt_ok (.inl rfl) Tryd.results9 (Res.cell rfl (mT (mH)) rfl Res.nil) rfl
    replace h := cf hx230 h
    rcases Bool.eq_false_or_eq_true ((IntKind.wrap .u8 ((1 : Int) - (Int.tmod p0.Player 2))) == (1 : Int)) with hx231 | hx231
    · replace h := ct hx231 h
      refine k_chg rfl rfl rfl (Chg.of_val (v := .pointer (some ⟨b5, 1, none⟩)) (val_ia (j := 1) tt_ok rfl rfl rfl rfl (by simpa using hx231) rfl rfl)) rfl (.inl rfl) ?_
      rintro _ _ ⟨rfl, rfl⟩
      refine k_chg0 rfl rfl rfl (chg_store tt_ok rfl Upd.here rfl rfl rfl rfl rfl rfl) (.inl rfl) ?_
      rintro _ _ rfl
      refine k_end (by kernel_rfl) ?_
      refine wx_then (wc_seq (wc_region (wl_val (v := .agg #[.int .u8 (0 : Int), .int .u8 v22]) (val_load tt_ok rfl (mH) rfl) rfl ?_)))
      apply wl_store tt_ok; rfl; exact (Upd.there Upd.here); rfl; rfl; rfl; rfl; rfl; rfl
      refine wl_nil (wx_then (wc_ret ?_))
      obtain rfl := sI h
      exact wx_pf tt_ok (.inl rfl) Tryd.results9 (Res.cell rfl (mT (mH)) rfl Res.nil) rfl
    replace h := cf hx231 h
    cases h
  replace h := cf hx141 h
  cases h

theorem k_fold_History_Drop_nil0 {F : Nat} {p1 : Int} (h : m_fold_History_Drop_nil0 F p1 = some ()) :
    Pf Tryd.prog 20 [.pointer none, .int .u64 p1] (fun w => True) (.tuple #[]) := by
  unfold m_fold_History_Drop_nil0 at h
  refine pf_of_wc Tryd.func20 rfl Tryd.ntmps20 rfl rfl (fun w0 hR => ?_)
  refine wc_seq (wc_region (wP rfl rfl ?_))
  replace h := bsome h; obtain ⟨v5, x5, h⟩ := h
  refine wl_cq Tryd.call27 rfl rfl rfl (q_pf (k_fold_History_is_nil0 x5) (fun _ _ => trivial)) rfl ?_
  refine wl_nil (wx_then (wc_cond rfl (fun hc => ?_) (fun hc => ?_)))
  · replace h := ct hc h
    refine wc_k2 (Ls := []) [14] [14] [0, 0, 2, 6, 14, 0, 0, 64, 192, 448, 992, 2046, 4095, 8191, 16383] [0, 1, 2, 3, 4, 5, 6, 7, 8, 9, 10, 11, 12, 13, 14] (by kernel_rfl) (by kernel_rfl) (by kernel_rfl) ?_
    refine k_val rfl rfl rfl (pSub pNil) (stepV_ok tt_ok rfl) rfl ?_
    refine k_val rfl rfl rfl (pSub pNil) (stepV_ok tt_ok rfl) rfl ?_
    cases h
  replace h := cf hc h
  refine wc_skip ?_
  exact wx_pf tt_ok (.inr rfl) Tryd.results20 Res.nil rfl

theorem k_fold_History_Drop {F : Nat} {p0 : T_fold_History} {p0b p0t : Nat} {p1 : Int} {r0 : T_fold_History} (h : m_fold_History_Drop F p0 p1 = some r0) :
    SpD Tryd.prog 20 [.pointer (some ⟨p0b, 0, none⟩), .int .u64 p1] (⟨p0b, ([.int .u64 p0.from_, .int .u64 p0.count, .int .u64 p0.most] ++ flat (e2 .u8) p0.ring.1), p0t, (0, 0)⟩ :: []) (fun w => True) (fun v D => v = .tuple #[] ∧ D = fun F => (⟨p0b, ([.int .u64 r0.from_, .int .u64 r0.count, .int .u64 r0.most] ++ flat (e2 .u8) r0.ring.1), p0t, (0, 0)⟩ :: F)) := by
  unfold m_fold_History_Drop at h
  refine sp_of_wc Tryd.func20 rfl Tryd.ntmps20 rfl rfl (fun w0 hR => ?_)
  refine wc_seq (wc_region (wP rfl rfl ?_))
  replace h := bsome h; obtain ⟨v5, x5, h⟩ := h
  refine wl_cq Tryd.call27 rfl rfl rfl (q_rd (k_fold_History_is x5) (pH pNil) (fun _ _ => trivial)) rfl ?_
  refine wl_nil (wx_then (wc_cond rfl (fun hc => ?_) (fun hc => ?_)))
  · replace h := ct hc h
    refine wc_k2 (Ls := (⟨p0b, ([.int .u64 p0.from_, .int .u64 p0.count, .int .u64 p0.most] ++ flat (e2 .u8) p0.ring.1), p0t, (0, 0)⟩ :: [])) [14] [14] [0, 0, 2, 6, 14, 0, 0, 64, 192, 448, 992, 2046, 4095, 8191, 16383] [0, 1, 2, 3, 4, 5, 6, 7, 8, 9, 10, 11, 12, 13, 14] (by kernel_rfl) (by kernel_rfl) (by kernel_rfl) ?_
    refine k_val rfl rfl rfl (pSub (pH pNil)) (stepV_ok tt_ok rfl) rfl ?_
    refine k_val rfl rfl rfl (pSub (pH pNil)) (stepV_ok tt_ok rfl) rfl ?_
    refine k_val rfl rfl rfl (pSub (pH pNil)) (stepV_ok tt_ok rfl) rfl ?_
    refine k_val (v := .pointer (some ⟨p0b, 0, none⟩)) rfl rfl rfl (pSub (pH pNil)) (stepV_ok tt_ok rfl) rfl ?_
    refine k_val (v := .int .u64 p0.from_) rfl rfl rfl (pSub (pH pNil)) (val_load tt_ok rfl (mH) rfl) rfl ?_
    refine k_val rfl rfl rfl (pSub (pH pNil)) (stepV_ok tt_ok rfl) rfl ?_
    refine k_val rfl rfl rfl (pSub (pH pNil)) (stepV_ok tt_ok rfl) rfl ?_
    refine k_val rfl rfl rfl (pSub (pH pNil)) (stepV_ok tt_ok rfl) rfl ?_
    refine k_val (v := .pointer (some ⟨p0b, 1, none⟩)) rfl rfl rfl (pSub (pH pNil)) (stepV_ok tt_ok rfl) rfl ?_
    refine k_val (v := .int .u64 p0.count) rfl rfl rfl (pSub (pH pNil)) (val_load tt_ok rfl (mH) rfl) rfl ?_
    refine k_val (v := .int .u64 (min p1 p0.count)) rfl rfl rfl (pSub (pH pNil)) (stepV_ok tt_ok rfl) rfl ?_
    refine k_val (v := .int .u64 (max p0.from_ (min p1 p0.count))) rfl rfl rfl (pSub (pH pNil)) (stepV_ok tt_ok rfl) rfl ?_
    refine k_val rfl rfl rfl (pSub (pH pNil)) (stepV_ok tt_ok rfl) rfl ?_
    refine k_val (v := .pointer (some ⟨p0b, 0, none⟩)) rfl rfl rfl (pSub (pH pNil)) (stepV_ok tt_ok rfl) rfl ?_
    refine k_chg0 rfl rfl rfl (chg_storep (pre := [.int .u64 p0.from_, .int .u64 p0.count, .int .u64 p0.most]) (pre' := [.int .u64 (max p0.from_ (min p1 p0.count)), .int .u64 p0.count, .int .u64 p0.most]) tt_ok rfl Upd.here rfl rfl rfl rfl rfl rfl (by intro h; cases h)) (.inl rfl) ?_
    rintro _ _ rfl
    refine k_end (by kernel_rfl) ?_
    obtain rfl := sI h
    exact wx_spD tt_ok (.inr rfl) Tryd.results20 Res.nil ⟨rfl, rfl⟩ (fun F => by simp) (pSub (pH pNil))
  replace h := cf hc h
  refine wc_skip ?_
  obtain rfl := sI h
  exact wx_spD tt_ok (.inr rfl) Tryd.results20 Res.nil ⟨rfl, rfl⟩ (fun F => by simp) (pSub (pH pNil))

theorem k_fold_History_At_nil0 {F : Nat} {p1 : Int} {r0 : (Int × Int)} {r1 : Bool} (h : m_fold_History_At_nil0 F p1 = some (r0, r1)) :
    Pf Tryd.prog 30 [.pointer none, .int .u64 p1] (fun w => True) (.tuple #[.agg #[.int .u8 r0.1, .int .u8 r0.2], .bool r1]) := by
  unfold m_fold_History_At_nil0 at h
  refine pf_of_wc Tryd.func30 rfl Tryd.ntmps30 rfl rfl (fun w0 hR => ?_)
  refine wc_seq (wc_region (wl_alloc tt_ok rfl rfl (fun b4 => (wP rfl rfl (wl_nil (wx_then (wc_seq (wc_seq (wc_region (wP rfl rfl ?_))))))))))
  replace h := bsome h; obtain ⟨v7, x7, h⟩ := h
  refine wl_cq Tryd.call27 rfl rfl rfl (q_pf (k_fold_History_is_nil0 x7) (fun _ _ => trivial)) rfl ?_
  refine wP rfl rfl ?_
  replace h := bsome h; obtain ⟨v15, h, hg15⟩ := h
  refine wl_split (t := 8) rfl (fun hc => ?_) (fun hc => ?_)
  · replace h := ct hc h
    refine wl_run rfl (wP rfl rfl (wl_run rfl (wP rfl rfl ?_)))
    cases h
  replace h := cf hc h
  refine wl_skip rfl rfl (wl_skip rfl rfl (wl_skip rfl rfl (wl_skip rfl rfl (wl_skip rfl rfl (wl_skip rfl rfl ?_)))))
  obtain rfl := sI h
  have h := hg15; clear hg15
  refine wP (v := .bool false) rfl rfl (wP rfl rfl ?_)
  replace h := bsome h; obtain ⟨v23, h, hg23⟩ := h
  replace h := cf rfl h
  refine wl_skip rfl rfl (wl_skip rfl rfl (wl_skip rfl rfl (wl_skip rfl rfl (wl_skip rfl rfl (wl_skip rfl rfl ?_)))))
  obtain rfl := sI h
  have h := hg23; clear hg23
  refine wP (v := .bool false) rfl rfl (wP rfl rfl (wl_nil (wx_then (wc_seq (wc_region (wP rfl rfl (wl_nil (wx_then ?_))))))))
  replace h := cf rfl h
  refine wc_cond_false rfl ?_
  refine wc_skip (wx_then (wc_ret ?_))
  simp only [Option.some.injEq, Prod.mk.injEq] at h
  obtain ⟨rfl, rfl⟩ := h
  exact wx_pf tt_ok (.inl rfl) Tryd.results30 (Res.cell rfl (mH) rfl (Res.tmp rfl Res.nil)) rfl

theorem k_fold_History_Slice_nil0 {F : Nat} {p1 : Int} {p2 : Int} {r0 : (List (Int × Int))} (h : m_fold_History_Slice_nil0 F p1 p2 = some r0) :
    SpD Tryd.prog 12 [.pointer none, .int .u64 p1, .int .i64 p2] [] (fun w => True) (fun v D => ∃ (r0a0 : Option Addr) (r0n0 : Nat) (r0c0 : Nat) (r0B0 : List Blk), r0n0 = r0.length ∧ Own 36 2 r0a0 r0n0 r0c0 (flat (e2 .u8) r0) r0B0 ∧ v = .slice r0a0 r0n0 r0c0 ∧ D = fun F => (r0B0 ++ F)) := by
  unfold m_fold_History_Slice_nil0 at h
  refine sp_of_wc Tryd.func12 rfl Tryd.ntmps12 rfl rfl (fun w0 hR => ?_)
  refine wc_seq (wc_region (wP rfl rfl (wl_nil (wx_then (wc_seq (wc_seq (wc_region ?_)))))))
  iterate 2 refine wP rfl rfl ?_
  refine wl_nil (wx_then (wc_block ?_))
  replace h := bsome h; obtain ⟨zl, h, hl7⟩ := h
  refine wc_loop (fun m E L => ∃ (zb : Int) (za : (List (Int × Int))) (zg : Int) (ze : Option Addr) (zc : Nat) (zf : Nat) (zd : List Blk), m_fold_History_Slice_nil0_L6 F p2 m zb za zg = some zl ∧ zc = za.length ∧ Own 36 2 ze zc zf (flat (e2 .u8) za) zd ∧ E = [(0, .pointer none), (1, .int .u64 zb), (6, .slice ze zc zf), (9, .int .i64 p2), (10, .int .i64 zg)] ∧ L = (zd ++ [])) F ⟨p1, ([] : List (Int × Int)), (0 : Int), none, 0, 0, [], h, rfl, Own.zero, rfl, rfl⟩ (agree_cons rfl (agree_cons rfl (agree_cons rfl (agree_cons rfl (agree_cons rfl agree_nil))))) (pSub (pNo pNil)) ?_
  clear h
  rintro m7 _ _ ⟨zb, za, zg, ze, zc, zf, zd, h, zi, zj, rfl, rfl⟩
  rcases m7 with _ | m7
  · rw [m_fold_History_Slice_nil0_L6.eq_1] at h; cases h
  rw [m_fold_History_Slice_nil0_L6.eq_2] at h
  refine wc_seq (wc_region (wP (v := .bool (decide (zg < p2))) rfl rfl (wl_nil (wx_then (wc_seq (wc_cond rfl (fun hc => ?_) (fun hc => ?_)))))))
  · replace h := ct hc h
    refine wc_skip (wx_then (wc_seq (wc_block (wc_seq (wc_region ?_)))))
    iterate 2 refine wP rfl rfl ?_
    replace h := bsome h; obtain ⟨⟨zh, zk⟩, x15, h⟩ := h; try dsimp only at h
    refine wl_cq Tryd.call30 rfl rfl rfl (q_pf (k_fold_History_At_nil0 x15) (fun _ _ => trivial)) rfl ?_
    iterate 3 refine wP rfl rfl ?_
    refine wl_alloc tt_ok rfl rfl (fun b7 => ?_)
    apply wl_store tt_ok; rfl; exact Upd.here; rfl; rfl; rfl; rfl; rfl; rfl
    refine wP rfl rfl (wl_nil (wx_then (wc_seq (wc_seq (wc_region (wP rfl rfl (wP (v := .bool (!zk)) rfl rfl (wl_nil (wx_then (wc_cond rfl (fun hc => ?_) (fun hc => ?_)))))))))))
    · replace h := ct hc h
      refine wc_exit (wx_then_exit ?_)
      refine wx_block_other (by rfl) ?_
      refine wx_then_exit ?_
      obtain rfl := sI h
      have h := hl7; clear hl7; try dsimp only [orE_l, orE_r] at h
      refine wx_then_exit (wx_block_exit (wx_then (wc_ret ?_)))
      obtain rfl := sI h
      exact wx_spD tt_ok (.inl rfl) Tryd.results12 (Res.tmp rfl Res.nil) ⟨ze, zc, zf, zd, zi, zj, rfl, rfl⟩ (fun F => by simp) (pSub (pApp (sC hA') pNil))
    replace h := cf hc h
    refine wc_skip (wx_then (wc_seq (wc_region (wP rfl rfl (wl_val (v := .agg #[.int .u8 zh.1, .int .u8 zh.2]) (val_load tt_ok rfl (mH) rfl) rfl (wl_chg (chg_bsv (enc := (e2 .u8)) (xs := ([zh] : List (Int × Int))) tt_ok rfl rfl rfl rfl rfl rfl rfl rfl (e2_len _)) rfl ?_))))))
    rintro _ _ ⟨a22, n22_, c22, B22, rfl, N22, V22, rfl⟩
    replace h := bsome h; obtain ⟨v23, x23, h⟩ := h
    refine wl_chg (chg_app (enc := (e2 .u8)) (ys := ([zh] : List (Int × Int))) tt_ok rfl rfl rfl rfl rfl rfl zi N22 zj (sA (sC hA')) (Rds.of_vec V22) ⟨_, hA'⟩ (e2_len _) (fun _ => rfl) rfl x23) rfl ?_
    rintro _ _ ⟨a23, n23_, c23, B23, rfl, N23, V23, rfl⟩
    refine wP rfl rfl (wl_nil (wx_then (wc_region (wP rfl rfl (wP (v := .int .u64 (IntKind.wrap .u64 (zb + (1 : Int)))) rfl rfl (wP rfl rfl (wl_nil (wx_block (wx_then (wc_region (wP (v := .int .i64 (IntKind.wrap .i64 (zg + (1 : Int)))) rfl rfl (wP rfl rfl (wl_nil ?_)))))))))))))
    exact wx_round m7 (Nat.lt_succ_self m7) ⟨(IntKind.wrap .u64 (zb + (1 : Int))), v23, (IntKind.wrap .i64 (zg + (1 : Int))), a23, n23_, c23, B23, h, N23, V23, rfl, rfl⟩ (agree_cons rfl (agree_cons rfl (agree_cons rfl (agree_cons rfl (agree_cons rfl agree_nil))))) (pSub (pA pNil))
  replace h := cf hc h
  refine wc_exit (wx_then_exit ?_)
  obtain rfl := sI h
  have h := hl7; clear hl7; try dsimp only [orE_l, orE_r] at h
  refine wx_then_exit (wx_block_exit (wx_then (wc_ret ?_)))
  obtain rfl := sI h
  exact wx_spD tt_ok (.inl rfl) Tryd.results12 (Res.tmp rfl Res.nil) ⟨ze, zc, zf, zd, zi, zj, rfl, rfl⟩ (fun F => by simp) (pSub (pA pNil))

theorem k_backfill_Plan_nil0 {F : Nat} {p1 : Int} {r0 : Int} {r1 : Int} (h : m_backfill_Plan_nil0 F p1 = some (r0, r1)) :
    Pf Tryd.prog 10 [.pointer none, .int .u64 p1] (fun w => True) (.tuple #[.int .u64 r0, .int .i64 r1]) := by
  unfold m_backfill_Plan_nil0 at h
  refine pf_of_wc Tryd.func10 rfl Tryd.ntmps10 rfl rfl (fun w0 hR => ?_)
  refine wc_seq (wc_region ?_)
  iterate 2 refine wP rfl rfl ?_
  refine wl_nil (wx_then (wc_seq (wc_seq (wc_region ?_))))
  iterate 2 refine wP rfl rfl ?_
  replace h := bsome h; obtain ⟨v8, x8, h⟩ := h
  refine wl_cs Tryd.call12 rfl rfl rfl (s_sp (k_fold_History_Slice_nil0 x8) pNil (fun _ _ => trivial)) rfl ?_
  rintro _ _ ⟨_, ⟨v8a0, v8n0, v8c0, v8B0, v8N0, v8V0, rfl, rfl⟩, rfl⟩
  refine wl_val (v := .int .i64 (v8.length : Int)) (val_len tt_ok rfl rfl v8N0) rfl ?_
  refine wP rfl rfl (wl_nil (wx_then (wc_seq (wc_region (wP rfl rfl (wP (v := .bool ((v8.length : Int) == (0 : Int))) rfl rfl (wl_nil (wx_then (wc_cond rfl (fun hc => ?_) (fun hc => ?_))))))))))
  · replace h := ct hc h
    refine wc_seq (wc_region ?_)
    iterate 2 refine wP rfl rfl ?_
    refine wl_nil (wx_then (wc_ret (wx_then_ret ?_)))
    simp only [Option.some.injEq, Prod.mk.injEq] at h
    obtain ⟨rfl, rfl⟩ := h
    exact wx_pf tt_ok (.inl rfl) Tryd.results10 (Res.tmp rfl (Res.tmp rfl Res.nil)) rfl
  replace h := cf hc h
  refine wc_skip (wx_then (wc_seq (wc_region ?_)))
  iterate 4 refine wP rfl rfl ?_
  refine wl_nil (wx_then (wc_ret ?_))
  simp only [Option.some.injEq, Prod.mk.injEq] at h
  obtain ⟨rfl, rfl⟩ := h
  exact wx_pf tt_ok (.inl rfl) Tryd.results10 (Res.tmp rfl (Res.tmp rfl Res.nil)) rfl

theorem k_fold_History_Count {F : Nat} {p0 : T_fold_History} {p0b p0t : Nat} {r0 : Int} (h : m_fold_History_Count F p0 = some r0) :
    Rd2 Tryd.prog 15 [.pointer (some ⟨p0b, 0, none⟩)] (⟨p0b, ([.int .u64 p0.from_, .int .u64 p0.count, .int .u64 p0.most] ++ flat (e2 .u8) p0.ring.1), p0t, (0, 0)⟩ :: []) (fun w => True) (.int .u64 r0) := by
  unfold m_fold_History_Count at h
  refine sp_of_wc Tryd.func15 rfl Tryd.ntmps15 rfl rfl (fun w0 hR => ?_)
  refine wc_seq (wc_region (wP rfl rfl (wl_nil (wx_then (wc_seq (wc_seq (wc_region (wP rfl rfl ?_))))))))
  replace h := bsome h; obtain ⟨v4, x4, h⟩ := h
  refine wl_cq Tryd.call27 rfl rfl rfl (q_rd (k_fold_History_is x4) (pH pNil) (fun _ _ => trivial)) rfl ?_
  refine wP (v := .bool (!v4)) rfl rfl (wl_nil (wx_then (wc_cond rfl (fun hc => ?_) (fun hc => ?_))))
  · replace h := ct hc h
    refine wc_seq (wc_region (wP rfl rfl (wl_nil (wx_then (wc_ret (wx_then_ret ?_))))))
    obtain rfl := sI h
    exact wx_rd tt_ok (.inl rfl) Tryd.results15 (Res.tmp rfl Res.nil) (pSub (pH pNil)) rfl
  replace h := cf hc h
  refine wc_skip (wx_then (wc_seq (wc_region ?_)))
  iterate 2 refine wP rfl rfl ?_
  refine wP (v := .pointer (some ⟨p0b, 1, none⟩)) rfl rfl (wl_val (v := .int .u64 p0.count) (val_load tt_ok rfl (mH) rfl) rfl (wP rfl rfl (wl_nil (wx_then (wc_ret ?_)))))
  obtain rfl := sI h
  exact wx_rd tt_ok (.inl rfl) Tryd.results15 (Res.tmp rfl Res.nil) (pSub (pH pNil)) rfl

end Go.Proofs.YtkdbpenjkcjimaaDoor
