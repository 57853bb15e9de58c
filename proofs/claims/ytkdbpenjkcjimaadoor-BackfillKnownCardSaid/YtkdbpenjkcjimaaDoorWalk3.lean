/-
  Each function computes what its model says. Printed by a program of this claim's own.
-/
import Derived.Test.YtkdbpenjkcjimaaDoorTab
import Derived.Test.YtkdbpenjkcjimaaDoorMod
import Derived.Test.YtkdbpenjkcjimaaDoorWalk2
namespace Go.Proofs.YtkdbpenjkcjimaaDoor
open Go.Proofs.YtkdbpenjkcjimaaDoor.Eng
set_option linter.unusedVariables false
set_option linter.unusedSimpArgs false
set_option maxHeartbeats 4000000
set_option maxRecDepth 20000

theorem k_queue_Queue_Add {F : Nat} {p0 : T_queue_Queue} {p0b p0t : Nat} {p0a0 : Option Addr} {p0n0 : Nat} {p0c0 : Nat} {p0B0 : List Blk} {p1 : Int} {p2 : Int} {r0 : T_queue_Queue} {r1 : Int} (p0N0 : p0n0 = p0.l.length) (p0V0 : Own 34 1 p0a0 p0n0 p0c0 (flat (e1 .u8) p0.l) p0B0) (h : m_queue_Queue_Add F p0 p1 p2 = some (r0, r1)) :
    SpD Tryd.prog 48 [.pointer (some ⟨p0b, 0, none⟩), .int .u64 p1, .int .u8 p2] (⟨p0b, [.int .u64 p0.first_, .slice p0a0 p0n0 p0c0, .int .u8 p0.last], p0t, (0, 0)⟩ :: (p0B0 ++ [])) (fun w => True) (fun v D => ∃ (r0a0 : Option Addr) (r0n0 : Nat) (r0c0 : Nat) (r0B0 : List Blk), r0n0 = r0.l.length ∧ Own 34 1 r0a0 r0n0 r0c0 (flat (e1 .u8) r0.l) r0B0 ∧ v = .int .i64 r1 ∧ D = fun F => (⟨p0b, [.int .u64 r0.first_, .slice r0a0 r0n0 r0c0, .int .u8 r0.last], p0t, (0, 0)⟩ :: (r0B0 ++ F))) := by
  unfold m_queue_Queue_Add at h
  refine sp_of_wc Tryd.func48 rfl Tryd.ntmps48 rfl rfl (fun w0 hR => ?_)
  refine wc_seq (wc_region ?_)
  refine wl_pure tt_ok rfl rfl ?_
  refine wl_nil (wx_then (wc_seq (wc_block (wc_seq (wc_region ?_)))))
  refine wl_pure tt_ok rfl rfl ?_
  refine wl_pure (v := .bool false) tt_ok rfl rfl ?_
  refine wl_pure tt_ok rfl rfl ?_
  refine wl_nil (wx_then ?_)
  refine wc_cond_false rfl ?_
  refine wc_seq (wc_region ?_)
  refine wl_pure tt_ok rfl rfl ?_
  replace h := bsome h; obtain ⟨v14, x14, h⟩ := h
  refine wl_cq Tryd.call28 rfl rfl rfl (q_pf (k_input_Legal x14) (fun _ _ => trivial)) rfl ?_
  refine wl_pure (v := .bool (!v14)) tt_ok rfl rfl ?_
  refine wl_pure tt_ok rfl rfl ?_
  refine wl_nil (wx_then ?_)
  refine wc_cond rfl (fun hc => ?_) (fun hc => ?_)
  · replace h := ct hc h
    refine wc_seq (wc_region ?_)
    refine wl_pure tt_ok rfl rfl ?_
    refine wl_nil (wx_then (wc_ret (wx_block_ret (wx_then_ret ?_))))
    simp only [Option.some.injEq, Prod.mk.injEq] at h
    obtain ⟨rfl, rfl⟩ := h
    exact wx_spD tt_ok (.inl rfl) Tryd.results48 (Res.tmp rfl Res.nil) ⟨p0a0, p0n0, p0c0, p0B0, p0N0, p0V0, rfl, rfl⟩ (fun F => by simp) (pSub (pCons Sel.hc (pApp Sel.ha pNil)))
  replace h := cf hc h
  refine wc_seq (wc_region ?_)
  iterate 3 refine wl_pure tt_ok rfl rfl ?_
  refine wl_pure (v := .pointer (some ⟨p0b, 0, none⟩)) tt_ok rfl rfl ?_
  refine wl_val (v := .int .u64 p0.first_) (val_load tt_ok rfl (List.Mem.head _) rfl) rfl ?_
  refine wl_pure (v := .bool (decide (p1 < p0.first_))) tt_ok rfl rfl ?_
  refine wl_pure tt_ok rfl rfl ?_
  refine wl_nil (wx_then ?_)
  refine wc_cond rfl (fun hc => ?_) (fun hc => ?_)
  · replace h := ct hc h
    refine wc_seq (wc_region ?_)
    refine wl_pure tt_ok rfl rfl ?_
    refine wl_nil (wx_then (wc_ret (wx_block_ret (wx_then_ret ?_))))
    simp only [Option.some.injEq, Prod.mk.injEq] at h
    obtain ⟨rfl, rfl⟩ := h
    exact wx_spD tt_ok (.inl rfl) Tryd.results48 (Res.tmp rfl Res.nil) ⟨p0a0, p0n0, p0c0, p0B0, p0N0, p0V0, rfl, rfl⟩ (fun F => by simp) (pSub (pCons Sel.hc (pApp Sel.ha pNil)))
  replace h := cf hc h
  refine wc_skip (wx_block (wx_then (wc_seq (wc_seq (wc_region ?_)))))
  iterate 2 refine wl_pure tt_ok rfl rfl ?_
  replace h := bsome h; obtain ⟨⟨v26_0, v26_1⟩, x26, h⟩ := h; try dsimp only at h
  refine wl_cq Tryd.call69 rfl rfl rfl (q_rd (k_queue_Queue_At (p0 := p0) p0N0 p0V0 x26) (pCons Sel.hc (pApp Sel.ha pNil)) (fun _ _ => trivial)) rfl ?_
  iterate 5 refine wl_pure tt_ok rfl rfl ?_
  refine wl_nil (wx_then (wc_block (wc_seq (wc_region ?_))))
  iterate 2 refine wl_pure tt_ok rfl rfl ?_
  replace h := bsome h; obtain ⟨v35, h, hg35⟩ := h
  refine wl_split (t := 31) rfl (fun hc => ?_) (fun hc => ?_)
  · replace h := ct hc h
    refine wl_run rfl ?_
    refine wl_pure tt_ok rfl rfl ?_
    refine wl_run rfl ?_
    refine wl_pure tt_ok rfl rfl ?_
    refine wl_run rfl ?_
    refine wl_pure (v := .bool (v26_0 != p2)) tt_ok rfl rfl ?_
    simp only [Option.some.injEq, Prod.mk.injEq] at h
    obtain rfl := h
    have h := hg35; clear hg35
    refine wl_pure (v := .bool (v26_0 != p2)) tt_ok rfl rfl ?_
    refine wl_pure tt_ok rfl rfl ?_
    refine wl_nil (wx_then ?_)
    refine wc_cond rfl (fun hc => ?_) (fun hc => ?_)
    · replace h := ct hc h
      refine wc_seq (wc_region ?_)
      refine wl_pure tt_ok rfl rfl ?_
      refine wl_nil (wx_then (wc_ret (wx_block_ret (wx_then_ret ?_))))
      simp only [Option.some.injEq, Prod.mk.injEq] at h
      obtain ⟨rfl, rfl⟩ := h
      exact wx_spD tt_ok (.inl rfl) Tryd.results48 (Res.tmp rfl Res.nil) ⟨p0a0, p0n0, p0c0, p0B0, p0N0, p0V0, rfl, rfl⟩ (fun F => by simp) (pSub (pCons Sel.hc (pApp Sel.ha pNil)))
    replace h := cf hc h
    refine wc_seq (wc_region ?_)
    iterate 2 refine wl_pure tt_ok rfl rfl ?_
    refine wl_nil (wx_then ?_)
    refine wc_cond rfl (fun hc => ?_) (fun hc => ?_)
    · replace h := ct hc h
      refine wc_seq (wc_region ?_)
      refine wl_pure tt_ok rfl rfl ?_
      refine wl_nil (wx_then (wc_ret (wx_block_ret (wx_then_ret ?_))))
      simp only [Option.some.injEq, Prod.mk.injEq] at h
      obtain ⟨rfl, rfl⟩ := h
      exact wx_spD tt_ok (.inl rfl) Tryd.results48 (Res.tmp rfl Res.nil) ⟨p0a0, p0n0, p0c0, p0B0, p0N0, p0V0, rfl, rfl⟩ (fun F => by simp) (pSub (pCons Sel.hc (pApp Sel.ha pNil)))
    replace h := cf hc h
    refine wc_seq (wc_region ?_)
    iterate 2 refine wl_pure tt_ok rfl rfl ?_
    replace h := bsome h; obtain ⟨v41, x41, h⟩ := h
    refine wl_cq Tryd.call40 rfl rfl rfl (q_rd (k_queue_Queue_Known (p0 := p0) p0N0 p0V0 x41) (pCons Sel.hc (pApp Sel.ha pNil)) (fun _ _ => trivial)) rfl ?_
    refine wl_pure (v := .bool (decide (v41 < p1))) tt_ok rfl rfl ?_
    refine wl_pure tt_ok rfl rfl ?_
    replace h := bsome h; obtain ⟨v46, h, hg46⟩ := h
    refine wl_split (t := 43) rfl (fun hc => ?_) (fun hc => ?_)
    · replace h := ct hc h
      refine wl_skip rfl rfl ?_
      refine wl_skip rfl rfl ?_
      simp only [Option.some.injEq, Prod.mk.injEq] at h
      obtain rfl := h
      have h := hg46; clear hg46
      refine wl_pure (v := .bool true) tt_ok rfl rfl ?_
      refine wl_pure tt_ok rfl rfl ?_
      refine wl_nil (wx_then ?_)
      replace h := ct rfl h
      refine wc_cond_true rfl ?_
      refine wc_seq (wc_region ?_)
      refine wl_pure tt_ok rfl rfl ?_
      refine wl_nil (wx_then (wc_ret (wx_block_ret (wx_then_ret ?_))))
      simp only [Option.some.injEq, Prod.mk.injEq] at h
      obtain ⟨rfl, rfl⟩ := h
      exact wx_spD tt_ok (.inl rfl) Tryd.results48 (Res.tmp rfl Res.nil) ⟨p0a0, p0n0, p0c0, p0B0, p0N0, p0V0, rfl, rfl⟩ (fun F => by simp) (pSub (pCons Sel.hc (pApp Sel.ha pNil)))
    replace h := cf hc h
    refine wl_run rfl ?_
    refine wl_pure tt_ok rfl rfl ?_
    refine wl_run rfl ?_
    refine wl_pure (v := .bool (p1 == (18446744073709551615 : Int))) tt_ok rfl rfl ?_
    simp only [Option.some.injEq, Prod.mk.injEq] at h
    obtain rfl := h
    have h := hg46; clear hg46
    refine wl_pure (v := .bool (p1 == (18446744073709551615 : Int))) tt_ok rfl rfl ?_
    refine wl_pure tt_ok rfl rfl ?_
    refine wl_nil (wx_then ?_)
    refine wc_cond rfl (fun hc => ?_) (fun hc => ?_)
    · replace h := ct hc h
      refine wc_seq (wc_region ?_)
      refine wl_pure tt_ok rfl rfl ?_
      refine wl_nil (wx_then (wc_ret (wx_block_ret (wx_then_ret ?_))))
      simp only [Option.some.injEq, Prod.mk.injEq] at h
      obtain ⟨rfl, rfl⟩ := h
      exact wx_spD tt_ok (.inl rfl) Tryd.results48 (Res.tmp rfl Res.nil) ⟨p0a0, p0n0, p0c0, p0B0, p0N0, p0V0, rfl, rfl⟩ (fun F => by simp) (pSub (pCons Sel.hc (pApp Sel.ha pNil)))
    replace h := cf hc h
    refine wc_seq (wc_region ?_)
    iterate 2 refine wl_pure tt_ok rfl rfl ?_
    refine wl_pure (v := .pointer (some ⟨p0b, 1, none⟩)) tt_ok rfl rfl ?_
    refine wl_val (v := .slice p0a0 p0n0 p0c0) (val_load tt_ok rfl (List.Mem.head _) rfl) rfl ?_
    refine wl_val (v := .int .i64 (p0.l.length : Int)) (val_len tt_ok rfl rfl p0N0) rfl ?_
    refine wl_pure (v := .bool (decide ((24 : Int) ≤ (p0.l.length : Int)))) tt_ok rfl rfl ?_
    refine wl_pure tt_ok rfl rfl ?_
    refine wl_nil (wx_then ?_)
    refine wc_cond rfl (fun hc => ?_) (fun hc => ?_)
    · replace h := ct hc h
      refine wc_seq (wc_region ?_)
      refine wl_pure tt_ok rfl rfl ?_
      refine wl_nil (wx_then (wc_ret (wx_block_ret (wx_then_ret ?_))))
      simp only [Option.some.injEq, Prod.mk.injEq] at h
      obtain ⟨rfl, rfl⟩ := h
      exact wx_spD tt_ok (.inl rfl) Tryd.results48 (Res.tmp rfl Res.nil) ⟨p0a0, p0n0, p0c0, p0B0, p0N0, p0V0, rfl, rfl⟩ (fun F => by simp) (pSub (pCons Sel.hc (pApp Sel.ha pNil)))
    replace h := cf hc h
    refine wc_skip (wx_block (wx_then (wc_seq (wc_region ?_))))
    iterate 4 refine wl_pure tt_ok rfl rfl ?_
    refine wl_pure (v := .pointer (some ⟨p0b, 1, none⟩)) tt_ok rfl rfl ?_
    refine wl_val (v := .slice p0a0 p0n0 p0c0) (val_load tt_ok rfl (List.Mem.head _) rfl) rfl ?_
    refine wl_pure tt_ok rfl rfl ?_
    refine wl_chg (chg_bsv (enc := (e1 .u8)) (xs := ([p2] : List Int)) tt_ok rfl rfl rfl rfl rfl rfl rfl rfl (e1_len _)) rfl ?_
    rintro _ _ ⟨a61, n61_, c61, B61, rfl, N61, V61, rfl⟩
    replace h := bsome h; obtain ⟨v62, x62, h⟩ := h
    refine wl_chg (chg_app (enc := (e1 .u8)) (ys := ([p2] : List Int)) tt_ok rfl rfl rfl rfl rfl rfl p0N0 N61 p0V0 (Sel.sa (Sel.sc Sel.ha)) (Rds.of_vec V61) ⟨_, Sel.ha⟩ (e1_len _) (fun _ => rfl) rfl x62) rfl ?_
    rintro _ _ ⟨a62, n62_, c62, B62, rfl, N62, V62, rfl⟩
    iterate 2 refine wl_pure tt_ok rfl rfl ?_
    refine wl_pure (v := .pointer (some ⟨p0b, 1, none⟩)) tt_ok rfl rfl ?_
    apply wl_store tt_ok; rfl; exact (Upd.right (Upd.right Upd.here)); rfl; rfl; rfl; rfl; rfl; rfl
    refine wl_pure tt_ok rfl rfl ?_
    refine wl_pure (v := .pointer (some ⟨p0b, 2, none⟩)) tt_ok rfl rfl ?_
    apply wl_store tt_ok; rfl; exact (Upd.right (Upd.right Upd.here)); rfl; rfl; rfl; rfl; rfl; rfl
    refine wl_nil (wx_then (wc_seq (wc_region ?_)))
    refine wl_pure tt_ok rfl rfl ?_
    refine wl_nil (wx_then (wc_ret ?_))
    simp only [Option.some.injEq, Prod.mk.injEq] at h
    obtain ⟨rfl, rfl⟩ := h
    exact wx_spD tt_ok (.inl rfl) Tryd.results48 (Res.tmp rfl Res.nil) ⟨a62, n62_, c62, B62, N62, V62, rfl, rfl⟩ (fun F => by simp) (pSub (pCons (Sel.sa (Sel.sa Sel.hc)) (pApp Sel.ha pNil)))
  replace h := cf hc h
  refine wl_skip rfl rfl ?_
  refine wl_skip rfl rfl ?_
  refine wl_skip rfl rfl ?_
  simp only [Option.some.injEq, Prod.mk.injEq] at h
  obtain rfl := h
  have h := hg35; clear hg35
  refine wl_pure (v := .bool false) tt_ok rfl rfl ?_
  refine wl_pure tt_ok rfl rfl ?_
  refine wl_nil (wx_then ?_)
  replace h := cf rfl h
  refine wc_cond_false rfl ?_
  refine wc_seq (wc_region ?_)
  iterate 2 refine wl_pure tt_ok rfl rfl ?_
  refine wl_nil (wx_then ?_)
  refine wc_cond rfl (fun hc => ?_) (fun hc => ?_)
  · replace h := ct hc h
    refine wc_seq (wc_region ?_)
    refine wl_pure tt_ok rfl rfl ?_
    refine wl_nil (wx_then (wc_ret (wx_block_ret (wx_then_ret ?_))))
    simp only [Option.some.injEq, Prod.mk.injEq] at h
    obtain ⟨rfl, rfl⟩ := h
    exact wx_spD tt_ok (.inl rfl) Tryd.results48 (Res.tmp rfl Res.nil) ⟨p0a0, p0n0, p0c0, p0B0, p0N0, p0V0, rfl, rfl⟩ (fun F => by simp) (pSub (pCons Sel.hc (pApp Sel.ha pNil)))
  replace h := cf hc h
  refine wc_seq (wc_region ?_)
  iterate 2 refine wl_pure tt_ok rfl rfl ?_
  replace h := bsome h; obtain ⟨v41, x41, h⟩ := h
  refine wl_cq Tryd.call40 rfl rfl rfl (q_rd (k_queue_Queue_Known (p0 := p0) p0N0 p0V0 x41) (pCons Sel.hc (pApp Sel.ha pNil)) (fun _ _ => trivial)) rfl ?_
  refine wl_pure (v := .bool (decide (v41 < p1))) tt_ok rfl rfl ?_
  refine wl_pure tt_ok rfl rfl ?_
  replace h := bsome h; obtain ⟨v46, h, hg46⟩ := h
  refine wl_split (t := 43) rfl (fun hc => ?_) (fun hc => ?_)
  · replace h := ct hc h
    refine wl_skip rfl rfl ?_
    refine wl_skip rfl rfl ?_
    simp only [Option.some.injEq, Prod.mk.injEq] at h
    obtain rfl := h
    have h := hg46; clear hg46
    refine wl_pure (v := .bool true) tt_ok rfl rfl ?_
    refine wl_pure tt_ok rfl rfl ?_
    refine wl_nil (wx_then ?_)
    replace h := ct rfl h
    refine wc_cond_true rfl ?_
    refine wc_seq (wc_region ?_)
    refine wl_pure tt_ok rfl rfl ?_
    refine wl_nil (wx_then (wc_ret (wx_block_ret (wx_then_ret ?_))))
    simp only [Option.some.injEq, Prod.mk.injEq] at h
    obtain ⟨rfl, rfl⟩ := h
    exact wx_spD tt_ok (.inl rfl) Tryd.results48 (Res.tmp rfl Res.nil) ⟨p0a0, p0n0, p0c0, p0B0, p0N0, p0V0, rfl, rfl⟩ (fun F => by simp) (pSub (pCons Sel.hc (pApp Sel.ha pNil)))
  replace h := cf hc h
  refine wl_run rfl ?_
  refine wl_pure tt_ok rfl rfl ?_
  refine wl_run rfl ?_
  refine wl_pure (v := .bool (p1 == (18446744073709551615 : Int))) tt_ok rfl rfl ?_
  simp only [Option.some.injEq, Prod.mk.injEq] at h
  obtain rfl := h
  have h := hg46; clear hg46
  refine wl_pure (v := .bool (p1 == (18446744073709551615 : Int))) tt_ok rfl rfl ?_
  refine wl_pure tt_ok rfl rfl ?_
  refine wl_nil (wx_then ?_)
  refine wc_cond rfl (fun hc => ?_) (fun hc => ?_)
  · replace h := ct hc h
    refine wc_seq (wc_region ?_)
    refine wl_pure tt_ok rfl rfl ?_
    refine wl_nil (wx_then (wc_ret (wx_block_ret (wx_then_ret ?_))))
    simp only [Option.some.injEq, Prod.mk.injEq] at h
    obtain ⟨rfl, rfl⟩ := h
    exact wx_spD tt_ok (.inl rfl) Tryd.results48 (Res.tmp rfl Res.nil) ⟨p0a0, p0n0, p0c0, p0B0, p0N0, p0V0, rfl, rfl⟩ (fun F => by simp) (pSub (pCons Sel.hc (pApp Sel.ha pNil)))
  replace h := cf hc h
  refine wc_seq (wc_region ?_)
  iterate 2 refine wl_pure tt_ok rfl rfl ?_
  refine wl_pure (v := .pointer (some ⟨p0b, 1, none⟩)) tt_ok rfl rfl ?_
  refine wl_val (v := .slice p0a0 p0n0 p0c0) (val_load tt_ok rfl (List.Mem.head _) rfl) rfl ?_
  refine wl_val (v := .int .i64 (p0.l.length : Int)) (val_len tt_ok rfl rfl p0N0) rfl ?_
  refine wl_pure (v := .bool (decide ((24 : Int) ≤ (p0.l.length : Int)))) tt_ok rfl rfl ?_
  refine wl_pure tt_ok rfl rfl ?_
  refine wl_nil (wx_then ?_)
  refine wc_cond rfl (fun hc => ?_) (fun hc => ?_)
  · replace h := ct hc h
    refine wc_seq (wc_region ?_)
    refine wl_pure tt_ok rfl rfl ?_
    refine wl_nil (wx_then (wc_ret (wx_block_ret (wx_then_ret ?_))))
    simp only [Option.some.injEq, Prod.mk.injEq] at h
    obtain ⟨rfl, rfl⟩ := h
    exact wx_spD tt_ok (.inl rfl) Tryd.results48 (Res.tmp rfl Res.nil) ⟨p0a0, p0n0, p0c0, p0B0, p0N0, p0V0, rfl, rfl⟩ (fun F => by simp) (pSub (pCons Sel.hc (pApp Sel.ha pNil)))
  replace h := cf hc h
  refine wc_skip (wx_block (wx_then (wc_seq (wc_region ?_))))
  iterate 4 refine wl_pure tt_ok rfl rfl ?_
  refine wl_pure (v := .pointer (some ⟨p0b, 1, none⟩)) tt_ok rfl rfl ?_
  refine wl_val (v := .slice p0a0 p0n0 p0c0) (val_load tt_ok rfl (List.Mem.head _) rfl) rfl ?_
  refine wl_pure tt_ok rfl rfl ?_
  refine wl_chg (chg_bsv (enc := (e1 .u8)) (xs := ([p2] : List Int)) tt_ok rfl rfl rfl rfl rfl rfl rfl rfl (e1_len _)) rfl ?_
  rintro _ _ ⟨a61, n61_, c61, B61, rfl, N61, V61, rfl⟩
  replace h := bsome h; obtain ⟨v62, x62, h⟩ := h
  refine wl_chg (chg_app (enc := (e1 .u8)) (ys := ([p2] : List Int)) tt_ok rfl rfl rfl rfl rfl rfl p0N0 N61 p0V0 (Sel.sa (Sel.sc Sel.ha)) (Rds.of_vec V61) ⟨_, Sel.ha⟩ (e1_len _) (fun _ => rfl) rfl x62) rfl ?_
  rintro _ _ ⟨a62, n62_, c62, B62, rfl, N62, V62, rfl⟩
  iterate 2 refine wl_pure tt_ok rfl rfl ?_
  refine wl_pure (v := .pointer (some ⟨p0b, 1, none⟩)) tt_ok rfl rfl ?_
  apply wl_store tt_ok; rfl; exact (Upd.right (Upd.right Upd.here)); rfl; rfl; rfl; rfl; rfl; rfl
  refine wl_pure tt_ok rfl rfl ?_
  refine wl_pure (v := .pointer (some ⟨p0b, 2, none⟩)) tt_ok rfl rfl ?_
  apply wl_store tt_ok; rfl; exact (Upd.right (Upd.right Upd.here)); rfl; rfl; rfl; rfl; rfl; rfl
  refine wl_nil (wx_then (wc_seq (wc_region ?_)))
  refine wl_pure tt_ok rfl rfl ?_
  refine wl_nil (wx_then (wc_ret ?_))
  simp only [Option.some.injEq, Prod.mk.injEq] at h
  obtain ⟨rfl, rfl⟩ := h
  exact wx_spD tt_ok (.inl rfl) Tryd.results48 (Res.tmp rfl Res.nil) ⟨a62, n62_, c62, B62, N62, V62, rfl, rfl⟩ (fun F => by simp) (pSub (pCons (Sel.sa (Sel.sa Sel.hc)) (pApp Sel.ha pNil)))

theorem k_ring_Ring_Cut {F : Nat} {p0 : T_ring_Ring} {p0b p0t : Nat} {p0g0 : List (T_ring_place × G)} {p0P0 : List Blk} {p1 : Int} {r0 : T_ring_Ring} {r1 : Int} (p0G0 : p0.places.1 = unG p0g0) (p0A0 : AllP sh_T_ring_place c_T_api_Shot p0P0 p0g0) (h : m_ring_Ring_Cut F p0 p1 = some (r0, r1)) :
    SpD Tryd.prog 49 [.pointer (some ⟨p0b, 0, none⟩), .int .u64 p1] (⟨p0b, ([.int .i64 p0.size] ++ flat cg_T_ring_place p0g0), p0t, (0, 0)⟩ :: (p0P0 ++ [])) (fun w => True) (fun v D => ∃ (r0g0 : List (T_ring_place × G)) (r0P0 : List Blk), r0.places.1 = unG r0g0 ∧ AllP sh_T_ring_place c_T_api_Shot r0P0 r0g0 ∧ v = .int .i64 r1 ∧ D = fun F => (⟨p0b, ([.int .i64 r0.size] ++ flat cg_T_ring_place r0g0), p0t, (0, 0)⟩ :: (r0P0 ++ F))) := by
  unfold m_ring_Ring_Cut at h
  refine sp_of_wc Tryd.func49 rfl Tryd.ntmps49 rfl rfl (fun w0 hR => ?_)
  refine wc_seq (wc_region ?_)
  refine wl_pure tt_ok rfl rfl ?_
  refine wl_nil (wx_then (wc_seq (wc_seq (wc_region ?_))))
  refine wl_pure tt_ok rfl rfl ?_
  replace h := bsome h; obtain ⟨v9, x9, h⟩ := h
  refine wl_cq Tryd.call60 rfl rfl rfl (q_rd (k_ring_Ring_is (p0 := p0) p0G0 p0A0 x9) (pCons Sel.hc (pApp Sel.ha pNil)) (fun _ _ => trivial)) rfl ?_
  refine wl_pure (v := .bool (!v9)) tt_ok rfl rfl ?_
  refine wl_nil (wx_then ?_)
  refine wc_cond rfl (fun hc => ?_) (fun hc => ?_)
  · replace h := ct hc h
    refine wc_seq (wc_region ?_)
    refine wl_pure tt_ok rfl rfl ?_
    refine wl_nil (wx_then (wc_ret (wx_then_ret ?_)))
    simp only [Option.some.injEq, Prod.mk.injEq] at h
    obtain ⟨rfl, rfl⟩ := h
    exact wx_spD tt_ok (.inl rfl) Tryd.results49 (Res.tmp rfl Res.nil) ⟨p0g0, p0P0, p0G0, p0A0, rfl, rfl⟩ (fun F => by simp) (pSub (pCons Sel.hc (pApp Sel.ha pNil)))
  replace h := cf hc h
  refine wc_skip (wx_then (wc_seq (wc_region ?_)))
  refine wl_pure tt_ok rfl rfl ?_
  refine wl_nil (wx_then (wc_seq (wc_seq (wc_region ?_))))
  iterate 2 refine wl_pure tt_ok rfl rfl ?_
  refine wl_pure (v := .pointer (some ⟨p0b, 1, none⟩)) tt_ok rfl rfl ?_
  refine wl_val (v := .agg (flat cg_T_ring_place p0g0 : List Value).toArray) (val_load tt_ok rfl (List.Mem.head _) (partV_arr (enc := cg_T_ring_place) (pre := [.int .i64 p0.size]) (post := []) (xs := p0g0) rfl c_np rfl (arr_len cg_T_ring_place_len (arrg_len p0G0 p0.places.2) rfl))) rfl ?_
  refine wl_pure tt_ok rfl rfl ?_
  refine wl_nil (wx_then (wc_block ?_))
  replace h := bsome h; obtain ⟨⟨l17_5, l17_p0_f1⟩, h, hl17⟩ := h; try dsimp only at hl17
  refine wc_loop (fun m E L => ∃ (j17_5 : Int) (j17_15 : Int) (j17_p0_f1 : (Arr T_ring_place 14)) (j17_p0_f1g0 : List (T_ring_place × G)), m_ring_Ring_Cut_L16 F p0 p1 m j17_5 j17_15 j17_p0_f1 = some (l17_5, l17_p0_f1) ∧ j17_p0_f1.1 = unG j17_p0_f1g0 ∧ AllP sh_T_ring_place c_T_api_Shot p0P0 j17_p0_f1g0 ∧ E = [(0, .pointer (some ⟨p0b, 0, none⟩)), (1, .int .u64 p1), (4, .int .i64 (0 : Int)), (5, .int .i64 j17_5), (14, .agg (flat cg_T_ring_place p0g0 : List Value).toArray), (15, .int .i64 j17_15)] ∧ L = (⟨p0b, ([.int .i64 p0.size] ++ flat cg_T_ring_place j17_p0_f1g0), p0t, (0, 0)⟩ :: (p0P0 ++ []))) F ⟨(0 : Int), (0 : Int), p0.places, p0g0, h, p0G0, p0A0, rfl, rfl⟩ (agree_cons rfl (agree_cons rfl (agree_cons rfl (agree_cons rfl (agree_cons rfl (agree_cons rfl agree_nil)))))) (pSub (pCons Sel.hc (pApp Sel.ha pNil))) ?_
  clear h
  rintro m17 _ _ ⟨j17_5, j17_15, j17_p0_f1, j17_p0_f1g0, h, j17_p0_f1G0, j17_p0_f1A0, rfl, rfl⟩
  rcases m17 with _ | m17
  · rw [m_ring_Ring_Cut_L16.eq_1] at h; cases h
  rw [m_ring_Ring_Cut_L16.eq_2] at h
  refine wc_seq (wc_region ?_)
  refine wl_pure (v := .bool (decide (j17_15 < (14 : Int)))) tt_ok rfl rfl ?_
  refine wl_nil (wx_then (wc_seq ?_))
  refine wc_cond rfl (fun hc => ?_) (fun hc => ?_)
  · replace h := ct hc h
    refine wc_skip (wx_then (wc_seq (wc_block (wc_seq (wc_region ?_)))))
    refine wl_pure tt_ok rfl rfl ?_
    replace h := bsome h; obtain ⟨v18, x18, h⟩ := h
    obtain ⟨G18, y18⟩ := getI_g p0G0 x18
    refine wl_val (v := .agg #[.int .u64 v18.s.Frame, .int .u64 v18.s.Seed, .int .i32 v18.s.Players.1.X, .int .i32 v18.s.Players.1.Y, .int .i32 v18.s.Players.1.VX, .int .i32 v18.s.Players.1.VY, .int .u8 v18.s.Players.1.Health, .int .u8 v18.s.Players.1.Cool, .int .u8 v18.s.Players.1.Face, .int .i32 v18.s.Players.2.X, .int .i32 v18.s.Players.2.Y, .int .i32 v18.s.Players.2.VX, .int .i32 v18.s.Players.2.VY, .int .u8 v18.s.Players.2.Health, .int .u8 v18.s.Players.2.Cool, .int .u8 v18.s.Players.2.Face, .slice G18.1 G18.2.1 G18.2.2, .int .u16 v18.s.Score.1, .int .u16 v18.s.Score.2, .bool v18.is_]) (val_xv (enc := cg_T_ring_place) (xs := p0g0) tt_ok rfl rfl rfl rfl rfl (arrg_len p0G0 p0.places.2) cg_T_ring_place_len y18) rfl ?_
    refine wl_alloc tt_ok rfl rfl (fun b7 => ?_)
    refine wl_pure tt_ok rfl rfl ?_
    apply wl_store tt_ok; rfl; exact Upd.here; rfl; rfl; rfl; rfl; rfl; rfl
    refine wl_nil (wx_then (wc_seq (wc_region ?_)))
    refine wl_pure (v := .pointer (some ⟨b7, 19, none⟩)) tt_ok rfl rfl ?_
    refine wl_val (v := .bool v18.is_) (val_load tt_ok rfl (List.Mem.head _) rfl) rfl ?_
    refine wl_pure tt_ok rfl rfl ?_
    replace h := bsome h; obtain ⟨v27, h, hg27⟩ := h
    refine wl_split (t := 21) rfl (fun hc => ?_) (fun hc => ?_)
    · replace h := ct hc h
      refine wl_run rfl ?_
      refine wl_pure (v := .pointer (some ⟨b7, 0, none⟩)) tt_ok rfl rfl ?_
      refine wl_run rfl ?_
      refine wl_pure (v := .pointer (some ⟨b7, 0, none⟩)) tt_ok rfl rfl ?_
      refine wl_run rfl ?_
      refine wl_val (v := .int .u64 v18.s.Frame) (val_load tt_ok rfl (List.Mem.head _) rfl) rfl ?_
      refine wl_run rfl ?_
      refine wl_pure tt_ok rfl rfl ?_
      refine wl_run rfl ?_
      refine wl_pure (v := .bool (decide (p1 < v18.s.Frame))) tt_ok rfl rfl ?_
      simp only [Option.some.injEq, Prod.mk.injEq] at h
      obtain rfl := h
      have h := hg27; clear hg27
      refine wl_pure (v := .bool (decide (p1 < v18.s.Frame))) tt_ok rfl rfl ?_
      refine wl_nil (wx_then ?_)
      refine wc_cond rfl (fun hc => ?_) (fun hc => ?_)
      · replace h := ct hc h
        refine wc_seq (wc_region ?_)
        iterate 2 refine wl_pure tt_ok rfl rfl ?_
        refine wl_pure (v := .agg #[.int .u64 (0 : Int), .int .u64 (0 : Int), .int .i32 (0 : Int), .int .i32 (0 : Int), .int .i32 (0 : Int), .int .i32 (0 : Int), .int .u8 (0 : Int), .int .u8 (0 : Int), .int .u8 (0 : Int), .int .i32 (0 : Int), .int .i32 (0 : Int), .int .i32 (0 : Int), .int .i32 (0 : Int), .int .u8 (0 : Int), .int .u8 (0 : Int), .int .u8 (0 : Int), .slice none 0 0, .int .u16 (0 : Int), .int .u16 (0 : Int), .bool false]) tt_ok rfl rfl ?_
        refine wl_pure tt_ok rfl rfl ?_
        refine wl_pure (v := .pointer (some ⟨p0b, 1, none⟩)) tt_ok rfl rfl ?_
        replace h := bsome h; obtain ⟨v33, x33, h⟩ := h
        obtain ⟨G33, y33⟩ := getI_g j17_p0_f1G0 x33
        refine wl_val (v := .pointer (some ⟨p0b, 1 + j17_15.toNat * 20 + 0, none⟩)) (val_xa (a := j17_p0_f1) tt_ok rfl rfl rfl rfl x33) rfl ?_
        refine wl_chg0 (chg_stx (enc := cg_T_ring_place) (pre := [.int .i64 p0.size]) (post := []) (xs := j17_p0_f1g0) (y' := ((T_ring_place.mk (T_api_State.mk (0 : Int) (0 : Int) ((T_api_Player.mk (0 : Int) (0 : Int) (0 : Int) (0 : Int) (0 : Int) (0 : Int) (0 : Int)), (T_api_Player.mk (0 : Int) (0 : Int) (0 : Int) (0 : Int) (0 : Int) (0 : Int) (0 : Int))) ([] : List T_api_Shot) ((0 : Int), (0 : Int))) false), (none, 0, 0))) (c' := ([.int .i64 p0.size] ++ flat cg_T_ring_place (setI j17_p0_f1g0 j17_15 ((T_ring_place.mk (T_api_State.mk (0 : Int) (0 : Int) ((T_api_Player.mk (0 : Int) (0 : Int) (0 : Int) (0 : Int) (0 : Int) (0 : Int) (0 : Int)), (T_api_Player.mk (0 : Int) (0 : Int) (0 : Int) (0 : Int) (0 : Int) (0 : Int) (0 : Int))) ([] : List T_api_Shot) ((0 : Int), (0 : Int))) false), (none, 0, 0))))) tt_ok rfl rfl rfl rfl rfl rfl (Upd.there Upd.here) c_np c_np rfl cg_T_ring_place_len y33 rfl (by intro h; cases h)) ?_
        rintro _ _ rfl
        refine wl_nil (wx_then (wc_region ?_))
        refine wl_pure tt_ok rfl rfl ?_
        refine wl_pure (v := .int .i64 (IntKind.wrap .i64 (j17_5 + (1 : Int)))) tt_ok rfl rfl ?_
        refine wl_pure tt_ok rfl rfl ?_
        refine wl_nil (wx_block (wx_then (wc_region ?_)))
        refine wl_pure (v := .int .i64 (IntKind.wrap .i64 (j17_15 + (1 : Int)))) tt_ok rfl rfl ?_
        refine wl_pure tt_ok rfl rfl ?_
        refine wl_nil ?_
        exact wx_round m17 (Nat.lt_succ_self m17) ⟨(IntKind.wrap .i64 (j17_5 + (1 : Int))), (IntKind.wrap .i64 (j17_15 + (1 : Int))), (Arr.set j17_p0_f1 j17_15 (T_ring_place.mk (T_api_State.mk (0 : Int) (0 : Int) ((T_api_Player.mk (0 : Int) (0 : Int) (0 : Int) (0 : Int) (0 : Int) (0 : Int) (0 : Int)), (T_api_Player.mk (0 : Int) (0 : Int) (0 : Int) (0 : Int) (0 : Int) (0 : Int) (0 : Int))) ([] : List T_api_Shot) ((0 : Int), (0 : Int))) false)), (setI j17_p0_f1g0 j17_15 ((T_ring_place.mk (T_api_State.mk (0 : Int) (0 : Int) ((T_api_Player.mk (0 : Int) (0 : Int) (0 : Int) (0 : Int) (0 : Int) (0 : Int) (0 : Int)), (T_api_Player.mk (0 : Int) (0 : Int) (0 : Int) (0 : Int) (0 : Int) (0 : Int) (0 : Int))) ([] : List T_api_Shot) ((0 : Int), (0 : Int))) false), (none, 0, 0))), h, (setI_g j17_p0_f1G0 j17_15 ((T_ring_place.mk (T_api_State.mk (0 : Int) (0 : Int) ((T_api_Player.mk (0 : Int) (0 : Int) (0 : Int) (0 : Int) (0 : Int) (0 : Int) (0 : Int)), (T_api_Player.mk (0 : Int) (0 : Int) (0 : Int) (0 : Int) (0 : Int) (0 : Int) (0 : Int))) ([] : List T_api_Shot) ((0 : Int), (0 : Int))) false), (none, 0, 0))), (fun w A => allrd_set (j17_p0_f1A0 w A) (allrd_one (sh := sh_T_ring_place) (x := (T_ring_place.mk (T_api_State.mk (0 : Int) (0 : Int) ((T_api_Player.mk (0 : Int) (0 : Int) (0 : Int) (0 : Int) (0 : Int) (0 : Int) (0 : Int)), (T_api_Player.mk (0 : Int) (0 : Int) (0 : Int) (0 : Int) (0 : Int) (0 : Int) (0 : Int))) ([] : List T_api_Shot) ((0 : Int), (0 : Int))) false)) (s := ([] : List T_api_Shot)) rfl rfl (Nat.le_refl _) Rds.nil (fun _ => rfl))), rfl, rfl⟩ (agree_cons rfl (agree_cons rfl (agree_cons rfl (agree_cons rfl (agree_cons rfl (agree_cons rfl agree_nil)))))) (pSub (pCons (Sel.sc Sel.hc) (pApp (Sel.sc Sel.ha) pNil)))
      replace h := cf hc h
      refine wc_skip (wx_block (wx_then (wc_region ?_)))
      refine wl_pure (v := .int .i64 (IntKind.wrap .i64 (j17_15 + (1 : Int)))) tt_ok rfl rfl ?_
      refine wl_pure tt_ok rfl rfl ?_
      refine wl_nil ?_
      exact wx_round m17 (Nat.lt_succ_self m17) ⟨j17_5, (IntKind.wrap .i64 (j17_15 + (1 : Int))), j17_p0_f1, j17_p0_f1g0, h, j17_p0_f1G0, j17_p0_f1A0, rfl, rfl⟩ (agree_cons rfl (agree_cons rfl (agree_cons rfl (agree_cons rfl (agree_cons rfl (agree_cons rfl agree_nil)))))) (pSub (pCons (Sel.sc Sel.hc) (pApp (Sel.sc Sel.ha) pNil)))
    replace h := cf hc h
    refine wl_skip rfl rfl ?_
    refine wl_skip rfl rfl ?_
    refine wl_skip rfl rfl ?_
    refine wl_skip rfl rfl ?_
    refine wl_skip rfl rfl ?_
    simp only [Option.some.injEq, Prod.mk.injEq] at h
    obtain rfl := h
    have h := hg27; clear hg27
    refine wl_pure (v := .bool false) tt_ok rfl rfl ?_
    refine wl_nil (wx_then ?_)
    replace h := cf rfl h
    refine wc_cond_false rfl ?_
    refine wc_skip (wx_block (wx_then (wc_region ?_)))
    refine wl_pure (v := .int .i64 (IntKind.wrap .i64 (j17_15 + (1 : Int)))) tt_ok rfl rfl ?_
    refine wl_pure tt_ok rfl rfl ?_
    refine wl_nil ?_
    exact wx_round m17 (Nat.lt_succ_self m17) ⟨j17_5, (IntKind.wrap .i64 (j17_15 + (1 : Int))), j17_p0_f1, j17_p0_f1g0, h, j17_p0_f1G0, j17_p0_f1A0, rfl, rfl⟩ (agree_cons rfl (agree_cons rfl (agree_cons rfl (agree_cons rfl (agree_cons rfl (agree_cons rfl agree_nil)))))) (pSub (pCons (Sel.sc Sel.hc) (pApp (Sel.sc Sel.ha) pNil)))
  replace h := cf hc h
  refine wc_exit (wx_then_exit ?_)
  simp only [Option.some.injEq, Prod.mk.injEq] at h
  obtain ⟨rfl, rfl⟩ := h
  have h := hl17; clear hl17; try dsimp only [orE_l, orE_r] at h
  refine wx_then_exit (wx_block_exit (wx_then (wc_seq (wc_region ?_))))
  iterate 2 refine wl_pure tt_ok rfl rfl ?_
  refine wl_nil (wx_then (wc_ret ?_))
  simp only [Option.some.injEq, Prod.mk.injEq] at h
  obtain ⟨rfl, rfl⟩ := h
  exact wx_spD tt_ok (.inl rfl) Tryd.results49 (Res.tmp rfl Res.nil) ⟨j17_p0_f1g0, p0P0, j17_p0_f1G0, j17_p0_f1A0, rfl, rfl⟩ (fun F => by simp) (pSub (pCons Sel.hc (pApp Sel.ha pNil)))

theorem k_rollback_Engine_Remote {F : Nat} {p0 : T_rollback_Engine} {p0b p0t : Nat} {p0a0 : Option Addr} {p0n0 : Nat} {p0c0 : Nat} {p0B0 : List Blk} {p0a1 : Option Addr} {p0n1 : Nat} {p0c1 : Nat} {p0B1 : List Blk} {p0_4 : T_queue_Queue} {p0_4b p0_4t : Nat} {p0_4a0 : Option Addr} {p0_4n0 : Nat} {p0_4c0 : Nat} {p0_4B0 : List Blk} {p0_5 : T_ring_Ring} {p0_5b p0_5t : Nat} {p0_5g0 : List (T_ring_place × G)} {p0_5P0 : List Blk} {p1 : Int} {p2 : Int} {r0 : T_queue_Queue} {r1 : T_ring_Ring} {r2 : Int} (p0N0 : p0n0 = p0.sure.Shots.length) (p0V0 : Own 92 6 p0a0 p0n0 p0c0 (flat c_T_api_Shot p0.sure.Shots) p0B0) (p0N1 : p0n1 = p0.own.length) (p0V1 : Own 34 1 p0a1 p0n1 p0c1 (flat (e1 .u8) p0.own) p0B1) (p0_4N0 : p0_4n0 = p0_4.l.length) (p0_4V0 : Own 34 1 p0_4a0 p0_4n0 p0_4c0 (flat (e1 .u8) p0_4.l) p0_4B0) (p0_5G0 : p0_5.places.1 = unG p0_5g0) (p0_5A0 : AllP sh_T_ring_place c_T_api_Shot p0_5P0 p0_5g0) (h : m_rollback_Engine_Remote F p0 p0_4 p0_5 p1 p2 = some (r0, r1, r2)) :
    SpD Tryd.prog 26 [.pointer (some ⟨p0b, 0, none⟩), .int .u64 p1, .int .u8 p2] (⟨p0b, [.int .u8 p0.player, .int .i64 p0.window, .int .u64 p0.sure.Frame, .int .u64 p0.sure.Seed, .int .i32 p0.sure.Players.1.X, .int .i32 p0.sure.Players.1.Y, .int .i32 p0.sure.Players.1.VX, .int .i32 p0.sure.Players.1.VY, .int .u8 p0.sure.Players.1.Health, .int .u8 p0.sure.Players.1.Cool, .int .u8 p0.sure.Players.1.Face, .int .i32 p0.sure.Players.2.X, .int .i32 p0.sure.Players.2.Y, .int .i32 p0.sure.Players.2.VX, .int .i32 p0.sure.Players.2.VY, .int .u8 p0.sure.Players.2.Health, .int .u8 p0.sure.Players.2.Cool, .int .u8 p0.sure.Players.2.Face, .slice p0a0 p0n0 p0c0, .int .u16 p0.sure.Score.1, .int .u16 p0.sure.Score.2, .slice p0a1 p0n1 p0c1, .pointer (some ⟨p0_4b, 0, none⟩), .pointer (some ⟨p0_5b, 0, none⟩)], p0t, (0, 0)⟩ :: (p0B0 ++ (p0B1 ++ (⟨p0_4b, [.int .u64 p0_4.first_, .slice p0_4a0 p0_4n0 p0_4c0, .int .u8 p0_4.last], p0_4t, (0, 0)⟩ :: (p0_4B0 ++ (⟨p0_5b, ([.int .i64 p0_5.size] ++ flat cg_T_ring_place p0_5g0), p0_5t, (0, 0)⟩ :: (p0_5P0 ++ []))))))) (fun w => True) (fun v D => ∃ (r0a0 : Option Addr) (r0n0 : Nat) (r0c0 : Nat) (r0B0 : List Blk) (r1g0 : List (T_ring_place × G)) (r1P0 : List Blk), r0n0 = r0.l.length ∧ Own 34 1 r0a0 r0n0 r0c0 (flat (e1 .u8) r0.l) r0B0 ∧ r1.places.1 = unG r1g0 ∧ AllP sh_T_ring_place c_T_api_Shot r1P0 r1g0 ∧ v = .int .i64 r2 ∧ D = fun F => (⟨p0b, [.int .u8 p0.player, .int .i64 p0.window, .int .u64 p0.sure.Frame, .int .u64 p0.sure.Seed, .int .i32 p0.sure.Players.1.X, .int .i32 p0.sure.Players.1.Y, .int .i32 p0.sure.Players.1.VX, .int .i32 p0.sure.Players.1.VY, .int .u8 p0.sure.Players.1.Health, .int .u8 p0.sure.Players.1.Cool, .int .u8 p0.sure.Players.1.Face, .int .i32 p0.sure.Players.2.X, .int .i32 p0.sure.Players.2.Y, .int .i32 p0.sure.Players.2.VX, .int .i32 p0.sure.Players.2.VY, .int .u8 p0.sure.Players.2.Health, .int .u8 p0.sure.Players.2.Cool, .int .u8 p0.sure.Players.2.Face, .slice p0a0 p0n0 p0c0, .int .u16 p0.sure.Score.1, .int .u16 p0.sure.Score.2, .slice p0a1 p0n1 p0c1, .pointer (some ⟨p0_4b, 0, none⟩), .pointer (some ⟨p0_5b, 0, none⟩)], p0t, (0, 0)⟩ :: (p0B0 ++ (p0B1 ++ (⟨p0_4b, [.int .u64 r0.first_, .slice r0a0 r0n0 r0c0, .int .u8 r0.last], p0_4t, (0, 0)⟩ :: (r0B0 ++ (⟨p0_5b, ([.int .i64 r1.size] ++ flat cg_T_ring_place r1g0), p0_5t, (0, 0)⟩ :: (r1P0 ++ F)))))))) := by
  unfold m_rollback_Engine_Remote at h
  refine sp_of_wc Tryd.func26 rfl Tryd.ntmps26 rfl rfl (fun w0 hR => ?_)
  refine wc_seq (wc_region ?_)
  refine wl_pure tt_ok rfl rfl ?_
  refine wl_nil (wx_then (wc_seq (wc_seq (wc_region ?_))))
  refine wl_pure tt_ok rfl rfl ?_
  replace h := bsome h; obtain ⟨v11, x11, h⟩ := h
  refine wl_cq Tryd.call29 rfl rfl rfl (q_rd (k_rollback_Engine_is (p0 := p0) (p0_4 := p0_4) (p0_5 := p0_5) p0N0 p0V0 p0N1 p0V1 p0_4N0 p0_4V0 p0_5G0 p0_5A0 x11) (pCons Sel.hc (pApp Sel.ha (pApp Sel.ha (pCons Sel.hc (pApp Sel.ha (pCons Sel.hc (pApp Sel.ha pNil))))))) (fun _ _ => trivial)) rfl ?_
  refine wl_pure (v := .bool (!v11)) tt_ok rfl rfl ?_
  refine wl_nil (wx_then ?_)
  refine wc_cond rfl (fun hc => ?_) (fun hc => ?_)
  · replace h := ct hc h
    refine wc_seq (wc_region ?_)
    refine wl_pure tt_ok rfl rfl ?_
    refine wl_nil (wx_then (wc_ret (wx_then_ret ?_)))
    simp only [Option.some.injEq, Prod.mk.injEq] at h
    obtain ⟨rfl, rfl, rfl⟩ := h
    exact wx_spD tt_ok (.inl rfl) Tryd.results26 (Res.tmp rfl Res.nil) ⟨p0_4a0, p0_4n0, p0_4c0, p0_4B0, p0_5g0, p0_5P0, p0_4N0, p0_4V0, p0_5G0, p0_5A0, rfl, rfl⟩ (fun F => by simp) (pSub (pCons Sel.hc (pApp Sel.ha (pApp Sel.ha (pCons Sel.hc (pApp Sel.ha (pCons Sel.hc (pApp Sel.ha pNil))))))))
  replace h := cf hc h
  refine wc_skip (wx_then (wc_seq ?_))
  refine wc_quiet (by kernel_rfl) (by kernel_rfl) ?_
  refine wq_pure tt_ok rfl rfl ?_
  refine wq_pure tt_ok rfl rfl ?_
  refine wq_pure (v := .pointer (some ⟨p0b, 22, none⟩)) tt_ok rfl rfl ?_
  refine wq_val (v := .pointer (some ⟨p0_4b, 0, none⟩)) (val_load tt_ok rfl (List.Mem.head _) rfl) rfl ?_
  replace h := bsome h; obtain ⟨v17, x17, h⟩ := h
  refine wq_cq Tryd.call40 rfl rfl rfl (q_rd (k_queue_Queue_Known (p0 := p0_4) p0_4N0 p0_4V0 x17) (pCons (Sel.sc (Sel.sa (Sel.sa Sel.hc))) (pApp (Sel.sc (Sel.sa (Sel.sa Sel.ha))) pNil)) (fun _ _ => trivial)) rfl ?_
  refine wq_pure tt_ok rfl rfl ?_
  refine wq_pure tt_ok rfl rfl ?_
  refine wq_pure (v := .pointer (some ⟨p0b, 22, none⟩)) tt_ok rfl rfl ?_
  refine wq_val (v := .pointer (some ⟨p0_4b, 0, none⟩)) (val_load tt_ok rfl (List.Mem.head _) rfl) rfl ?_
  refine wq_pure tt_ok rfl rfl ?_
  replace h := bsome h; obtain ⟨v23, x23, h⟩ := h
  refine wq_cq Tryd.call47 rfl rfl rfl (q_rd (k_queue_Queue_Guess (p0 := p0_4) p0_4N0 p0_4V0 x23) (pCons (Sel.sc (Sel.sa (Sel.sa Sel.hc))) (pApp (Sel.sc (Sel.sa (Sel.sa Sel.ha))) pNil)) (fun _ _ => trivial)) rfl ?_
  refine wq_pure tt_ok rfl rfl ?_
  refine wq_pure tt_ok rfl rfl ?_
  refine wq_nil ?_
  refine wx_then (wc_seq (wc_region ?_))
  iterate 2 refine wl_pure tt_ok rfl rfl ?_
  refine wl_pure (v := .pointer (some ⟨p0b, 22, none⟩)) tt_ok rfl rfl ?_
  refine wl_val (v := .pointer (some ⟨p0_4b, 0, none⟩)) (val_load tt_ok rfl (List.Mem.head _) rfl) rfl ?_
  iterate 2 refine wl_pure tt_ok rfl rfl ?_
  replace h := bsome h; obtain ⟨⟨o30_0, v30⟩, x30, h⟩ := h; try dsimp only at h
  refine wl_cs Tryd.call48 rfl rfl rfl (s_sp (k_queue_Queue_Add (p0 := p0_4) p0_4N0 p0_4V0 x30) (pCons (Sel.sc (Sel.sa (Sel.sa Sel.hc))) (pApp (Sel.sc (Sel.sa (Sel.sa Sel.ha))) pNil)) (fun _ _ => trivial)) rfl ?_
  rintro _ _ ⟨_, ⟨o30_0a0, o30_0n0, o30_0c0, o30_0B0, o30_0N0, o30_0V0, rfl, rfl⟩, rfl⟩
  refine wl_pure tt_ok rfl rfl ?_
  refine wl_nil (wx_then (wc_seq (wc_seq (wc_region ?_))))
  iterate 2 refine wl_pure tt_ok rfl rfl ?_
  refine wl_pure (v := .pointer (some ⟨p0b, 22, none⟩)) tt_ok rfl rfl ?_
  refine wl_val (v := .pointer (some ⟨p0_4b, 0, none⟩)) (val_load tt_ok rfl (List.Mem.tail _ (mR (List.Mem.head _))) rfl) rfl ?_
  replace h := bsome h; obtain ⟨v35, x35, h⟩ := h
  refine wl_cq Tryd.call40 rfl rfl rfl (q_rd (k_queue_Queue_Known (p0 := o30_0) o30_0N0 o30_0V0 x35) (pCons Sel.hc (pApp Sel.ha pNil)) (fun _ _ => trivial)) rfl ?_
  refine wl_pure tt_ok rfl rfl ?_
  refine wl_pure (v := .bool (decide (v17 < v35))) tt_ok rfl rfl ?_
  refine wl_pure tt_ok rfl rfl ?_
  replace h := bsome h; obtain ⟨v42, h, hg42⟩ := h
  refine wl_split (t := 38) rfl (fun hc => ?_) (fun hc => ?_)
  · replace h := ct hc h
    refine wl_run rfl ?_
    refine wl_pure tt_ok rfl rfl ?_
    refine wl_run rfl ?_
    refine wl_pure tt_ok rfl rfl ?_
    refine wl_run rfl ?_
    refine wl_pure (v := .bool (v23 != p2)) tt_ok rfl rfl ?_
    simp only [Option.some.injEq, Prod.mk.injEq] at h
    obtain rfl := h
    have h := hg42; clear hg42
    refine wl_pure (v := .bool (v23 != p2)) tt_ok rfl rfl ?_
    refine wl_nil (wx_then ?_)
    replace h := bsome h; obtain ⟨⟨j18_p0_5_f0, j18_p0_5_f1⟩, h, hj18⟩ := h; try dsimp only at hj18
    refine wc_join2 (fun E L => ∃ (j18_p0_5_f1g0 : List (T_ring_place × G)) (j18_p0_5_f1P0 : List Blk), j18_p0_5_f1.1 = unG j18_p0_5_f1g0 ∧ AllP sh_T_ring_place c_T_api_Shot j18_p0_5_f1P0 j18_p0_5_f1g0 ∧ E = [(6, .int .i64 (0 : Int)), (9, .int .i64 v30)] ∧ L = (⟨p0b, [.int .u8 p0.player, .int .i64 p0.window, .int .u64 p0.sure.Frame, .int .u64 p0.sure.Seed, .int .i32 p0.sure.Players.1.X, .int .i32 p0.sure.Players.1.Y, .int .i32 p0.sure.Players.1.VX, .int .i32 p0.sure.Players.1.VY, .int .u8 p0.sure.Players.1.Health, .int .u8 p0.sure.Players.1.Cool, .int .u8 p0.sure.Players.1.Face, .int .i32 p0.sure.Players.2.X, .int .i32 p0.sure.Players.2.Y, .int .i32 p0.sure.Players.2.VX, .int .i32 p0.sure.Players.2.VY, .int .u8 p0.sure.Players.2.Health, .int .u8 p0.sure.Players.2.Cool, .int .u8 p0.sure.Players.2.Face, .slice p0a0 p0n0 p0c0, .int .u16 p0.sure.Score.1, .int .u16 p0.sure.Score.2, .slice p0a1 p0n1 p0c1, .pointer (some ⟨p0_4b, 0, none⟩), .pointer (some ⟨p0_5b, 0, none⟩)], p0t, (0, 0)⟩ :: (⟨p0_4b, [.int .u64 o30_0.first_, .slice o30_0a0 o30_0n0 o30_0c0, .int .u8 o30_0.last], p0_4t, (0, 0)⟩ :: (⟨p0_5b, ([.int .i64 j18_p0_5_f0] ++ flat cg_T_ring_place j18_p0_5_f1g0), p0_5t, (0, 0)⟩ :: (p0B0 ++ (p0B1 ++ (o30_0B0 ++ (j18_p0_5_f1P0 ++ [])))))))) ?_ ?_
    · refine wc_cond rfl (fun hc => ?_) (fun hc => ?_)
      · replace h := ct hc h
        refine wc_region ?_
        iterate 2 refine wl_pure tt_ok rfl rfl ?_
        refine wl_pure (v := .pointer (some ⟨p0b, 23, none⟩)) tt_ok rfl rfl ?_
        refine wl_val (v := .pointer (some ⟨p0_5b, 0, none⟩)) (val_load tt_ok rfl (List.Mem.tail _ (mR (List.Mem.head _))) rfl) rfl ?_
        refine wl_pure tt_ok rfl rfl ?_
        replace h := bsome h; obtain ⟨⟨o48_0, v48⟩, x48, h⟩ := h; try dsimp only at h
        refine wl_cs Tryd.call49 rfl rfl rfl (s_sp (k_ring_Ring_Cut (p0 := p0_5) p0_5G0 p0_5A0 x48) (pCons (Sel.sc (Sel.sa (Sel.sc (Sel.sa (Sel.sa Sel.hc))))) (pApp (Sel.sc (Sel.sa (Sel.sc (Sel.sa (Sel.sa Sel.ha))))) pNil)) (fun _ _ => trivial)) rfl ?_
        rintro _ _ ⟨_, ⟨o48_0g0, o48_0P0, o48_0G0, o48_0A0, rfl, rfl⟩, rfl⟩
        refine wl_nil ?_
        simp only [Option.some.injEq, Prod.mk.injEq] at h
        obtain ⟨rfl, rfl⟩ := h
        exact wx_join ⟨o48_0g0, o48_0P0, o48_0G0, o48_0A0, rfl, rfl⟩ (agree_cons rfl (agree_cons rfl agree_nil)) (pSub (pCons (Sel.sc (Sel.sa (Sel.sc (Sel.sa Sel.hc)))) (pCons (Sel.sc (Sel.sa Sel.hc)) (pCons Sel.hc (pApp (Sel.sa (Sel.sa Sel.ha)) (pApp (Sel.sa (Sel.sa Sel.ha)) (pApp (Sel.sa Sel.ha) (pApp Sel.ha pNil))))))))
      replace h := cf hc h
      refine wc_skip ?_
      simp only [Option.some.injEq, Prod.mk.injEq] at h
      obtain ⟨rfl, rfl⟩ := h
      exact wx_join ⟨p0_5g0, p0_5P0, p0_5G0, p0_5A0, rfl, rfl⟩ (agree_cons rfl (agree_cons rfl agree_nil)) (pSub (pCons (Sel.sc (Sel.sa Sel.hc)) (pCons Sel.hc (pCons (Sel.sa (Sel.sa (Sel.sa Sel.hc))) (pApp (Sel.sa Sel.ha) (pApp (Sel.sa Sel.ha) (pApp Sel.ha (pApp Sel.ha pNil))))))))
    rintro _ _ ⟨j18_p0_5_f1g0, j18_p0_5_f1P0, j18_p0_5_f1G0, j18_p0_5_f1A0, rfl, rfl⟩
    have h := hj18; clear hj18
    refine wc_seq (wc_region ?_)
    iterate 2 refine wl_pure tt_ok rfl rfl ?_
    refine wl_nil (wx_then (wc_ret ?_))
    simp only [Option.some.injEq, Prod.mk.injEq] at h
    obtain ⟨rfl, rfl, rfl⟩ := h
    exact wx_spD tt_ok (.inl rfl) Tryd.results26 (Res.tmp rfl Res.nil) ⟨o30_0a0, o30_0n0, o30_0c0, o30_0B0, j18_p0_5_f1g0, j18_p0_5_f1P0, o30_0N0, o30_0V0, j18_p0_5_f1G0, j18_p0_5_f1A0, rfl, rfl⟩ (fun F => by simp) (pSub (pCons Sel.hc (pApp (Sel.sc (Sel.sc Sel.ha)) (pApp (Sel.sc (Sel.sc Sel.ha)) (pCons Sel.hc (pApp (Sel.sc Sel.ha) (pCons Sel.hc (pApp Sel.ha pNil))))))))
  replace h := cf hc h
  refine wl_skip rfl rfl ?_
  refine wl_skip rfl rfl ?_
  refine wl_skip rfl rfl ?_
  simp only [Option.some.injEq, Prod.mk.injEq] at h
  obtain rfl := h
  have h := hg42; clear hg42
  refine wl_pure (v := .bool false) tt_ok rfl rfl ?_
  refine wl_nil (wx_then ?_)
  replace h := bsome h; obtain ⟨⟨j18_p0_5_f0, j18_p0_5_f1⟩, h, hj18⟩ := h; try dsimp only at hj18
  refine wc_join2 (fun E L => ∃ (j18_p0_5_f1g0 : List (T_ring_place × G)) (j18_p0_5_f1P0 : List Blk), j18_p0_5_f1.1 = unG j18_p0_5_f1g0 ∧ AllP sh_T_ring_place c_T_api_Shot j18_p0_5_f1P0 j18_p0_5_f1g0 ∧ E = [(6, .int .i64 (0 : Int)), (9, .int .i64 v30)] ∧ L = (⟨p0b, [.int .u8 p0.player, .int .i64 p0.window, .int .u64 p0.sure.Frame, .int .u64 p0.sure.Seed, .int .i32 p0.sure.Players.1.X, .int .i32 p0.sure.Players.1.Y, .int .i32 p0.sure.Players.1.VX, .int .i32 p0.sure.Players.1.VY, .int .u8 p0.sure.Players.1.Health, .int .u8 p0.sure.Players.1.Cool, .int .u8 p0.sure.Players.1.Face, .int .i32 p0.sure.Players.2.X, .int .i32 p0.sure.Players.2.Y, .int .i32 p0.sure.Players.2.VX, .int .i32 p0.sure.Players.2.VY, .int .u8 p0.sure.Players.2.Health, .int .u8 p0.sure.Players.2.Cool, .int .u8 p0.sure.Players.2.Face, .slice p0a0 p0n0 p0c0, .int .u16 p0.sure.Score.1, .int .u16 p0.sure.Score.2, .slice p0a1 p0n1 p0c1, .pointer (some ⟨p0_4b, 0, none⟩), .pointer (some ⟨p0_5b, 0, none⟩)], p0t, (0, 0)⟩ :: (⟨p0_4b, [.int .u64 o30_0.first_, .slice o30_0a0 o30_0n0 o30_0c0, .int .u8 o30_0.last], p0_4t, (0, 0)⟩ :: (⟨p0_5b, ([.int .i64 j18_p0_5_f0] ++ flat cg_T_ring_place j18_p0_5_f1g0), p0_5t, (0, 0)⟩ :: (p0B0 ++ (p0B1 ++ (o30_0B0 ++ (j18_p0_5_f1P0 ++ [])))))))) ?_ ?_
  · replace h := cf rfl h
    refine wc_cond_false rfl ?_
    refine wc_skip ?_
    simp only [Option.some.injEq, Prod.mk.injEq] at h
    obtain ⟨rfl, rfl⟩ := h
    exact wx_join ⟨p0_5g0, p0_5P0, p0_5G0, p0_5A0, rfl, rfl⟩ (agree_cons rfl (agree_cons rfl agree_nil)) (pSub (pCons (Sel.sc (Sel.sa Sel.hc)) (pCons Sel.hc (pCons (Sel.sa (Sel.sa (Sel.sa Sel.hc))) (pApp (Sel.sa Sel.ha) (pApp (Sel.sa Sel.ha) (pApp Sel.ha (pApp Sel.ha pNil))))))))
  rintro _ _ ⟨j18_p0_5_f1g0, j18_p0_5_f1P0, j18_p0_5_f1G0, j18_p0_5_f1A0, rfl, rfl⟩
  have h := hj18; clear hj18
  refine wc_seq (wc_region ?_)
  iterate 2 refine wl_pure tt_ok rfl rfl ?_
  refine wl_nil (wx_then (wc_ret ?_))
  simp only [Option.some.injEq, Prod.mk.injEq] at h
  obtain ⟨rfl, rfl, rfl⟩ := h
  exact wx_spD tt_ok (.inl rfl) Tryd.results26 (Res.tmp rfl Res.nil) ⟨o30_0a0, o30_0n0, o30_0c0, o30_0B0, j18_p0_5_f1g0, j18_p0_5_f1P0, o30_0N0, o30_0V0, j18_p0_5_f1G0, j18_p0_5_f1A0, rfl, rfl⟩ (fun F => by simp) (pSub (pCons Sel.hc (pApp (Sel.sc (Sel.sc Sel.ha)) (pApp (Sel.sc (Sel.sc Sel.ha)) (pCons Sel.hc (pApp (Sel.sc Sel.ha) (pCons Sel.hc (pApp Sel.ha pNil))))))))

theorem k_rollback_Engine_pair {F : Nat} {p0 : T_rollback_Engine} {p0b p0t : Nat} {p0a0 : Option Addr} {p0n0 : Nat} {p0c0 : Nat} {p0B0 : List Blk} {p0a1 : Option Addr} {p0n1 : Nat} {p0c1 : Nat} {p0B1 : List Blk} {p0_4 : T_queue_Queue} {p0_4b p0_4t : Nat} {p0_4a0 : Option Addr} {p0_4n0 : Nat} {p0_4c0 : Nat} {p0_4B0 : List Blk} {p0_5 : T_ring_Ring} {p0_5b p0_5t : Nat} {p0_5g0 : List (T_ring_place × G)} {p0_5P0 : List Blk} {p1 : Int} {r0 : (Int × Int)} (p0N0 : p0n0 = p0.sure.Shots.length) (p0V0 : Own 92 6 p0a0 p0n0 p0c0 (flat c_T_api_Shot p0.sure.Shots) p0B0) (p0N1 : p0n1 = p0.own.length) (p0V1 : Own 34 1 p0a1 p0n1 p0c1 (flat (e1 .u8) p0.own) p0B1) (p0_4N0 : p0_4n0 = p0_4.l.length) (p0_4V0 : Own 34 1 p0_4a0 p0_4n0 p0_4c0 (flat (e1 .u8) p0_4.l) p0_4B0) (p0_5G0 : p0_5.places.1 = unG p0_5g0) (p0_5A0 : AllP sh_T_ring_place c_T_api_Shot p0_5P0 p0_5g0) (h : m_rollback_Engine_pair F p0 p0_4 p0_5 p1 = some r0) :
    Rd2 Tryd.prog 50 [.pointer (some ⟨p0b, 0, none⟩), .int .u64 p1] (⟨p0b, [.int .u8 p0.player, .int .i64 p0.window, .int .u64 p0.sure.Frame, .int .u64 p0.sure.Seed, .int .i32 p0.sure.Players.1.X, .int .i32 p0.sure.Players.1.Y, .int .i32 p0.sure.Players.1.VX, .int .i32 p0.sure.Players.1.VY, .int .u8 p0.sure.Players.1.Health, .int .u8 p0.sure.Players.1.Cool, .int .u8 p0.sure.Players.1.Face, .int .i32 p0.sure.Players.2.X, .int .i32 p0.sure.Players.2.Y, .int .i32 p0.sure.Players.2.VX, .int .i32 p0.sure.Players.2.VY, .int .u8 p0.sure.Players.2.Health, .int .u8 p0.sure.Players.2.Cool, .int .u8 p0.sure.Players.2.Face, .slice p0a0 p0n0 p0c0, .int .u16 p0.sure.Score.1, .int .u16 p0.sure.Score.2, .slice p0a1 p0n1 p0c1, .pointer (some ⟨p0_4b, 0, none⟩), .pointer (some ⟨p0_5b, 0, none⟩)], p0t, (0, 0)⟩ :: (p0B0 ++ (p0B1 ++ (⟨p0_4b, [.int .u64 p0_4.first_, .slice p0_4a0 p0_4n0 p0_4c0, .int .u8 p0_4.last], p0_4t, (0, 0)⟩ :: (p0_4B0 ++ (⟨p0_5b, ([.int .i64 p0_5.size] ++ flat cg_T_ring_place p0_5g0), p0_5t, (0, 0)⟩ :: (p0_5P0 ++ []))))))) (fun w => True) (.agg #[.int .u8 r0.1, .int .u8 r0.2]) := by
  unfold m_rollback_Engine_pair at h
  refine sp_of_wc Tryd.func50 rfl Tryd.ntmps50 rfl rfl (fun w0 hR => ?_)
  refine wc_seq (wc_region ?_)
  refine wl_alloc tt_ok rfl rfl (fun b4 => ?_)
  refine wl_nil (wx_then (wc_seq ?_))
  refine wc_k2 (Ls := (⟨b4, [.int .u8 (0 : Int), .int .u8 (0 : Int)], 36, (0, 0)⟩ :: (⟨p0b, [.int .u8 p0.player, .int .i64 p0.window, .int .u64 p0.sure.Frame, .int .u64 p0.sure.Seed, .int .i32 p0.sure.Players.1.X, .int .i32 p0.sure.Players.1.Y, .int .i32 p0.sure.Players.1.VX, .int .i32 p0.sure.Players.1.VY, .int .u8 p0.sure.Players.1.Health, .int .u8 p0.sure.Players.1.Cool, .int .u8 p0.sure.Players.1.Face, .int .i32 p0.sure.Players.2.X, .int .i32 p0.sure.Players.2.Y, .int .i32 p0.sure.Players.2.VX, .int .i32 p0.sure.Players.2.VY, .int .u8 p0.sure.Players.2.Health, .int .u8 p0.sure.Players.2.Cool, .int .u8 p0.sure.Players.2.Face, .slice p0a0 p0n0 p0c0, .int .u16 p0.sure.Score.1, .int .u16 p0.sure.Score.2, .slice p0a1 p0n1 p0c1, .pointer (some ⟨p0_4b, 0, none⟩), .pointer (some ⟨p0_5b, 0, none⟩)], p0t, (0, 0)⟩ :: (p0B0 ++ (p0B1 ++ (⟨p0_4b, [.int .u64 p0_4.first_, .slice p0_4a0 p0_4n0 p0_4c0, .int .u8 p0_4.last], p0_4t, (0, 0)⟩ :: (p0_4B0 ++ (⟨p0_5b, ([.int .i64 p0_5.size] ++ flat cg_T_ring_place p0_5g0), p0_5t, (0, 0)⟩ :: (p0_5P0 ++ []))))))))) [18] [18] [0, 1, 3, 7, 0, 16, 48, 112, 0, 0, 512, 1536, 3584, 7680, 16128, 32752, 65520, 131071, 262143] [0, 1, 2, 3, 4, 5, 6, 7, 8, 9, 10, 11, 12, 13, 14, 15, 16, 17, 18] (by kernel_rfl) (by kernel_rfl) (by kernel_rfl) ?_
  refine k_val rfl rfl rfl (pSub (pCons Sel.hc (pCons Sel.hc (pApp Sel.ha (pApp Sel.ha (pCons Sel.hc (pApp Sel.ha (pCons Sel.hc (pApp Sel.ha pNil))))))))) (stepV_ok tt_ok rfl) rfl ?_
  refine k_val rfl rfl rfl (pSub (pCons Sel.hc (pCons Sel.hc (pApp Sel.ha (pApp Sel.ha (pCons Sel.hc (pApp Sel.ha (pCons Sel.hc (pApp Sel.ha pNil))))))))) (stepV_ok tt_ok rfl) rfl ?_
  refine k_val (v := .pointer (some ⟨p0b, 0, none⟩)) rfl rfl rfl (pSub (pCons Sel.hc (pCons Sel.hc (pApp Sel.ha (pApp Sel.ha (pCons Sel.hc (pApp Sel.ha (pCons Sel.hc (pApp Sel.ha pNil))))))))) (stepV_ok tt_ok rfl) rfl ?_
  refine k_val (v := .int .u8 p0.player) rfl rfl rfl (pSub (pCons Sel.hc (pCons Sel.hc (pApp Sel.ha (pApp Sel.ha (pCons Sel.hc (pApp Sel.ha (pCons Sel.hc (pApp Sel.ha pNil))))))))) (val_load tt_ok rfl (List.Mem.tail _ (List.Mem.head _)) rfl) rfl ?_
  refine k_val rfl rfl rfl (pSub (pCons Sel.hc (pCons Sel.hc (pApp Sel.ha (pApp Sel.ha (pCons Sel.hc (pApp Sel.ha (pCons Sel.hc (pApp Sel.ha pNil))))))))) (stepV_ok tt_ok rfl) rfl ?_
  refine k_val rfl rfl rfl (pSub (pCons Sel.hc (pCons Sel.hc (pApp Sel.ha (pApp Sel.ha (pCons Sel.hc (pApp Sel.ha (pCons Sel.hc (pApp Sel.ha pNil))))))))) (stepV_ok tt_ok rfl) rfl ?_
  refine k_val (v := .pointer (some ⟨p0b, 21, none⟩)) rfl rfl rfl (pSub (pCons Sel.hc (pCons Sel.hc (pApp Sel.ha (pApp Sel.ha (pCons Sel.hc (pApp Sel.ha (pCons Sel.hc (pApp Sel.ha pNil))))))))) (stepV_ok tt_ok rfl) rfl ?_
  refine k_val (v := .slice p0a1 p0n1 p0c1) rfl rfl rfl (pSub (pCons Sel.hc (pCons Sel.hc (pApp Sel.ha (pApp Sel.ha (pCons Sel.hc (pApp Sel.ha (pCons Sel.hc (pApp Sel.ha pNil))))))))) (val_load tt_ok rfl (List.Mem.tail _ (List.Mem.head _)) rfl) rfl ?_
  refine k_val rfl rfl rfl (pSub (pCons Sel.hc (pCons Sel.hc (pApp Sel.ha (pApp Sel.ha (pCons Sel.hc (pApp Sel.ha (pCons Sel.hc (pApp Sel.ha pNil))))))))) (stepV_ok tt_ok rfl) rfl ?_
  refine k_val rfl rfl rfl (pSub (pCons Sel.hc (pCons Sel.hc (pApp Sel.ha (pApp Sel.ha (pCons Sel.hc (pApp Sel.ha (pCons Sel.hc (pApp Sel.ha pNil))))))))) (stepV_ok tt_ok rfl) rfl ?_
  refine k_val rfl rfl rfl (pSub (pCons Sel.hc (pCons Sel.hc (pApp Sel.ha (pApp Sel.ha (pCons Sel.hc (pApp Sel.ha (pCons Sel.hc (pApp Sel.ha pNil))))))))) (stepV_ok tt_ok rfl) rfl ?_
  refine k_val (v := .pointer (some ⟨p0b, 2, none⟩)) rfl rfl rfl (pSub (pCons Sel.hc (pCons Sel.hc (pApp Sel.ha (pApp Sel.ha (pCons Sel.hc (pApp Sel.ha (pCons Sel.hc (pApp Sel.ha pNil))))))))) (stepV_ok tt_ok rfl) rfl ?_
  refine k_val (v := .pointer (some ⟨p0b, 2, none⟩)) rfl rfl rfl (pSub (pCons Sel.hc (pCons Sel.hc (pApp Sel.ha (pApp Sel.ha (pCons Sel.hc (pApp Sel.ha (pCons Sel.hc (pApp Sel.ha pNil))))))))) (stepV_ok tt_ok rfl) rfl ?_
  refine k_val (v := .int .u64 p0.sure.Frame) rfl rfl rfl (pSub (pCons Sel.hc (pCons Sel.hc (pApp Sel.ha (pApp Sel.ha (pCons Sel.hc (pApp Sel.ha (pCons Sel.hc (pApp Sel.ha pNil))))))))) (val_load tt_ok rfl (List.Mem.tail _ (List.Mem.head _)) rfl) rfl ?_
  refine k_val (v := .int .u64 (IntKind.wrap .u64 (p1 - p0.sure.Frame))) rfl rfl rfl (pSub (pCons Sel.hc (pCons Sel.hc (pApp Sel.ha (pApp Sel.ha (pCons Sel.hc (pApp Sel.ha (pCons Sel.hc (pApp Sel.ha pNil))))))))) (stepV_ok tt_ok rfl) rfl ?_
  replace h := bsome h; obtain ⟨v20, x20, h⟩ := h
  refine k_val (v := .pointer (some ((adOf p0a1).add ((IntKind.wrap .u64 (p1 - p0.sure.Frame)).toNat * 1 + 0)))) rfl rfl rfl (pSub (pCons Sel.hc (pCons Sel.hc (pApp Sel.ha (pApp Sel.ha (pCons Sel.hc (pApp Sel.ha (pCons Sel.hc (pApp Sel.ha pNil))))))))) (val_ix (enc := (e1 .u8)) tt_ok rfl rfl rfl rfl p0N1 (Rds.of_vec p0V1) (e1_len _) rfl x20) rfl ?_
  refine k_val (v := .int .u8 v20) rfl rfl rfl (pSub (pCons Sel.hc (pCons Sel.hc (pApp Sel.ha (pApp Sel.ha (pCons Sel.hc (pApp Sel.ha (pCons Sel.hc (pApp Sel.ha pNil))))))))) (val_le (enc := (e1 .u8)) (xs := p0.own) tt_ok rfl (Rds.of_vec p0V1) ⟨_, (Sel.sc (Sel.sc (Sel.sa Sel.ha)))⟩ (e1_len _) x20 rfl) rfl ?_
  rcases Bool.eq_false_or_eq_true (p0.player == (0 : Int)) with hx220 | hx220
  · replace h := ct hx220 h
    refine k_val (v := .pointer (some ⟨b4, 0, none⟩)) rfl rfl rfl (pSub (pCons Sel.hc (pCons Sel.hc (pApp Sel.ha (pApp Sel.ha (pCons Sel.hc (pApp Sel.ha (pCons Sel.hc (pApp Sel.ha pNil))))))))) (val_ia (j := 0) tt_ok rfl rfl rfl rfl (by simpa using hx220) rfl rfl) rfl ?_
    refine k_chg0 rfl rfl rfl (chg_store tt_ok rfl Upd.here rfl rfl rfl rfl rfl rfl) (.inl rfl) ?_
    rintro _ _ rfl
    refine k_end (by kernel_rfl) ?_
    refine wx_then (wc_seq ?_)
    refine wc_k2 (Ls := (⟨b4, [.int .u8 v20, .int .u8 (0 : Int)], 36, (0, 0)⟩ :: (⟨p0b, [.int .u8 p0.player, .int .i64 p0.window, .int .u64 p0.sure.Frame, .int .u64 p0.sure.Seed, .int .i32 p0.sure.Players.1.X, .int .i32 p0.sure.Players.1.Y, .int .i32 p0.sure.Players.1.VX, .int .i32 p0.sure.Players.1.VY, .int .u8 p0.sure.Players.1.Health, .int .u8 p0.sure.Players.1.Cool, .int .u8 p0.sure.Players.1.Face, .int .i32 p0.sure.Players.2.X, .int .i32 p0.sure.Players.2.Y, .int .i32 p0.sure.Players.2.VX, .int .i32 p0.sure.Players.2.VY, .int .u8 p0.sure.Players.2.Health, .int .u8 p0.sure.Players.2.Cool, .int .u8 p0.sure.Players.2.Face, .slice p0a0 p0n0 p0c0, .int .u16 p0.sure.Score.1, .int .u16 p0.sure.Score.2, .slice p0a1 p0n1 p0c1, .pointer (some ⟨p0_4b, 0, none⟩), .pointer (some ⟨p0_5b, 0, none⟩)], p0t, (0, 0)⟩ :: (p0B0 ++ (p0B1 ++ (⟨p0_4b, [.int .u64 p0_4.first_, .slice p0_4a0 p0_4n0 p0_4c0, .int .u8 p0_4.last], p0_4t, (0, 0)⟩ :: (p0_4B0 ++ (⟨p0_5b, ([.int .i64 p0_5.size] ++ flat cg_T_ring_place p0_5g0), p0_5t, (0, 0)⟩ :: (p0_5P0 ++ []))))))))) [10, 11, 12] [11, 12] [0, 1, 3, 7, 15, 0, 32, 96, 224, 0, 992, 2047, 4095] [0, 1, 2, 3, 4, 5, 6, 7, 8, 9, 10, 11, 12] (by kernel_rfl) (by kernel_rfl) (by kernel_rfl) ?_
    refine k_val rfl rfl rfl (pSub (pCons Sel.hc (pCons Sel.hc (pApp Sel.ha (pApp Sel.ha (pCons Sel.hc (pApp Sel.ha (pCons Sel.hc (pApp Sel.ha pNil))))))))) (stepV_ok tt_ok rfl) rfl ?_
    refine k_val rfl rfl rfl (pSub (pCons Sel.hc (pCons Sel.hc (pApp Sel.ha (pApp Sel.ha (pCons Sel.hc (pApp Sel.ha (pCons Sel.hc (pApp Sel.ha pNil))))))))) (stepV_ok tt_ok rfl) rfl ?_
    refine k_val (v := .pointer (some ⟨p0b, 0, none⟩)) rfl rfl rfl (pSub (pCons Sel.hc (pCons Sel.hc (pApp Sel.ha (pApp Sel.ha (pCons Sel.hc (pApp Sel.ha (pCons Sel.hc (pApp Sel.ha pNil))))))))) (stepV_ok tt_ok rfl) rfl ?_
    refine k_val (v := .int .u8 p0.player) rfl rfl rfl (pSub (pCons Sel.hc (pCons Sel.hc (pApp Sel.ha (pApp Sel.ha (pCons Sel.hc (pApp Sel.ha (pCons Sel.hc (pApp Sel.ha pNil))))))))) (val_load tt_ok rfl (List.Mem.tail _ (List.Mem.head _)) rfl) rfl ?_
    refine k_val (v := .int .u8 (IntKind.wrap .u8 ((1 : Int) - p0.player))) rfl rfl rfl (pSub (pCons Sel.hc (pCons Sel.hc (pApp Sel.ha (pApp Sel.ha (pCons Sel.hc (pApp Sel.ha (pCons Sel.hc (pApp Sel.ha pNil))))))))) (stepV_ok tt_ok rfl) rfl ?_
    refine k_val rfl rfl rfl (pSub (pCons Sel.hc (pCons Sel.hc (pApp Sel.ha (pApp Sel.ha (pCons Sel.hc (pApp Sel.ha (pCons Sel.hc (pApp Sel.ha pNil))))))))) (stepV_ok tt_ok rfl) rfl ?_
    refine k_val rfl rfl rfl (pSub (pCons Sel.hc (pCons Sel.hc (pApp Sel.ha (pApp Sel.ha (pCons Sel.hc (pApp Sel.ha (pCons Sel.hc (pApp Sel.ha pNil))))))))) (stepV_ok tt_ok rfl) rfl ?_
    refine k_val (v := .pointer (some ⟨p0b, 22, none⟩)) rfl rfl rfl (pSub (pCons Sel.hc (pCons Sel.hc (pApp Sel.ha (pApp Sel.ha (pCons Sel.hc (pApp Sel.ha (pCons Sel.hc (pApp Sel.ha pNil))))))))) (stepV_ok tt_ok rfl) rfl ?_
    refine k_val (v := .pointer (some ⟨p0_4b, 0, none⟩)) rfl rfl rfl (pSub (pCons Sel.hc (pCons Sel.hc (pApp Sel.ha (pApp Sel.ha (pCons Sel.hc (pApp Sel.ha (pCons Sel.hc (pApp Sel.ha pNil))))))))) (val_load tt_ok rfl (List.Mem.tail _ (List.Mem.head _)) rfl) rfl ?_
    refine k_val rfl rfl rfl (pSub (pCons Sel.hc (pCons Sel.hc (pApp Sel.ha (pApp Sel.ha (pCons Sel.hc (pApp Sel.ha (pCons Sel.hc (pApp Sel.ha pNil))))))))) (stepV_ok tt_ok rfl) rfl ?_
    replace h := bsome h; obtain ⟨v33, x33, h⟩ := h
    refine k_cq rfl rfl rfl Tryd.call47 rfl rfl rfl (q_rd (k_queue_Queue_Guess (p0 := p0_4) p0_4N0 p0_4V0 x33) (pCons (Sel.sc (Sel.sc (Sel.sa (Sel.sa Sel.hc)))) (pApp (Sel.sc (Sel.sc (Sel.sa (Sel.sa Sel.ha)))) pNil)) (fun _ _ => trivial)) rfl (pSub (pCons Sel.hc (pCons Sel.hc (pApp Sel.ha (pApp Sel.ha (pCons Sel.hc (pApp Sel.ha (pCons Sel.hc (pApp Sel.ha pNil))))))))) ?_
    rcases Bool.eq_false_or_eq_true ((IntKind.wrap .u8 ((1 : Int) - p0.player)) == (0 : Int)) with hx340 | hx340
    · replace h := ct hx340 h
      refine k_chg rfl rfl rfl (Chg.of_val (v := .pointer (some ⟨b4, 0, none⟩)) (val_ia (j := 0) tt_ok rfl rfl rfl rfl (by simpa using hx340) rfl rfl)) rfl (.inl rfl) ?_
      rintro _ _ ⟨rfl, rfl⟩
      refine k_chg0 rfl rfl rfl (chg_store tt_ok rfl Upd.here rfl rfl rfl rfl rfl rfl) (.inl rfl) ?_
      rintro _ _ rfl
      refine k_end (by kernel_rfl) ?_
      refine wx_then (wc_seq (wc_region ?_))
      refine wl_val (v := .agg #[.int .u8 v33, .int .u8 (0 : Int)]) (val_load tt_ok rfl (List.Mem.head _) rfl) rfl ?_
      apply wl_store tt_ok; rfl; exact Upd.here; rfl; rfl; rfl; rfl; rfl; rfl
      refine wl_nil (wx_then (wc_ret ?_))
      simp only [Option.some.injEq] at h
      obtain rfl := h
      exact wx_rd tt_ok (.inl rfl) Tryd.results50 (Res.cell rfl (List.Mem.head _) rfl Res.nil) (pSub (pCons (Sel.sc Sel.hc) (pApp (Sel.sc Sel.ha) (pApp (Sel.sc Sel.ha) (pCons (Sel.sc Sel.hc) (pApp (Sel.sc Sel.ha) (pCons (Sel.sc Sel.hc) (pApp (Sel.sc Sel.ha) pNil)))))))) rfl
    replace h := cf hx340 h
    rcases Bool.eq_false_or_eq_true ((IntKind.wrap .u8 ((1 : Int) - p0.player)) == (1 : Int)) with hx341 | hx341
    · replace h := ct hx341 h
      refine k_chg rfl rfl rfl (Chg.of_val (v := .pointer (some ⟨b4, 1, none⟩)) (val_ia (j := 1) tt_ok rfl rfl rfl rfl (by simpa using hx341) rfl rfl)) rfl (.inl rfl) ?_
      rintro _ _ ⟨rfl, rfl⟩
      refine k_chg0 rfl rfl rfl (chg_store tt_ok rfl Upd.here rfl rfl rfl rfl rfl rfl) (.inl rfl) ?_
      rintro _ _ rfl
      refine k_end (by kernel_rfl) ?_
      refine wx_then (wc_seq (wc_region ?_))
      refine wl_val (v := .agg #[.int .u8 v20, .int .u8 v33]) (val_load tt_ok rfl (List.Mem.head _) rfl) rfl ?_
      apply wl_store tt_ok; rfl; exact Upd.here; rfl; rfl; rfl; rfl; rfl; rfl
      refine wl_nil (wx_then (wc_ret ?_))
      simp only [Option.some.injEq] at h
      obtain rfl := h
      exact wx_rd tt_ok (.inl rfl) Tryd.results50 (Res.cell rfl (List.Mem.head _) rfl Res.nil) (pSub (pCons (Sel.sc Sel.hc) (pApp (Sel.sc Sel.ha) (pApp (Sel.sc Sel.ha) (pCons (Sel.sc Sel.hc) (pApp (Sel.sc Sel.ha) (pCons (Sel.sc Sel.hc) (pApp (Sel.sc Sel.ha) pNil)))))))) rfl
    replace h := cf hx341 h
    cases h
  replace h := cf hx220 h
  rcases Bool.eq_false_or_eq_true (p0.player == (1 : Int)) with hx221 | hx221
  · replace h := ct hx221 h
    refine k_val (v := .pointer (some ⟨b4, 1, none⟩)) rfl rfl rfl (pSub (pCons Sel.hc (pCons Sel.hc (pApp Sel.ha (pApp Sel.ha (pCons Sel.hc (pApp Sel.ha (pCons Sel.hc (pApp Sel.ha pNil))))))))) (val_ia (j := 1) tt_ok rfl rfl rfl rfl (by simpa using hx221) rfl rfl) rfl ?_
    refine k_chg0 rfl rfl rfl (chg_store tt_ok rfl Upd.here rfl rfl rfl rfl rfl rfl) (.inl rfl) ?_
    rintro _ _ rfl
    refine k_end (by kernel_rfl) ?_
    refine wx_then (wc_seq ?_)
    refine wc_k2 (Ls := (⟨b4, [.int .u8 (0 : Int), .int .u8 v20], 36, (0, 0)⟩ :: (⟨p0b, [.int .u8 p0.player, .int .i64 p0.window, .int .u64 p0.sure.Frame, .int .u64 p0.sure.Seed, .int .i32 p0.sure.Players.1.X, .int .i32 p0.sure.Players.1.Y, .int .i32 p0.sure.Players.1.VX, .int .i32 p0.sure.Players.1.VY, .int .u8 p0.sure.Players.1.Health, .int .u8 p0.sure.Players.1.Cool, .int .u8 p0.sure.Players.1.Face, .int .i32 p0.sure.Players.2.X, .int .i32 p0.sure.Players.2.Y, .int .i32 p0.sure.Players.2.VX, .int .i32 p0.sure.Players.2.VY, .int .u8 p0.sure.Players.2.Health, .int .u8 p0.sure.Players.2.Cool, .int .u8 p0.sure.Players.2.Face, .slice p0a0 p0n0 p0c0, .int .u16 p0.sure.Score.1, .int .u16 p0.sure.Score.2, .slice p0a1 p0n1 p0c1, .pointer (some ⟨p0_4b, 0, none⟩), .pointer (some ⟨p0_5b, 0, none⟩)], p0t, (0, 0)⟩ :: (p0B0 ++ (p0B1 ++ (⟨p0_4b, [.int .u64 p0_4.first_, .slice p0_4a0 p0_4n0 p0_4c0, .int .u8 p0_4.last], p0_4t, (0, 0)⟩ :: (p0_4B0 ++ (⟨p0_5b, ([.int .i64 p0_5.size] ++ flat cg_T_ring_place p0_5g0), p0_5t, (0, 0)⟩ :: (p0_5P0 ++ []))))))))) [10, 11, 12] [11, 12] [0, 1, 3, 7, 15, 0, 32, 96, 224, 0, 992, 2047, 4095] [0, 1, 2, 3, 4, 5, 6, 7, 8, 9, 10, 11, 12] (by kernel_rfl) (by kernel_rfl) (by kernel_rfl) ?_
    refine k_val rfl rfl rfl (pSub (pCons Sel.hc (pCons Sel.hc (pApp Sel.ha (pApp Sel.ha (pCons Sel.hc (pApp Sel.ha (pCons Sel.hc (pApp Sel.ha pNil))))))))) (stepV_ok tt_ok rfl) rfl ?_
    refine k_val rfl rfl rfl (pSub (pCons Sel.hc (pCons Sel.hc (pApp Sel.ha (pApp Sel.ha (pCons Sel.hc (pApp Sel.ha (pCons Sel.hc (pApp Sel.ha pNil))))))))) (stepV_ok tt_ok rfl) rfl ?_
    refine k_val (v := .pointer (some ⟨p0b, 0, none⟩)) rfl rfl rfl (pSub (pCons Sel.hc (pCons Sel.hc (pApp Sel.ha (pApp Sel.ha (pCons Sel.hc (pApp Sel.ha (pCons Sel.hc (pApp Sel.ha pNil))))))))) (stepV_ok tt_ok rfl) rfl ?_
    refine k_val (v := .int .u8 p0.player) rfl rfl rfl (pSub (pCons Sel.hc (pCons Sel.hc (pApp Sel.ha (pApp Sel.ha (pCons Sel.hc (pApp Sel.ha (pCons Sel.hc (pApp Sel.ha pNil))))))))) (val_load tt_ok rfl (List.Mem.tail _ (List.Mem.head _)) rfl) rfl ?_
    refine k_val (v := .int .u8 (IntKind.wrap .u8 ((1 : Int) - p0.player))) rfl rfl rfl (pSub (pCons Sel.hc (pCons Sel.hc (pApp Sel.ha (pApp Sel.ha (pCons Sel.hc (pApp Sel.ha (pCons Sel.hc (pApp Sel.ha pNil))))))))) (stepV_ok tt_ok rfl) rfl ?_
    refine k_val rfl rfl rfl (pSub (pCons Sel.hc (pCons Sel.hc (pApp Sel.ha (pApp Sel.ha (pCons Sel.hc (pApp Sel.ha (pCons Sel.hc (pApp Sel.ha pNil))))))))) (stepV_ok tt_ok rfl) rfl ?_
    refine k_val rfl rfl rfl (pSub (pCons Sel.hc (pCons Sel.hc (pApp Sel.ha (pApp Sel.ha (pCons Sel.hc (pApp Sel.ha (pCons Sel.hc (pApp Sel.ha pNil))))))))) (stepV_ok tt_ok rfl) rfl ?_
    refine k_val (v := .pointer (some ⟨p0b, 22, none⟩)) rfl rfl rfl (pSub (pCons Sel.hc (pCons Sel.hc (pApp Sel.ha (pApp Sel.ha (pCons Sel.hc (pApp Sel.ha (pCons Sel.hc (pApp Sel.ha pNil))))))))) (stepV_ok tt_ok rfl) rfl ?_
    refine k_val (v := .pointer (some ⟨p0_4b, 0, none⟩)) rfl rfl rfl (pSub (pCons Sel.hc (pCons Sel.hc (pApp Sel.ha (pApp Sel.ha (pCons Sel.hc (pApp Sel.ha (pCons Sel.hc (pApp Sel.ha pNil))))))))) (val_load tt_ok rfl (List.Mem.tail _ (List.Mem.head _)) rfl) rfl ?_
    refine k_val rfl rfl rfl (pSub (pCons Sel.hc (pCons Sel.hc (pApp Sel.ha (pApp Sel.ha (pCons Sel.hc (pApp Sel.ha (pCons Sel.hc (pApp Sel.ha pNil))))))))) (stepV_ok tt_ok rfl) rfl ?_
    replace h := bsome h; obtain ⟨v33, x33, h⟩ := h
    refine k_cq rfl rfl rfl Tryd.call47 rfl rfl rfl (q_rd (k_queue_Queue_Guess (p0 := p0_4) p0_4N0 p0_4V0 x33) (pCons (Sel.sc (Sel.sc (Sel.sa (Sel.sa Sel.hc)))) (pApp (Sel.sc (Sel.sc (Sel.sa (Sel.sa Sel.ha)))) pNil)) (fun _ _ => trivial)) rfl (pSub (pCons Sel.hc (pCons Sel.hc (pApp Sel.ha (pApp Sel.ha (pCons Sel.hc (pApp Sel.ha (pCons Sel.hc (pApp Sel.ha pNil))))))))) ?_
    rcases Bool.eq_false_or_eq_true ((IntKind.wrap .u8 ((1 : Int) - p0.player)) == (0 : Int)) with hx340 | hx340
    · replace h := ct hx340 h
      refine k_chg rfl rfl rfl (Chg.of_val (v := .pointer (some ⟨b4, 0, none⟩)) (val_ia (j := 0) tt_ok rfl rfl rfl rfl (by simpa using hx340) rfl rfl)) rfl (.inl rfl) ?_
      rintro _ _ ⟨rfl, rfl⟩
      refine k_chg0 rfl rfl rfl (chg_store tt_ok rfl Upd.here rfl rfl rfl rfl rfl rfl) (.inl rfl) ?_
      rintro _ _ rfl
      refine k_end (by kernel_rfl) ?_
      refine wx_then (wc_seq (wc_region ?_))
      refine wl_val (v := .agg #[.int .u8 v33, .int .u8 v20]) (val_load tt_ok rfl (List.Mem.head _) rfl) rfl ?_
      apply wl_store tt_ok; rfl; exact Upd.here; rfl; rfl; rfl; rfl; rfl; rfl
      refine wl_nil (wx_then (wc_ret ?_))
      simp only [Option.some.injEq] at h
      obtain rfl := h
      exact wx_rd tt_ok (.inl rfl) Tryd.results50 (Res.cell rfl (List.Mem.head _) rfl Res.nil) (pSub (pCons (Sel.sc Sel.hc) (pApp (Sel.sc Sel.ha) (pApp (Sel.sc Sel.ha) (pCons (Sel.sc Sel.hc) (pApp (Sel.sc Sel.ha) (pCons (Sel.sc Sel.hc) (pApp (Sel.sc Sel.ha) pNil)))))))) rfl
    replace h := cf hx340 h
    rcases Bool.eq_false_or_eq_true ((IntKind.wrap .u8 ((1 : Int) - p0.player)) == (1 : Int)) with hx341 | hx341
    · replace h := ct hx341 h
      refine k_chg rfl rfl rfl (Chg.of_val (v := .pointer (some ⟨b4, 1, none⟩)) (val_ia (j := 1) tt_ok rfl rfl rfl rfl (by simpa using hx341) rfl rfl)) rfl (.inl rfl) ?_
      rintro _ _ ⟨rfl, rfl⟩
      refine k_chg0 rfl rfl rfl (chg_store tt_ok rfl Upd.here rfl rfl rfl rfl rfl rfl) (.inl rfl) ?_
      rintro _ _ rfl
      refine k_end (by kernel_rfl) ?_
      refine wx_then (wc_seq (wc_region ?_))
      refine wl_val (v := .agg #[.int .u8 (0 : Int), .int .u8 v33]) (val_load tt_ok rfl (List.Mem.head _) rfl) rfl ?_
      apply wl_store tt_ok; rfl; exact Upd.here; rfl; rfl; rfl; rfl; rfl; rfl
      refine wl_nil (wx_then (wc_ret ?_))
      simp only [Option.some.injEq] at h
      obtain rfl := h
      exact wx_rd tt_ok (.inl rfl) Tryd.results50 (Res.cell rfl (List.Mem.head _) rfl Res.nil) (pSub (pCons (Sel.sc Sel.hc) (pApp (Sel.sc Sel.ha) (pApp (Sel.sc Sel.ha) (pCons (Sel.sc Sel.hc) (pApp (Sel.sc Sel.ha) (pCons (Sel.sc Sel.hc) (pApp (Sel.sc Sel.ha) pNil)))))))) rfl
    replace h := cf hx341 h
    cases h
  replace h := cf hx221 h
  cases h

theorem k_rollback_Engine_Next {F : Nat} {p0 : T_rollback_Engine} {p0b p0t : Nat} {p0a0 : Option Addr} {p0n0 : Nat} {p0c0 : Nat} {p0B0 : List Blk} {p0a1 : Option Addr} {p0n1 : Nat} {p0c1 : Nat} {p0B1 : List Blk} {p0_4 : T_queue_Queue} {p0_4b p0_4t : Nat} {p0_4a0 : Option Addr} {p0_4n0 : Nat} {p0_4c0 : Nat} {p0_4B0 : List Blk} {p0_5 : T_ring_Ring} {p0_5b p0_5t : Nat} {p0_5g0 : List (T_ring_place × G)} {p0_5P0 : List Blk} {r0 : (Int × Int)} {r1 : Bool} (p0N0 : p0n0 = p0.sure.Shots.length) (p0V0 : Own 92 6 p0a0 p0n0 p0c0 (flat c_T_api_Shot p0.sure.Shots) p0B0) (p0N1 : p0n1 = p0.own.length) (p0V1 : Own 34 1 p0a1 p0n1 p0c1 (flat (e1 .u8) p0.own) p0B1) (p0_4N0 : p0_4n0 = p0_4.l.length) (p0_4V0 : Own 34 1 p0_4a0 p0_4n0 p0_4c0 (flat (e1 .u8) p0_4.l) p0_4B0) (p0_5G0 : p0_5.places.1 = unG p0_5g0) (p0_5A0 : AllP sh_T_ring_place c_T_api_Shot p0_5P0 p0_5g0) (h : m_rollback_Engine_Next F p0 p0_4 p0_5 = some (r0, r1)) :
    Rd2 Tryd.prog 35 [.pointer (some ⟨p0b, 0, none⟩)] (⟨p0b, [.int .u8 p0.player, .int .i64 p0.window, .int .u64 p0.sure.Frame, .int .u64 p0.sure.Seed, .int .i32 p0.sure.Players.1.X, .int .i32 p0.sure.Players.1.Y, .int .i32 p0.sure.Players.1.VX, .int .i32 p0.sure.Players.1.VY, .int .u8 p0.sure.Players.1.Health, .int .u8 p0.sure.Players.1.Cool, .int .u8 p0.sure.Players.1.Face, .int .i32 p0.sure.Players.2.X, .int .i32 p0.sure.Players.2.Y, .int .i32 p0.sure.Players.2.VX, .int .i32 p0.sure.Players.2.VY, .int .u8 p0.sure.Players.2.Health, .int .u8 p0.sure.Players.2.Cool, .int .u8 p0.sure.Players.2.Face, .slice p0a0 p0n0 p0c0, .int .u16 p0.sure.Score.1, .int .u16 p0.sure.Score.2, .slice p0a1 p0n1 p0c1, .pointer (some ⟨p0_4b, 0, none⟩), .pointer (some ⟨p0_5b, 0, none⟩)], p0t, (0, 0)⟩ :: (p0B0 ++ (p0B1 ++ (⟨p0_4b, [.int .u64 p0_4.first_, .slice p0_4a0 p0_4n0 p0_4c0, .int .u8 p0_4.last], p0_4t, (0, 0)⟩ :: (p0_4B0 ++ (⟨p0_5b, ([.int .i64 p0_5.size] ++ flat cg_T_ring_place p0_5g0), p0_5t, (0, 0)⟩ :: (p0_5P0 ++ []))))))) (fun w => True) (.tuple #[.agg #[.int .u8 r0.1, .int .u8 r0.2], .bool r1]) := by
  unfold m_rollback_Engine_Next at h
  refine sp_of_wc Tryd.func35 rfl Tryd.ntmps35 rfl rfl (fun w0 hR => ?_)
  refine wc_seq (wc_region ?_)
  refine wl_alloc tt_ok rfl rfl (fun b2 => ?_)
  refine wl_pure tt_ok rfl rfl ?_
  refine wl_nil (wx_then (wc_seq (wc_seq ?_)))
  refine wc_quiet (by kernel_rfl) (by kernel_rfl) ?_
  refine wq_pure tt_ok rfl rfl ?_
  replace h := bsome h; obtain ⟨v5, x5, h⟩ := h
  refine wq_cq Tryd.call29 rfl rfl rfl (q_rd (k_rollback_Engine_is (p0 := p0) (p0_4 := p0_4) (p0_5 := p0_5) p0N0 p0V0 p0N1 p0V1 p0_4N0 p0_4V0 p0_5G0 p0_5A0 x5) (pCons (Sel.sc Sel.hc) (pApp (Sel.sc Sel.ha) (pApp (Sel.sc Sel.ha) (pCons (Sel.sc Sel.hc) (pApp (Sel.sc Sel.ha) (pCons (Sel.sc Sel.hc) (pApp (Sel.sc Sel.ha) pNil))))))) (fun _ _ => trivial)) rfl ?_
  refine wq_pure (v := .bool (!v5)) tt_ok rfl rfl ?_
  refine wq_pure tt_ok rfl rfl ?_
  replace h := bsome h; obtain ⟨v14, h, hg14⟩ := h
  refine wq_split (t := 7) rfl (fun hc => ?_) (fun hc => ?_)
  · replace h := ct hc h
    refine wq_skip rfl rfl ?_
    refine wq_skip rfl rfl ?_
    refine wq_skip rfl rfl ?_
    refine wq_skip rfl rfl ?_
    refine wq_skip rfl rfl ?_
    refine wq_skip rfl rfl ?_
    simp only [Option.some.injEq, Prod.mk.injEq] at h
    obtain rfl := h
    have h := hg14; clear hg14
    refine wq_pure (v := .bool true) tt_ok rfl rfl ?_
    refine wq_pure tt_ok rfl rfl ?_
    replace h := bsome h; obtain ⟨v27, h, hg27⟩ := h
    replace h := ct rfl h
    refine wq_skip rfl rfl ?_
    refine wq_skip rfl rfl ?_
    refine wq_skip rfl rfl ?_
    refine wq_skip rfl rfl ?_
    refine wq_skip rfl rfl ?_
    refine wq_skip rfl rfl ?_
    refine wq_skip rfl rfl ?_
    refine wq_skip rfl rfl ?_
    refine wq_skip rfl rfl ?_
    refine wq_skip rfl rfl ?_
    refine wq_skip rfl rfl ?_
    simp only [Option.some.injEq, Prod.mk.injEq] at h
    obtain rfl := h
    have h := hg27; clear hg27
    refine wq_pure (v := .bool true) tt_ok rfl rfl ?_
    refine wq_nil ?_
    refine wx_then ?_
    replace h := ct rfl h
    refine wc_cond_true rfl ?_
    refine wc_seq (wc_region ?_)
    refine wl_pure (v := .agg #[.int .u8 (0 : Int), .int .u8 (0 : Int)]) tt_ok rfl rfl ?_
    apply wl_store tt_ok; rfl; exact Upd.here; rfl; rfl; rfl; rfl; rfl; rfl
    refine wl_pure tt_ok rfl rfl ?_
    refine wl_nil (wx_then (wc_ret (wx_then_ret ?_)))
    simp only [Option.some.injEq, Prod.mk.injEq] at h
    obtain ⟨rfl, rfl⟩ := h
    exact wx_rd tt_ok (.inl rfl) Tryd.results35 (Res.cell rfl (List.Mem.head _) rfl (Res.tmp rfl Res.nil)) (pSub (pCons (Sel.sc Sel.hc) (pApp (Sel.sc Sel.ha) (pApp (Sel.sc Sel.ha) (pCons (Sel.sc Sel.hc) (pApp (Sel.sc Sel.ha) (pCons (Sel.sc Sel.hc) (pApp (Sel.sc Sel.ha) pNil)))))))) rfl
  replace h := cf hc h
  refine wq_run rfl ?_
  refine wq_pure tt_ok rfl rfl ?_
  refine wq_run rfl ?_
  refine wq_pure tt_ok rfl rfl ?_
  refine wq_run rfl ?_
  refine wq_pure (v := .pointer (some ⟨p0b, 21, none⟩)) tt_ok rfl rfl ?_
  refine wq_run rfl ?_
  refine wq_val (v := .slice p0a1 p0n1 p0c1) (val_load tt_ok rfl (List.Mem.tail _ (List.Mem.head _)) rfl) rfl ?_
  refine wq_run rfl ?_
  refine wq_val (v := .int .i64 (p0.own.length : Int)) (val_len tt_ok rfl rfl p0N1) rfl ?_
  refine wq_run rfl ?_
  refine wq_pure (v := .bool ((p0.own.length : Int) == (0 : Int))) tt_ok rfl rfl ?_
  simp only [Option.some.injEq, Prod.mk.injEq] at h
  obtain rfl := h
  have h := hg14; clear hg14
  refine wq_pure (v := .bool ((p0.own.length : Int) == (0 : Int))) tt_ok rfl rfl ?_
  refine wq_pure tt_ok rfl rfl ?_
  replace h := bsome h; obtain ⟨v27, h, hg27⟩ := h
  refine wq_split (t := 15) rfl (fun hc => ?_) (fun hc => ?_)
  · replace h := ct hc h
    refine wq_skip rfl rfl ?_
    refine wq_skip rfl rfl ?_
    refine wq_skip rfl rfl ?_
    refine wq_skip rfl rfl ?_
    refine wq_skip rfl rfl ?_
    refine wq_skip rfl rfl ?_
    refine wq_skip rfl rfl ?_
    refine wq_skip rfl rfl ?_
    refine wq_skip rfl rfl ?_
    refine wq_skip rfl rfl ?_
    refine wq_skip rfl rfl ?_
    simp only [Option.some.injEq, Prod.mk.injEq] at h
    obtain rfl := h
    have h := hg27; clear hg27
    refine wq_pure (v := .bool true) tt_ok rfl rfl ?_
    refine wq_nil ?_
    refine wx_then ?_
    replace h := ct rfl h
    refine wc_cond_true rfl ?_
    refine wc_seq (wc_region ?_)
    refine wl_pure (v := .agg #[.int .u8 (0 : Int), .int .u8 (0 : Int)]) tt_ok rfl rfl ?_
    apply wl_store tt_ok; rfl; exact Upd.here; rfl; rfl; rfl; rfl; rfl; rfl
    refine wl_pure tt_ok rfl rfl ?_
    refine wl_nil (wx_then (wc_ret (wx_then_ret ?_)))
    simp only [Option.some.injEq, Prod.mk.injEq] at h
    obtain ⟨rfl, rfl⟩ := h
    exact wx_rd tt_ok (.inl rfl) Tryd.results35 (Res.cell rfl (List.Mem.head _) rfl (Res.tmp rfl Res.nil)) (pSub (pCons (Sel.sc Sel.hc) (pApp (Sel.sc Sel.ha) (pApp (Sel.sc Sel.ha) (pCons (Sel.sc Sel.hc) (pApp (Sel.sc Sel.ha) (pCons (Sel.sc Sel.hc) (pApp (Sel.sc Sel.ha) pNil)))))))) rfl
  replace h := cf hc h
  refine wq_run rfl ?_
  refine wq_pure tt_ok rfl rfl ?_
  refine wq_run rfl ?_
  refine wq_pure tt_ok rfl rfl ?_
  refine wq_run rfl ?_
  refine wq_pure (v := .pointer (some ⟨p0b, 22, none⟩)) tt_ok rfl rfl ?_
  refine wq_run rfl ?_
  refine wq_val (v := .pointer (some ⟨p0_4b, 0, none⟩)) (val_load tt_ok rfl (List.Mem.tail _ (List.Mem.head _)) rfl) rfl ?_
  replace h := bsome h; obtain ⟨v20, x20, h⟩ := h
  refine wq_run rfl ?_
  refine wq_cq Tryd.call40 rfl rfl rfl (q_rd (k_queue_Queue_Known (p0 := p0_4) p0_4N0 p0_4V0 x20) (pCons (Sel.sc (Sel.sc (Sel.sa (Sel.sa Sel.hc)))) (pApp (Sel.sc (Sel.sc (Sel.sa (Sel.sa Sel.ha)))) pNil)) (fun _ _ => trivial)) rfl ?_
  refine wq_run rfl ?_
  refine wq_pure tt_ok rfl rfl ?_
  refine wq_run rfl ?_
  refine wq_pure tt_ok rfl rfl ?_
  refine wq_run rfl ?_
  refine wq_pure (v := .pointer (some ⟨p0b, 2, none⟩)) tt_ok rfl rfl ?_
  refine wq_run rfl ?_
  refine wq_pure (v := .pointer (some ⟨p0b, 2, none⟩)) tt_ok rfl rfl ?_
  refine wq_run rfl ?_
  refine wq_val (v := .int .u64 p0.sure.Frame) (val_load tt_ok rfl (List.Mem.tail _ (List.Mem.head _)) rfl) rfl ?_
  refine wq_run rfl ?_
  refine wq_pure (v := .bool (decide (v20 ≤ p0.sure.Frame))) tt_ok rfl rfl ?_
  simp only [Option.some.injEq, Prod.mk.injEq] at h
  obtain rfl := h
  have h := hg27; clear hg27
  refine wq_pure (v := .bool (decide (v20 ≤ p0.sure.Frame))) tt_ok rfl rfl ?_
  refine wq_nil ?_
  refine wx_then ?_
  refine wc_cond rfl (fun hc => ?_) (fun hc => ?_)
  · replace h := ct hc h
    refine wc_seq (wc_region ?_)
    refine wl_pure (v := .agg #[.int .u8 (0 : Int), .int .u8 (0 : Int)]) tt_ok rfl rfl ?_
    apply wl_store tt_ok; rfl; exact Upd.here; rfl; rfl; rfl; rfl; rfl; rfl
    refine wl_pure tt_ok rfl rfl ?_
    refine wl_nil (wx_then (wc_ret (wx_then_ret ?_)))
    simp only [Option.some.injEq, Prod.mk.injEq] at h
    obtain ⟨rfl, rfl⟩ := h
    exact wx_rd tt_ok (.inl rfl) Tryd.results35 (Res.cell rfl (List.Mem.head _) rfl (Res.tmp rfl Res.nil)) (pSub (pCons (Sel.sc Sel.hc) (pApp (Sel.sc Sel.ha) (pApp (Sel.sc Sel.ha) (pCons (Sel.sc Sel.hc) (pApp (Sel.sc Sel.ha) (pCons (Sel.sc Sel.hc) (pApp (Sel.sc Sel.ha) pNil)))))))) rfl
  replace h := cf hc h
  refine wc_skip (wx_then (wc_seq (wc_region ?_)))
  iterate 3 refine wl_pure tt_ok rfl rfl ?_
  refine wl_pure (v := .pointer (some ⟨p0b, 2, none⟩)) tt_ok rfl rfl ?_
  refine wl_pure (v := .pointer (some ⟨p0b, 2, none⟩)) tt_ok rfl rfl ?_
  refine wl_val (v := .int .u64 p0.sure.Frame) (val_load tt_ok rfl (List.Mem.tail _ (List.Mem.head _)) rfl) rfl ?_
  replace h := bsome h; obtain ⟨v35, x35, h⟩ := h
  refine wl_cq Tryd.call50 rfl rfl rfl (q_rd (k_rollback_Engine_pair (p0 := p0) (p0_4 := p0_4) (p0_5 := p0_5) p0N0 p0V0 p0N1 p0V1 p0_4N0 p0_4V0 p0_5G0 p0_5A0 x35) (pCons (Sel.sc Sel.hc) (pApp (Sel.sc Sel.ha) (pApp (Sel.sc Sel.ha) (pCons (Sel.sc Sel.hc) (pApp (Sel.sc Sel.ha) (pCons (Sel.sc Sel.hc) (pApp (Sel.sc Sel.ha) pNil))))))) (fun _ _ => trivial)) rfl ?_
  apply wl_store tt_ok; rfl; exact Upd.here; rfl; rfl; rfl; rfl; rfl; rfl
  refine wl_pure tt_ok rfl rfl ?_
  refine wl_nil (wx_then (wc_ret ?_))
  simp only [Option.some.injEq, Prod.mk.injEq] at h
  obtain ⟨rfl, rfl⟩ := h
  exact wx_rd tt_ok (.inl rfl) Tryd.results35 (Res.cell rfl (List.Mem.head _) rfl (Res.tmp rfl Res.nil)) (pSub (pCons (Sel.sc Sel.hc) (pApp (Sel.sc Sel.ha) (pApp (Sel.sc Sel.ha) (pCons (Sel.sc Sel.hc) (pApp (Sel.sc Sel.ha) (pCons (Sel.sc Sel.hc) (pApp (Sel.sc Sel.ha) pNil)))))))) rfl

theorem k_slices_Clone___api_Input_api_Input {F : Nat} {p0 : (List Int)} {p0a0 : Option Addr} {p0n0 p0c0 : Nat} {r0 : (List Int)} (p0N0 : p0n0 = p0.length) (p0H0 : p0n0 ≤ p0c0) (h : m_slices_Clone___api_Input_api_Input F p0 = some r0) :
    SpD Tryd.prog 37 [.slice p0a0 p0n0 p0c0] [] (fun w => Rds w (ids []) [] p0a0 (flat (e1 .u8) p0)) (fun v D => ∃ (r0a0 : Option Addr) (r0n0 : Nat) (r0c0 : Nat) (r0B0 : List Blk), r0n0 = r0.length ∧ Own 34 1 r0a0 r0n0 r0c0 (flat (e1 .u8) r0) r0B0 ∧ v = .slice r0a0 r0n0 r0c0 ∧ D = fun F => (r0B0 ++ F)) := by
  unfold m_slices_Clone___api_Input_api_Input at h
  refine sp_of_wc Tryd.func37 rfl Tryd.ntmps37 rfl rfl (fun w0 hR => ?_)
  have p0S0 := hR
  refine wc_seq (wc_region ?_)
  refine wl_pure tt_ok rfl rfl ?_
  refine wl_nil (wx_then (wc_seq (wc_seq (wc_region ?_))))
  refine wl_pure tt_ok rfl rfl ?_
  rcases p0a0 with _ | dp0a0
  · obtain rfl : p0 = [] := rds_none p0S0 (e1_len _) (by decide)
    refine wl_pure (v := .bool true) tt_ok rfl rfl ?_
    refine wl_nil (wx_then ?_)
    refine wc_cond_true rfl ?_
    refine wc_seq (wc_region ?_)
    refine wl_pure tt_ok rfl rfl ?_
    refine wl_nil (wx_then (wc_ret (wx_then_ret ?_)))
    simp [appI] at h
    obtain rfl := h
    exact wx_spD tt_ok (.inl rfl) Tryd.results37 (Res.tmp rfl Res.nil) ⟨none, 0, 0, [], rfl, Own.zero, rfl, rfl⟩ (fun F => by simp) (pSub (pNo pNil))
  refine wl_pure (v := .bool false) tt_ok rfl rfl ?_
  refine wl_nil (wx_then ?_)
  refine wc_cond_false rfl ?_
  refine wc_skip (wx_then (wc_seq (wc_region ?_)))
  refine wl_chg (chg_bsv (enc := (e1 .u8)) (xs := ([] : List Int)) tt_ok rfl rfl rfl rfl rfl rfl rfl rfl (e1_len _)) rfl ?_
  rintro _ _ ⟨a5, n5_, c5, B5, rfl, N5, V5, rfl⟩
  refine wl_pure tt_ok rfl rfl ?_
  replace h := bsome h; obtain ⟨v7, x7, h⟩ := h
  refine wl_chg (chg_app (enc := (e1 .u8)) (ys := p0) tt_ok rfl rfl rfl rfl rfl rfl N5 p0N0 V5 Sel.ha p0S0 rsub_nil (e1_len _) (fun _ => rfl) rfl x7) rfl ?_
  rintro _ _ ⟨a7, n7_, c7, B7, rfl, N7, V7, rfl⟩
  refine wl_pure tt_ok rfl rfl ?_
  refine wl_nil (wx_then (wc_ret ?_))
  simp only [Option.some.injEq] at h
  obtain rfl := h
  exact wx_spD tt_ok (.inl rfl) Tryd.results37 (Res.tmp rfl Res.nil) ⟨a7, n7_, c7, B7, N7, V7, rfl, rfl⟩ (fun F => by simp) (pSub (pApp Sel.ha pNil))

theorem k_queue_Queue_Drop {F : Nat} {p0 : T_queue_Queue} {p0b p0t : Nat} {p0a0 : Option Addr} {p0n0 : Nat} {p0c0 : Nat} {p0B0 : List Blk} {p1 : Int} {r0 : T_queue_Queue} (p0N0 : p0n0 = p0.l.length) (p0V0 : Own 34 1 p0a0 p0n0 p0c0 (flat (e1 .u8) p0.l) p0B0) (h : m_queue_Queue_Drop F p0 p1 = some r0) :
    SpD Tryd.prog 38 [.pointer (some ⟨p0b, 0, none⟩), .int .u64 p1] (⟨p0b, [.int .u64 p0.first_, .slice p0a0 p0n0 p0c0, .int .u8 p0.last], p0t, (0, 0)⟩ :: (p0B0 ++ [])) (fun w => True) (fun v D => ∃ (r0a0 : Option Addr) (r0n0 : Nat) (r0c0 : Nat) (r0B0 : List Blk), r0n0 = r0.l.length ∧ Own 34 1 r0a0 r0n0 r0c0 (flat (e1 .u8) r0.l) r0B0 ∧ v = .tuple #[] ∧ D = fun F => (⟨p0b, [.int .u64 r0.first_, .slice r0a0 r0n0 r0c0, .int .u8 r0.last], p0t, (0, 0)⟩ :: (r0B0 ++ F))) := by
  unfold m_queue_Queue_Drop at h
  refine sp_of_wc Tryd.func38 rfl Tryd.ntmps38 rfl rfl (fun w0 hR => ?_)
  refine wc_seq (wc_seq (wc_region ?_))
  refine wl_pure tt_ok rfl rfl ?_
  refine wl_pure (v := .bool false) tt_ok rfl rfl ?_
  refine wl_pure tt_ok rfl rfl ?_
  refine wl_run rfl ?_
  refine wl_pure tt_ok rfl rfl ?_
  refine wl_run rfl ?_
  refine wl_pure tt_ok rfl rfl ?_
  refine wl_run rfl ?_
  refine wl_pure tt_ok rfl rfl ?_
  refine wl_run rfl ?_
  refine wl_pure (v := .pointer (some ⟨p0b, 0, none⟩)) tt_ok rfl rfl ?_
  refine wl_run rfl ?_
  refine wl_val (v := .int .u64 p0.first_) (val_load tt_ok rfl (List.Mem.head _) rfl) rfl ?_
  refine wl_run rfl ?_
  refine wl_pure (v := .bool (decide (p1 ≤ p0.first_))) tt_ok rfl rfl ?_
  refine wl_pure (v := .bool (decide (p1 ≤ p0.first_))) tt_ok rfl rfl ?_
  refine wl_nil (wx_then ?_)
  refine wc_cond rfl (fun hc => ?_) (fun hc => ?_)
  · replace h := ct hc h
    refine wc_ret (wx_then_ret ?_)
    simp only [Option.some.injEq] at h
    obtain rfl := h
    exact wx_spD tt_ok (.inl rfl) Tryd.results38 Res.nil ⟨p0a0, p0n0, p0c0, p0B0, p0N0, p0V0, rfl, rfl⟩ (fun F => by simp) (pSub (pCons Sel.hc (pApp Sel.ha pNil)))
  replace h := cf hc h
  refine wc_skip (wx_then (wc_seq (wc_region ?_)))
  iterate 2 refine wl_pure tt_ok rfl rfl ?_
  replace h := bsome h; obtain ⟨v17, x17, h⟩ := h
  refine wl_cq Tryd.call40 rfl rfl rfl (q_rd (k_queue_Queue_Known (p0 := p0) p0N0 p0V0 x17) (pCons Sel.hc (pApp Sel.ha pNil)) (fun _ _ => trivial)) rfl ?_
  refine wl_pure (v := .int .u64 (min p1 v17)) tt_ok rfl rfl ?_
  refine wl_pure tt_ok rfl rfl ?_
  refine wl_nil (wx_then (wc_seq ?_))
  refine wc_k2 (Ls := (⟨p0b, [.int .u64 p0.first_, .slice p0a0 p0n0 p0c0, .int .u8 p0.last], p0t, (0, 0)⟩ :: (p0B0 ++ []))) [15, 16] [15, 16] [0, 1, 3, 7, 0, 16, 48, 112, 0, 0, 512, 1536, 3584, 7936, 16368, 32767, 65535] [0, 1, 2, 3, 4, 5, 6, 7, 8, 9, 10, 11, 12, 13, 14, 15, 16] (by kernel_rfl) (by kernel_rfl) (by kernel_rfl) ?_
  refine k_val rfl rfl rfl (pSub (pCons Sel.hc (pApp Sel.ha pNil))) (stepV_ok tt_ok rfl) rfl ?_
  refine k_val rfl rfl rfl (pSub (pCons Sel.hc (pApp Sel.ha pNil))) (stepV_ok tt_ok rfl) rfl ?_
  refine k_val (v := .pointer (some ⟨p0b, 1, none⟩)) rfl rfl rfl (pSub (pCons Sel.hc (pApp Sel.ha pNil))) (stepV_ok tt_ok rfl) rfl ?_
  refine k_val (v := .slice p0a0 p0n0 p0c0) rfl rfl rfl (pSub (pCons Sel.hc (pApp Sel.ha pNil))) (val_load tt_ok rfl (List.Mem.head _) rfl) rfl ?_
  refine k_val rfl rfl rfl (pSub (pCons Sel.hc (pApp Sel.ha pNil))) (stepV_ok tt_ok rfl) rfl ?_
  refine k_val rfl rfl rfl (pSub (pCons Sel.hc (pApp Sel.ha pNil))) (stepV_ok tt_ok rfl) rfl ?_
  refine k_val (v := .pointer (some ⟨p0b, 1, none⟩)) rfl rfl rfl (pSub (pCons Sel.hc (pApp Sel.ha pNil))) (stepV_ok tt_ok rfl) rfl ?_
  refine k_val (v := .slice p0a0 p0n0 p0c0) rfl rfl rfl (pSub (pCons Sel.hc (pApp Sel.ha pNil))) (val_load tt_ok rfl (List.Mem.head _) rfl) rfl ?_
  refine k_val rfl rfl rfl (pSub (pCons Sel.hc (pApp Sel.ha pNil))) (stepV_ok tt_ok rfl) rfl ?_
  refine k_val rfl rfl rfl (pSub (pCons Sel.hc (pApp Sel.ha pNil))) (stepV_ok tt_ok rfl) rfl ?_
  refine k_val rfl rfl rfl (pSub (pCons Sel.hc (pApp Sel.ha pNil))) (stepV_ok tt_ok rfl) rfl ?_
  refine k_val (v := .pointer (some ⟨p0b, 0, none⟩)) rfl rfl rfl (pSub (pCons Sel.hc (pApp Sel.ha pNil))) (stepV_ok tt_ok rfl) rfl ?_
  refine k_val (v := .int .u64 p0.first_) rfl rfl rfl (pSub (pCons Sel.hc (pApp Sel.ha pNil))) (val_load tt_ok rfl (List.Mem.head _) rfl) rfl ?_
  refine k_val (v := .int .u64 (IntKind.wrap .u64 ((min p1 v17) - p0.first_))) rfl rfl rfl (pSub (pCons Sel.hc (pApp Sel.ha pNil))) (stepV_ok tt_ok rfl) rfl ?_
  replace h := bsome h; obtain ⟨v33, x33, h⟩ := h
  refine k_cut (enc := (e1 .u8)) rfl rfl rfl (pSub (pCons Sel.hc (pApp Sel.ha pNil))) tt_ok rfl rfl rfl p0N0 (vec_some p0V0) (e1_len _) (vec_cap p0V0) (.inr ⟨_, _, rfl, rfl⟩) (.inl ⟨rfl, by rw [p0N0]⟩) (.inl ⟨rfl, rfl⟩) (by intro h; first | rfl | cases h) (cut2 x33 p0N0 (vec_cap p0V0)) x33 rfl ?_
  intro a33 n33_ c33 N33 H33 I33 O33 Z33
  refine k_chg rfl rfl rfl (chg_copy (enc := (e1 .u8)) (ys := v33) tt_ok rfl rfl rfl rfl p0N0 N33 p0V0 (Sel.sc Sel.ha) (Rds.of_vec (O33 _ rfl p0V0)) ⟨_, (Sel.sc Sel.ha)⟩ (e1_len _) (fun _ => rfl)) rfl (.inl rfl) ?_
  rintro _ _ ⟨Bk10_15, rfl, Nk10_15, Vk10_15, rfl⟩
  refine k_chg rfl rfl rfl (Chg.of_val (stepV_ok tt_ok rfl)) rfl (.inl rfl) ?_
  rintro _ _ ⟨rfl, rfl⟩
  refine k_end (by kernel_rfl) ?_
  refine wx_then (wc_region ?_)
  iterate 4 refine wl_pure tt_ok rfl rfl ?_
  refine wl_pure (v := .pointer (some ⟨p0b, 1, none⟩)) tt_ok rfl rfl ?_
  refine wl_val (v := .slice p0a0 p0n0 p0c0) (val_load tt_ok rfl (mR (List.Mem.head _)) rfl) rfl ?_
  refine wl_pure tt_ok rfl rfl ?_
  replace h := bsome h; obtain ⟨v42, x42, h⟩ := h
  refine wl_cut (enc := (e1 .u8)) tt_ok rfl rfl rfl Nk10_15 (vec_some Vk10_15) (e1_len _) (vec_cap Vk10_15) (.inl ⟨rfl, rfl⟩) (.inr ⟨_, _, rfl, rfl⟩) (.inl ⟨rfl, rfl⟩) (by intro h; first | rfl | cases h) (cut2 x42 Nk10_15 (vec_cap Vk10_15)) x42 rfl ?_
  intro a42 n42_ c42 N42 H42 I42 O42 Z42
  iterate 2 refine wl_pure tt_ok rfl rfl ?_
  refine wl_pure (v := .pointer (some ⟨p0b, 1, none⟩)) tt_ok rfl rfl ?_
  apply wl_store tt_ok; rfl; exact (Upd.right Upd.here); rfl; rfl; rfl; rfl; rfl; rfl
  refine wl_pure tt_ok rfl rfl ?_
  refine wl_pure (v := .pointer (some ⟨p0b, 0, none⟩)) tt_ok rfl rfl ?_
  apply wl_store tt_ok; rfl; exact (Upd.right Upd.here); rfl; rfl; rfl; rfl; rfl; rfl
  refine wl_nil ?_
  simp only [Option.some.injEq] at h
  obtain rfl := h
  exact wx_spD tt_ok (.inr rfl) Tryd.results38 Res.nil ⟨a42, n42_, c42, Bk10_15, N42, (O42 _ rfl Vk10_15), rfl, rfl⟩ (fun F => by simp) (pSub (pCons (Sel.sa Sel.hc) (pApp Sel.ha pNil)))

theorem k_rollback_Engine_Confirm {F : Nat} {p0 : T_rollback_Engine} {p0b p0t : Nat} {p0a0 : Option Addr} {p0n0 : Nat} {p0c0 : Nat} {p0B0 : List Blk} {p0a1 : Option Addr} {p0n1 : Nat} {p0c1 : Nat} {p0B1 : List Blk} {p0_4 : T_queue_Queue} {p0_4b p0_4t : Nat} {p0_4a0 : Option Addr} {p0_4n0 : Nat} {p0_4c0 : Nat} {p0_4B0 : List Blk} {p0_5 : T_ring_Ring} {p0_5b p0_5t : Nat} {p0_5g0 : List (T_ring_place × G)} {p0_5P0 : List Blk} {p1 : Int} {r0 : T_rollback_Engine} {r1 : T_queue_Queue} {r2 : T_ring_Ring} {r3 : (Int × Int)} {r4 : Bool} (p0N0 : p0n0 = p0.sure.Shots.length) (p0V0 : Own 92 6 p0a0 p0n0 p0c0 (flat c_T_api_Shot p0.sure.Shots) p0B0) (p0N1 : p0n1 = p0.own.length) (p0V1 : Own 34 1 p0a1 p0n1 p0c1 (flat (e1 .u8) p0.own) p0B1) (p0_4N0 : p0_4n0 = p0_4.l.length) (p0_4V0 : Own 34 1 p0_4a0 p0_4n0 p0_4c0 (flat (e1 .u8) p0_4.l) p0_4B0) (p0_5G0 : p0_5.places.1 = unG p0_5g0) (p0_5A0 : AllP sh_T_ring_place c_T_api_Shot p0_5P0 p0_5g0) (h : m_rollback_Engine_Confirm F p0 p0_4 p0_5 p1 = some (r0, r1, r2, r3, r4)) :
    SpD Tryd.prog 14 [.pointer (some ⟨p0b, 0, none⟩), .int .u64 p1] (⟨p0b, [.int .u8 p0.player, .int .i64 p0.window, .int .u64 p0.sure.Frame, .int .u64 p0.sure.Seed, .int .i32 p0.sure.Players.1.X, .int .i32 p0.sure.Players.1.Y, .int .i32 p0.sure.Players.1.VX, .int .i32 p0.sure.Players.1.VY, .int .u8 p0.sure.Players.1.Health, .int .u8 p0.sure.Players.1.Cool, .int .u8 p0.sure.Players.1.Face, .int .i32 p0.sure.Players.2.X, .int .i32 p0.sure.Players.2.Y, .int .i32 p0.sure.Players.2.VX, .int .i32 p0.sure.Players.2.VY, .int .u8 p0.sure.Players.2.Health, .int .u8 p0.sure.Players.2.Cool, .int .u8 p0.sure.Players.2.Face, .slice p0a0 p0n0 p0c0, .int .u16 p0.sure.Score.1, .int .u16 p0.sure.Score.2, .slice p0a1 p0n1 p0c1, .pointer (some ⟨p0_4b, 0, none⟩), .pointer (some ⟨p0_5b, 0, none⟩)], p0t, (0, 0)⟩ :: (p0B0 ++ (p0B1 ++ (⟨p0_4b, [.int .u64 p0_4.first_, .slice p0_4a0 p0_4n0 p0_4c0, .int .u8 p0_4.last], p0_4t, (0, 0)⟩ :: (p0_4B0 ++ (⟨p0_5b, ([.int .i64 p0_5.size] ++ flat cg_T_ring_place p0_5g0), p0_5t, (0, 0)⟩ :: (p0_5P0 ++ []))))))) (fun w => Rds w (ids (⟨p0b, [.int .u8 p0.player, .int .i64 p0.window, .int .u64 p0.sure.Frame, .int .u64 p0.sure.Seed, .int .i32 p0.sure.Players.1.X, .int .i32 p0.sure.Players.1.Y, .int .i32 p0.sure.Players.1.VX, .int .i32 p0.sure.Players.1.VY, .int .u8 p0.sure.Players.1.Health, .int .u8 p0.sure.Players.1.Cool, .int .u8 p0.sure.Players.1.Face, .int .i32 p0.sure.Players.2.X, .int .i32 p0.sure.Players.2.Y, .int .i32 p0.sure.Players.2.VX, .int .i32 p0.sure.Players.2.VY, .int .u8 p0.sure.Players.2.Health, .int .u8 p0.sure.Players.2.Cool, .int .u8 p0.sure.Players.2.Face, .slice p0a0 p0n0 p0c0, .int .u16 p0.sure.Score.1, .int .u16 p0.sure.Score.2, .slice p0a1 p0n1 p0c1, .pointer (some ⟨p0_4b, 0, none⟩), .pointer (some ⟨p0_5b, 0, none⟩)], p0t, (0, 0)⟩ :: (p0B0 ++ (p0B1 ++ (⟨p0_4b, [.int .u64 p0_4.first_, .slice p0_4a0 p0_4n0 p0_4c0, .int .u8 p0_4.last], p0_4t, (0, 0)⟩ :: (p0_4B0 ++ (⟨p0_5b, ([.int .i64 p0_5.size] ++ flat cg_T_ring_place p0_5g0), p0_5t, (0, 0)⟩ :: (p0_5P0 ++ [])))))))) [] (some ⟨0, 0, none⟩) (flat (fun _ : Unit => gl_state_playerBounds) [()]) ∧ Rds w (ids (⟨p0b, [.int .u8 p0.player, .int .i64 p0.window, .int .u64 p0.sure.Frame, .int .u64 p0.sure.Seed, .int .i32 p0.sure.Players.1.X, .int .i32 p0.sure.Players.1.Y, .int .i32 p0.sure.Players.1.VX, .int .i32 p0.sure.Players.1.VY, .int .u8 p0.sure.Players.1.Health, .int .u8 p0.sure.Players.1.Cool, .int .u8 p0.sure.Players.1.Face, .int .i32 p0.sure.Players.2.X, .int .i32 p0.sure.Players.2.Y, .int .i32 p0.sure.Players.2.VX, .int .i32 p0.sure.Players.2.VY, .int .u8 p0.sure.Players.2.Health, .int .u8 p0.sure.Players.2.Cool, .int .u8 p0.sure.Players.2.Face, .slice p0a0 p0n0 p0c0, .int .u16 p0.sure.Score.1, .int .u16 p0.sure.Score.2, .slice p0a1 p0n1 p0c1, .pointer (some ⟨p0_4b, 0, none⟩), .pointer (some ⟨p0_5b, 0, none⟩)], p0t, (0, 0)⟩ :: (p0B0 ++ (p0B1 ++ (⟨p0_4b, [.int .u64 p0_4.first_, .slice p0_4a0 p0_4n0 p0_4c0, .int .u8 p0_4.last], p0_4t, (0, 0)⟩ :: (p0_4B0 ++ (⟨p0_5b, ([.int .i64 p0_5.size] ++ flat cg_T_ring_place p0_5g0), p0_5t, (0, 0)⟩ :: (p0_5P0 ++ [])))))))) [] (some ⟨1, 0, none⟩) (flat (fun _ : Unit => gl_state_shotBounds) [()])) (fun v D => ∃ (r0a0 : Option Addr) (r0n0 : Nat) (r0c0 : Nat) (r0B0 : List Blk) (r0a1 : Option Addr) (r0n1 : Nat) (r0c1 : Nat) (r0B1 : List Blk) (r1a0 : Option Addr) (r1n0 : Nat) (r1c0 : Nat) (r1B0 : List Blk) (r2g0 : List (T_ring_place × G)) (r2P0 : List Blk), r0n0 = r0.sure.Shots.length ∧ Own 92 6 r0a0 r0n0 r0c0 (flat c_T_api_Shot r0.sure.Shots) r0B0 ∧ r0n1 = r0.own.length ∧ Own 34 1 r0a1 r0n1 r0c1 (flat (e1 .u8) r0.own) r0B1 ∧ r1n0 = r1.l.length ∧ Own 34 1 r1a0 r1n0 r1c0 (flat (e1 .u8) r1.l) r1B0 ∧ r2.places.1 = unG r2g0 ∧ AllP sh_T_ring_place c_T_api_Shot r2P0 r2g0 ∧ v = .tuple #[.agg #[.int .u8 r3.1, .int .u8 r3.2], .bool r4] ∧ D = fun F => (⟨p0b, [.int .u8 r0.player, .int .i64 r0.window, .int .u64 r0.sure.Frame, .int .u64 r0.sure.Seed, .int .i32 r0.sure.Players.1.X, .int .i32 r0.sure.Players.1.Y, .int .i32 r0.sure.Players.1.VX, .int .i32 r0.sure.Players.1.VY, .int .u8 r0.sure.Players.1.Health, .int .u8 r0.sure.Players.1.Cool, .int .u8 r0.sure.Players.1.Face, .int .i32 r0.sure.Players.2.X, .int .i32 r0.sure.Players.2.Y, .int .i32 r0.sure.Players.2.VX, .int .i32 r0.sure.Players.2.VY, .int .u8 r0.sure.Players.2.Health, .int .u8 r0.sure.Players.2.Cool, .int .u8 r0.sure.Players.2.Face, .slice r0a0 r0n0 r0c0, .int .u16 r0.sure.Score.1, .int .u16 r0.sure.Score.2, .slice r0a1 r0n1 r0c1, .pointer (some ⟨p0_4b, 0, none⟩), .pointer (some ⟨p0_5b, 0, none⟩)], p0t, (0, 0)⟩ :: (r0B0 ++ (r0B1 ++ (⟨p0_4b, [.int .u64 r1.first_, .slice r1a0 r1n0 r1c0, .int .u8 r1.last], p0_4t, (0, 0)⟩ :: (r1B0 ++ (⟨p0_5b, ([.int .i64 r2.size] ++ flat cg_T_ring_place r2g0), p0_5t, (0, 0)⟩ :: (r2P0 ++ F)))))))) := by
  unfold m_rollback_Engine_Confirm at h
  refine sp_of_wc Tryd.func14 rfl Tryd.ntmps14 rfl rfl (fun w0 hR => ?_)
  obtain ⟨G0S, G1S⟩ := hR
  refine wc_seq (wc_region ?_)
  refine wl_alloc tt_ok rfl rfl (fun b4 => ?_)
  refine wl_pure tt_ok rfl rfl ?_
  refine wl_nil (wx_then (wc_seq (wc_region ?_)))
  refine wl_pure tt_ok rfl rfl ?_
  replace h := bsome h; obtain ⟨⟨v10_0, v10_1⟩, x10, h⟩ := h; try dsimp only at h
  refine wl_cq Tryd.call35 rfl rfl rfl (q_rd (k_rollback_Engine_Next (p0 := p0) (p0_4 := p0_4) (p0_5 := p0_5) p0N0 p0V0 p0N1 p0V1 p0_4N0 p0_4V0 p0_5G0 p0_5A0 x10) (pCons (Sel.sc Sel.hc) (pApp (Sel.sc Sel.ha) (pApp (Sel.sc Sel.ha) (pCons (Sel.sc Sel.hc) (pApp (Sel.sc Sel.ha) (pCons (Sel.sc Sel.hc) (pApp (Sel.sc Sel.ha) pNil))))))) (fun _ _ => trivial)) rfl ?_
  iterate 3 refine wl_pure tt_ok rfl rfl ?_
  refine wl_alloc tt_ok rfl rfl (fun b6 => ?_)
  apply wl_store tt_ok; rfl; exact Upd.here; rfl; rfl; rfl; rfl; rfl; rfl
  refine wl_pure tt_ok rfl rfl ?_
  refine wl_nil (wx_then (wc_seq (wc_seq (wc_region ?_))))
  refine wl_pure tt_ok rfl rfl ?_
  refine wl_pure (v := .bool (!v10_1)) tt_ok rfl rfl ?_
  refine wl_pure tt_ok rfl rfl ?_
  replace h := bsome h; obtain ⟨v23, h, hg23⟩ := h
  refine wl_split (t := 15) rfl (fun hc => ?_) (fun hc => ?_)
  · replace h := ct hc h
    refine wl_skip rfl rfl ?_
    refine wl_skip rfl rfl ?_
    refine wl_skip rfl rfl ?_
    refine wl_skip rfl rfl ?_
    refine wl_skip rfl rfl ?_
    refine wl_skip rfl rfl ?_
    refine wl_skip rfl rfl ?_
    simp only [Option.some.injEq, Prod.mk.injEq] at h
    obtain rfl := h
    have h := hg23; clear hg23
    refine wl_pure (v := .bool true) tt_ok rfl rfl ?_
    refine wl_nil (wx_then ?_)
    replace h := ct rfl h
    refine wc_cond_true rfl ?_
    refine wc_seq (wc_region ?_)
    refine wl_pure (v := .agg #[.int .u8 (0 : Int), .int .u8 (0 : Int)]) tt_ok rfl rfl ?_
    apply wl_store tt_ok; rfl; exact (Upd.there Upd.here); rfl; rfl; rfl; rfl; rfl; rfl
    refine wl_pure tt_ok rfl rfl ?_
    refine wl_nil (wx_then (wc_ret (wx_then_ret ?_)))
    simp only [Option.some.injEq, Prod.mk.injEq] at h
    obtain ⟨rfl, rfl, rfl, rfl, rfl⟩ := h
    exact wx_spD tt_ok (.inl rfl) Tryd.results14 (Res.cell rfl (List.Mem.tail _ (List.Mem.head _)) rfl (Res.tmp rfl Res.nil)) ⟨p0a0, p0n0, p0c0, p0B0, p0a1, p0n1, p0c1, p0B1, p0_4a0, p0_4n0, p0_4c0, p0_4B0, p0_5g0, p0_5P0, p0N0, p0V0, p0N1, p0V1, p0_4N0, p0_4V0, p0_5G0, p0_5A0, rfl, rfl⟩ (fun F => by simp) (pSub (pCons (Sel.sc (Sel.sc Sel.hc)) (pApp (Sel.sc (Sel.sc Sel.ha)) (pApp (Sel.sc (Sel.sc Sel.ha)) (pCons (Sel.sc (Sel.sc Sel.hc)) (pApp (Sel.sc (Sel.sc Sel.ha)) (pCons (Sel.sc (Sel.sc Sel.hc)) (pApp (Sel.sc (Sel.sc Sel.ha)) pNil))))))))
  replace h := cf hc h
  refine wl_run rfl ?_
  refine wl_pure tt_ok rfl rfl ?_
  refine wl_run rfl ?_
  refine wl_pure tt_ok rfl rfl ?_
  refine wl_run rfl ?_
  refine wl_pure (v := .pointer (some ⟨p0b, 2, none⟩)) tt_ok rfl rfl ?_
  refine wl_run rfl ?_
  refine wl_pure (v := .pointer (some ⟨p0b, 2, none⟩)) tt_ok rfl rfl ?_
  refine wl_run rfl ?_
  refine wl_val (v := .int .u64 p0.sure.Frame) (val_load tt_ok rfl (List.Mem.tail _ (List.Mem.tail _ (List.Mem.head _))) rfl) rfl ?_
  refine wl_run rfl ?_
  refine wl_pure tt_ok rfl rfl ?_
  refine wl_run rfl ?_
  refine wl_pure (v := .bool (decide (p1 ≤ p0.sure.Frame))) tt_ok rfl rfl ?_
  simp only [Option.some.injEq, Prod.mk.injEq] at h
  obtain rfl := h
  have h := hg23; clear hg23
  refine wl_pure (v := .bool (decide (p1 ≤ p0.sure.Frame))) tt_ok rfl rfl ?_
  refine wl_nil (wx_then ?_)
  refine wc_cond rfl (fun hc => ?_) (fun hc => ?_)
  · replace h := ct hc h
    refine wc_seq (wc_region ?_)
    refine wl_pure (v := .agg #[.int .u8 (0 : Int), .int .u8 (0 : Int)]) tt_ok rfl rfl ?_
    apply wl_store tt_ok; rfl; exact (Upd.there Upd.here); rfl; rfl; rfl; rfl; rfl; rfl
    refine wl_pure tt_ok rfl rfl ?_
    refine wl_nil (wx_then (wc_ret (wx_then_ret ?_)))
    simp only [Option.some.injEq, Prod.mk.injEq] at h
    obtain ⟨rfl, rfl, rfl, rfl, rfl⟩ := h
    exact wx_spD tt_ok (.inl rfl) Tryd.results14 (Res.cell rfl (List.Mem.tail _ (List.Mem.head _)) rfl (Res.tmp rfl Res.nil)) ⟨p0a0, p0n0, p0c0, p0B0, p0a1, p0n1, p0c1, p0B1, p0_4a0, p0_4n0, p0_4c0, p0_4B0, p0_5g0, p0_5P0, p0N0, p0V0, p0N1, p0V1, p0_4N0, p0_4V0, p0_5G0, p0_5A0, rfl, rfl⟩ (fun F => by simp) (pSub (pCons (Sel.sc (Sel.sc Sel.hc)) (pApp (Sel.sc (Sel.sc Sel.ha)) (pApp (Sel.sc (Sel.sc Sel.ha)) (pCons (Sel.sc (Sel.sc Sel.hc)) (pApp (Sel.sc (Sel.sc Sel.ha)) (pCons (Sel.sc (Sel.sc Sel.hc)) (pApp (Sel.sc (Sel.sc Sel.ha)) pNil))))))))
  replace h := cf hc h
  refine wc_skip (wx_then (wc_seq ?_))
  refine wc_k2 (Ls := (⟨b6, [.int .u8 v10_0.1, .int .u8 v10_0.2], 36, (0, 0)⟩ :: (⟨b4, [.int .u8 (0 : Int), .int .u8 (0 : Int)], 36, (0, 0)⟩ :: (⟨p0b, [.int .u8 p0.player, .int .i64 p0.window, .int .u64 p0.sure.Frame, .int .u64 p0.sure.Seed, .int .i32 p0.sure.Players.1.X, .int .i32 p0.sure.Players.1.Y, .int .i32 p0.sure.Players.1.VX, .int .i32 p0.sure.Players.1.VY, .int .u8 p0.sure.Players.1.Health, .int .u8 p0.sure.Players.1.Cool, .int .u8 p0.sure.Players.1.Face, .int .i32 p0.sure.Players.2.X, .int .i32 p0.sure.Players.2.Y, .int .i32 p0.sure.Players.2.VX, .int .i32 p0.sure.Players.2.VY, .int .u8 p0.sure.Players.2.Health, .int .u8 p0.sure.Players.2.Cool, .int .u8 p0.sure.Players.2.Face, .slice p0a0 p0n0 p0c0, .int .u16 p0.sure.Score.1, .int .u16 p0.sure.Score.2, .slice p0a1 p0n1 p0c1, .pointer (some ⟨p0_4b, 0, none⟩), .pointer (some ⟨p0_5b, 0, none⟩)], p0t, (0, 0)⟩ :: (p0B0 ++ (p0B1 ++ (⟨p0_4b, [.int .u64 p0_4.first_, .slice p0_4a0 p0_4n0 p0_4c0, .int .u8 p0_4.last], p0_4t, (0, 0)⟩ :: (p0_4B0 ++ (⟨p0_5b, ([.int .i64 p0_5.size] ++ flat cg_T_ring_place p0_5g0), p0_5t, (0, 0)⟩ :: (p0_5P0 ++ [])))))))))) [6, 7, 8, 9] [7, 8, 9] [0, 0, 2, 6, 14, 0, 62, 127, 255, 511] [0, 1, 2, 3, 4, 5, 6, 7, 8, 9] (by kernel_rfl) (by kernel_rfl) (by kernel_rfl) ?_
  refine k_val rfl rfl rfl (pSub (pCons Sel.hc (pCons Sel.hc (pCons Sel.hc (pApp Sel.ha (pApp Sel.ha (pCons Sel.hc (pApp Sel.ha (pCons Sel.hc (pApp Sel.ha pNil)))))))))) (stepV_ok tt_ok rfl) rfl ?_
  refine k_val rfl rfl rfl (pSub (pCons Sel.hc (pCons Sel.hc (pCons Sel.hc (pApp Sel.ha (pApp Sel.ha (pCons Sel.hc (pApp Sel.ha (pCons Sel.hc (pApp Sel.ha pNil)))))))))) (stepV_ok tt_ok rfl) rfl ?_
  refine k_val rfl rfl rfl (pSub (pCons Sel.hc (pCons Sel.hc (pCons Sel.hc (pApp Sel.ha (pApp Sel.ha (pCons Sel.hc (pApp Sel.ha (pCons Sel.hc (pApp Sel.ha pNil)))))))))) (stepV_ok tt_ok rfl) rfl ?_
  refine k_val (v := .pointer (some ⟨p0b, 2, none⟩)) rfl rfl rfl (pSub (pCons Sel.hc (pCons Sel.hc (pCons Sel.hc (pApp Sel.ha (pApp Sel.ha (pCons Sel.hc (pApp Sel.ha (pCons Sel.hc (pApp Sel.ha pNil)))))))))) (stepV_ok tt_ok rfl) rfl ?_
  refine k_val (v := .agg #[.int .u64 p0.sure.Frame, .int .u64 p0.sure.Seed, .int .i32 p0.sure.Players.1.X, .int .i32 p0.sure.Players.1.Y, .int .i32 p0.sure.Players.1.VX, .int .i32 p0.sure.Players.1.VY, .int .u8 p0.sure.Players.1.Health, .int .u8 p0.sure.Players.1.Cool, .int .u8 p0.sure.Players.1.Face, .int .i32 p0.sure.Players.2.X, .int .i32 p0.sure.Players.2.Y, .int .i32 p0.sure.Players.2.VX, .int .i32 p0.sure.Players.2.VY, .int .u8 p0.sure.Players.2.Health, .int .u8 p0.sure.Players.2.Cool, .int .u8 p0.sure.Players.2.Face, .slice p0a0 p0n0 p0c0, .int .u16 p0.sure.Score.1, .int .u16 p0.sure.Score.2]) rfl rfl rfl (pSub (pCons Sel.hc (pCons Sel.hc (pCons Sel.hc (pApp Sel.ha (pApp Sel.ha (pCons Sel.hc (pApp Sel.ha (pCons Sel.hc (pApp Sel.ha pNil)))))))))) (val_load tt_ok rfl (List.Mem.tail _ (List.Mem.tail _ (List.Mem.head _))) rfl) rfl ?_
  refine k_val (v := .agg #[.int .u8 v10_0.1, .int .u8 v10_0.2]) rfl rfl rfl (pSub (pCons Sel.hc (pCons Sel.hc (pCons Sel.hc (pApp Sel.ha (pApp Sel.ha (pCons Sel.hc (pApp Sel.ha (pCons Sel.hc (pApp Sel.ha pNil)))))))))) (val_load tt_ok rfl (List.Mem.head _) rfl) rfl ?_
  replace h := bsome h; obtain ⟨v31, x31, h⟩ := h
  refine k_cs rfl rfl rfl Tryd.call36 rfl rfl rfl (s_sp (k_step_Step (p0 := p0.sure) p0N0 (vec_cap p0V0) x31) pNil (fun w hI => ⟨(Rds.call (Rds.of_vec p0V0) pNil ⟨_, (Sel.sc (Sel.sc (Sel.sc Sel.ha)))⟩) w hI, (Rds.call G0S pNil rsub_nil) w hI, (Rds.call G1S pNil rsub_nil) w hI⟩)) rfl (.inr (by rintro _ _ ⟨_, ⟨_, _, _, _, _, _, rfl, rfl⟩, rfl⟩; exact ⟨_, (pCons (Sel.sa Sel.hc) (pCons (Sel.sa Sel.hc) (pCons (Sel.sa Sel.hc) (pApp (Sel.sa Sel.ha) (pApp (Sel.sa Sel.ha) (pCons (Sel.sa Sel.hc) (pApp (Sel.sa Sel.ha) (pCons (Sel.sa Sel.hc) (pApp (Sel.sa Sel.ha) pNil)))))))))⟩)) ?_
  rintro _ _ ⟨_, ⟨v31a0, v31n0, v31c0, v31B0, v31N0, v31V0, rfl, rfl⟩, rfl⟩
  refine k_chg rfl rfl rfl (Chg.of_val (stepV_ok tt_ok rfl)) rfl (.inl rfl) ?_
  rintro _ _ ⟨rfl, rfl⟩
  refine k_chg rfl rfl rfl (Chg.of_val (v := .pointer (some ⟨p0b, 2, none⟩)) (stepV_ok tt_ok rfl)) rfl (.inl rfl) ?_
  rintro _ _ ⟨rfl, rfl⟩
  refine k_chg0 rfl rfl rfl (chg_store tt_ok rfl (Upd.right (Upd.there (Upd.there Upd.here))) rfl rfl rfl rfl rfl rfl) (.inl rfl) ?_
  rintro _ _ rfl
  refine k_end (by kernel_rfl) ?_
  refine wx_then (wc_seq (wc_region ?_))
  iterate 3 refine wl_pure tt_ok rfl rfl ?_
  refine wl_pure (v := .pointer (some ⟨p0b, 21, none⟩)) tt_ok rfl rfl ?_
  refine wl_val (v := .slice p0a1 p0n1 p0c1) (val_load tt_ok rfl (mR (List.Mem.tail _ (List.Mem.tail _ (List.Mem.head _)))) rfl) rfl ?_
  replace h := bsome h; obtain ⟨v39, x39, h⟩ := h
  refine wl_cut (enc := (e1 .u8)) tt_ok rfl rfl rfl p0N1 (vec_some p0V1) (e1_len _) (vec_cap p0V1) (.inr ⟨_, _, rfl, rfl⟩) (.inl ⟨rfl, by rw [p0N1]⟩) (.inl ⟨rfl, rfl⟩) (by intro h; first | rfl | cases h) (cut2 x39 p0N1 (vec_cap p0V1)) x39 rfl ?_
  intro a39 n39_ c39 N39 H39 I39 O39 Z39
  replace h := bsome h; obtain ⟨v40, x40, h⟩ := h
  refine wl_cs Tryd.call37 rfl rfl rfl (s_sp (k_slices_Clone___api_Input_api_Input (p0 := v39) N39 H39 x40) pNil (Rds.call (Rds.of_vec (O39 _ rfl p0V1)) pNil ⟨_, (Sel.sa (Sel.sc (Sel.sc (Sel.sc (Sel.sa Sel.ha)))))⟩)) rfl ?_
  rintro _ _ ⟨_, ⟨v40a0, v40n0, v40c0, v40B0, v40N0, v40V0, rfl, rfl⟩, rfl⟩
  refine wl_pure tt_ok rfl rfl ?_
  refine wl_pure (v := .pointer (some ⟨p0b, 21, none⟩)) tt_ok rfl rfl ?_
  apply wl_store tt_ok; rfl; exact (Upd.right (Upd.right (Upd.there (Upd.there Upd.here)))); rfl; rfl; rfl; rfl; rfl; rfl
  refine wl_nil (wx_then (wc_seq ?_))
  refine wc_k2 (Ls := (v40B0 ++ (v31B0 ++ (⟨b6, [.int .u8 v10_0.1, .int .u8 v10_0.2], 36, (0, 0)⟩ :: (⟨b4, [.int .u8 (0 : Int), .int .u8 (0 : Int)], 36, (0, 0)⟩ :: (⟨p0b, [.int .u8 p0.player, .int .i64 p0.window, .int .u64 v31.Frame, .int .u64 v31.Seed, .int .i32 v31.Players.1.X, .int .i32 v31.Players.1.Y, .int .i32 v31.Players.1.VX, .int .i32 v31.Players.1.VY, .int .u8 v31.Players.1.Health, .int .u8 v31.Players.1.Cool, .int .u8 v31.Players.1.Face, .int .i32 v31.Players.2.X, .int .i32 v31.Players.2.Y, .int .i32 v31.Players.2.VX, .int .i32 v31.Players.2.VY, .int .u8 v31.Players.2.Health, .int .u8 v31.Players.2.Cool, .int .u8 v31.Players.2.Face, .slice v31a0 v31n0 v31c0, .int .u16 v31.Score.1, .int .u16 v31.Score.2, .slice v40a0 v40n0 v40c0, .pointer (some ⟨p0_4b, 0, none⟩), .pointer (some ⟨p0_5b, 0, none⟩)], p0t, (0, 0)⟩ :: (p0B0 ++ (p0B1 ++ (⟨p0_4b, [.int .u64 p0_4.first_, .slice p0_4a0 p0_4n0 p0_4c0, .int .u8 p0_4.last], p0_4t, (0, 0)⟩ :: (p0_4B0 ++ (⟨p0_5b, ([.int .i64 p0_5.size] ++ flat cg_T_ring_place p0_5g0), p0_5t, (0, 0)⟩ :: (p0_5P0 ++ [])))))))))))) [9] [9] [0, 1, 3, 7, 0, 16, 48, 112, 240, 511] [0, 1, 2, 3, 4, 5, 6, 7, 8, 9] (by kernel_rfl) (by kernel_rfl) (by kernel_rfl) ?_
  refine k_val rfl rfl rfl (pSub (pApp Sel.ha (pApp Sel.ha (pCons Sel.hc (pCons Sel.hc (pCons Sel.hc (pApp Sel.ha (pApp Sel.ha (pCons Sel.hc (pApp Sel.ha (pCons Sel.hc (pApp Sel.ha pNil)))))))))))) (stepV_ok tt_ok rfl) rfl ?_
  refine k_val rfl rfl rfl (pSub (pApp Sel.ha (pApp Sel.ha (pCons Sel.hc (pCons Sel.hc (pCons Sel.hc (pApp Sel.ha (pApp Sel.ha (pCons Sel.hc (pApp Sel.ha (pCons Sel.hc (pApp Sel.ha pNil)))))))))))) (stepV_ok tt_ok rfl) rfl ?_
  refine k_val (v := .pointer (some ⟨p0b, 22, none⟩)) rfl rfl rfl (pSub (pApp Sel.ha (pApp Sel.ha (pCons Sel.hc (pCons Sel.hc (pCons Sel.hc (pApp Sel.ha (pApp Sel.ha (pCons Sel.hc (pApp Sel.ha (pCons Sel.hc (pApp Sel.ha pNil)))))))))))) (stepV_ok tt_ok rfl) rfl ?_
  refine k_val (v := .pointer (some ⟨p0_4b, 0, none⟩)) rfl rfl rfl (pSub (pApp Sel.ha (pApp Sel.ha (pCons Sel.hc (pCons Sel.hc (pCons Sel.hc (pApp Sel.ha (pApp Sel.ha (pCons Sel.hc (pApp Sel.ha (pCons Sel.hc (pApp Sel.ha pNil)))))))))))) (val_load tt_ok rfl (mR (mR (List.Mem.tail _ (List.Mem.tail _ (List.Mem.head _))))) rfl) rfl ?_
  refine k_val rfl rfl rfl (pSub (pApp Sel.ha (pApp Sel.ha (pCons Sel.hc (pCons Sel.hc (pCons Sel.hc (pApp Sel.ha (pApp Sel.ha (pCons Sel.hc (pApp Sel.ha (pCons Sel.hc (pApp Sel.ha pNil)))))))))))) (stepV_ok tt_ok rfl) rfl ?_
  refine k_val rfl rfl rfl (pSub (pApp Sel.ha (pApp Sel.ha (pCons Sel.hc (pCons Sel.hc (pCons Sel.hc (pApp Sel.ha (pApp Sel.ha (pCons Sel.hc (pApp Sel.ha (pCons Sel.hc (pApp Sel.ha pNil)))))))))))) (stepV_ok tt_ok rfl) rfl ?_
  refine k_val (v := .pointer (some ⟨p0b, 2, none⟩)) rfl rfl rfl (pSub (pApp Sel.ha (pApp Sel.ha (pCons Sel.hc (pCons Sel.hc (pCons Sel.hc (pApp Sel.ha (pApp Sel.ha (pCons Sel.hc (pApp Sel.ha (pCons Sel.hc (pApp Sel.ha pNil)))))))))))) (stepV_ok tt_ok rfl) rfl ?_
  refine k_val (v := .pointer (some ⟨p0b, 2, none⟩)) rfl rfl rfl (pSub (pApp Sel.ha (pApp Sel.ha (pCons Sel.hc (pCons Sel.hc (pCons Sel.hc (pApp Sel.ha (pApp Sel.ha (pCons Sel.hc (pApp Sel.ha (pCons Sel.hc (pApp Sel.ha pNil)))))))))))) (stepV_ok tt_ok rfl) rfl ?_
  refine k_val (v := .int .u64 v31.Frame) rfl rfl rfl (pSub (pApp Sel.ha (pApp Sel.ha (pCons Sel.hc (pCons Sel.hc (pCons Sel.hc (pApp Sel.ha (pApp Sel.ha (pCons Sel.hc (pApp Sel.ha (pCons Sel.hc (pApp Sel.ha pNil)))))))))))) (val_load tt_ok rfl (mR (mR (List.Mem.tail _ (List.Mem.tail _ (List.Mem.head _))))) rfl) rfl ?_
  replace h := bsome h; obtain ⟨o52_0, x52, h⟩ := h
  refine k_cs rfl rfl rfl Tryd.call38 rfl rfl rfl (s_sp (k_queue_Queue_Drop (p0 := p0_4) p0_4N0 p0_4V0 x52) (pCons (Sel.sa (Sel.sa (Sel.sc (Sel.sc (Sel.sc (Sel.sa (Sel.sa Sel.hc))))))) (pApp (Sel.sa (Sel.sa (Sel.sc (Sel.sc (Sel.sc (Sel.sa (Sel.sa Sel.ha))))))) pNil)) (fun _ _ => trivial)) rfl (.inl rfl) ?_
  rintro _ _ ⟨_, ⟨o52_0a0, o52_0n0, o52_0c0, o52_0B0, o52_0N0, o52_0V0, rfl, rfl⟩, rfl⟩
  refine k_end (by kernel_rfl) ?_
  refine wx_then (wc_seq ?_)
  refine wc_k2 (Ls := (⟨p0_4b, [.int .u64 o52_0.first_, .slice o52_0a0 o52_0n0 o52_0c0, .int .u8 o52_0.last], p0_4t, (0, 0)⟩ :: (o52_0B0 ++ (v40B0 ++ (v31B0 ++ (⟨b6, [.int .u8 v10_0.1, .int .u8 v10_0.2], 36, (0, 0)⟩ :: (⟨b4, [.int .u8 (0 : Int), .int .u8 (0 : Int)], 36, (0, 0)⟩ :: (⟨p0b, [.int .u8 p0.player, .int .i64 p0.window, .int .u64 v31.Frame, .int .u64 v31.Seed, .int .i32 v31.Players.1.X, .int .i32 v31.Players.1.Y, .int .i32 v31.Players.1.VX, .int .i32 v31.Players.1.VY, .int .u8 v31.Players.1.Health, .int .u8 v31.Players.1.Cool, .int .u8 v31.Players.1.Face, .int .i32 v31.Players.2.X, .int .i32 v31.Players.2.Y, .int .i32 v31.Players.2.VX, .int .i32 v31.Players.2.VY, .int .u8 v31.Players.2.Health, .int .u8 v31.Players.2.Cool, .int .u8 v31.Players.2.Face, .slice v31a0 v31n0 v31c0, .int .u16 v31.Score.1, .int .u16 v31.Score.2, .slice v40a0 v40n0 v40c0, .pointer (some ⟨p0_4b, 0, none⟩), .pointer (some ⟨p0_5b, 0, none⟩)], p0t, (0, 0)⟩ :: (p0B0 ++ (p0B1 ++ (⟨p0_5b, ([.int .i64 p0_5.size] ++ flat cg_T_ring_place p0_5g0), p0_5t, (0, 0)⟩ :: (p0_5P0 ++ [])))))))))))) [8] [8] [0, 1, 3, 7, 0, 16, 48, 112, 255] [0, 1, 2, 3, 4, 5, 6, 7, 8] (by kernel_rfl) (by kernel_rfl) (by kernel_rfl) ?_
  refine k_val rfl rfl rfl (pSub (pCons Sel.hc (pApp Sel.ha (pApp Sel.ha (pApp Sel.ha (pCons Sel.hc (pCons Sel.hc (pCons Sel.hc (pApp Sel.ha (pApp Sel.ha (pCons Sel.hc (pApp Sel.ha pNil)))))))))))) (stepV_ok tt_ok rfl) rfl ?_
  refine k_val rfl rfl rfl (pSub (pCons Sel.hc (pApp Sel.ha (pApp Sel.ha (pApp Sel.ha (pCons Sel.hc (pCons Sel.hc (pCons Sel.hc (pApp Sel.ha (pApp Sel.ha (pCons Sel.hc (pApp Sel.ha pNil)))))))))))) (stepV_ok tt_ok rfl) rfl ?_
  refine k_val (v := .pointer (some ⟨p0b, 23, none⟩)) rfl rfl rfl (pSub (pCons Sel.hc (pApp Sel.ha (pApp Sel.ha (pApp Sel.ha (pCons Sel.hc (pCons Sel.hc (pCons Sel.hc (pApp Sel.ha (pApp Sel.ha (pCons Sel.hc (pApp Sel.ha pNil)))))))))))) (stepV_ok tt_ok rfl) rfl ?_
  refine k_val (v := .pointer (some ⟨p0_5b, 0, none⟩)) rfl rfl rfl (pSub (pCons Sel.hc (pApp Sel.ha (pApp Sel.ha (pApp Sel.ha (pCons Sel.hc (pCons Sel.hc (pCons Sel.hc (pApp Sel.ha (pApp Sel.ha (pCons Sel.hc (pApp Sel.ha pNil)))))))))))) (val_load tt_ok rfl (List.Mem.tail _ (mR (mR (mR (List.Mem.tail _ (List.Mem.tail _ (List.Mem.head _))))))) rfl) rfl ?_
  refine k_val rfl rfl rfl (pSub (pCons Sel.hc (pApp Sel.ha (pApp Sel.ha (pApp Sel.ha (pCons Sel.hc (pCons Sel.hc (pCons Sel.hc (pApp Sel.ha (pApp Sel.ha (pCons Sel.hc (pApp Sel.ha pNil)))))))))))) (stepV_ok tt_ok rfl) rfl ?_
  refine k_val rfl rfl rfl (pSub (pCons Sel.hc (pApp Sel.ha (pApp Sel.ha (pApp Sel.ha (pCons Sel.hc (pCons Sel.hc (pCons Sel.hc (pApp Sel.ha (pApp Sel.ha (pCons Sel.hc (pApp Sel.ha pNil)))))))))))) (stepV_ok tt_ok rfl) rfl ?_
  refine k_val (v := .pointer (some ⟨p0b, 2, none⟩)) rfl rfl rfl (pSub (pCons Sel.hc (pApp Sel.ha (pApp Sel.ha (pApp Sel.ha (pCons Sel.hc (pCons Sel.hc (pCons Sel.hc (pApp Sel.ha (pApp Sel.ha (pCons Sel.hc (pApp Sel.ha pNil)))))))))))) (stepV_ok tt_ok rfl) rfl ?_
  refine k_val (v := .agg #[.int .u64 v31.Frame, .int .u64 v31.Seed, .int .i32 v31.Players.1.X, .int .i32 v31.Players.1.Y, .int .i32 v31.Players.1.VX, .int .i32 v31.Players.1.VY, .int .u8 v31.Players.1.Health, .int .u8 v31.Players.1.Cool, .int .u8 v31.Players.1.Face, .int .i32 v31.Players.2.X, .int .i32 v31.Players.2.Y, .int .i32 v31.Players.2.VX, .int .i32 v31.Players.2.VY, .int .u8 v31.Players.2.Health, .int .u8 v31.Players.2.Cool, .int .u8 v31.Players.2.Face, .slice v31a0 v31n0 v31c0, .int .u16 v31.Score.1, .int .u16 v31.Score.2]) rfl rfl rfl (pSub (pCons Sel.hc (pApp Sel.ha (pApp Sel.ha (pApp Sel.ha (pCons Sel.hc (pCons Sel.hc (pCons Sel.hc (pApp Sel.ha (pApp Sel.ha (pCons Sel.hc (pApp Sel.ha pNil)))))))))))) (val_load tt_ok rfl (List.Mem.tail _ (mR (mR (mR (List.Mem.tail _ (List.Mem.tail _ (List.Mem.head _))))))) rfl) rfl ?_
  replace h := bsome h; obtain ⟨⟨o61_0, v61⟩, x61, h⟩ := h; try dsimp only at h
  refine k_cs rfl rfl rfl Tryd.call39 rfl rfl rfl (s_sp (k_ring_Ring_Put (p0 := p0_5) (p1 := v31) p0_5G0 p0_5A0 v31N0 (vec_cap v31V0) (own_Z v31V0) x61) (pCons (Sel.sc (Sel.sa (Sel.sa (Sel.sa (Sel.sc (Sel.sc (Sel.sc (Sel.sa (Sel.sa Sel.hc))))))))) (pApp (Sel.sc (Sel.sa (Sel.sa (Sel.sa (Sel.sc (Sel.sc (Sel.sc (Sel.sa (Sel.sa Sel.ha))))))))) pNil)) (fun w hI => ⟨(Rds.call (Rds.of_vec v31V0) (pCons (Sel.sc (Sel.sa (Sel.sa (Sel.sa (Sel.sc (Sel.sc (Sel.sc (Sel.sa (Sel.sa Sel.hc))))))))) (pApp (Sel.sc (Sel.sa (Sel.sa (Sel.sa (Sel.sc (Sel.sc (Sel.sc (Sel.sa (Sel.sa Sel.ha))))))))) pNil)) ⟨_, (Sel.sc (Sel.sa (Sel.sa Sel.ha)))⟩) w hI, (Rds.call G0S (pCons (Sel.sc (Sel.sa (Sel.sa (Sel.sa (Sel.sc (Sel.sc (Sel.sc (Sel.sa (Sel.sa Sel.hc))))))))) (pApp (Sel.sc (Sel.sa (Sel.sa (Sel.sa (Sel.sc (Sel.sc (Sel.sc (Sel.sa (Sel.sa Sel.ha))))))))) pNil)) rsub_nil) w hI, (Rds.call G1S (pCons (Sel.sc (Sel.sa (Sel.sa (Sel.sa (Sel.sc (Sel.sc (Sel.sc (Sel.sa (Sel.sa Sel.hc))))))))) (pApp (Sel.sc (Sel.sa (Sel.sa (Sel.sa (Sel.sc (Sel.sc (Sel.sc (Sel.sa (Sel.sa Sel.ha))))))))) pNil)) rsub_nil) w hI⟩)) rfl (.inl rfl) ?_
  rintro _ _ ⟨_, ⟨o61_0g0, o61_0P0, o61_0G0, o61_0A0, rfl, rfl⟩, rfl⟩
  refine k_end (by kernel_rfl) ?_
  refine wx_then (wc_seq (wc_region ?_))
  refine wl_val (v := .agg #[.int .u8 v10_0.1, .int .u8 v10_0.2]) (val_load tt_ok rfl (List.Mem.tail _ (mR (List.Mem.tail _ (mR (mR (mR (List.Mem.head _))))))) rfl) rfl ?_
  apply wl_store tt_ok; rfl; exact (Upd.there (Upd.right (Upd.there (Upd.right (Upd.right (Upd.right (Upd.there Upd.here))))))); rfl; rfl; rfl; rfl; rfl; rfl
  refine wl_pure tt_ok rfl rfl ?_
  refine wl_nil (wx_then (wc_ret ?_))
  simp only [Option.some.injEq, Prod.mk.injEq] at h
  obtain ⟨rfl, rfl, rfl, rfl, rfl⟩ := h
  exact wx_spD tt_ok (.inl rfl) Tryd.results14 (Res.cell rfl (List.Mem.tail _ (mR (List.Mem.tail _ (mR (mR (mR (List.Mem.tail _ (List.Mem.head _)))))))) rfl (Res.tmp rfl Res.nil)) ⟨v31a0, v31n0, v31c0, v31B0, v40a0, v40n0, v40c0, v40B0, o52_0a0, o52_0n0, o52_0c0, o52_0B0, o61_0g0, o61_0P0, v31N0, v31V0, v40N0, v40V0, o52_0N0, o52_0V0, o61_0G0, o61_0A0, rfl, rfl⟩ (fun F => by simp) (pSub (pCons (Sel.sc (Sel.sa (Sel.sc (Sel.sa (Sel.sa (Sel.sa (Sel.sc (Sel.sc Sel.hc)))))))) (pApp (Sel.sc (Sel.sa (Sel.sc (Sel.sa (Sel.sa Sel.ha))))) (pApp (Sel.sc (Sel.sa (Sel.sc (Sel.sa Sel.ha)))) (pCons (Sel.sc (Sel.sa Sel.hc)) (pApp (Sel.sc (Sel.sa Sel.ha)) (pCons Sel.hc (pApp Sel.ha pNil))))))))

theorem k_fold_History_At {F : Nat} {p0 : T_fold_History} {p0b p0t : Nat} {p1 : Int} {r0 : (Int × Int)} {r1 : Bool} (h : m_fold_History_At F p0 p1 = some (r0, r1)) :
    Rd2 Tryd.prog 30 [.pointer (some ⟨p0b, 0, none⟩), .int .u64 p1] (⟨p0b, ([.int .u64 p0.from_, .int .u64 p0.count, .int .u64 p0.most] ++ flat (e2 .u8) p0.ring.1), p0t, (0, 0)⟩ :: []) (fun w => True) (.tuple #[.agg #[.int .u8 r0.1, .int .u8 r0.2], .bool r1]) := by
  unfold m_fold_History_At at h
  refine sp_of_wc Tryd.func30 rfl Tryd.ntmps30 rfl rfl (fun w0 hR => ?_)
  refine wc_seq (wc_region ?_)
  refine wl_alloc tt_ok rfl rfl (fun b4 => ?_)
  refine wl_pure tt_ok rfl rfl ?_
  refine wl_nil (wx_then (wc_seq (wc_seq (wc_region ?_))))
  refine wl_pure tt_ok rfl rfl ?_
  replace h := bsome h; obtain ⟨v7, x7, h⟩ := h
  refine wl_cq Tryd.call27 rfl rfl rfl (q_rd (k_fold_History_is x7) (pCons (Sel.sc Sel.hc) pNil) (fun _ _ => trivial)) rfl ?_
  refine wl_pure tt_ok rfl rfl ?_
  replace h := bsome h; obtain ⟨v15, h, hg15⟩ := h
  refine wl_split (t := 8) rfl (fun hc => ?_) (fun hc => ?_)
  · replace h := ct hc h
    refine wl_run rfl ?_
    refine wl_pure tt_ok rfl rfl ?_
    refine wl_run rfl ?_
    refine wl_pure tt_ok rfl rfl ?_
    refine wl_run rfl ?_
    refine wl_pure tt_ok rfl rfl ?_
    refine wl_run rfl ?_
    refine wl_pure (v := .pointer (some ⟨p0b, 0, none⟩)) tt_ok rfl rfl ?_
    refine wl_run rfl ?_
    refine wl_val (v := .int .u64 p0.from_) (val_load tt_ok rfl (List.Mem.tail _ (List.Mem.head _)) rfl) rfl ?_
    refine wl_run rfl ?_
    refine wl_pure (v := .bool (decide (p0.from_ ≤ p1))) tt_ok rfl rfl ?_
    simp only [Option.some.injEq, Prod.mk.injEq] at h
    obtain rfl := h
    have h := hg15; clear hg15
    refine wl_pure (v := .bool (decide (p0.from_ ≤ p1))) tt_ok rfl rfl ?_
    refine wl_pure tt_ok rfl rfl ?_
    replace h := bsome h; obtain ⟨v23, h, hg23⟩ := h
    refine wl_split (t := 16) rfl (fun hc => ?_) (fun hc => ?_)
    · replace h := ct hc h
      refine wl_run rfl ?_
      refine wl_pure tt_ok rfl rfl ?_
      refine wl_run rfl ?_
      refine wl_pure tt_ok rfl rfl ?_
      refine wl_run rfl ?_
      refine wl_pure tt_ok rfl rfl ?_
      refine wl_run rfl ?_
      refine wl_pure (v := .pointer (some ⟨p0b, 1, none⟩)) tt_ok rfl rfl ?_
      refine wl_run rfl ?_
      refine wl_val (v := .int .u64 p0.count) (val_load tt_ok rfl (List.Mem.tail _ (List.Mem.head _)) rfl) rfl ?_
      refine wl_run rfl ?_
      refine wl_pure (v := .bool (decide (p1 < p0.count))) tt_ok rfl rfl ?_
      simp only [Option.some.injEq, Prod.mk.injEq] at h
      obtain rfl := h
      have h := hg23; clear hg23
      refine wl_pure (v := .bool (decide (p1 < p0.count))) tt_ok rfl rfl ?_
      refine wl_pure tt_ok rfl rfl ?_
      refine wl_nil (wx_then (wc_seq (wc_region ?_)))
      refine wl_pure tt_ok rfl rfl ?_
      refine wl_nil (wx_then ?_)
      refine wc_cond rfl (fun hc => ?_) (fun hc => ?_)
      · replace h := ct hc h
        refine wc_region ?_
        iterate 2 refine wl_pure tt_ok rfl rfl ?_
        refine wl_pure (v := .int .u64 (Int.tmod p1 256)) tt_ok rfl rfl ?_
        refine wl_pure tt_ok rfl rfl ?_
        refine wl_pure (v := .pointer (some ⟨p0b, 3, none⟩)) tt_ok rfl rfl ?_
        replace h := bsome h; obtain ⟨v30, x30, h⟩ := h
        refine wl_val (v := .pointer (some ⟨p0b, 3 + (Int.tmod p1 256).toNat * 2 + 0, none⟩)) (val_xa (a := p0.ring) tt_ok rfl rfl rfl rfl x30) rfl ?_
        refine wl_val (v := .agg #[.int .u8 v30.1, .int .u8 v30.2]) (val_xl (enc := (e2 .u8)) (pre := [.int .u64 p0.from_, .int .u64 p0.count, .int .u64 p0.most]) (post := []) (xs := p0.ring.1) tt_ok rfl (List.Mem.tail _ (List.Mem.head _)) c_np rfl (e2_len _) x30 rfl) rfl ?_
        apply wl_store tt_ok; rfl; exact Upd.here; rfl; rfl; rfl; rfl; rfl; rfl
        refine wl_nil (wx_then (wc_ret ?_))
        simp only [Option.some.injEq, Prod.mk.injEq] at h
        obtain ⟨rfl, rfl⟩ := h
        exact wx_rd tt_ok (.inl rfl) Tryd.results30 (Res.cell rfl (List.Mem.head _) rfl (Res.tmp rfl Res.nil)) (pSub (pCons (Sel.sc Sel.hc) pNil)) rfl
      replace h := cf hc h
      refine wc_skip (wx_then (wc_ret ?_))
      simp only [Option.some.injEq, Prod.mk.injEq] at h
      obtain ⟨rfl, rfl⟩ := h
      exact wx_rd tt_ok (.inl rfl) Tryd.results30 (Res.cell rfl (List.Mem.head _) rfl (Res.tmp rfl Res.nil)) (pSub (pCons (Sel.sc Sel.hc) pNil)) rfl
    replace h := cf hc h
    refine wl_skip rfl rfl ?_
    refine wl_skip rfl rfl ?_
    refine wl_skip rfl rfl ?_
    refine wl_skip rfl rfl ?_
    refine wl_skip rfl rfl ?_
    refine wl_skip rfl rfl ?_
    simp only [Option.some.injEq, Prod.mk.injEq] at h
    obtain rfl := h
    have h := hg23; clear hg23
    refine wl_pure (v := .bool false) tt_ok rfl rfl ?_
    refine wl_pure tt_ok rfl rfl ?_
    refine wl_nil (wx_then (wc_seq (wc_region ?_)))
    refine wl_pure tt_ok rfl rfl ?_
    refine wl_nil (wx_then ?_)
    replace h := cf rfl h
    refine wc_cond_false rfl ?_
    refine wc_skip (wx_then (wc_ret ?_))
    simp only [Option.some.injEq, Prod.mk.injEq] at h
    obtain ⟨rfl, rfl⟩ := h
    exact wx_rd tt_ok (.inl rfl) Tryd.results30 (Res.cell rfl (List.Mem.head _) rfl (Res.tmp rfl Res.nil)) (pSub (pCons (Sel.sc Sel.hc) pNil)) rfl
  replace h := cf hc h
  refine wl_skip rfl rfl ?_
  refine wl_skip rfl rfl ?_
  refine wl_skip rfl rfl ?_
  refine wl_skip rfl rfl ?_
  refine wl_skip rfl rfl ?_
  refine wl_skip rfl rfl ?_
  simp only [Option.some.injEq, Prod.mk.injEq] at h
  obtain rfl := h
  have h := hg15; clear hg15
  refine wl_pure (v := .bool false) tt_ok rfl rfl ?_
  refine wl_pure tt_ok rfl rfl ?_
  replace h := bsome h; obtain ⟨v23, h, hg23⟩ := h
  replace h := cf rfl h
  refine wl_skip rfl rfl ?_
  refine wl_skip rfl rfl ?_
  refine wl_skip rfl rfl ?_
  refine wl_skip rfl rfl ?_
  refine wl_skip rfl rfl ?_
  refine wl_skip rfl rfl ?_
  simp only [Option.some.injEq, Prod.mk.injEq] at h
  obtain rfl := h
  have h := hg23; clear hg23
  refine wl_pure (v := .bool false) tt_ok rfl rfl ?_
  refine wl_pure tt_ok rfl rfl ?_
  refine wl_nil (wx_then (wc_seq (wc_region ?_)))
  refine wl_pure tt_ok rfl rfl ?_
  refine wl_nil (wx_then ?_)
  replace h := cf rfl h
  refine wc_cond_false rfl ?_
  refine wc_skip (wx_then (wc_ret ?_))
  simp only [Option.some.injEq, Prod.mk.injEq] at h
  obtain ⟨rfl, rfl⟩ := h
  exact wx_rd tt_ok (.inl rfl) Tryd.results30 (Res.cell rfl (List.Mem.head _) rfl (Res.tmp rfl Res.nil)) (pSub (pCons (Sel.sc Sel.hc) pNil)) rfl

theorem k_fold_History_Slice {F : Nat} {p0 : T_fold_History} {p0b p0t : Nat} {p1 : Int} {p2 : Int} {r0 : (List (Int × Int))} (h : m_fold_History_Slice F p0 p1 p2 = some r0) :
    SpD Tryd.prog 12 [.pointer (some ⟨p0b, 0, none⟩), .int .u64 p1, .int .i64 p2] (⟨p0b, ([.int .u64 p0.from_, .int .u64 p0.count, .int .u64 p0.most] ++ flat (e2 .u8) p0.ring.1), p0t, (0, 0)⟩ :: []) (fun w => True) (fun v D => ∃ (r0a0 : Option Addr) (r0n0 : Nat) (r0c0 : Nat) (r0B0 : List Blk), r0n0 = r0.length ∧ Own 36 2 r0a0 r0n0 r0c0 (flat (e2 .u8) r0) r0B0 ∧ v = .slice r0a0 r0n0 r0c0 ∧ D = fun F => (⟨p0b, ([.int .u64 p0.from_, .int .u64 p0.count, .int .u64 p0.most] ++ flat (e2 .u8) p0.ring.1), p0t, (0, 0)⟩ :: (r0B0 ++ F))) := by
  unfold m_fold_History_Slice at h
  refine sp_of_wc Tryd.func12 rfl Tryd.ntmps12 rfl rfl (fun w0 hR => ?_)
  refine wc_seq (wc_region ?_)
  refine wl_pure tt_ok rfl rfl ?_
  refine wl_nil (wx_then (wc_seq (wc_seq (wc_region ?_))))
  iterate 2 refine wl_pure tt_ok rfl rfl ?_
  refine wl_nil (wx_then (wc_block ?_))
  replace h := bsome h; obtain ⟨l7_6, h, hl7⟩ := h
  refine wc_loop (fun m E L => ∃ (j7_1 : Int) (j7_6 : (List (Int × Int))) (j7_10 : Int) (j7_6a0 : Option Addr) (j7_6n0 : Nat) (j7_6c0 : Nat) (j7_6B0 : List Blk), m_fold_History_Slice_L6 F p0 p2 m j7_1 j7_6 j7_10 = some l7_6 ∧ j7_6n0 = j7_6.length ∧ Own 36 2 j7_6a0 j7_6n0 j7_6c0 (flat (e2 .u8) j7_6) j7_6B0 ∧ E = [(0, .pointer (some ⟨p0b, 0, none⟩)), (1, .int .u64 j7_1), (6, .slice j7_6a0 j7_6n0 j7_6c0), (9, .int .i64 p2), (10, .int .i64 j7_10)] ∧ L = (⟨p0b, ([.int .u64 p0.from_, .int .u64 p0.count, .int .u64 p0.most] ++ flat (e2 .u8) p0.ring.1), p0t, (0, 0)⟩ :: (j7_6B0 ++ []))) F ⟨p1, ([] : List (Int × Int)), (0 : Int), none, 0, 0, [], h, rfl, Own.zero, rfl, rfl⟩ (agree_cons rfl (agree_cons rfl (agree_cons rfl (agree_cons rfl (agree_cons rfl agree_nil))))) (pSub (pCons Sel.hc (pNo pNil))) ?_
  clear h
  rintro m7 _ _ ⟨j7_1, j7_6, j7_10, j7_6a0, j7_6n0, j7_6c0, j7_6B0, h, j7_6N0, j7_6V0, rfl, rfl⟩
  rcases m7 with _ | m7
  · rw [m_fold_History_Slice_L6.eq_1] at h; cases h
  rw [m_fold_History_Slice_L6.eq_2] at h
  refine wc_seq (wc_region ?_)
  refine wl_pure (v := .bool (decide (j7_10 < p2))) tt_ok rfl rfl ?_
  refine wl_nil (wx_then (wc_seq ?_))
  refine wc_cond rfl (fun hc => ?_) (fun hc => ?_)
  · replace h := ct hc h
    refine wc_skip (wx_then (wc_seq (wc_block (wc_seq (wc_region ?_)))))
    iterate 2 refine wl_pure tt_ok rfl rfl ?_
    replace h := bsome h; obtain ⟨⟨v15_0, v15_1⟩, x15, h⟩ := h; try dsimp only at h
    refine wl_cq Tryd.call30 rfl rfl rfl (q_rd (k_fold_History_At x15) (pCons Sel.hc pNil) (fun _ _ => trivial)) rfl ?_
    iterate 3 refine wl_pure tt_ok rfl rfl ?_
    refine wl_alloc tt_ok rfl rfl (fun b7 => ?_)
    apply wl_store tt_ok; rfl; exact Upd.here; rfl; rfl; rfl; rfl; rfl; rfl
    refine wl_pure tt_ok rfl rfl ?_
    refine wl_nil (wx_then (wc_seq (wc_seq (wc_region ?_))))
    refine wl_pure tt_ok rfl rfl ?_
    refine wl_pure (v := .bool (!v15_1)) tt_ok rfl rfl ?_
    refine wl_nil (wx_then ?_)
    refine wc_cond rfl (fun hc => ?_) (fun hc => ?_)
    · replace h := ct hc h
      refine wc_exit (wx_then_exit ?_)
      refine wx_block_other (by rfl) ?_
      refine wx_then_exit ?_
      simp only [Option.some.injEq] at h
      obtain rfl := h
      have h := hl7; clear hl7; try dsimp only [orE_l, orE_r] at h
      refine wx_then_exit (wx_block_exit (wx_then (wc_ret ?_)))
      simp only [Option.some.injEq] at h
      obtain rfl := h
      exact wx_spD tt_ok (.inl rfl) Tryd.results12 (Res.tmp rfl Res.nil) ⟨j7_6a0, j7_6n0, j7_6c0, j7_6B0, j7_6N0, j7_6V0, rfl, rfl⟩ (fun F => by simp) (pSub (pCons (Sel.sc Sel.hc) (pApp (Sel.sc Sel.ha) pNil)))
    replace h := cf hc h
    refine wc_skip (wx_then (wc_seq (wc_region ?_)))
    refine wl_pure tt_ok rfl rfl ?_
    refine wl_val (v := .agg #[.int .u8 v15_0.1, .int .u8 v15_0.2]) (val_load tt_ok rfl (List.Mem.head _) rfl) rfl ?_
    refine wl_chg (chg_bsv (enc := (e2 .u8)) (xs := ([v15_0] : List (Int × Int))) tt_ok rfl rfl rfl rfl rfl rfl rfl rfl (e2_len _)) rfl ?_
    rintro _ _ ⟨a22, n22_, c22, B22, rfl, N22, V22, rfl⟩
    replace h := bsome h; obtain ⟨v23, x23, h⟩ := h
    refine wl_chg (chg_app (enc := (e2 .u8)) (ys := ([v15_0] : List (Int × Int))) tt_ok rfl rfl rfl rfl rfl rfl j7_6N0 N22 j7_6V0 (Sel.sa (Sel.sc (Sel.sc Sel.ha))) (Rds.of_vec V22) ⟨_, Sel.ha⟩ (e2_len _) (fun _ => rfl) rfl x23) rfl ?_
    rintro _ _ ⟨a23, n23_, c23, B23, rfl, N23, V23, rfl⟩
    refine wl_pure tt_ok rfl rfl ?_
    refine wl_nil (wx_then (wc_region ?_))
    refine wl_pure tt_ok rfl rfl ?_
    refine wl_pure (v := .int .u64 (IntKind.wrap .u64 (j7_1 + (1 : Int)))) tt_ok rfl rfl ?_
    refine wl_pure tt_ok rfl rfl ?_
    refine wl_nil (wx_block (wx_then (wc_region ?_)))
    refine wl_pure (v := .int .i64 (IntKind.wrap .i64 (j7_10 + (1 : Int)))) tt_ok rfl rfl ?_
    refine wl_pure tt_ok rfl rfl ?_
    refine wl_nil ?_
    exact wx_round m7 (Nat.lt_succ_self m7) ⟨(IntKind.wrap .u64 (j7_1 + (1 : Int))), v23, (IntKind.wrap .i64 (j7_10 + (1 : Int))), a23, n23_, c23, B23, h, N23, V23, rfl, rfl⟩ (agree_cons rfl (agree_cons rfl (agree_cons rfl (agree_cons rfl (agree_cons rfl agree_nil))))) (pSub (pCons (Sel.sa (Sel.sa (Sel.sc Sel.hc))) (pApp Sel.ha pNil)))
  replace h := cf hc h
  refine wc_exit (wx_then_exit ?_)
  simp only [Option.some.injEq] at h
  obtain rfl := h
  have h := hl7; clear hl7; try dsimp only [orE_l, orE_r] at h
  refine wx_then_exit (wx_block_exit (wx_then (wc_ret ?_)))
  simp only [Option.some.injEq] at h
  obtain rfl := h
  exact wx_spD tt_ok (.inl rfl) Tryd.results12 (Res.tmp rfl Res.nil) ⟨j7_6a0, j7_6n0, j7_6c0, j7_6B0, j7_6N0, j7_6V0, rfl, rfl⟩ (fun F => by simp) (pSub (pCons Sel.hc (pApp Sel.ha pNil)))

theorem k_backfill_Plan {F : Nat} {p0 : T_fold_History} {p0b p0t : Nat} {p1 : Int} {r0 : Int} {r1 : Int} (h : m_backfill_Plan F p0 p1 = some (r0, r1)) :
    Rd2 Tryd.prog 10 [.pointer (some ⟨p0b, 0, none⟩), .int .u64 p1] (⟨p0b, ([.int .u64 p0.from_, .int .u64 p0.count, .int .u64 p0.most] ++ flat (e2 .u8) p0.ring.1), p0t, (0, 0)⟩ :: []) (fun w => True) (.tuple #[.int .u64 r0, .int .i64 r1]) := by
  unfold m_backfill_Plan at h
  refine sp_of_wc Tryd.func10 rfl Tryd.ntmps10 rfl rfl (fun w0 hR => ?_)
  refine wc_seq (wc_region ?_)
  iterate 2 refine wl_pure tt_ok rfl rfl ?_
  refine wl_nil (wx_then (wc_seq (wc_seq (wc_region ?_))))
  iterate 2 refine wl_pure tt_ok rfl rfl ?_
  replace h := bsome h; obtain ⟨v8, x8, h⟩ := h
  refine wl_cs Tryd.call12 rfl rfl rfl (s_sp (k_fold_History_Slice x8) (pCons Sel.hc pNil) (fun _ _ => trivial)) rfl ?_
  rintro _ _ ⟨_, ⟨v8a0, v8n0, v8c0, v8B0, v8N0, v8V0, rfl, rfl⟩, rfl⟩
  refine wl_val (v := .int .i64 (v8.length : Int)) (val_len tt_ok rfl rfl v8N0) rfl ?_
  refine wl_pure tt_ok rfl rfl ?_
  refine wl_nil (wx_then (wc_seq (wc_region ?_)))
  refine wl_pure tt_ok rfl rfl ?_
  refine wl_pure (v := .bool ((v8.length : Int) == (0 : Int))) tt_ok rfl rfl ?_
  refine wl_nil (wx_then ?_)
  refine wc_cond rfl (fun hc => ?_) (fun hc => ?_)
  · replace h := ct hc h
    refine wc_seq (wc_region ?_)
    iterate 2 refine wl_pure tt_ok rfl rfl ?_
    refine wl_nil (wx_then (wc_ret (wx_then_ret ?_)))
    simp only [Option.some.injEq, Prod.mk.injEq] at h
    obtain ⟨rfl, rfl⟩ := h
    exact wx_rd tt_ok (.inl rfl) Tryd.results10 (Res.tmp rfl (Res.tmp rfl Res.nil)) (pSub (pCons Sel.hc pNil)) rfl
  replace h := cf hc h
  refine wc_skip (wx_then (wc_seq (wc_region ?_)))
  iterate 4 refine wl_pure tt_ok rfl rfl ?_
  refine wl_nil (wx_then (wc_ret ?_))
  simp only [Option.some.injEq, Prod.mk.injEq] at h
  obtain ⟨rfl, rfl⟩ := h
  exact wx_rd tt_ok (.inl rfl) Tryd.results10 (Res.tmp rfl (Res.tmp rfl Res.nil)) (pSub (pCons Sel.hc pNil)) rfl

theorem k_rollback_Engine_C {F : Nat} {p0 : T_rollback_Engine} {p0b p0t : Nat} {p0a0 : Option Addr} {p0n0 : Nat} {p0c0 : Nat} {p0B0 : List Blk} {p0a1 : Option Addr} {p0n1 : Nat} {p0c1 : Nat} {p0B1 : List Blk} {p0_4 : T_queue_Queue} {p0_4b p0_4t : Nat} {p0_4a0 : Option Addr} {p0_4n0 : Nat} {p0_4c0 : Nat} {p0_4B0 : List Blk} {p0_5 : T_ring_Ring} {p0_5b p0_5t : Nat} {p0_5g0 : List (T_ring_place × G)} {p0_5P0 : List Blk} {r0 : Int} (p0N0 : p0n0 = p0.sure.Shots.length) (p0V0 : Own 92 6 p0a0 p0n0 p0c0 (flat c_T_api_Shot p0.sure.Shots) p0B0) (p0N1 : p0n1 = p0.own.length) (p0V1 : Own 34 1 p0a1 p0n1 p0c1 (flat (e1 .u8) p0.own) p0B1) (p0_4N0 : p0_4n0 = p0_4.l.length) (p0_4V0 : Own 34 1 p0_4a0 p0_4n0 p0_4c0 (flat (e1 .u8) p0_4.l) p0_4B0) (p0_5G0 : p0_5.places.1 = unG p0_5g0) (p0_5A0 : AllP sh_T_ring_place c_T_api_Shot p0_5P0 p0_5g0) (h : m_rollback_Engine_C F p0 p0_4 p0_5 = some r0) :
    Rd2 Tryd.prog 11 [.pointer (some ⟨p0b, 0, none⟩)] (⟨p0b, [.int .u8 p0.player, .int .i64 p0.window, .int .u64 p0.sure.Frame, .int .u64 p0.sure.Seed, .int .i32 p0.sure.Players.1.X, .int .i32 p0.sure.Players.1.Y, .int .i32 p0.sure.Players.1.VX, .int .i32 p0.sure.Players.1.VY, .int .u8 p0.sure.Players.1.Health, .int .u8 p0.sure.Players.1.Cool, .int .u8 p0.sure.Players.1.Face, .int .i32 p0.sure.Players.2.X, .int .i32 p0.sure.Players.2.Y, .int .i32 p0.sure.Players.2.VX, .int .i32 p0.sure.Players.2.VY, .int .u8 p0.sure.Players.2.Health, .int .u8 p0.sure.Players.2.Cool, .int .u8 p0.sure.Players.2.Face, .slice p0a0 p0n0 p0c0, .int .u16 p0.sure.Score.1, .int .u16 p0.sure.Score.2, .slice p0a1 p0n1 p0c1, .pointer (some ⟨p0_4b, 0, none⟩), .pointer (some ⟨p0_5b, 0, none⟩)], p0t, (0, 0)⟩ :: (p0B0 ++ (p0B1 ++ (⟨p0_4b, [.int .u64 p0_4.first_, .slice p0_4a0 p0_4n0 p0_4c0, .int .u8 p0_4.last], p0_4t, (0, 0)⟩ :: (p0_4B0 ++ (⟨p0_5b, ([.int .i64 p0_5.size] ++ flat cg_T_ring_place p0_5g0), p0_5t, (0, 0)⟩ :: (p0_5P0 ++ []))))))) (fun w => True) (.int .u64 r0) := by
  unfold m_rollback_Engine_C at h
  refine sp_of_wc Tryd.func11 rfl Tryd.ntmps11 rfl rfl (fun w0 hR => ?_)
  refine wc_seq (wc_region ?_)
  refine wl_pure tt_ok rfl rfl ?_
  refine wl_nil (wx_then (wc_seq (wc_seq (wc_region ?_))))
  refine wl_pure tt_ok rfl rfl ?_
  replace h := bsome h; obtain ⟨v4, x4, h⟩ := h
  refine wl_cq Tryd.call29 rfl rfl rfl (q_rd (k_rollback_Engine_is (p0 := p0) (p0_4 := p0_4) (p0_5 := p0_5) p0N0 p0V0 p0N1 p0V1 p0_4N0 p0_4V0 p0_5G0 p0_5A0 x4) (pCons Sel.hc (pApp Sel.ha (pApp Sel.ha (pCons Sel.hc (pApp Sel.ha (pCons Sel.hc (pApp Sel.ha pNil))))))) (fun _ _ => trivial)) rfl ?_
  refine wl_pure (v := .bool (!v4)) tt_ok rfl rfl ?_
  refine wl_nil (wx_then ?_)
  refine wc_cond rfl (fun hc => ?_) (fun hc => ?_)
  · replace h := ct hc h
    refine wc_seq (wc_region ?_)
    refine wl_pure tt_ok rfl rfl ?_
    refine wl_nil (wx_then (wc_ret (wx_then_ret ?_)))
    simp only [Option.some.injEq] at h
    obtain rfl := h
    exact wx_rd tt_ok (.inl rfl) Tryd.results11 (Res.tmp rfl Res.nil) (pSub (pCons Sel.hc (pApp Sel.ha (pApp Sel.ha (pCons Sel.hc (pApp Sel.ha (pCons Sel.hc (pApp Sel.ha pNil)))))))) rfl
  replace h := cf hc h
  refine wc_skip (wx_then (wc_seq (wc_region ?_)))
  iterate 2 refine wl_pure tt_ok rfl rfl ?_
  refine wl_pure (v := .pointer (some ⟨p0b, 2, none⟩)) tt_ok rfl rfl ?_
  refine wl_pure (v := .pointer (some ⟨p0b, 2, none⟩)) tt_ok rfl rfl ?_
  refine wl_val (v := .int .u64 p0.sure.Frame) (val_load tt_ok rfl (List.Mem.head _) rfl) rfl ?_
  refine wl_pure tt_ok rfl rfl ?_
  refine wl_nil (wx_then (wc_ret ?_))
  simp only [Option.some.injEq] at h
  obtain rfl := h
  exact wx_rd tt_ok (.inl rfl) Tryd.results11 (Res.tmp rfl Res.nil) (pSub (pCons Sel.hc (pApp Sel.ha (pApp Sel.ha (pCons Sel.hc (pApp Sel.ha (pCons Sel.hc (pApp Sel.ha pNil)))))))) rfl

theorem k_rollback_Engine_Own {F : Nat} {p0 : T_rollback_Engine} {p0b p0t : Nat} {p0a0 : Option Addr} {p0n0 : Nat} {p0c0 : Nat} {p0B0 : List Blk} {p0a1 : Option Addr} {p0n1 : Nat} {p0c1 : Nat} {p0B1 : List Blk} {p0_4 : T_queue_Queue} {p0_4b p0_4t : Nat} {p0_4a0 : Option Addr} {p0_4n0 : Nat} {p0_4c0 : Nat} {p0_4B0 : List Blk} {p0_5 : T_ring_Ring} {p0_5b p0_5t : Nat} {p0_5g0 : List (T_ring_place × G)} {p0_5P0 : List Blk} {r0 : (List Int)} (p0N0 : p0n0 = p0.sure.Shots.length) (p0V0 : Own 92 6 p0a0 p0n0 p0c0 (flat c_T_api_Shot p0.sure.Shots) p0B0) (p0N1 : p0n1 = p0.own.length) (p0V1 : Own 34 1 p0a1 p0n1 p0c1 (flat (e1 .u8) p0.own) p0B1) (p0_4N0 : p0_4n0 = p0_4.l.length) (p0_4V0 : Own 34 1 p0_4a0 p0_4n0 p0_4c0 (flat (e1 .u8) p0_4.l) p0_4B0) (p0_5G0 : p0_5.places.1 = unG p0_5g0) (p0_5A0 : AllP sh_T_ring_place c_T_api_Shot p0_5P0 p0_5g0) (h : m_rollback_Engine_Own F p0 p0_4 p0_5 = some r0) :
    SpD Tryd.prog 34 [.pointer (some ⟨p0b, 0, none⟩)] (⟨p0b, [.int .u8 p0.player, .int .i64 p0.window, .int .u64 p0.sure.Frame, .int .u64 p0.sure.Seed, .int .i32 p0.sure.Players.1.X, .int .i32 p0.sure.Players.1.Y, .int .i32 p0.sure.Players.1.VX, .int .i32 p0.sure.Players.1.VY, .int .u8 p0.sure.Players.1.Health, .int .u8 p0.sure.Players.1.Cool, .int .u8 p0.sure.Players.1.Face, .int .i32 p0.sure.Players.2.X, .int .i32 p0.sure.Players.2.Y, .int .i32 p0.sure.Players.2.VX, .int .i32 p0.sure.Players.2.VY, .int .u8 p0.sure.Players.2.Health, .int .u8 p0.sure.Players.2.Cool, .int .u8 p0.sure.Players.2.Face, .slice p0a0 p0n0 p0c0, .int .u16 p0.sure.Score.1, .int .u16 p0.sure.Score.2, .slice p0a1 p0n1 p0c1, .pointer (some ⟨p0_4b, 0, none⟩), .pointer (some ⟨p0_5b, 0, none⟩)], p0t, (0, 0)⟩ :: (p0B0 ++ (p0B1 ++ (⟨p0_4b, [.int .u64 p0_4.first_, .slice p0_4a0 p0_4n0 p0_4c0, .int .u8 p0_4.last], p0_4t, (0, 0)⟩ :: (p0_4B0 ++ (⟨p0_5b, ([.int .i64 p0_5.size] ++ flat cg_T_ring_place p0_5g0), p0_5t, (0, 0)⟩ :: (p0_5P0 ++ []))))))) (fun w => True) (fun v D => ∃ (r0a0 : Option Addr) (r0n0 : Nat) (r0c0 : Nat) (r0B0 : List Blk), r0n0 = r0.length ∧ Own 34 1 r0a0 r0n0 r0c0 (flat (e1 .u8) r0) r0B0 ∧ v = .slice r0a0 r0n0 r0c0 ∧ D = fun F => (⟨p0b, [.int .u8 p0.player, .int .i64 p0.window, .int .u64 p0.sure.Frame, .int .u64 p0.sure.Seed, .int .i32 p0.sure.Players.1.X, .int .i32 p0.sure.Players.1.Y, .int .i32 p0.sure.Players.1.VX, .int .i32 p0.sure.Players.1.VY, .int .u8 p0.sure.Players.1.Health, .int .u8 p0.sure.Players.1.Cool, .int .u8 p0.sure.Players.1.Face, .int .i32 p0.sure.Players.2.X, .int .i32 p0.sure.Players.2.Y, .int .i32 p0.sure.Players.2.VX, .int .i32 p0.sure.Players.2.VY, .int .u8 p0.sure.Players.2.Health, .int .u8 p0.sure.Players.2.Cool, .int .u8 p0.sure.Players.2.Face, .slice p0a0 p0n0 p0c0, .int .u16 p0.sure.Score.1, .int .u16 p0.sure.Score.2, .slice p0a1 p0n1 p0c1, .pointer (some ⟨p0_4b, 0, none⟩), .pointer (some ⟨p0_5b, 0, none⟩)], p0t, (0, 0)⟩ :: (p0B0 ++ (p0B1 ++ (⟨p0_4b, [.int .u64 p0_4.first_, .slice p0_4a0 p0_4n0 p0_4c0, .int .u8 p0_4.last], p0_4t, (0, 0)⟩ :: (p0_4B0 ++ (⟨p0_5b, ([.int .i64 p0_5.size] ++ flat cg_T_ring_place p0_5g0), p0_5t, (0, 0)⟩ :: (p0_5P0 ++ (r0B0 ++ F))))))))) := by
  unfold m_rollback_Engine_Own at h
  refine sp_of_wc Tryd.func34 rfl Tryd.ntmps34 rfl rfl (fun w0 hR => ?_)
  refine wc_seq (wc_region ?_)
  refine wl_pure tt_ok rfl rfl ?_
  refine wl_nil (wx_then (wc_seq (wc_seq (wc_region ?_))))
  refine wl_pure tt_ok rfl rfl ?_
  replace h := bsome h; obtain ⟨v4, x4, h⟩ := h
  refine wl_cq Tryd.call29 rfl rfl rfl (q_rd (k_rollback_Engine_is (p0 := p0) (p0_4 := p0_4) (p0_5 := p0_5) p0N0 p0V0 p0N1 p0V1 p0_4N0 p0_4V0 p0_5G0 p0_5A0 x4) (pCons Sel.hc (pApp Sel.ha (pApp Sel.ha (pCons Sel.hc (pApp Sel.ha (pCons Sel.hc (pApp Sel.ha pNil))))))) (fun _ _ => trivial)) rfl ?_
  refine wl_pure (v := .bool (!v4)) tt_ok rfl rfl ?_
  refine wl_nil (wx_then ?_)
  refine wc_cond rfl (fun hc => ?_) (fun hc => ?_)
  · replace h := ct hc h
    refine wc_seq (wc_region ?_)
    refine wl_pure tt_ok rfl rfl ?_
    refine wl_nil (wx_then (wc_ret (wx_then_ret ?_)))
    simp only [Option.some.injEq] at h
    obtain rfl := h
    exact wx_spD tt_ok (.inl rfl) Tryd.results34 (Res.tmp rfl Res.nil) ⟨none, 0, 0, [], rfl, Own.zero, rfl, rfl⟩ (fun F => by simp) (pSub (pCons Sel.hc (pApp Sel.ha (pApp Sel.ha (pCons Sel.hc (pApp Sel.ha (pCons Sel.hc (pApp Sel.ha (pNo pNil)))))))))
  replace h := cf hc h
  refine wc_skip (wx_then (wc_seq (wc_region ?_)))
  iterate 2 refine wl_pure tt_ok rfl rfl ?_
  refine wl_pure (v := .pointer (some ⟨p0b, 21, none⟩)) tt_ok rfl rfl ?_
  refine wl_val (v := .slice p0a1 p0n1 p0c1) (val_load tt_ok rfl (List.Mem.head _) rfl) rfl ?_
  replace h := bsome h; obtain ⟨v10, x10, h⟩ := h
  refine wl_cs Tryd.call37 rfl rfl rfl (s_sp (k_slices_Clone___api_Input_api_Input (p0 := p0.own) p0N1 (vec_cap p0V1) x10) pNil (Rds.call (Rds.of_vec p0V1) pNil ⟨_, (Sel.sc (Sel.sa Sel.ha))⟩)) rfl ?_
  rintro _ _ ⟨_, ⟨v10a0, v10n0, v10c0, v10B0, v10N0, v10V0, rfl, rfl⟩, rfl⟩
  refine wl_pure tt_ok rfl rfl ?_
  refine wl_nil (wx_then (wc_ret ?_))
  simp only [Option.some.injEq] at h
  obtain rfl := h
  exact wx_spD tt_ok (.inl rfl) Tryd.results34 (Res.tmp rfl Res.nil) ⟨v10a0, v10n0, v10c0, v10B0, v10N0, v10V0, rfl, rfl⟩ (fun F => by simp) (pSub (pCons (Sel.sa Sel.hc) (pApp (Sel.sa Sel.ha) (pApp (Sel.sa Sel.ha) (pCons (Sel.sa Sel.hc) (pApp (Sel.sa Sel.ha) (pCons (Sel.sa Sel.hc) (pApp (Sel.sa Sel.ha) (pApp Sel.ha pNil)))))))))

theorem k_rollback_Engine_T {F : Nat} {p0 : T_rollback_Engine} {p0b p0t : Nat} {p0a0 : Option Addr} {p0n0 : Nat} {p0c0 : Nat} {p0B0 : List Blk} {p0a1 : Option Addr} {p0n1 : Nat} {p0c1 : Nat} {p0B1 : List Blk} {p0_4 : T_queue_Queue} {p0_4b p0_4t : Nat} {p0_4a0 : Option Addr} {p0_4n0 : Nat} {p0_4c0 : Nat} {p0_4B0 : List Blk} {p0_5 : T_ring_Ring} {p0_5b p0_5t : Nat} {p0_5g0 : List (T_ring_place × G)} {p0_5P0 : List Blk} {r0 : Int} (p0N0 : p0n0 = p0.sure.Shots.length) (p0V0 : Own 92 6 p0a0 p0n0 p0c0 (flat c_T_api_Shot p0.sure.Shots) p0B0) (p0N1 : p0n1 = p0.own.length) (p0V1 : Own 34 1 p0a1 p0n1 p0c1 (flat (e1 .u8) p0.own) p0B1) (p0_4N0 : p0_4n0 = p0_4.l.length) (p0_4V0 : Own 34 1 p0_4a0 p0_4n0 p0_4c0 (flat (e1 .u8) p0_4.l) p0_4B0) (p0_5G0 : p0_5.places.1 = unG p0_5g0) (p0_5A0 : AllP sh_T_ring_place c_T_api_Shot p0_5P0 p0_5g0) (h : m_rollback_Engine_T F p0 p0_4 p0_5 = some r0) :
    Rd2 Tryd.prog 33 [.pointer (some ⟨p0b, 0, none⟩)] (⟨p0b, [.int .u8 p0.player, .int .i64 p0.window, .int .u64 p0.sure.Frame, .int .u64 p0.sure.Seed, .int .i32 p0.sure.Players.1.X, .int .i32 p0.sure.Players.1.Y, .int .i32 p0.sure.Players.1.VX, .int .i32 p0.sure.Players.1.VY, .int .u8 p0.sure.Players.1.Health, .int .u8 p0.sure.Players.1.Cool, .int .u8 p0.sure.Players.1.Face, .int .i32 p0.sure.Players.2.X, .int .i32 p0.sure.Players.2.Y, .int .i32 p0.sure.Players.2.VX, .int .i32 p0.sure.Players.2.VY, .int .u8 p0.sure.Players.2.Health, .int .u8 p0.sure.Players.2.Cool, .int .u8 p0.sure.Players.2.Face, .slice p0a0 p0n0 p0c0, .int .u16 p0.sure.Score.1, .int .u16 p0.sure.Score.2, .slice p0a1 p0n1 p0c1, .pointer (some ⟨p0_4b, 0, none⟩), .pointer (some ⟨p0_5b, 0, none⟩)], p0t, (0, 0)⟩ :: (p0B0 ++ (p0B1 ++ (⟨p0_4b, [.int .u64 p0_4.first_, .slice p0_4a0 p0_4n0 p0_4c0, .int .u8 p0_4.last], p0_4t, (0, 0)⟩ :: (p0_4B0 ++ (⟨p0_5b, ([.int .i64 p0_5.size] ++ flat cg_T_ring_place p0_5g0), p0_5t, (0, 0)⟩ :: (p0_5P0 ++ []))))))) (fun w => True) (.int .u64 r0) := by
  unfold m_rollback_Engine_T at h
  refine sp_of_wc Tryd.func33 rfl Tryd.ntmps33 rfl rfl (fun w0 hR => ?_)
  refine wc_seq (wc_region ?_)
  refine wl_pure tt_ok rfl rfl ?_
  refine wl_nil (wx_then (wc_seq (wc_region ?_)))
  refine wl_pure tt_ok rfl rfl ?_
  replace h := bsome h; obtain ⟨v4, x4, h⟩ := h
  refine wl_cq Tryd.call11 rfl rfl rfl (q_rd (k_rollback_Engine_C (p0 := p0) (p0_4 := p0_4) (p0_5 := p0_5) p0N0 p0V0 p0N1 p0V1 p0_4N0 p0_4V0 p0_5G0 p0_5A0 x4) (pCons Sel.hc (pApp Sel.ha (pApp Sel.ha (pCons Sel.hc (pApp Sel.ha (pCons Sel.hc (pApp Sel.ha pNil))))))) (fun _ _ => trivial)) rfl ?_
  refine wl_pure tt_ok rfl rfl ?_
  replace h := bsome h; obtain ⟨v6, x6, h⟩ := h
  refine wl_cs Tryd.call34 rfl rfl rfl (s_sp (k_rollback_Engine_Own (p0 := p0) (p0_4 := p0_4) (p0_5 := p0_5) p0N0 p0V0 p0N1 p0V1 p0_4N0 p0_4V0 p0_5G0 p0_5A0 x6) (pCons Sel.hc (pApp Sel.ha (pApp Sel.ha (pCons Sel.hc (pApp Sel.ha (pCons Sel.hc (pApp Sel.ha pNil))))))) (fun _ _ => trivial)) rfl ?_
  rintro _ _ ⟨_, ⟨v6a0, v6n0, v6c0, v6B0, v6N0, v6V0, rfl, rfl⟩, rfl⟩
  refine wl_val (v := .int .i64 (v6.length : Int)) (val_len tt_ok rfl rfl v6N0) rfl ?_
  refine wl_pure (v := .int .u64 (IntKind.wrap .u64 (v6.length : Int))) tt_ok rfl rfl ?_
  refine wl_pure (v := .int .u64 (IntKind.wrap .u64 (v4 + (IntKind.wrap .u64 (v6.length : Int))))) tt_ok rfl rfl ?_
  refine wl_pure tt_ok rfl rfl ?_
  refine wl_nil (wx_then (wc_ret ?_))
  simp only [Option.some.injEq] at h
  obtain rfl := h
  exact wx_rd tt_ok (.inl rfl) Tryd.results33 (Res.tmp rfl Res.nil) (pSub (pCons Sel.hc (pApp Sel.ha (pApp Sel.ha (pCons Sel.hc (pApp Sel.ha (pCons Sel.hc (pApp Sel.ha pNil)))))))) rfl

theorem k_backfill_Pairs_1 {F : Nat} {p0 : Int} {p1 : (Int × Int)} {p2 : Unit} {p2b p2t : Nat} {p2_o : T_fold_History} {p2_ob p2_ot : Nat} {p3 : Unit} {p3b p3t : Nat} {p3_o : T_rollback_Engine} {p3_ob p3_ot : Nat} {p3_oa0 : Option Addr} {p3_on0 : Nat} {p3_oc0 : Nat} {p3_oB0 : List Blk} {p3_oa1 : Option Addr} {p3_on1 : Nat} {p3_oc1 : Nat} {p3_oB1 : List Blk} {p3_o_4 : T_queue_Queue} {p3_o_4b p3_o_4t : Nat} {p3_o_4a0 : Option Addr} {p3_o_4n0 : Nat} {p3_o_4c0 : Nat} {p3_o_4B0 : List Blk} {p3_o_5 : T_ring_Ring} {p3_o_5b p3_o_5t : Nat} {p3_o_5g0 : List (T_ring_place × G)} {p3_o_5P0 : List Blk} {p4 : Int} {p4b p4t : Nat} {r0 : T_queue_Queue} {r1 : T_ring_Ring} {r2 : Int} (p3_oN0 : p3_on0 = p3_o.sure.Shots.length) (p3_oV0 : Own 92 6 p3_oa0 p3_on0 p3_oc0 (flat c_T_api_Shot p3_o.sure.Shots) p3_oB0) (p3_oN1 : p3_on1 = p3_o.own.length) (p3_oV1 : Own 34 1 p3_oa1 p3_on1 p3_oc1 (flat (e1 .u8) p3_o.own) p3_oB1) (p3_o_4N0 : p3_o_4n0 = p3_o_4.l.length) (p3_o_4V0 : Own 34 1 p3_o_4a0 p3_o_4n0 p3_o_4c0 (flat (e1 .u8) p3_o_4.l) p3_o_4B0) (p3_o_5G0 : p3_o_5.places.1 = unG p3_o_5g0) (p3_o_5A0 : AllP sh_T_ring_place c_T_api_Shot p3_o_5P0 p3_o_5g0) (h : m_backfill_Pairs_1 F p0 p1 p2 p2_o p3 p3_o p3_o_4 p3_o_5 p4 = some (r0, r1, r2)) :
    SpD Tryd.prog 32 [.int .u64 p0, .agg #[.int .u8 p1.1, .int .u8 p1.2], .pointer (some ⟨p2b, 0, none⟩), .pointer (some ⟨p3b, 0, none⟩), .pointer (some ⟨p4b, 0, none⟩)] (⟨p2b, [.pointer (some ⟨p2_ob, 0, none⟩)], p2t, (0, 0)⟩ :: (⟨p2_ob, ([.int .u64 p2_o.from_, .int .u64 p2_o.count, .int .u64 p2_o.most] ++ flat (e2 .u8) p2_o.ring.1), p2_ot, (0, 0)⟩ :: (⟨p3b, [.pointer (some ⟨p3_ob, 0, none⟩)], p3t, (0, 0)⟩ :: (⟨p3_ob, [.int .u8 p3_o.player, .int .i64 p3_o.window, .int .u64 p3_o.sure.Frame, .int .u64 p3_o.sure.Seed, .int .i32 p3_o.sure.Players.1.X, .int .i32 p3_o.sure.Players.1.Y, .int .i32 p3_o.sure.Players.1.VX, .int .i32 p3_o.sure.Players.1.VY, .int .u8 p3_o.sure.Players.1.Health, .int .u8 p3_o.sure.Players.1.Cool, .int .u8 p3_o.sure.Players.1.Face, .int .i32 p3_o.sure.Players.2.X, .int .i32 p3_o.sure.Players.2.Y, .int .i32 p3_o.sure.Players.2.VX, .int .i32 p3_o.sure.Players.2.VY, .int .u8 p3_o.sure.Players.2.Health, .int .u8 p3_o.sure.Players.2.Cool, .int .u8 p3_o.sure.Players.2.Face, .slice p3_oa0 p3_on0 p3_oc0, .int .u16 p3_o.sure.Score.1, .int .u16 p3_o.sure.Score.2, .slice p3_oa1 p3_on1 p3_oc1, .pointer (some ⟨p3_o_4b, 0, none⟩), .pointer (some ⟨p3_o_5b, 0, none⟩)], p3_ot, (0, 0)⟩ :: (p3_oB0 ++ (p3_oB1 ++ (⟨p3_o_4b, [.int .u64 p3_o_4.first_, .slice p3_o_4a0 p3_o_4n0 p3_o_4c0, .int .u8 p3_o_4.last], p3_o_4t, (0, 0)⟩ :: (p3_o_4B0 ++ (⟨p3_o_5b, ([.int .i64 p3_o_5.size] ++ flat cg_T_ring_place p3_o_5g0), p3_o_5t, (0, 0)⟩ :: (p3_o_5P0 ++ (⟨p4b, [.int .u8 p4], p4t, (0, 0)⟩ :: []))))))))))) (fun w => True) (fun v D => ∃ (r0a0 : Option Addr) (r0n0 : Nat) (r0c0 : Nat) (r0B0 : List Blk) (r1g0 : List (T_ring_place × G)) (r1P0 : List Blk), r0n0 = r0.l.length ∧ Own 34 1 r0a0 r0n0 r0c0 (flat (e1 .u8) r0.l) r0B0 ∧ r1.places.1 = unG r1g0 ∧ AllP sh_T_ring_place c_T_api_Shot r1P0 r1g0 ∧ v = .int .i64 r2 ∧ D = fun F => (⟨p2b, [.pointer (some ⟨p2_ob, 0, none⟩)], p2t, (0, 0)⟩ :: (⟨p2_ob, ([.int .u64 p2_o.from_, .int .u64 p2_o.count, .int .u64 p2_o.most] ++ flat (e2 .u8) p2_o.ring.1), p2_ot, (0, 0)⟩ :: (⟨p3b, [.pointer (some ⟨p3_ob, 0, none⟩)], p3t, (0, 0)⟩ :: (⟨p3_ob, [.int .u8 p3_o.player, .int .i64 p3_o.window, .int .u64 p3_o.sure.Frame, .int .u64 p3_o.sure.Seed, .int .i32 p3_o.sure.Players.1.X, .int .i32 p3_o.sure.Players.1.Y, .int .i32 p3_o.sure.Players.1.VX, .int .i32 p3_o.sure.Players.1.VY, .int .u8 p3_o.sure.Players.1.Health, .int .u8 p3_o.sure.Players.1.Cool, .int .u8 p3_o.sure.Players.1.Face, .int .i32 p3_o.sure.Players.2.X, .int .i32 p3_o.sure.Players.2.Y, .int .i32 p3_o.sure.Players.2.VX, .int .i32 p3_o.sure.Players.2.VY, .int .u8 p3_o.sure.Players.2.Health, .int .u8 p3_o.sure.Players.2.Cool, .int .u8 p3_o.sure.Players.2.Face, .slice p3_oa0 p3_on0 p3_oc0, .int .u16 p3_o.sure.Score.1, .int .u16 p3_o.sure.Score.2, .slice p3_oa1 p3_on1 p3_oc1, .pointer (some ⟨p3_o_4b, 0, none⟩), .pointer (some ⟨p3_o_5b, 0, none⟩)], p3_ot, (0, 0)⟩ :: (p3_oB0 ++ (p3_oB1 ++ (⟨p3_o_4b, [.int .u64 r0.first_, .slice r0a0 r0n0 r0c0, .int .u8 r0.last], p3_o_4t, (0, 0)⟩ :: (r0B0 ++ (⟨p3_o_5b, ([.int .i64 r1.size] ++ flat cg_T_ring_place r1g0), p3_o_5t, (0, 0)⟩ :: (r1P0 ++ (⟨p4b, [.int .u8 p4], p4t, (0, 0)⟩ :: F)))))))))))) := by
  unfold m_backfill_Pairs_1 at h
  refine sp_of_wc Tryd.func32 rfl Tryd.ntmps32 rfl rfl (fun w0 hR => ?_)
  refine wc_seq (wc_region ?_)
  refine wl_box rfl rfl rfl (fun b6 => ?_)
  refine wl_pure tt_ok rfl rfl ?_
  refine wl_nil (wx_then (wc_seq (wc_seq (wc_region ?_))))
  refine wl_val (v := .pointer (some ⟨p2_ob, 0, none⟩)) (val_load tt_ok rfl (List.Mem.tail _ (List.Mem.head _)) rfl) rfl ?_
  refine wl_pure tt_ok rfl rfl ?_
  replace h := bsome h; obtain ⟨⟨v13_0, v13_1⟩, x13, h⟩ := h; try dsimp only at h
  refine wl_cq Tryd.call30 rfl rfl rfl (q_rd (k_fold_History_At x13) (pCons (Sel.sc (Sel.sc Sel.hc)) pNil) (fun _ _ => trivial)) rfl ?_
  iterate 3 refine wl_pure tt_ok rfl rfl ?_
  refine wl_alloc tt_ok rfl rfl (fun b8 => ?_)
  apply wl_store tt_ok; rfl; exact Upd.here; rfl; rfl; rfl; rfl; rfl; rfl
  refine wl_pure tt_ok rfl rfl ?_
  refine wl_nil (wx_then (wc_block (wc_seq (wc_region ?_))))
  refine wl_pure tt_ok rfl rfl ?_
  refine wl_val (v := .pointer (some ⟨p3_ob, 0, none⟩)) (val_load tt_ok rfl (List.Mem.tail _ (List.Mem.tail _ (List.Mem.tail _ (List.Mem.tail _ (List.Mem.head _))))) rfl) rfl ?_
  replace h := bsome h; obtain ⟨v19, x19, h⟩ := h
  refine wl_cq Tryd.call11 rfl rfl rfl (q_rd (k_rollback_Engine_C (p0 := p3_o) (p0_4 := p3_o_4) (p0_5 := p3_o_5) p3_oN0 p3_oV0 p3_oN1 p3_oV1 p3_o_4N0 p3_o_4V0 p3_o_5G0 p3_o_5A0 x19) (pCons (Sel.sc (Sel.sc (Sel.sc (Sel.sc (Sel.sc Sel.hc))))) (pApp (Sel.sc (Sel.sc (Sel.sc (Sel.sc (Sel.sc Sel.ha))))) (pApp (Sel.sc (Sel.sc (Sel.sc (Sel.sc (Sel.sc Sel.ha))))) (pCons (Sel.sc (Sel.sc (Sel.sc (Sel.sc (Sel.sc Sel.hc))))) (pApp (Sel.sc (Sel.sc (Sel.sc (Sel.sc (Sel.sc Sel.ha))))) (pCons (Sel.sc (Sel.sc (Sel.sc (Sel.sc (Sel.sc Sel.hc))))) (pApp (Sel.sc (Sel.sc (Sel.sc (Sel.sc (Sel.sc Sel.ha))))) pNil))))))) (fun _ _ => trivial)) rfl ?_
  refine wl_pure (v := .bool (decide (p0 < v19))) tt_ok rfl rfl ?_
  refine wl_pure tt_ok rfl rfl ?_
  refine wl_nil (wx_then ?_)
  refine wc_cond rfl (fun hc => ?_) (fun hc => ?_)
  · replace h := ct hc h
    refine wc_seq (wc_seq (wc_region ?_))
    iterate 2 refine wl_pure tt_ok rfl rfl ?_
    replace h := bsome h; obtain ⟨v26, h, hg26⟩ := h
    refine wl_split (t := 22) rfl (fun hc => ?_) (fun hc => ?_)
    · replace h := ct hc h
      refine wl_run rfl ?_
      refine wl_val (v := .agg #[.int .u8 v13_0.1, .int .u8 v13_0.2]) (val_load tt_ok rfl (List.Mem.head _) rfl) rfl ?_
      refine wl_run rfl ?_
      refine wl_val (v := .agg #[.int .u8 p1.1, .int .u8 p1.2]) (val_load tt_ok rfl (List.Mem.tail _ (List.Mem.head _)) rfl) rfl ?_
      refine wl_run rfl ?_
      refine wl_val (v := .bool (!((v13_0.1 == p1.1) && (v13_0.2 == p1.2)))) (val_nes tt_ok tt_eq tt_one Tryd.eqGuardType36 rfl rfl rfl rfl rfl) rfl ?_
      simp only [Option.some.injEq, Prod.mk.injEq] at h
      obtain rfl := h
      have h := hg26; clear hg26
      refine wl_pure (v := .bool (!((v13_0.1 == p1.1) && (v13_0.2 == p1.2)))) tt_ok rfl rfl ?_
      refine wl_nil (wx_then ?_)
      refine wc_cond rfl (fun hc => ?_) (fun hc => ?_)
      · replace h := ct hc h
        refine wc_seq (wc_region ?_)
        refine wl_pure tt_ok rfl rfl ?_
        refine wl_nil (wx_then (wc_ret (wx_then_ret (wx_block_ret (wx_then_ret ?_)))))
        simp only [Option.some.injEq, Prod.mk.injEq] at h
        obtain ⟨rfl, rfl, rfl⟩ := h
        exact wx_spD tt_ok (.inl rfl) Tryd.results32 (Res.tmp rfl Res.nil) ⟨p3_o_4a0, p3_o_4n0, p3_o_4c0, p3_o_4B0, p3_o_5g0, p3_o_5P0, p3_o_4N0, p3_o_4V0, p3_o_5G0, p3_o_5A0, rfl, rfl⟩ (fun F => by simp) (pSub (pCons (Sel.sc (Sel.sc Sel.hc)) (pCons (Sel.sc (Sel.sc Sel.hc)) (pCons (Sel.sc (Sel.sc Sel.hc)) (pCons (Sel.sc (Sel.sc Sel.hc)) (pApp (Sel.sc (Sel.sc Sel.ha)) (pApp (Sel.sc (Sel.sc Sel.ha)) (pCons (Sel.sc (Sel.sc Sel.hc)) (pApp (Sel.sc (Sel.sc Sel.ha)) (pCons (Sel.sc (Sel.sc Sel.hc)) (pApp (Sel.sc (Sel.sc Sel.ha)) (pCons (Sel.sc (Sel.sc Sel.hc)) pNil))))))))))))
      replace h := cf hc h
      refine wc_skip (wx_then (wc_seq (wc_region ?_)))
      refine wl_pure tt_ok rfl rfl ?_
      refine wl_nil (wx_then (wc_ret (wx_block_ret (wx_then_ret ?_))))
      simp only [Option.some.injEq, Prod.mk.injEq] at h
      obtain ⟨rfl, rfl, rfl⟩ := h
      exact wx_spD tt_ok (.inl rfl) Tryd.results32 (Res.tmp rfl Res.nil) ⟨p3_o_4a0, p3_o_4n0, p3_o_4c0, p3_o_4B0, p3_o_5g0, p3_o_5P0, p3_o_4N0, p3_o_4V0, p3_o_5G0, p3_o_5A0, rfl, rfl⟩ (fun F => by simp) (pSub (pCons (Sel.sc (Sel.sc Sel.hc)) (pCons (Sel.sc (Sel.sc Sel.hc)) (pCons (Sel.sc (Sel.sc Sel.hc)) (pCons (Sel.sc (Sel.sc Sel.hc)) (pApp (Sel.sc (Sel.sc Sel.ha)) (pApp (Sel.sc (Sel.sc Sel.ha)) (pCons (Sel.sc (Sel.sc Sel.hc)) (pApp (Sel.sc (Sel.sc Sel.ha)) (pCons (Sel.sc (Sel.sc Sel.hc)) (pApp (Sel.sc (Sel.sc Sel.ha)) (pCons (Sel.sc (Sel.sc Sel.hc)) pNil))))))))))))
    replace h := cf hc h
    refine wl_skip rfl rfl ?_
    refine wl_skip rfl rfl ?_
    refine wl_skip rfl rfl ?_
    simp only [Option.some.injEq, Prod.mk.injEq] at h
    obtain rfl := h
    have h := hg26; clear hg26
    refine wl_pure (v := .bool false) tt_ok rfl rfl ?_
    refine wl_nil (wx_then ?_)
    replace h := cf rfl h
    refine wc_cond_false rfl ?_
    refine wc_skip (wx_then (wc_seq (wc_region ?_)))
    refine wl_pure tt_ok rfl rfl ?_
    refine wl_nil (wx_then (wc_ret (wx_block_ret (wx_then_ret ?_))))
    simp only [Option.some.injEq, Prod.mk.injEq] at h
    obtain ⟨rfl, rfl, rfl⟩ := h
    exact wx_spD tt_ok (.inl rfl) Tryd.results32 (Res.tmp rfl Res.nil) ⟨p3_o_4a0, p3_o_4n0, p3_o_4c0, p3_o_4B0, p3_o_5g0, p3_o_5P0, p3_o_4N0, p3_o_4V0, p3_o_5G0, p3_o_5A0, rfl, rfl⟩ (fun F => by simp) (pSub (pCons (Sel.sc (Sel.sc Sel.hc)) (pCons (Sel.sc (Sel.sc Sel.hc)) (pCons (Sel.sc (Sel.sc Sel.hc)) (pCons (Sel.sc (Sel.sc Sel.hc)) (pApp (Sel.sc (Sel.sc Sel.ha)) (pApp (Sel.sc (Sel.sc Sel.ha)) (pCons (Sel.sc (Sel.sc Sel.hc)) (pApp (Sel.sc (Sel.sc Sel.ha)) (pCons (Sel.sc (Sel.sc Sel.hc)) (pApp (Sel.sc (Sel.sc Sel.ha)) (pCons (Sel.sc (Sel.sc Sel.hc)) pNil))))))))))))
  replace h := cf hc h
  refine wc_seq (wc_region ?_)
  refine wl_pure tt_ok rfl rfl ?_
  refine wl_val (v := .pointer (some ⟨p3_ob, 0, none⟩)) (val_load tt_ok rfl (List.Mem.tail _ (List.Mem.tail _ (List.Mem.tail _ (List.Mem.tail _ (List.Mem.head _))))) rfl) rfl ?_
  replace h := bsome h; obtain ⟨v30, x30, h⟩ := h
  refine wl_cq Tryd.call33 rfl rfl rfl (q_rd (k_rollback_Engine_T (p0 := p3_o) (p0_4 := p3_o_4) (p0_5 := p3_o_5) p3_oN0 p3_oV0 p3_oN1 p3_oV1 p3_o_4N0 p3_o_4V0 p3_o_5G0 p3_o_5A0 x30) (pCons (Sel.sc (Sel.sc (Sel.sc (Sel.sc (Sel.sc Sel.hc))))) (pApp (Sel.sc (Sel.sc (Sel.sc (Sel.sc (Sel.sc Sel.ha))))) (pApp (Sel.sc (Sel.sc (Sel.sc (Sel.sc (Sel.sc Sel.ha))))) (pCons (Sel.sc (Sel.sc (Sel.sc (Sel.sc (Sel.sc Sel.hc))))) (pApp (Sel.sc (Sel.sc (Sel.sc (Sel.sc (Sel.sc Sel.ha))))) (pCons (Sel.sc (Sel.sc (Sel.sc (Sel.sc (Sel.sc Sel.hc))))) (pApp (Sel.sc (Sel.sc (Sel.sc (Sel.sc (Sel.sc Sel.ha))))) pNil))))))) (fun _ _ => trivial)) rfl ?_
  refine wl_pure (v := .bool (decide (v30 ≤ p0))) tt_ok rfl rfl ?_
  refine wl_pure tt_ok rfl rfl ?_
  refine wl_nil (wx_then ?_)
  refine wc_cond rfl (fun hc => ?_) (fun hc => ?_)
  · replace h := ct hc h
    refine wc_seq (wc_region ?_)
    refine wl_pure tt_ok rfl rfl ?_
    refine wl_nil (wx_then (wc_ret (wx_block_ret (wx_then_ret ?_))))
    simp only [Option.some.injEq, Prod.mk.injEq] at h
    obtain ⟨rfl, rfl, rfl⟩ := h
    exact wx_spD tt_ok (.inl rfl) Tryd.results32 (Res.tmp rfl Res.nil) ⟨p3_o_4a0, p3_o_4n0, p3_o_4c0, p3_o_4B0, p3_o_5g0, p3_o_5P0, p3_o_4N0, p3_o_4V0, p3_o_5G0, p3_o_5A0, rfl, rfl⟩ (fun F => by simp) (pSub (pCons (Sel.sc (Sel.sc Sel.hc)) (pCons (Sel.sc (Sel.sc Sel.hc)) (pCons (Sel.sc (Sel.sc Sel.hc)) (pCons (Sel.sc (Sel.sc Sel.hc)) (pApp (Sel.sc (Sel.sc Sel.ha)) (pApp (Sel.sc (Sel.sc Sel.ha)) (pCons (Sel.sc (Sel.sc Sel.hc)) (pApp (Sel.sc (Sel.sc Sel.ha)) (pCons (Sel.sc (Sel.sc Sel.hc)) (pApp (Sel.sc (Sel.sc Sel.ha)) (pCons (Sel.sc (Sel.sc Sel.hc)) pNil))))))))))))
  replace h := cf hc h
  refine wc_seq ?_
  refine wc_k2 (Ls := (⟨b8, [.int .u8 v13_0.1, .int .u8 v13_0.2], 36, (0, 0)⟩ :: (⟨b6, [.int .u8 p1.1, .int .u8 p1.2], 36, (0, 0)⟩ :: (⟨p2b, [.pointer (some ⟨p2_ob, 0, none⟩)], p2t, (0, 0)⟩ :: (⟨p2_ob, ([.int .u64 p2_o.from_, .int .u64 p2_o.count, .int .u64 p2_o.most] ++ flat (e2 .u8) p2_o.ring.1), p2_ot, (0, 0)⟩ :: (⟨p3b, [.pointer (some ⟨p3_ob, 0, none⟩)], p3t, (0, 0)⟩ :: (⟨p3_ob, [.int .u8 p3_o.player, .int .i64 p3_o.window, .int .u64 p3_o.sure.Frame, .int .u64 p3_o.sure.Seed, .int .i32 p3_o.sure.Players.1.X, .int .i32 p3_o.sure.Players.1.Y, .int .i32 p3_o.sure.Players.1.VX, .int .i32 p3_o.sure.Players.1.VY, .int .u8 p3_o.sure.Players.1.Health, .int .u8 p3_o.sure.Players.1.Cool, .int .u8 p3_o.sure.Players.1.Face, .int .i32 p3_o.sure.Players.2.X, .int .i32 p3_o.sure.Players.2.Y, .int .i32 p3_o.sure.Players.2.VX, .int .i32 p3_o.sure.Players.2.VY, .int .u8 p3_o.sure.Players.2.Health, .int .u8 p3_o.sure.Players.2.Cool, .int .u8 p3_o.sure.Players.2.Face, .slice p3_oa0 p3_on0 p3_oc0, .int .u16 p3_o.sure.Score.1, .int .u16 p3_o.sure.Score.2, .slice p3_oa1 p3_on1 p3_oc1, .pointer (some ⟨p3_o_4b, 0, none⟩), .pointer (some ⟨p3_o_5b, 0, none⟩)], p3_ot, (0, 0)⟩ :: (p3_oB0 ++ (p3_oB1 ++ (⟨p3_o_4b, [.int .u64 p3_o_4.first_, .slice p3_o_4a0 p3_o_4n0 p3_o_4c0, .int .u8 p3_o_4.last], p3_o_4t, (0, 0)⟩ :: (p3_o_4B0 ++ (⟨p3_o_5b, ([.int .i64 p3_o_5.size] ++ flat cg_T_ring_place p3_o_5g0), p3_o_5t, (0, 0)⟩ :: (p3_o_5P0 ++ (⟨p4b, [.int .u8 p4], p4t, (0, 0)⟩ :: [])))))))))))))) [1, 4, 5, 6, 7, 11, 12] [11, 12] [0, 1, 0, 0, 11, 31, 63, 127, 0, 256, 768, 2047, 4095] [0, 2, 3, 8, 9, 10, 1, 4, 5, 6, 7, 11, 12] (by kernel_rfl) (by kernel_rfl) (by kernel_rfl) ?_
  refine k_val (v := .pointer (some ⟨p3_ob, 0, none⟩)) rfl rfl rfl (pSub (pCons Sel.hc (pCons Sel.hc (pCons Sel.hc (pCons Sel.hc (pCons Sel.hc (pCons Sel.hc (pApp Sel.ha (pApp Sel.ha (pCons Sel.hc (pApp Sel.ha (pCons Sel.hc (pApp Sel.ha (pCons Sel.hc pNil)))))))))))))) (val_load tt_ok rfl (List.Mem.tail _ (List.Mem.tail _ (List.Mem.tail _ (List.Mem.tail _ (List.Mem.head _))))) rfl) rfl ?_
  refine k_val rfl rfl rfl (pSub (pCons Sel.hc (pCons Sel.hc (pCons Sel.hc (pCons Sel.hc (pCons Sel.hc (pCons Sel.hc (pApp Sel.ha (pApp Sel.ha (pCons Sel.hc (pApp Sel.ha (pCons Sel.hc (pApp Sel.ha (pCons Sel.hc pNil)))))))))))))) (stepV_ok tt_ok rfl) rfl ?_
  refine k_val (v := .pointer (some ⟨p3_ob, 0, none⟩)) rfl rfl rfl (pSub (pCons Sel.hc (pCons Sel.hc (pCons Sel.hc (pCons Sel.hc (pCons Sel.hc (pCons Sel.hc (pApp Sel.ha (pApp Sel.ha (pCons Sel.hc (pApp Sel.ha (pCons Sel.hc (pApp Sel.ha (pCons Sel.hc pNil)))))))))))))) (val_load tt_ok rfl (List.Mem.tail _ (List.Mem.tail _ (List.Mem.tail _ (List.Mem.tail _ (List.Mem.head _))))) rfl) rfl ?_
  refine k_val (v := .int .u8 p4) rfl rfl rfl (pSub (pCons Sel.hc (pCons Sel.hc (pCons Sel.hc (pCons Sel.hc (pCons Sel.hc (pCons Sel.hc (pApp Sel.ha (pApp Sel.ha (pCons Sel.hc (pApp Sel.ha (pCons Sel.hc (pApp Sel.ha (pCons Sel.hc pNil)))))))))))))) (val_load tt_ok rfl (List.Mem.tail _ (List.Mem.tail _ (List.Mem.tail _ (List.Mem.tail _ (List.Mem.tail _ (List.Mem.tail _ (mR (mR (List.Mem.tail _ (mR (List.Mem.tail _ (mR (List.Mem.head _))))))))))))) rfl) rfl ?_
  rcases Bool.eq_false_or_eq_true (p4 == (0 : Int)) with hx420 | hx420
  · replace h := ct hx420 h
    refine k_val (v := .pointer (some ⟨b6, 0, none⟩)) rfl rfl rfl (pSub (pCons Sel.hc (pCons Sel.hc (pCons Sel.hc (pCons Sel.hc (pCons Sel.hc (pCons Sel.hc (pApp Sel.ha (pApp Sel.ha (pCons Sel.hc (pApp Sel.ha (pCons Sel.hc (pApp Sel.ha (pCons Sel.hc pNil)))))))))))))) (val_ia (j := 0) tt_ok rfl rfl rfl rfl (by simpa using hx420) rfl rfl) rfl ?_
    refine k_val (v := .int .u8 p1.1) rfl rfl rfl (pSub (pCons Sel.hc (pCons Sel.hc (pCons Sel.hc (pCons Sel.hc (pCons Sel.hc (pCons Sel.hc (pApp Sel.ha (pApp Sel.ha (pCons Sel.hc (pApp Sel.ha (pCons Sel.hc (pApp Sel.ha (pCons Sel.hc pNil)))))))))))))) (val_load tt_ok rfl (List.Mem.tail _ (List.Mem.head _)) rfl) rfl ?_
    replace h := bsome h; obtain ⟨v34, x34, h⟩ := h
    refine k_cs rfl rfl rfl Tryd.call34 rfl rfl rfl (s_sp (k_rollback_Engine_Own (p0 := p3_o) (p0_4 := p3_o_4) (p0_5 := p3_o_5) p3_oN0 p3_oV0 p3_oN1 p3_oV1 p3_o_4N0 p3_o_4V0 p3_o_5G0 p3_o_5A0 x34) (pCons (Sel.sc (Sel.sc (Sel.sc (Sel.sc (Sel.sc Sel.hc))))) (pApp (Sel.sc (Sel.sc (Sel.sc (Sel.sc (Sel.sc Sel.ha))))) (pApp (Sel.sc (Sel.sc (Sel.sc (Sel.sc (Sel.sc Sel.ha))))) (pCons (Sel.sc (Sel.sc (Sel.sc (Sel.sc (Sel.sc Sel.hc))))) (pApp (Sel.sc (Sel.sc (Sel.sc (Sel.sc (Sel.sc Sel.ha))))) (pCons (Sel.sc (Sel.sc (Sel.sc (Sel.sc (Sel.sc Sel.hc))))) (pApp (Sel.sc (Sel.sc (Sel.sc (Sel.sc (Sel.sc Sel.ha))))) pNil))))))) (fun _ _ => trivial)) rfl (.inr (by rintro _ _ ⟨_, ⟨_, _, _, _, _, _, rfl, rfl⟩, rfl⟩; exact ⟨_, (pCons (Sel.sc (Sel.sa (Sel.sa (Sel.sc (Sel.sa (Sel.sc (Sel.sa (Sel.sa Sel.hc)))))))) (pCons (Sel.sc (Sel.sa (Sel.sa (Sel.sc (Sel.sa (Sel.sc (Sel.sa (Sel.sa Sel.hc)))))))) (pCons (Sel.sc (Sel.sa (Sel.sa (Sel.sc (Sel.sa (Sel.sc (Sel.sa (Sel.sa Sel.hc)))))))) (pCons (Sel.sc (Sel.sa (Sel.sa (Sel.sc (Sel.sa (Sel.sc (Sel.sa (Sel.sa Sel.hc)))))))) (pCons (Sel.sc (Sel.sa (Sel.sa (Sel.sc (Sel.sa (Sel.sc (Sel.sa (Sel.sa Sel.hc)))))))) (pCons Sel.hc (pApp Sel.ha (pApp Sel.ha (pCons Sel.hc (pApp Sel.ha (pCons Sel.hc (pApp Sel.ha (pCons (Sel.sa Sel.hc) pNil)))))))))))))⟩)) ?_
    rintro _ _ ⟨_, ⟨v34a0, v34n0, v34c0, v34B0, v34N0, v34V0, rfl, rfl⟩, rfl⟩
    replace h := bsome h; obtain ⟨v37, x37, h⟩ := h
    refine k_cq rfl rfl rfl Tryd.call11 rfl rfl rfl (q_rd (k_rollback_Engine_C (p0 := p3_o) (p0_4 := p3_o_4) (p0_5 := p3_o_5) p3_oN0 p3_oV0 p3_oN1 p3_oV1 p3_o_4N0 p3_o_4V0 p3_o_5G0 p3_o_5A0 x37) (pCons Sel.hc (pApp Sel.ha (pApp Sel.ha (pCons Sel.hc (pApp Sel.ha (pCons Sel.hc (pApp Sel.ha pNil))))))) (fun _ _ => trivial)) rfl (pSub (pCons (Sel.sc (Sel.sa (Sel.sa (Sel.sc (Sel.sa (Sel.sc (Sel.sa (Sel.sa Sel.hc)))))))) (pCons (Sel.sc (Sel.sa (Sel.sa (Sel.sc (Sel.sa (Sel.sc (Sel.sa (Sel.sa Sel.hc)))))))) (pCons (Sel.sc (Sel.sa (Sel.sa (Sel.sc (Sel.sa (Sel.sc (Sel.sa (Sel.sa Sel.hc)))))))) (pCons (Sel.sc (Sel.sa (Sel.sa (Sel.sc (Sel.sa (Sel.sc (Sel.sa (Sel.sa Sel.hc)))))))) (pCons (Sel.sc (Sel.sa (Sel.sa (Sel.sc (Sel.sa (Sel.sc (Sel.sa (Sel.sa Sel.hc)))))))) (pCons Sel.hc (pApp Sel.ha (pApp Sel.ha (pCons Sel.hc (pApp Sel.ha (pCons Sel.hc (pApp Sel.ha (pCons (Sel.sa Sel.hc) pNil)))))))))))))) ?_
    refine k_chg rfl rfl rfl (Chg.of_val (v := .int .u64 (IntKind.wrap .u64 (p0 - v37))) (stepV_ok tt_ok rfl)) rfl (.inr (by rintro _ _ ⟨rfl, rfl⟩; exact (pSub (pCons (Sel.sc (Sel.sa (Sel.sa (Sel.sc (Sel.sa (Sel.sc (Sel.sa (Sel.sa Sel.hc)))))))) (pCons (Sel.sc (Sel.sa (Sel.sa (Sel.sc (Sel.sa (Sel.sc (Sel.sa (Sel.sa Sel.hc)))))))) (pCons (Sel.sc (Sel.sa (Sel.sa (Sel.sc (Sel.sa (Sel.sc (Sel.sa (Sel.sa Sel.hc)))))))) (pCons (Sel.sc (Sel.sa (Sel.sa (Sel.sc (Sel.sa (Sel.sc (Sel.sa (Sel.sa Sel.hc)))))))) (pCons (Sel.sc (Sel.sa (Sel.sa (Sel.sc (Sel.sa (Sel.sc (Sel.sa (Sel.sa Sel.hc)))))))) (pCons Sel.hc (pApp Sel.ha (pApp Sel.ha (pCons Sel.hc (pApp Sel.ha (pCons Sel.hc (pApp Sel.ha (pCons (Sel.sa Sel.hc) pNil)))))))))))))))) ?_
    rintro _ _ ⟨rfl, rfl⟩
    replace h := bsome h; obtain ⟨v39, x39, h⟩ := h
    refine k_chg rfl rfl rfl (Chg.of_val (v := .pointer (some ((adOf v34a0).add ((IntKind.wrap .u64 (p0 - v37)).toNat * 1 + 0)))) (val_ix (enc := (e1 .u8)) tt_ok rfl rfl rfl rfl v34N0 (Rds.of_vec v34V0) (e1_len _) rfl x39)) rfl (.inr (by rintro _ _ ⟨rfl, rfl⟩; exact (pSub (pCons (Sel.sc (Sel.sa (Sel.sa (Sel.sc (Sel.sa (Sel.sc (Sel.sa (Sel.sa Sel.hc)))))))) (pCons (Sel.sc (Sel.sa (Sel.sa (Sel.sc (Sel.sa (Sel.sc (Sel.sa (Sel.sa Sel.hc)))))))) (pCons (Sel.sc (Sel.sa (Sel.sa (Sel.sc (Sel.sa (Sel.sc (Sel.sa (Sel.sa Sel.hc)))))))) (pCons (Sel.sc (Sel.sa (Sel.sa (Sel.sc (Sel.sa (Sel.sc (Sel.sa (Sel.sa Sel.hc)))))))) (pCons (Sel.sc (Sel.sa (Sel.sa (Sel.sc (Sel.sa (Sel.sc (Sel.sa (Sel.sa Sel.hc)))))))) (pCons Sel.hc (pApp Sel.ha (pApp Sel.ha (pCons Sel.hc (pApp Sel.ha (pCons Sel.hc (pApp Sel.ha (pCons (Sel.sa Sel.hc) pNil)))))))))))))))) ?_
    rintro _ _ ⟨rfl, rfl⟩
    refine k_chg rfl rfl rfl (Chg.of_val (v := .int .u8 v39) (val_le (enc := (e1 .u8)) (xs := v34) tt_ok rfl (Rds.of_vec v34V0) ⟨_, (Sel.sc (Sel.sa (Sel.sa (Sel.sc (Sel.sa (Sel.sc (Sel.sa Sel.ha)))))))⟩ (e1_len _) x39 rfl)) rfl (.inr (by rintro _ _ ⟨rfl, rfl⟩; exact (pSub (pCons (Sel.sc (Sel.sa (Sel.sa (Sel.sc (Sel.sa (Sel.sc (Sel.sa (Sel.sa Sel.hc)))))))) (pCons (Sel.sc (Sel.sa (Sel.sa (Sel.sc (Sel.sa (Sel.sc (Sel.sa (Sel.sa Sel.hc)))))))) (pCons (Sel.sc (Sel.sa (Sel.sa (Sel.sc (Sel.sa (Sel.sc (Sel.sa (Sel.sa Sel.hc)))))))) (pCons (Sel.sc (Sel.sa (Sel.sa (Sel.sc (Sel.sa (Sel.sc (Sel.sa (Sel.sa Sel.hc)))))))) (pCons (Sel.sc (Sel.sa (Sel.sa (Sel.sc (Sel.sa (Sel.sc (Sel.sa (Sel.sa Sel.hc)))))))) (pCons Sel.hc (pApp Sel.ha (pApp Sel.ha (pCons Sel.hc (pApp Sel.ha (pCons Sel.hc (pApp Sel.ha (pCons (Sel.sa Sel.hc) pNil)))))))))))))))) ?_
    rintro _ _ ⟨rfl, rfl⟩
    refine k_chg rfl rfl rfl (Chg.of_val (v := .bool (v39 != p1.1)) (stepV_ok tt_ok rfl)) rfl (.inl rfl) ?_
    rintro _ _ ⟨rfl, rfl⟩
    refine k_chg rfl rfl rfl (Chg.of_val (stepV_ok tt_ok rfl)) rfl (.inl rfl) ?_
    rintro _ _ ⟨rfl, rfl⟩
    refine k_end (by kernel_rfl) ?_
    refine wx_then ?_
    refine wc_cond rfl (fun hc => ?_) (fun hc => ?_)
    · replace h := ct hc h
      refine wc_seq (wc_region ?_)
      refine wl_pure tt_ok rfl rfl ?_
      refine wl_nil (wx_then (wc_ret (wx_block_ret (wx_then_ret ?_))))
      simp only [Option.some.injEq, Prod.mk.injEq] at h
      obtain ⟨rfl, rfl, rfl⟩ := h
      exact wx_spD tt_ok (.inl rfl) Tryd.results32 (Res.tmp rfl Res.nil) ⟨p3_o_4a0, p3_o_4n0, p3_o_4c0, p3_o_4B0, p3_o_5g0, p3_o_5P0, p3_o_4N0, p3_o_4V0, p3_o_5G0, p3_o_5A0, rfl, rfl⟩ (fun F => by simp) (pSub (pCons (Sel.sc (Sel.sa (Sel.sa (Sel.sc (Sel.sa (Sel.sc (Sel.sa (Sel.sa (Sel.sc (Sel.sc Sel.hc)))))))))) (pCons (Sel.sc (Sel.sa (Sel.sa (Sel.sc (Sel.sa (Sel.sc (Sel.sa (Sel.sa (Sel.sc (Sel.sc Sel.hc)))))))))) (pCons (Sel.sc (Sel.sa (Sel.sa (Sel.sc (Sel.sa (Sel.sc (Sel.sa (Sel.sa (Sel.sc (Sel.sc Sel.hc)))))))))) (pCons Sel.hc (pApp Sel.ha (pApp Sel.ha (pCons Sel.hc (pApp Sel.ha (pCons Sel.hc (pApp Sel.ha (pCons (Sel.sa (Sel.sc (Sel.sc Sel.hc))) pNil))))))))))))
    replace h := cf hc h
    refine wc_skip (wx_block (wx_then (wc_seq ?_)))
    refine wc_k2 (Ls := (⟨p3_ob, [.int .u8 p3_o.player, .int .i64 p3_o.window, .int .u64 p3_o.sure.Frame, .int .u64 p3_o.sure.Seed, .int .i32 p3_o.sure.Players.1.X, .int .i32 p3_o.sure.Players.1.Y, .int .i32 p3_o.sure.Players.1.VX, .int .i32 p3_o.sure.Players.1.VY, .int .u8 p3_o.sure.Players.1.Health, .int .u8 p3_o.sure.Players.1.Cool, .int .u8 p3_o.sure.Players.1.Face, .int .i32 p3_o.sure.Players.2.X, .int .i32 p3_o.sure.Players.2.Y, .int .i32 p3_o.sure.Players.2.VX, .int .i32 p3_o.sure.Players.2.VY, .int .u8 p3_o.sure.Players.2.Health, .int .u8 p3_o.sure.Players.2.Cool, .int .u8 p3_o.sure.Players.2.Face, .slice p3_oa0 p3_on0 p3_oc0, .int .u16 p3_o.sure.Score.1, .int .u16 p3_o.sure.Score.2, .slice p3_oa1 p3_on1 p3_oc1, .pointer (some ⟨p3_o_4b, 0, none⟩), .pointer (some ⟨p3_o_5b, 0, none⟩)], p3_ot, (0, 0)⟩ :: (p3_oB0 ++ (p3_oB1 ++ (⟨p3_o_4b, [.int .u64 p3_o_4.first_, .slice p3_o_4a0 p3_o_4n0 p3_o_4c0, .int .u8 p3_o_4.last], p3_o_4t, (0, 0)⟩ :: (p3_o_4B0 ++ (⟨p3_o_5b, ([.int .i64 p3_o_5.size] ++ flat cg_T_ring_place p3_o_5g0), p3_o_5t, (0, 0)⟩ :: (p3_o_5P0 ++ (v34B0 ++ (⟨b8, [.int .u8 v13_0.1, .int .u8 v13_0.2], 36, (0, 0)⟩ :: (⟨b6, [.int .u8 p1.1, .int .u8 p1.2], 36, (0, 0)⟩ :: (⟨p2b, [.pointer (some ⟨p2_ob, 0, none⟩)], p2t, (0, 0)⟩ :: (⟨p2_ob, ([.int .u64 p2_o.from_, .int .u64 p2_o.count, .int .u64 p2_o.most] ++ flat (e2 .u8) p2_o.ring.1), p2_ot, (0, 0)⟩ :: (⟨p3b, [.pointer (some ⟨p3_ob, 0, none⟩)], p3t, (0, 0)⟩ :: (⟨p4b, [.int .u8 p4], p4t, (0, 0)⟩ :: []))))))))))))))) [6, 7] [6, 7] [0, 0, 0, 4, 12, 28, 63, 127] [0, 1, 2, 3, 4, 5, 6, 7] (by kernel_rfl) (by kernel_rfl) (by kernel_rfl) ?_
    refine k_val (v := .pointer (some ⟨p3_ob, 0, none⟩)) rfl rfl rfl (pSub (pCons Sel.hc (pApp Sel.ha (pApp Sel.ha (pCons Sel.hc (pApp Sel.ha (pCons Sel.hc (pApp Sel.ha (pApp Sel.ha (pCons Sel.hc (pCons Sel.hc (pCons Sel.hc (pCons Sel.hc (pCons Sel.hc (pCons Sel.hc pNil))))))))))))))) (val_load tt_ok rfl (List.Mem.tail _ (mR (mR (List.Mem.tail _ (mR (List.Mem.tail _ (mR (mR (List.Mem.tail _ (List.Mem.tail _ (List.Mem.tail _ (List.Mem.tail _ (List.Mem.head _))))))))))))) rfl) rfl ?_
    refine k_val rfl rfl rfl (pSub (pCons Sel.hc (pApp Sel.ha (pApp Sel.ha (pCons Sel.hc (pApp Sel.ha (pCons Sel.hc (pApp Sel.ha (pApp Sel.ha (pCons Sel.hc (pCons Sel.hc (pCons Sel.hc (pCons Sel.hc (pCons Sel.hc (pCons Sel.hc pNil))))))))))))))) (stepV_ok tt_ok rfl) rfl ?_
    refine k_val (v := .int .u8 p4) rfl rfl rfl (pSub (pCons Sel.hc (pApp Sel.ha (pApp Sel.ha (pCons Sel.hc (pApp Sel.ha (pCons Sel.hc (pApp Sel.ha (pApp Sel.ha (pCons Sel.hc (pCons Sel.hc (pCons Sel.hc (pCons Sel.hc (pCons Sel.hc (pCons Sel.hc pNil))))))))))))))) (val_load tt_ok rfl (List.Mem.tail _ (mR (mR (List.Mem.tail _ (mR (List.Mem.tail _ (mR (mR (List.Mem.tail _ (List.Mem.tail _ (List.Mem.tail _ (List.Mem.tail _ (List.Mem.tail _ (List.Mem.head _)))))))))))))) rfl) rfl ?_
    refine k_val (v := .int .u8 (IntKind.wrap .u8 ((1 : Int) - p4))) rfl rfl rfl (pSub (pCons Sel.hc (pApp Sel.ha (pApp Sel.ha (pCons Sel.hc (pApp Sel.ha (pCons Sel.hc (pApp Sel.ha (pApp Sel.ha (pCons Sel.hc (pCons Sel.hc (pCons Sel.hc (pCons Sel.hc (pCons Sel.hc (pCons Sel.hc pNil))))))))))))))) (stepV_ok tt_ok rfl) rfl ?_
    rcases Bool.eq_false_or_eq_true ((IntKind.wrap .u8 ((1 : Int) - p4)) == (0 : Int)) with hx490 | hx490
    · replace h := ct hx490 h
      refine k_val (v := .pointer (some ⟨b6, 0, none⟩)) rfl rfl rfl (pSub (pCons Sel.hc (pApp Sel.ha (pApp Sel.ha (pCons Sel.hc (pApp Sel.ha (pCons Sel.hc (pApp Sel.ha (pApp Sel.ha (pCons Sel.hc (pCons Sel.hc (pCons Sel.hc (pCons Sel.hc (pCons Sel.hc (pCons Sel.hc pNil))))))))))))))) (val_ia (j := 0) tt_ok rfl rfl rfl rfl (by simpa using hx490) rfl rfl) rfl ?_
      refine k_val (v := .int .u8 p1.1) rfl rfl rfl (pSub (pCons Sel.hc (pApp Sel.ha (pApp Sel.ha (pCons Sel.hc (pApp Sel.ha (pCons Sel.hc (pApp Sel.ha (pApp Sel.ha (pCons Sel.hc (pCons Sel.hc (pCons Sel.hc (pCons Sel.hc (pCons Sel.hc (pCons Sel.hc pNil))))))))))))))) (val_load tt_ok rfl (List.Mem.tail _ (mR (mR (List.Mem.tail _ (mR (List.Mem.tail _ (mR (mR (List.Mem.tail _ (List.Mem.head _)))))))))) rfl) rfl ?_
      replace h := bsome h; obtain ⟨⟨o51_1, o51_2, v51⟩, x51, h⟩ := h; try dsimp only at h
      refine k_cs rfl rfl rfl Tryd.call26 rfl rfl rfl (s_sp (k_rollback_Engine_Remote (p0 := p3_o) (p0_4 := p3_o_4) (p0_5 := p3_o_5) p3_oN0 p3_oV0 p3_oN1 p3_oV1 p3_o_4N0 p3_o_4V0 p3_o_5G0 p3_o_5A0 x51) (pCons Sel.hc (pApp Sel.ha (pApp Sel.ha (pCons Sel.hc (pApp Sel.ha (pCons Sel.hc (pApp Sel.ha pNil))))))) (fun _ _ => trivial)) rfl (.inl rfl) ?_
      rintro _ _ ⟨_, ⟨o51_1a0, o51_1n0, o51_1c0, o51_1B0, o51_2g0, o51_2P0, o51_1N0, o51_1V0, o51_2G0, o51_2A0, rfl, rfl⟩, rfl⟩
      refine k_chg rfl rfl rfl (Chg.of_val (stepV_ok tt_ok rfl)) rfl (.inl rfl) ?_
      rintro _ _ ⟨rfl, rfl⟩
      refine k_end (by kernel_rfl) ?_
      refine wx_then (wc_ret ?_)
      simp only [Option.some.injEq, Prod.mk.injEq] at h
      obtain ⟨rfl, rfl, rfl⟩ := h
      exact wx_spD tt_ok (.inl rfl) Tryd.results32 (Res.tmp rfl Res.nil) ⟨o51_1a0, o51_1n0, o51_1c0, o51_1B0, o51_2g0, o51_2P0, o51_1N0, o51_1V0, o51_2G0, o51_2A0, rfl, rfl⟩ (fun F => by simp) (pSub (pCons (Sel.sc (Sel.sa (Sel.sa (Sel.sc (Sel.sa (Sel.sc (Sel.sa (Sel.sa (Sel.sc (Sel.sc Sel.hc)))))))))) (pCons (Sel.sc (Sel.sa (Sel.sa (Sel.sc (Sel.sa (Sel.sc (Sel.sa (Sel.sa (Sel.sc (Sel.sc Sel.hc)))))))))) (pCons (Sel.sc (Sel.sa (Sel.sa (Sel.sc (Sel.sa (Sel.sc (Sel.sa (Sel.sa (Sel.sc (Sel.sc Sel.hc)))))))))) (pCons Sel.hc (pApp Sel.ha (pApp Sel.ha (pCons Sel.hc (pApp Sel.ha (pCons Sel.hc (pApp Sel.ha (pCons (Sel.sa (Sel.sc (Sel.sc Sel.hc))) pNil))))))))))))
    replace h := cf hx490 h
    rcases Bool.eq_false_or_eq_true ((IntKind.wrap .u8 ((1 : Int) - p4)) == (1 : Int)) with hx491 | hx491
    · replace h := ct hx491 h
      refine k_val (v := .pointer (some ⟨b6, 1, none⟩)) rfl rfl rfl (pSub (pCons Sel.hc (pApp Sel.ha (pApp Sel.ha (pCons Sel.hc (pApp Sel.ha (pCons Sel.hc (pApp Sel.ha (pApp Sel.ha (pCons Sel.hc (pCons Sel.hc (pCons Sel.hc (pCons Sel.hc (pCons Sel.hc (pCons Sel.hc pNil))))))))))))))) (val_ia (j := 1) tt_ok rfl rfl rfl rfl (by simpa using hx491) rfl rfl) rfl ?_
      refine k_val (v := .int .u8 p1.2) rfl rfl rfl (pSub (pCons Sel.hc (pApp Sel.ha (pApp Sel.ha (pCons Sel.hc (pApp Sel.ha (pCons Sel.hc (pApp Sel.ha (pApp Sel.ha (pCons Sel.hc (pCons Sel.hc (pCons Sel.hc (pCons Sel.hc (pCons Sel.hc (pCons Sel.hc pNil))))))))))))))) (val_load tt_ok rfl (List.Mem.tail _ (mR (mR (List.Mem.tail _ (mR (List.Mem.tail _ (mR (mR (List.Mem.tail _ (List.Mem.head _)))))))))) rfl) rfl ?_
      replace h := bsome h; obtain ⟨⟨o51_1, o51_2, v51⟩, x51, h⟩ := h; try dsimp only at h
      refine k_cs rfl rfl rfl Tryd.call26 rfl rfl rfl (s_sp (k_rollback_Engine_Remote (p0 := p3_o) (p0_4 := p3_o_4) (p0_5 := p3_o_5) p3_oN0 p3_oV0 p3_oN1 p3_oV1 p3_o_4N0 p3_o_4V0 p3_o_5G0 p3_o_5A0 x51) (pCons Sel.hc (pApp Sel.ha (pApp Sel.ha (pCons Sel.hc (pApp Sel.ha (pCons Sel.hc (pApp Sel.ha pNil))))))) (fun _ _ => trivial)) rfl (.inl rfl) ?_
      rintro _ _ ⟨_, ⟨o51_1a0, o51_1n0, o51_1c0, o51_1B0, o51_2g0, o51_2P0, o51_1N0, o51_1V0, o51_2G0, o51_2A0, rfl, rfl⟩, rfl⟩
      refine k_chg rfl rfl rfl (Chg.of_val (stepV_ok tt_ok rfl)) rfl (.inl rfl) ?_
      rintro _ _ ⟨rfl, rfl⟩
      refine k_end (by kernel_rfl) ?_
      refine wx_then (wc_ret ?_)
      simp only [Option.some.injEq, Prod.mk.injEq] at h
      obtain ⟨rfl, rfl, rfl⟩ := h
      exact wx_spD tt_ok (.inl rfl) Tryd.results32 (Res.tmp rfl Res.nil) ⟨o51_1a0, o51_1n0, o51_1c0, o51_1B0, o51_2g0, o51_2P0, o51_1N0, o51_1V0, o51_2G0, o51_2A0, rfl, rfl⟩ (fun F => by simp) (pSub (pCons (Sel.sc (Sel.sa (Sel.sa (Sel.sc (Sel.sa (Sel.sc (Sel.sa (Sel.sa (Sel.sc (Sel.sc Sel.hc)))))))))) (pCons (Sel.sc (Sel.sa (Sel.sa (Sel.sc (Sel.sa (Sel.sc (Sel.sa (Sel.sa (Sel.sc (Sel.sc Sel.hc)))))))))) (pCons (Sel.sc (Sel.sa (Sel.sa (Sel.sc (Sel.sa (Sel.sc (Sel.sa (Sel.sa (Sel.sc (Sel.sc Sel.hc)))))))))) (pCons Sel.hc (pApp Sel.ha (pApp Sel.ha (pCons Sel.hc (pApp Sel.ha (pCons Sel.hc (pApp Sel.ha (pCons (Sel.sa (Sel.sc (Sel.sc Sel.hc))) pNil))))))))))))
    replace h := cf hx491 h
    cases h
  replace h := cf hx420 h
  rcases Bool.eq_false_or_eq_true (p4 == (1 : Int)) with hx421 | hx421
  · replace h := ct hx421 h
    refine k_val (v := .pointer (some ⟨b6, 1, none⟩)) rfl rfl rfl (pSub (pCons Sel.hc (pCons Sel.hc (pCons Sel.hc (pCons Sel.hc (pCons Sel.hc (pCons Sel.hc (pApp Sel.ha (pApp Sel.ha (pCons Sel.hc (pApp Sel.ha (pCons Sel.hc (pApp Sel.ha (pCons Sel.hc pNil)))))))))))))) (val_ia (j := 1) tt_ok rfl rfl rfl rfl (by simpa using hx421) rfl rfl) rfl ?_
    refine k_val (v := .int .u8 p1.2) rfl rfl rfl (pSub (pCons Sel.hc (pCons Sel.hc (pCons Sel.hc (pCons Sel.hc (pCons Sel.hc (pCons Sel.hc (pApp Sel.ha (pApp Sel.ha (pCons Sel.hc (pApp Sel.ha (pCons Sel.hc (pApp Sel.ha (pCons Sel.hc pNil)))))))))))))) (val_load tt_ok rfl (List.Mem.tail _ (List.Mem.head _)) rfl) rfl ?_
    replace h := bsome h; obtain ⟨v34, x34, h⟩ := h
    refine k_cs rfl rfl rfl Tryd.call34 rfl rfl rfl (s_sp (k_rollback_Engine_Own (p0 := p3_o) (p0_4 := p3_o_4) (p0_5 := p3_o_5) p3_oN0 p3_oV0 p3_oN1 p3_oV1 p3_o_4N0 p3_o_4V0 p3_o_5G0 p3_o_5A0 x34) (pCons (Sel.sc (Sel.sc (Sel.sc (Sel.sc (Sel.sc Sel.hc))))) (pApp (Sel.sc (Sel.sc (Sel.sc (Sel.sc (Sel.sc Sel.ha))))) (pApp (Sel.sc (Sel.sc (Sel.sc (Sel.sc (Sel.sc Sel.ha))))) (pCons (Sel.sc (Sel.sc (Sel.sc (Sel.sc (Sel.sc Sel.hc))))) (pApp (Sel.sc (Sel.sc (Sel.sc (Sel.sc (Sel.sc Sel.ha))))) (pCons (Sel.sc (Sel.sc (Sel.sc (Sel.sc (Sel.sc Sel.hc))))) (pApp (Sel.sc (Sel.sc (Sel.sc (Sel.sc (Sel.sc Sel.ha))))) pNil))))))) (fun _ _ => trivial)) rfl (.inr (by rintro _ _ ⟨_, ⟨_, _, _, _, _, _, rfl, rfl⟩, rfl⟩; exact ⟨_, (pCons (Sel.sc (Sel.sa (Sel.sa (Sel.sc (Sel.sa (Sel.sc (Sel.sa (Sel.sa Sel.hc)))))))) (pCons (Sel.sc (Sel.sa (Sel.sa (Sel.sc (Sel.sa (Sel.sc (Sel.sa (Sel.sa Sel.hc)))))))) (pCons (Sel.sc (Sel.sa (Sel.sa (Sel.sc (Sel.sa (Sel.sc (Sel.sa (Sel.sa Sel.hc)))))))) (pCons (Sel.sc (Sel.sa (Sel.sa (Sel.sc (Sel.sa (Sel.sc (Sel.sa (Sel.sa Sel.hc)))))))) (pCons (Sel.sc (Sel.sa (Sel.sa (Sel.sc (Sel.sa (Sel.sc (Sel.sa (Sel.sa Sel.hc)))))))) (pCons Sel.hc (pApp Sel.ha (pApp Sel.ha (pCons Sel.hc (pApp Sel.ha (pCons Sel.hc (pApp Sel.ha (pCons (Sel.sa Sel.hc) pNil)))))))))))))⟩)) ?_
    rintro _ _ ⟨_, ⟨v34a0, v34n0, v34c0, v34B0, v34N0, v34V0, rfl, rfl⟩, rfl⟩
    replace h := bsome h; obtain ⟨v37, x37, h⟩ := h
    refine k_cq rfl rfl rfl Tryd.call11 rfl rfl rfl (q_rd (k_rollback_Engine_C (p0 := p3_o) (p0_4 := p3_o_4) (p0_5 := p3_o_5) p3_oN0 p3_oV0 p3_oN1 p3_oV1 p3_o_4N0 p3_o_4V0 p3_o_5G0 p3_o_5A0 x37) (pCons Sel.hc (pApp Sel.ha (pApp Sel.ha (pCons Sel.hc (pApp Sel.ha (pCons Sel.hc (pApp Sel.ha pNil))))))) (fun _ _ => trivial)) rfl (pSub (pCons (Sel.sc (Sel.sa (Sel.sa (Sel.sc (Sel.sa (Sel.sc (Sel.sa (Sel.sa Sel.hc)))))))) (pCons (Sel.sc (Sel.sa (Sel.sa (Sel.sc (Sel.sa (Sel.sc (Sel.sa (Sel.sa Sel.hc)))))))) (pCons (Sel.sc (Sel.sa (Sel.sa (Sel.sc (Sel.sa (Sel.sc (Sel.sa (Sel.sa Sel.hc)))))))) (pCons (Sel.sc (Sel.sa (Sel.sa (Sel.sc (Sel.sa (Sel.sc (Sel.sa (Sel.sa Sel.hc)))))))) (pCons (Sel.sc (Sel.sa (Sel.sa (Sel.sc (Sel.sa (Sel.sc (Sel.sa (Sel.sa Sel.hc)))))))) (pCons Sel.hc (pApp Sel.ha (pApp Sel.ha (pCons Sel.hc (pApp Sel.ha (pCons Sel.hc (pApp Sel.ha (pCons (Sel.sa Sel.hc) pNil)))))))))))))) ?_
    refine k_chg rfl rfl rfl (Chg.of_val (v := .int .u64 (IntKind.wrap .u64 (p0 - v37))) (stepV_ok tt_ok rfl)) rfl (.inr (by rintro _ _ ⟨rfl, rfl⟩; exact (pSub (pCons (Sel.sc (Sel.sa (Sel.sa (Sel.sc (Sel.sa (Sel.sc (Sel.sa (Sel.sa Sel.hc)))))))) (pCons (Sel.sc (Sel.sa (Sel.sa (Sel.sc (Sel.sa (Sel.sc (Sel.sa (Sel.sa Sel.hc)))))))) (pCons (Sel.sc (Sel.sa (Sel.sa (Sel.sc (Sel.sa (Sel.sc (Sel.sa (Sel.sa Sel.hc)))))))) (pCons (Sel.sc (Sel.sa (Sel.sa (Sel.sc (Sel.sa (Sel.sc (Sel.sa (Sel.sa Sel.hc)))))))) (pCons (Sel.sc (Sel.sa (Sel.sa (Sel.sc (Sel.sa (Sel.sc (Sel.sa (Sel.sa Sel.hc)))))))) (pCons Sel.hc (pApp Sel.ha (pApp Sel.ha (pCons Sel.hc (pApp Sel.ha (pCons Sel.hc (pApp Sel.ha (pCons (Sel.sa Sel.hc) pNil)))))))))))))))) ?_
    rintro _ _ ⟨rfl, rfl⟩
    replace h := bsome h; obtain ⟨v39, x39, h⟩ := h
    refine k_chg rfl rfl rfl (Chg.of_val (v := .pointer (some ((adOf v34a0).add ((IntKind.wrap .u64 (p0 - v37)).toNat * 1 + 0)))) (val_ix (enc := (e1 .u8)) tt_ok rfl rfl rfl rfl v34N0 (Rds.of_vec v34V0) (e1_len _) rfl x39)) rfl (.inr (by rintro _ _ ⟨rfl, rfl⟩; exact (pSub (pCons (Sel.sc (Sel.sa (Sel.sa (Sel.sc (Sel.sa (Sel.sc (Sel.sa (Sel.sa Sel.hc)))))))) (pCons (Sel.sc (Sel.sa (Sel.sa (Sel.sc (Sel.sa (Sel.sc (Sel.sa (Sel.sa Sel.hc)))))))) (pCons (Sel.sc (Sel.sa (Sel.sa (Sel.sc (Sel.sa (Sel.sc (Sel.sa (Sel.sa Sel.hc)))))))) (pCons (Sel.sc (Sel.sa (Sel.sa (Sel.sc (Sel.sa (Sel.sc (Sel.sa (Sel.sa Sel.hc)))))))) (pCons (Sel.sc (Sel.sa (Sel.sa (Sel.sc (Sel.sa (Sel.sc (Sel.sa (Sel.sa Sel.hc)))))))) (pCons Sel.hc (pApp Sel.ha (pApp Sel.ha (pCons Sel.hc (pApp Sel.ha (pCons Sel.hc (pApp Sel.ha (pCons (Sel.sa Sel.hc) pNil)))))))))))))))) ?_
    rintro _ _ ⟨rfl, rfl⟩
    refine k_chg rfl rfl rfl (Chg.of_val (v := .int .u8 v39) (val_le (enc := (e1 .u8)) (xs := v34) tt_ok rfl (Rds.of_vec v34V0) ⟨_, (Sel.sc (Sel.sa (Sel.sa (Sel.sc (Sel.sa (Sel.sc (Sel.sa Sel.ha)))))))⟩ (e1_len _) x39 rfl)) rfl (.inr (by rintro _ _ ⟨rfl, rfl⟩; exact (pSub (pCons (Sel.sc (Sel.sa (Sel.sa (Sel.sc (Sel.sa (Sel.sc (Sel.sa (Sel.sa Sel.hc)))))))) (pCons (Sel.sc (Sel.sa (Sel.sa (Sel.sc (Sel.sa (Sel.sc (Sel.sa (Sel.sa Sel.hc)))))))) (pCons (Sel.sc (Sel.sa (Sel.sa (Sel.sc (Sel.sa (Sel.sc (Sel.sa (Sel.sa Sel.hc)))))))) (pCons (Sel.sc (Sel.sa (Sel.sa (Sel.sc (Sel.sa (Sel.sc (Sel.sa (Sel.sa Sel.hc)))))))) (pCons (Sel.sc (Sel.sa (Sel.sa (Sel.sc (Sel.sa (Sel.sc (Sel.sa (Sel.sa Sel.hc)))))))) (pCons Sel.hc (pApp Sel.ha (pApp Sel.ha (pCons Sel.hc (pApp Sel.ha (pCons Sel.hc (pApp Sel.ha (pCons (Sel.sa Sel.hc) pNil)))))))))))))))) ?_
    rintro _ _ ⟨rfl, rfl⟩
    refine k_chg rfl rfl rfl (Chg.of_val (v := .bool (v39 != p1.2)) (stepV_ok tt_ok rfl)) rfl (.inl rfl) ?_
    rintro _ _ ⟨rfl, rfl⟩
    refine k_chg rfl rfl rfl (Chg.of_val (stepV_ok tt_ok rfl)) rfl (.inl rfl) ?_
    rintro _ _ ⟨rfl, rfl⟩
    refine k_end (by kernel_rfl) ?_
    refine wx_then ?_
    refine wc_cond rfl (fun hc => ?_) (fun hc => ?_)
    · replace h := ct hc h
      refine wc_seq (wc_region ?_)
      refine wl_pure tt_ok rfl rfl ?_
      refine wl_nil (wx_then (wc_ret (wx_block_ret (wx_then_ret ?_))))
      simp only [Option.some.injEq, Prod.mk.injEq] at h
      obtain ⟨rfl, rfl, rfl⟩ := h
      exact wx_spD tt_ok (.inl rfl) Tryd.results32 (Res.tmp rfl Res.nil) ⟨p3_o_4a0, p3_o_4n0, p3_o_4c0, p3_o_4B0, p3_o_5g0, p3_o_5P0, p3_o_4N0, p3_o_4V0, p3_o_5G0, p3_o_5A0, rfl, rfl⟩ (fun F => by simp) (pSub (pCons (Sel.sc (Sel.sa (Sel.sa (Sel.sc (Sel.sa (Sel.sc (Sel.sa (Sel.sa (Sel.sc (Sel.sc Sel.hc)))))))))) (pCons (Sel.sc (Sel.sa (Sel.sa (Sel.sc (Sel.sa (Sel.sc (Sel.sa (Sel.sa (Sel.sc (Sel.sc Sel.hc)))))))))) (pCons (Sel.sc (Sel.sa (Sel.sa (Sel.sc (Sel.sa (Sel.sc (Sel.sa (Sel.sa (Sel.sc (Sel.sc Sel.hc)))))))))) (pCons Sel.hc (pApp Sel.ha (pApp Sel.ha (pCons Sel.hc (pApp Sel.ha (pCons Sel.hc (pApp Sel.ha (pCons (Sel.sa (Sel.sc (Sel.sc Sel.hc))) pNil))))))))))))
    replace h := cf hc h
    refine wc_skip (wx_block (wx_then (wc_seq ?_)))
    refine wc_k2 (Ls := (⟨p3_ob, [.int .u8 p3_o.player, .int .i64 p3_o.window, .int .u64 p3_o.sure.Frame, .int .u64 p3_o.sure.Seed, .int .i32 p3_o.sure.Players.1.X, .int .i32 p3_o.sure.Players.1.Y, .int .i32 p3_o.sure.Players.1.VX, .int .i32 p3_o.sure.Players.1.VY, .int .u8 p3_o.sure.Players.1.Health, .int .u8 p3_o.sure.Players.1.Cool, .int .u8 p3_o.sure.Players.1.Face, .int .i32 p3_o.sure.Players.2.X, .int .i32 p3_o.sure.Players.2.Y, .int .i32 p3_o.sure.Players.2.VX, .int .i32 p3_o.sure.Players.2.VY, .int .u8 p3_o.sure.Players.2.Health, .int .u8 p3_o.sure.Players.2.Cool, .int .u8 p3_o.sure.Players.2.Face, .slice p3_oa0 p3_on0 p3_oc0, .int .u16 p3_o.sure.Score.1, .int .u16 p3_o.sure.Score.2, .slice p3_oa1 p3_on1 p3_oc1, .pointer (some ⟨p3_o_4b, 0, none⟩), .pointer (some ⟨p3_o_5b, 0, none⟩)], p3_ot, (0, 0)⟩ :: (p3_oB0 ++ (p3_oB1 ++ (⟨p3_o_4b, [.int .u64 p3_o_4.first_, .slice p3_o_4a0 p3_o_4n0 p3_o_4c0, .int .u8 p3_o_4.last], p3_o_4t, (0, 0)⟩ :: (p3_o_4B0 ++ (⟨p3_o_5b, ([.int .i64 p3_o_5.size] ++ flat cg_T_ring_place p3_o_5g0), p3_o_5t, (0, 0)⟩ :: (p3_o_5P0 ++ (v34B0 ++ (⟨b8, [.int .u8 v13_0.1, .int .u8 v13_0.2], 36, (0, 0)⟩ :: (⟨b6, [.int .u8 p1.1, .int .u8 p1.2], 36, (0, 0)⟩ :: (⟨p2b, [.pointer (some ⟨p2_ob, 0, none⟩)], p2t, (0, 0)⟩ :: (⟨p2_ob, ([.int .u64 p2_o.from_, .int .u64 p2_o.count, .int .u64 p2_o.most] ++ flat (e2 .u8) p2_o.ring.1), p2_ot, (0, 0)⟩ :: (⟨p3b, [.pointer (some ⟨p3_ob, 0, none⟩)], p3t, (0, 0)⟩ :: (⟨p4b, [.int .u8 p4], p4t, (0, 0)⟩ :: []))))))))))))))) [6, 7] [6, 7] [0, 0, 0, 4, 12, 28, 63, 127] [0, 1, 2, 3, 4, 5, 6, 7] (by kernel_rfl) (by kernel_rfl) (by kernel_rfl) ?_
    refine k_val (v := .pointer (some ⟨p3_ob, 0, none⟩)) rfl rfl rfl (pSub (pCons Sel.hc (pApp Sel.ha (pApp Sel.ha (pCons Sel.hc (pApp Sel.ha (pCons Sel.hc (pApp Sel.ha (pApp Sel.ha (pCons Sel.hc (pCons Sel.hc (pCons Sel.hc (pCons Sel.hc (pCons Sel.hc (pCons Sel.hc pNil))))))))))))))) (val_load tt_ok rfl (List.Mem.tail _ (mR (mR (List.Mem.tail _ (mR (List.Mem.tail _ (mR (mR (List.Mem.tail _ (List.Mem.tail _ (List.Mem.tail _ (List.Mem.tail _ (List.Mem.head _))))))))))))) rfl) rfl ?_
    refine k_val rfl rfl rfl (pSub (pCons Sel.hc (pApp Sel.ha (pApp Sel.ha (pCons Sel.hc (pApp Sel.ha (pCons Sel.hc (pApp Sel.ha (pApp Sel.ha (pCons Sel.hc (pCons Sel.hc (pCons Sel.hc (pCons Sel.hc (pCons Sel.hc (pCons Sel.hc pNil))))))))))))))) (stepV_ok tt_ok rfl) rfl ?_
    refine k_val (v := .int .u8 p4) rfl rfl rfl (pSub (pCons Sel.hc (pApp Sel.ha (pApp Sel.ha (pCons Sel.hc (pApp Sel.ha (pCons Sel.hc (pApp Sel.ha (pApp Sel.ha (pCons Sel.hc (pCons Sel.hc (pCons Sel.hc (pCons Sel.hc (pCons Sel.hc (pCons Sel.hc pNil))))))))))))))) (val_load tt_ok rfl (List.Mem.tail _ (mR (mR (List.Mem.tail _ (mR (List.Mem.tail _ (mR (mR (List.Mem.tail _ (List.Mem.tail _ (List.Mem.tail _ (List.Mem.tail _ (List.Mem.tail _ (List.Mem.head _)))))))))))))) rfl) rfl ?_
    refine k_val (v := .int .u8 (IntKind.wrap .u8 ((1 : Int) - p4))) rfl rfl rfl (pSub (pCons Sel.hc (pApp Sel.ha (pApp Sel.ha (pCons Sel.hc (pApp Sel.ha (pCons Sel.hc (pApp Sel.ha (pApp Sel.ha (pCons Sel.hc (pCons Sel.hc (pCons Sel.hc (pCons Sel.hc (pCons Sel.hc (pCons Sel.hc pNil))))))))))))))) (stepV_ok tt_ok rfl) rfl ?_
    rcases Bool.eq_false_or_eq_true ((IntKind.wrap .u8 ((1 : Int) - p4)) == (0 : Int)) with hx490 | hx490
    · replace h := ct hx490 h
      refine k_val (v := .pointer (some ⟨b6, 0, none⟩)) rfl rfl rfl (pSub (pCons Sel.hc (pApp Sel.ha (pApp Sel.ha (pCons Sel.hc (pApp Sel.ha (pCons Sel.hc (pApp Sel.ha (pApp Sel.ha (pCons Sel.hc (pCons Sel.hc (pCons Sel.hc (pCons Sel.hc (pCons Sel.hc (pCons Sel.hc pNil))))))))))))))) (val_ia (j := 0) tt_ok rfl rfl rfl rfl (by simpa using hx490) rfl rfl) rfl ?_
      refine k_val (v := .int .u8 p1.1) rfl rfl rfl (pSub (pCons Sel.hc (pApp Sel.ha (pApp Sel.ha (pCons Sel.hc (pApp Sel.ha (pCons Sel.hc (pApp Sel.ha (pApp Sel.ha (pCons Sel.hc (pCons Sel.hc (pCons Sel.hc (pCons Sel.hc (pCons Sel.hc (pCons Sel.hc pNil))))))))))))))) (val_load tt_ok rfl (List.Mem.tail _ (mR (mR (List.Mem.tail _ (mR (List.Mem.tail _ (mR (mR (List.Mem.tail _ (List.Mem.head _)))))))))) rfl) rfl ?_
      replace h := bsome h; obtain ⟨⟨o51_1, o51_2, v51⟩, x51, h⟩ := h; try dsimp only at h
      refine k_cs rfl rfl rfl Tryd.call26 rfl rfl rfl (s_sp (k_rollback_Engine_Remote (p0 := p3_o) (p0_4 := p3_o_4) (p0_5 := p3_o_5) p3_oN0 p3_oV0 p3_oN1 p3_oV1 p3_o_4N0 p3_o_4V0 p3_o_5G0 p3_o_5A0 x51) (pCons Sel.hc (pApp Sel.ha (pApp Sel.ha (pCons Sel.hc (pApp Sel.ha (pCons Sel.hc (pApp Sel.ha pNil))))))) (fun _ _ => trivial)) rfl (.inl rfl) ?_
      rintro _ _ ⟨_, ⟨o51_1a0, o51_1n0, o51_1c0, o51_1B0, o51_2g0, o51_2P0, o51_1N0, o51_1V0, o51_2G0, o51_2A0, rfl, rfl⟩, rfl⟩
      refine k_chg rfl rfl rfl (Chg.of_val (stepV_ok tt_ok rfl)) rfl (.inl rfl) ?_
      rintro _ _ ⟨rfl, rfl⟩
      refine k_end (by kernel_rfl) ?_
      refine wx_then (wc_ret ?_)
      simp only [Option.some.injEq, Prod.mk.injEq] at h
      obtain ⟨rfl, rfl, rfl⟩ := h
      exact wx_spD tt_ok (.inl rfl) Tryd.results32 (Res.tmp rfl Res.nil) ⟨o51_1a0, o51_1n0, o51_1c0, o51_1B0, o51_2g0, o51_2P0, o51_1N0, o51_1V0, o51_2G0, o51_2A0, rfl, rfl⟩ (fun F => by simp) (pSub (pCons (Sel.sc (Sel.sa (Sel.sa (Sel.sc (Sel.sa (Sel.sc (Sel.sa (Sel.sa (Sel.sc (Sel.sc Sel.hc)))))))))) (pCons (Sel.sc (Sel.sa (Sel.sa (Sel.sc (Sel.sa (Sel.sc (Sel.sa (Sel.sa (Sel.sc (Sel.sc Sel.hc)))))))))) (pCons (Sel.sc (Sel.sa (Sel.sa (Sel.sc (Sel.sa (Sel.sc (Sel.sa (Sel.sa (Sel.sc (Sel.sc Sel.hc)))))))))) (pCons Sel.hc (pApp Sel.ha (pApp Sel.ha (pCons Sel.hc (pApp Sel.ha (pCons Sel.hc (pApp Sel.ha (pCons (Sel.sa (Sel.sc (Sel.sc Sel.hc))) pNil))))))))))))
    replace h := cf hx490 h
    rcases Bool.eq_false_or_eq_true ((IntKind.wrap .u8 ((1 : Int) - p4)) == (1 : Int)) with hx491 | hx491
    · replace h := ct hx491 h
      refine k_val (v := .pointer (some ⟨b6, 1, none⟩)) rfl rfl rfl (pSub (pCons Sel.hc (pApp Sel.ha (pApp Sel.ha (pCons Sel.hc (pApp Sel.ha (pCons Sel.hc (pApp Sel.ha (pApp Sel.ha (pCons Sel.hc (pCons Sel.hc (pCons Sel.hc (pCons Sel.hc (pCons Sel.hc (pCons Sel.hc pNil))))))))))))))) (val_ia (j := 1) tt_ok rfl rfl rfl rfl (by simpa using hx491) rfl rfl) rfl ?_
      refine k_val (v := .int .u8 p1.2) rfl rfl rfl (pSub (pCons Sel.hc (pApp Sel.ha (pApp Sel.ha (pCons Sel.hc (pApp Sel.ha (pCons Sel.hc (pApp Sel.ha (pApp Sel.ha (pCons Sel.hc (pCons Sel.hc (pCons Sel.hc (pCons Sel.hc (pCons Sel.hc (pCons Sel.hc pNil))))))))))))))) (val_load tt_ok rfl (List.Mem.tail _ (mR (mR (List.Mem.tail _ (mR (List.Mem.tail _ (mR (mR (List.Mem.tail _ (List.Mem.head _)))))))))) rfl) rfl ?_
      replace h := bsome h; obtain ⟨⟨o51_1, o51_2, v51⟩, x51, h⟩ := h; try dsimp only at h
      refine k_cs rfl rfl rfl Tryd.call26 rfl rfl rfl (s_sp (k_rollback_Engine_Remote (p0 := p3_o) (p0_4 := p3_o_4) (p0_5 := p3_o_5) p3_oN0 p3_oV0 p3_oN1 p3_oV1 p3_o_4N0 p3_o_4V0 p3_o_5G0 p3_o_5A0 x51) (pCons Sel.hc (pApp Sel.ha (pApp Sel.ha (pCons Sel.hc (pApp Sel.ha (pCons Sel.hc (pApp Sel.ha pNil))))))) (fun _ _ => trivial)) rfl (.inl rfl) ?_
      rintro _ _ ⟨_, ⟨o51_1a0, o51_1n0, o51_1c0, o51_1B0, o51_2g0, o51_2P0, o51_1N0, o51_1V0, o51_2G0, o51_2A0, rfl, rfl⟩, rfl⟩
      refine k_chg rfl rfl rfl (Chg.of_val (stepV_ok tt_ok rfl)) rfl (.inl rfl) ?_
      rintro _ _ ⟨rfl, rfl⟩
      refine k_end (by kernel_rfl) ?_
      refine wx_then (wc_ret ?_)
      simp only [Option.some.injEq, Prod.mk.injEq] at h
      obtain ⟨rfl, rfl, rfl⟩ := h
      exact wx_spD tt_ok (.inl rfl) Tryd.results32 (Res.tmp rfl Res.nil) ⟨o51_1a0, o51_1n0, o51_1c0, o51_1B0, o51_2g0, o51_2P0, o51_1N0, o51_1V0, o51_2G0, o51_2A0, rfl, rfl⟩ (fun F => by simp) (pSub (pCons (Sel.sc (Sel.sa (Sel.sa (Sel.sc (Sel.sa (Sel.sc (Sel.sa (Sel.sa (Sel.sc (Sel.sc Sel.hc)))))))))) (pCons (Sel.sc (Sel.sa (Sel.sa (Sel.sc (Sel.sa (Sel.sc (Sel.sa (Sel.sa (Sel.sc (Sel.sc Sel.hc)))))))))) (pCons (Sel.sc (Sel.sa (Sel.sa (Sel.sc (Sel.sa (Sel.sc (Sel.sa (Sel.sa (Sel.sc (Sel.sc Sel.hc)))))))))) (pCons Sel.hc (pApp Sel.ha (pApp Sel.ha (pCons Sel.hc (pApp Sel.ha (pCons Sel.hc (pApp Sel.ha (pCons (Sel.sa (Sel.sc (Sel.sc Sel.hc))) pNil))))))))))))
    replace h := cf hx491 h
    cases h
  replace h := cf hx421 h
  cases h

theorem k_backfill_Pairs {F : Nat} {p0 : T_rollback_Engine} {p0b p0t : Nat} {p0a0 : Option Addr} {p0n0 : Nat} {p0c0 : Nat} {p0B0 : List Blk} {p0a1 : Option Addr} {p0n1 : Nat} {p0c1 : Nat} {p0B1 : List Blk} {p0_4 : T_queue_Queue} {p0_4b p0_4t : Nat} {p0_4a0 : Option Addr} {p0_4n0 : Nat} {p0_4c0 : Nat} {p0_4B0 : List Blk} {p0_5 : T_ring_Ring} {p0_5b p0_5t : Nat} {p0_5g0 : List (T_ring_place × G)} {p0_5P0 : List Blk} {p1 : T_fold_History} {p1b p1t : Nat} {p2 : Int} {p3 : Int} {p4 : (List (Int × Int))} {p4a0 : Option Addr} {p4n0 p4c0 : Nat} {r0 : T_queue_Queue} {r1 : T_ring_Ring} {r2 : Int} {r3 : Int} (p0N0 : p0n0 = p0.sure.Shots.length) (p0V0 : Own 92 6 p0a0 p0n0 p0c0 (flat c_T_api_Shot p0.sure.Shots) p0B0) (p0N1 : p0n1 = p0.own.length) (p0V1 : Own 34 1 p0a1 p0n1 p0c1 (flat (e1 .u8) p0.own) p0B1) (p0_4N0 : p0_4n0 = p0_4.l.length) (p0_4V0 : Own 34 1 p0_4a0 p0_4n0 p0_4c0 (flat (e1 .u8) p0_4.l) p0_4B0) (p0_5G0 : p0_5.places.1 = unG p0_5g0) (p0_5A0 : AllP sh_T_ring_place c_T_api_Shot p0_5P0 p0_5g0) (p4N0 : p4n0 = p4.length) (p4H0 : p4n0 ≤ p4c0) (h : m_backfill_Pairs F p0 p0_4 p0_5 p1 p2 p3 p4 = some (r0, r1, r2, r3)) :
    SpD Tryd.prog 13 [.pointer (some ⟨p0b, 0, none⟩), .pointer (some ⟨p1b, 0, none⟩), .int .u8 p2, .int .u64 p3, .slice p4a0 p4n0 p4c0] (⟨p0b, [.int .u8 p0.player, .int .i64 p0.window, .int .u64 p0.sure.Frame, .int .u64 p0.sure.Seed, .int .i32 p0.sure.Players.1.X, .int .i32 p0.sure.Players.1.Y, .int .i32 p0.sure.Players.1.VX, .int .i32 p0.sure.Players.1.VY, .int .u8 p0.sure.Players.1.Health, .int .u8 p0.sure.Players.1.Cool, .int .u8 p0.sure.Players.1.Face, .int .i32 p0.sure.Players.2.X, .int .i32 p0.sure.Players.2.Y, .int .i32 p0.sure.Players.2.VX, .int .i32 p0.sure.Players.2.VY, .int .u8 p0.sure.Players.2.Health, .int .u8 p0.sure.Players.2.Cool, .int .u8 p0.sure.Players.2.Face, .slice p0a0 p0n0 p0c0, .int .u16 p0.sure.Score.1, .int .u16 p0.sure.Score.2, .slice p0a1 p0n1 p0c1, .pointer (some ⟨p0_4b, 0, none⟩), .pointer (some ⟨p0_5b, 0, none⟩)], p0t, (0, 0)⟩ :: (p0B0 ++ (p0B1 ++ (⟨p0_4b, [.int .u64 p0_4.first_, .slice p0_4a0 p0_4n0 p0_4c0, .int .u8 p0_4.last], p0_4t, (0, 0)⟩ :: (p0_4B0 ++ (⟨p0_5b, ([.int .i64 p0_5.size] ++ flat cg_T_ring_place p0_5g0), p0_5t, (0, 0)⟩ :: (p0_5P0 ++ (⟨p1b, ([.int .u64 p1.from_, .int .u64 p1.count, .int .u64 p1.most] ++ flat (e2 .u8) p1.ring.1), p1t, (0, 0)⟩ :: [])))))))) (fun w => Rds w (ids (⟨p0b, [.int .u8 p0.player, .int .i64 p0.window, .int .u64 p0.sure.Frame, .int .u64 p0.sure.Seed, .int .i32 p0.sure.Players.1.X, .int .i32 p0.sure.Players.1.Y, .int .i32 p0.sure.Players.1.VX, .int .i32 p0.sure.Players.1.VY, .int .u8 p0.sure.Players.1.Health, .int .u8 p0.sure.Players.1.Cool, .int .u8 p0.sure.Players.1.Face, .int .i32 p0.sure.Players.2.X, .int .i32 p0.sure.Players.2.Y, .int .i32 p0.sure.Players.2.VX, .int .i32 p0.sure.Players.2.VY, .int .u8 p0.sure.Players.2.Health, .int .u8 p0.sure.Players.2.Cool, .int .u8 p0.sure.Players.2.Face, .slice p0a0 p0n0 p0c0, .int .u16 p0.sure.Score.1, .int .u16 p0.sure.Score.2, .slice p0a1 p0n1 p0c1, .pointer (some ⟨p0_4b, 0, none⟩), .pointer (some ⟨p0_5b, 0, none⟩)], p0t, (0, 0)⟩ :: (p0B0 ++ (p0B1 ++ (⟨p0_4b, [.int .u64 p0_4.first_, .slice p0_4a0 p0_4n0 p0_4c0, .int .u8 p0_4.last], p0_4t, (0, 0)⟩ :: (p0_4B0 ++ (⟨p0_5b, ([.int .i64 p0_5.size] ++ flat cg_T_ring_place p0_5g0), p0_5t, (0, 0)⟩ :: (p0_5P0 ++ (⟨p1b, ([.int .u64 p1.from_, .int .u64 p1.count, .int .u64 p1.most] ++ flat (e2 .u8) p1.ring.1), p1t, (0, 0)⟩ :: []))))))))) [] p4a0 (flat (e2 .u8) p4)) (fun v D => ∃ (r0a0 : Option Addr) (r0n0 : Nat) (r0c0 : Nat) (r0B0 : List Blk) (r1g0 : List (T_ring_place × G)) (r1P0 : List Blk), r0n0 = r0.l.length ∧ Own 34 1 r0a0 r0n0 r0c0 (flat (e1 .u8) r0.l) r0B0 ∧ r1.places.1 = unG r1g0 ∧ AllP sh_T_ring_place c_T_api_Shot r1P0 r1g0 ∧ v = .tuple #[.int .i64 r2, .int .i64 r3] ∧ D = fun F => (⟨p0b, [.int .u8 p0.player, .int .i64 p0.window, .int .u64 p0.sure.Frame, .int .u64 p0.sure.Seed, .int .i32 p0.sure.Players.1.X, .int .i32 p0.sure.Players.1.Y, .int .i32 p0.sure.Players.1.VX, .int .i32 p0.sure.Players.1.VY, .int .u8 p0.sure.Players.1.Health, .int .u8 p0.sure.Players.1.Cool, .int .u8 p0.sure.Players.1.Face, .int .i32 p0.sure.Players.2.X, .int .i32 p0.sure.Players.2.Y, .int .i32 p0.sure.Players.2.VX, .int .i32 p0.sure.Players.2.VY, .int .u8 p0.sure.Players.2.Health, .int .u8 p0.sure.Players.2.Cool, .int .u8 p0.sure.Players.2.Face, .slice p0a0 p0n0 p0c0, .int .u16 p0.sure.Score.1, .int .u16 p0.sure.Score.2, .slice p0a1 p0n1 p0c1, .pointer (some ⟨p0_4b, 0, none⟩), .pointer (some ⟨p0_5b, 0, none⟩)], p0t, (0, 0)⟩ :: (p0B0 ++ (p0B1 ++ (⟨p0_4b, [.int .u64 r0.first_, .slice r0a0 r0n0 r0c0, .int .u8 r0.last], p0_4t, (0, 0)⟩ :: (r0B0 ++ (⟨p0_5b, ([.int .i64 r1.size] ++ flat cg_T_ring_place r1g0), p0_5t, (0, 0)⟩ :: (r1P0 ++ (⟨p1b, ([.int .u64 p1.from_, .int .u64 p1.count, .int .u64 p1.most] ++ flat (e2 .u8) p1.ring.1), p1t, (0, 0)⟩ :: F))))))))) := by
  unfold m_backfill_Pairs at h
  refine sp_of_wc Tryd.func13 rfl Tryd.ntmps13 rfl rfl (fun w0 hR => ?_)
  have p4S0 := hR
  refine wc_seq (wc_region ?_)
  refine wl_box rfl rfl rfl (fun b5 => ?_)
  refine wl_box rfl rfl rfl (fun b6 => ?_)
  refine wl_box rfl rfl rfl (fun b7 => ?_)
  iterate 2 refine wl_pure tt_ok rfl rfl ?_
  refine wl_nil (wx_then (wc_seq (wc_region ?_)))
  refine wl_val (v := .pointer (some ⟨p0b, 0, none⟩)) (val_load tt_ok rfl (List.Mem.tail _ (List.Mem.tail _ (List.Mem.head _))) rfl) rfl ?_
  refine wl_val (v := .pointer (some ⟨p1b, 0, none⟩)) (val_load tt_ok rfl (List.Mem.tail _ (List.Mem.head _)) rfl) rfl ?_
  refine wl_val (v := .int .u8 p2) (val_load tt_ok rfl (List.Mem.head _) rfl) rfl ?_
  iterate 3 refine wl_pure tt_ok rfl rfl ?_
  refine wl_inl Tryd.call31 rfl rfl rfl Tryd.func31 rfl Tryd.ntmps31 rfl rfl rfl ?_
  refine wc_seq (wc_region ?_)
  iterate 2 refine wl_pure tt_ok rfl rfl ?_
  refine wl_nil (wx_then (wc_seq (wc_block (wc_seq (wc_region ?_)))))
  refine wl_pure tt_ok rfl rfl ?_
  refine wl_pure (v := .bool false) tt_ok rfl rfl ?_
  refine wl_pure tt_ok rfl rfl ?_
  refine wl_run rfl ?_
  refine wl_pure tt_ok rfl rfl ?_
  refine wl_run rfl ?_
  refine wl_pure (v := .bool false) tt_ok rfl rfl ?_
  refine wl_pure (v := .bool false) tt_ok rfl rfl ?_
  refine wl_pure tt_ok rfl rfl ?_
  refine wl_nil (wx_then ?_)
  refine wc_cond_false rfl ?_
  refine wc_seq (wc_region ?_)
  refine wl_pure tt_ok rfl rfl ?_
  refine wl_pure (v := .bool (decide ((1 : Int) < p2))) tt_ok rfl rfl ?_
  refine wl_pure tt_ok rfl rfl ?_
  replace h := bsome h; obtain ⟨v100034, h, hg100034⟩ := h
  refine wl_split (t := 27) rfl (fun hc => ?_) (fun hc => ?_)
  · replace h := ct hc h
    refine wl_skip rfl rfl ?_
    refine wl_skip rfl rfl ?_
    refine wl_skip rfl rfl ?_
    refine wl_skip rfl rfl ?_
    refine wl_skip rfl rfl ?_
    refine wl_skip rfl rfl ?_
    simp only [Option.some.injEq, Prod.mk.injEq] at h
    obtain rfl := h
    have h := hg100034; clear hg100034
    refine wl_pure (v := .bool true) tt_ok rfl rfl ?_
    refine wl_pure tt_ok rfl rfl ?_
    refine wl_nil (wx_then ?_)
    replace h := ct rfl h
    refine wc_cond_true rfl ?_
    refine wc_seq (wc_region ?_)
    iterate 2 refine wl_pure tt_ok rfl rfl ?_
    refine wl_nil (wx_then (wc_ret (wx_block_ret (wx_then_ret ?_))))
    refine wx_inl (v := .tuple #[.int .i64 (0 : Int), .int .i64 (2 : Int)]) tt_ok (.inl rfl) Tryd.results31 (Res.tmp rfl (Res.tmp rfl Res.nil)) rfl ?_
    iterate 4 refine wl_pure tt_ok rfl rfl ?_
    refine wl_nil (wx_then (wc_ret ?_))
    simp only [Option.some.injEq, Prod.mk.injEq] at h
    obtain ⟨rfl, rfl, rfl, rfl⟩ := h
    exact wx_spD tt_ok (.inl rfl) Tryd.results13 (Res.tmp rfl (Res.tmp rfl Res.nil)) ⟨p0_4a0, p0_4n0, p0_4c0, p0_4B0, p0_5g0, p0_5P0, p0_4N0, p0_4V0, p0_5G0, p0_5A0, rfl, rfl⟩ (fun F => by simp) (pSub (pCons (Sel.sc (Sel.sc (Sel.sc Sel.hc))) (pApp (Sel.sc (Sel.sc (Sel.sc Sel.ha))) (pApp (Sel.sc (Sel.sc (Sel.sc Sel.ha))) (pCons (Sel.sc (Sel.sc (Sel.sc Sel.hc))) (pApp (Sel.sc (Sel.sc (Sel.sc Sel.ha))) (pCons (Sel.sc (Sel.sc (Sel.sc Sel.hc))) (pApp (Sel.sc (Sel.sc (Sel.sc Sel.ha))) (pCons (Sel.sc (Sel.sc (Sel.sc Sel.hc))) pNil)))))))))
  replace h := cf hc h
  refine wl_run rfl ?_
  refine wl_pure tt_ok rfl rfl ?_
  refine wl_run rfl ?_
  refine wl_val (v := .int .i64 (p4.length : Int)) (val_len tt_ok rfl rfl p4N0) rfl ?_
  refine wl_run rfl ?_
  refine wl_pure (v := .int .u64 (IntKind.wrap .u64 (p4.length : Int))) tt_ok rfl rfl ?_
  refine wl_run rfl ?_
  refine wl_pure tt_ok rfl rfl ?_
  refine wl_run rfl ?_
  refine wl_pure (v := .int .u64 (IntKind.wrap .u64 ((18446744073709551615 : Int) - p3))) tt_ok rfl rfl ?_
  refine wl_run rfl ?_
  refine wl_pure (v := .bool (decide ((IntKind.wrap .u64 ((18446744073709551615 : Int) - p3)) < (IntKind.wrap .u64 (p4.length : Int))))) tt_ok rfl rfl ?_
  simp only [Option.some.injEq, Prod.mk.injEq] at h
  obtain rfl := h
  have h := hg100034; clear hg100034
  refine wl_pure (v := .bool (decide ((IntKind.wrap .u64 ((18446744073709551615 : Int) - p3)) < (IntKind.wrap .u64 (p4.length : Int))))) tt_ok rfl rfl ?_
  refine wl_pure tt_ok rfl rfl ?_
  refine wl_nil (wx_then ?_)
  refine wc_cond rfl (fun hc => ?_) (fun hc => ?_)
  · replace h := ct hc h
    refine wc_seq (wc_region ?_)
    iterate 2 refine wl_pure tt_ok rfl rfl ?_
    refine wl_nil (wx_then (wc_ret (wx_block_ret (wx_then_ret ?_))))
    refine wx_inl (v := .tuple #[.int .i64 (0 : Int), .int .i64 (2 : Int)]) tt_ok (.inl rfl) Tryd.results31 (Res.tmp rfl (Res.tmp rfl Res.nil)) rfl ?_
    iterate 4 refine wl_pure tt_ok rfl rfl ?_
    refine wl_nil (wx_then (wc_ret ?_))
    simp only [Option.some.injEq, Prod.mk.injEq] at h
    obtain ⟨rfl, rfl, rfl, rfl⟩ := h
    exact wx_spD tt_ok (.inl rfl) Tryd.results13 (Res.tmp rfl (Res.tmp rfl Res.nil)) ⟨p0_4a0, p0_4n0, p0_4c0, p0_4B0, p0_5g0, p0_5P0, p0_4N0, p0_4V0, p0_5G0, p0_5A0, rfl, rfl⟩ (fun F => by simp) (pSub (pCons (Sel.sc (Sel.sc (Sel.sc Sel.hc))) (pApp (Sel.sc (Sel.sc (Sel.sc Sel.ha))) (pApp (Sel.sc (Sel.sc (Sel.sc Sel.ha))) (pCons (Sel.sc (Sel.sc (Sel.sc Sel.hc))) (pApp (Sel.sc (Sel.sc (Sel.sc Sel.ha))) (pCons (Sel.sc (Sel.sc (Sel.sc Sel.hc))) (pApp (Sel.sc (Sel.sc (Sel.sc Sel.ha))) (pCons (Sel.sc (Sel.sc (Sel.sc Sel.hc))) pNil)))))))))
  replace h := cf hc h
  refine wc_skip (wx_block (wx_then (wc_seq (wc_seq (wc_region ?_)))))
  refine wl_pure tt_ok rfl rfl ?_
  refine wl_val (v := .int .i64 (p4.length : Int)) (val_len tt_ok rfl rfl p4N0) rfl ?_
  refine wl_pure tt_ok rfl rfl ?_
  refine wl_nil (wx_then (wc_block ?_))
  replace h := bsome h; obtain ⟨o100022, h, hl100022⟩ := h
  refine wc_loop (fun m E L => ∃ (j100022_100012 : Int) (j100022_100037 : Int) (j100022_p0_4_f0 : Int) (j100022_p0_4_f1 : (List Int)) (j100022_p0_4_f2 : Int) (j100022_p0_5_f0 : Int) (j100022_p0_5_f1 : (Arr T_ring_place 14)) (j100022_p0_4_f1a0 : Option Addr) (j100022_p0_4_f1n0 : Nat) (j100022_p0_4_f1c0 : Nat) (j100022_p0_4_f1B0 : List Blk) (j100022_p0_5_f1g0 : List (T_ring_place × G)) (j100022_p0_5_f1P0 : List Blk), m_backfill_Pairs_L100021 F p0 p1 p2 p3 p4 m j100022_100012 j100022_100037 j100022_p0_4_f0 j100022_p0_4_f1 j100022_p0_4_f2 j100022_p0_5_f0 j100022_p0_5_f1 = some o100022 ∧ j100022_p0_4_f1n0 = j100022_p0_4_f1.length ∧ Own 34 1 j100022_p0_4_f1a0 j100022_p0_4_f1n0 j100022_p0_4_f1c0 (flat (e1 .u8) j100022_p0_4_f1) j100022_p0_4_f1B0 ∧ j100022_p0_5_f1.1 = unG j100022_p0_5_f1g0 ∧ AllP sh_T_ring_place c_T_api_Shot j100022_p0_5_f1P0 j100022_p0_5_f1g0 ∧ E = [(3, .int .u64 p3), (5, .func (.func 32) #[] #[.pointer (some ⟨b6, 0, none⟩), .pointer (some ⟨b5, 0, none⟩), .pointer (some ⟨b7, 0, none⟩)]), (12, .int .i64 j100022_100012), (35, .slice p4a0 p4n0 p4c0), (36, .int .i64 (p4.length : Int)), (37, .int .i64 j100022_100037)] ∧ L = (⟨b5, [.pointer (some ⟨p0b, 0, none⟩)], 27, (0, 0)⟩ :: (⟨p0b, [.int .u8 p0.player, .int .i64 p0.window, .int .u64 p0.sure.Frame, .int .u64 p0.sure.Seed, .int .i32 p0.sure.Players.1.X, .int .i32 p0.sure.Players.1.Y, .int .i32 p0.sure.Players.1.VX, .int .i32 p0.sure.Players.1.VY, .int .u8 p0.sure.Players.1.Health, .int .u8 p0.sure.Players.1.Cool, .int .u8 p0.sure.Players.1.Face, .int .i32 p0.sure.Players.2.X, .int .i32 p0.sure.Players.2.Y, .int .i32 p0.sure.Players.2.VX, .int .i32 p0.sure.Players.2.VY, .int .u8 p0.sure.Players.2.Health, .int .u8 p0.sure.Players.2.Cool, .int .u8 p0.sure.Players.2.Face, .slice p0a0 p0n0 p0c0, .int .u16 p0.sure.Score.1, .int .u16 p0.sure.Score.2, .slice p0a1 p0n1 p0c1, .pointer (some ⟨p0_4b, 0, none⟩), .pointer (some ⟨p0_5b, 0, none⟩)], p0t, (0, 0)⟩ :: (⟨p0_4b, [.int .u64 j100022_p0_4_f0, .slice j100022_p0_4_f1a0 j100022_p0_4_f1n0 j100022_p0_4_f1c0, .int .u8 j100022_p0_4_f2], p0_4t, (0, 0)⟩ :: (⟨p0_5b, ([.int .i64 j100022_p0_5_f0] ++ flat cg_T_ring_place j100022_p0_5_f1g0), p0_5t, (0, 0)⟩ :: (⟨b6, [.pointer (some ⟨p1b, 0, none⟩)], 28, (0, 0)⟩ :: (⟨p1b, ([.int .u64 p1.from_, .int .u64 p1.count, .int .u64 p1.most] ++ flat (e2 .u8) p1.ring.1), p1t, (0, 0)⟩ :: (⟨b7, [.int .u8 p2], 5, (0, 0)⟩ :: (p0B0 ++ (p0B1 ++ (j100022_p0_4_f1B0 ++ (j100022_p0_5_f1P0 ++ [])))))))))))) F ⟨(0 : Int), (0 : Int), p0_4.first_, p0_4.l, p0_4.last, p0_5.size, p0_5.places, p0_4a0, p0_4n0, p0_4c0, p0_4B0, p0_5g0, p0_5P0, h, p0_4N0, p0_4V0, p0_5G0, p0_5A0, rfl, rfl⟩ (agree_cons rfl (agree_cons rfl (agree_cons rfl (agree_cons rfl (agree_cons rfl (agree_cons rfl agree_nil)))))) (pSub (pCons (Sel.sc (Sel.sc Sel.hc)) (pCons (Sel.sc (Sel.sc Sel.hc)) (pCons (Sel.sc (Sel.sc (Sel.sa (Sel.sa Sel.hc)))) (pCons (Sel.sc (Sel.sc (Sel.sa (Sel.sa (Sel.sa Sel.hc))))) (pCons (Sel.sc Sel.hc) (pCons (Sel.sc (Sel.sa (Sel.sa (Sel.sa (Sel.sa Sel.hc))))) (pCons Sel.hc (pApp Sel.ha (pApp Sel.ha (pApp Sel.ha (pApp Sel.ha pNil)))))))))))) ?_
  clear h
  rintro m100022 _ _ ⟨j100022_100012, j100022_100037, j100022_p0_4_f0, j100022_p0_4_f1, j100022_p0_4_f2, j100022_p0_5_f0, j100022_p0_5_f1, j100022_p0_4_f1a0, j100022_p0_4_f1n0, j100022_p0_4_f1c0, j100022_p0_4_f1B0, j100022_p0_5_f1g0, j100022_p0_5_f1P0, h, j100022_p0_4_f1N0, j100022_p0_4_f1V0, j100022_p0_5_f1G0, j100022_p0_5_f1A0, rfl, rfl⟩
  rcases m100022 with _ | m100022
  · rw [m_backfill_Pairs_L100021.eq_1] at h; cases h
  rw [m_backfill_Pairs_L100021.eq_2] at h
  refine wc_seq (wc_region ?_)
  refine wl_pure (v := .bool (decide (j100022_100037 < (p4.length : Int)))) tt_ok rfl rfl ?_
  refine wl_nil (wx_then (wc_seq ?_))
  refine wc_cond rfl (fun hc => ?_) (fun hc => ?_)
  · replace h := ct hc h
    refine wc_skip (wx_then (wc_seq (wc_block (wc_seq (wc_region ?_)))))
    replace h := bsome h; obtain ⟨v100039, x100039, h⟩ := h
    refine wl_val (v := .pointer (some ((adOf p4a0).add (j100022_100037.toNat * 2 + 0)))) (val_ix (enc := (e2 .u8)) tt_ok rfl rfl rfl rfl p4N0 p4S0 (e2_len _) rfl x100039) rfl ?_
    refine wl_val (v := .agg #[.int .u8 v100039.1, .int .u8 v100039.2]) (val_le (enc := (e2 .u8)) (xs := p4) tt_ok rfl p4S0 rsub_nil (e2_len _) x100039 rfl) rfl ?_
    refine wl_alloc tt_ok rfl rfl (fun b100015 => ?_)
    apply wl_store tt_ok; rfl; exact Upd.here; rfl; rfl; rfl; rfl; rfl; rfl
    refine wl_nil (wx_then (wc_seq (wc_seq (wc_region ?_))))
    iterate 3 refine wl_pure tt_ok rfl rfl ?_
    refine wl_pure (v := .int .u64 (IntKind.wrap .u64 j100022_100012)) tt_ok rfl rfl ?_
    refine wl_pure (v := .int .u64 (IntKind.wrap .u64 (p3 + (IntKind.wrap .u64 j100022_100012)))) tt_ok rfl rfl ?_
    refine wl_val (v := .agg #[.int .u8 v100039.1, .int .u8 v100039.2]) (val_load tt_ok rfl (List.Mem.head _) rfl) rfl ?_
    replace h := bsome h; obtain ⟨⟨o100047_6, o100047_7, v100047⟩, x100047, h⟩ := h; try dsimp only at h
    refine wl_cs Tryd.call32 rfl rfl rfl (s_sp (k_backfill_Pairs_1 (p2 := ()) (p3 := ()) (p3_o := p0) (p3_o_4 := (T_queue_Queue.mk j100022_p0_4_f0 j100022_p0_4_f1 j100022_p0_4_f2)) (p3_o_5 := (T_ring_Ring.mk j100022_p0_5_f0 j100022_p0_5_f1)) p0N0 p0V0 p0N1 p0V1 j100022_p0_4_f1N0 j100022_p0_4_f1V0 j100022_p0_5_f1G0 j100022_p0_5_f1A0 x100047) (pCons (Sel.sc (Sel.sc (Sel.sc (Sel.sc (Sel.sc Sel.hc))))) (pCons (Sel.sc (Sel.sc (Sel.sc (Sel.sc (Sel.sc Sel.hc))))) (pCons (Sel.sc Sel.hc) (pCons (Sel.sc Sel.hc) (pApp (Sel.sc (Sel.sc (Sel.sc (Sel.sc Sel.ha)))) (pApp (Sel.sc (Sel.sc (Sel.sc (Sel.sc Sel.ha)))) (pCons (Sel.sc Sel.hc) (pApp (Sel.sc (Sel.sc (Sel.sc Sel.ha))) (pCons (Sel.sc Sel.hc) (pApp (Sel.sc (Sel.sc Sel.ha)) (pCons (Sel.sc Sel.hc) pNil))))))))))) (fun _ _ => trivial)) rfl ?_
    rintro _ _ ⟨_, ⟨o100047_6a0, o100047_6n0, o100047_6c0, o100047_6B0, o100047_7g0, o100047_7P0, o100047_6N0, o100047_6V0, o100047_7G0, o100047_7A0, rfl, rfl⟩, rfl⟩
    refine wl_pure tt_ok rfl rfl ?_
    refine wl_nil (wx_then (wc_seq (wc_region ?_)))
    refine wl_pure tt_ok rfl rfl ?_
    refine wl_pure (v := .bool (v100047 != (0 : Int))) tt_ok rfl rfl ?_
    refine wl_nil (wx_then ?_)
    refine wc_cond rfl (fun hc => ?_) (fun hc => ?_)
    · replace h := ct hc h
      refine wc_seq (wc_region ?_)
      iterate 4 refine wl_pure tt_ok rfl rfl ?_
      refine wl_nil (wx_then (wc_ret (wx_then_ret (wx_block_ret (wx_then_ret ?_)))))
      obtain rfl := Option.some.inj h
      have h := hl100022; clear hl100022; try dsimp only [orE_l, orE_r] at h
      refine wx_then_ret (wx_block_ret (wx_then_ret ?_))
      refine wx_inl (v := .tuple #[.int .i64 j100022_100012, .int .i64 v100047]) tt_ok (.inl rfl) Tryd.results31 (Res.tmp rfl (Res.tmp rfl Res.nil)) rfl ?_
      iterate 4 refine wl_pure tt_ok rfl rfl ?_
      refine wl_nil (wx_then (wc_ret ?_))
      simp only [Option.some.injEq, Prod.mk.injEq] at h
      obtain ⟨rfl, rfl, rfl, rfl⟩ := h
      exact wx_spD tt_ok (.inl rfl) Tryd.results13 (Res.tmp rfl (Res.tmp rfl Res.nil)) ⟨o100047_6a0, o100047_6n0, o100047_6c0, o100047_6B0, o100047_7g0, o100047_7P0, o100047_6N0, o100047_6V0, o100047_7G0, o100047_7A0, rfl, rfl⟩ (fun F => by simp) (pSub (pCons (Sel.sc (Sel.sc (Sel.sc Sel.hc))) (pApp (Sel.sc (Sel.sc (Sel.sc Sel.ha))) (pApp (Sel.sc (Sel.sc (Sel.sc Sel.ha))) (pCons (Sel.sc (Sel.sc (Sel.sc Sel.hc))) (pApp (Sel.sc (Sel.sc (Sel.sc Sel.ha))) (pCons (Sel.sc (Sel.sc (Sel.sc Sel.hc))) (pApp (Sel.sc (Sel.sc (Sel.sc Sel.ha))) (pCons (Sel.sc Sel.hc) pNil)))))))))
    replace h := cf hc h
    refine wc_skip (wx_then (wc_region ?_))
    refine wl_pure tt_ok rfl rfl ?_
    refine wl_pure (v := .int .i64 (IntKind.wrap .i64 (j100022_100012 + (1 : Int)))) tt_ok rfl rfl ?_
    refine wl_pure tt_ok rfl rfl ?_
    refine wl_nil (wx_block (wx_then (wc_region ?_)))
    refine wl_pure (v := .int .i64 (IntKind.wrap .i64 (j100022_100037 + (1 : Int)))) tt_ok rfl rfl ?_
    refine wl_pure tt_ok rfl rfl ?_
    refine wl_nil ?_
    exact wx_round m100022 (Nat.lt_succ_self m100022) ⟨(IntKind.wrap .i64 (j100022_100012 + (1 : Int))), (IntKind.wrap .i64 (j100022_100037 + (1 : Int))), o100047_6.first_, o100047_6.l, o100047_6.last, o100047_7.size, o100047_7.places, o100047_6a0, o100047_6n0, o100047_6c0, o100047_6B0, o100047_7g0, o100047_7P0, h, o100047_6N0, o100047_6V0, o100047_7G0, o100047_7A0, rfl, rfl⟩ (agree_cons rfl (agree_cons rfl (agree_cons rfl (agree_cons rfl (agree_cons rfl (agree_cons rfl agree_nil)))))) (pSub (pCons (Sel.sc (Sel.sc Sel.hc)) (pCons (Sel.sc (Sel.sc Sel.hc)) (pCons (Sel.sc (Sel.sc (Sel.sa (Sel.sa Sel.hc)))) (pCons (Sel.sc (Sel.sc (Sel.sa (Sel.sa (Sel.sa Sel.hc))))) (pCons Sel.hc (pCons Sel.hc (pCons (Sel.sa (Sel.sa (Sel.sa (Sel.sa Sel.hc)))) (pApp Sel.ha (pApp Sel.ha (pApp Sel.ha (pApp Sel.ha pNil))))))))))))
  replace h := cf hc h
  refine wc_exit (wx_then_exit ?_)
  obtain rfl := Option.some.inj h
  have h := hl100022; clear hl100022; try dsimp only [orE_l, orE_r] at h
  refine wx_then_exit (wx_block_exit (wx_then (wc_seq (wc_region ?_))))
  iterate 3 refine wl_pure tt_ok rfl rfl ?_
  refine wl_nil (wx_then (wc_ret ?_))
  refine wx_inl (v := .tuple #[.int .i64 j100022_100012, .int .i64 (0 : Int)]) tt_ok (.inl rfl) Tryd.results31 (Res.tmp rfl (Res.tmp rfl Res.nil)) rfl ?_
  iterate 4 refine wl_pure tt_ok rfl rfl ?_
  refine wl_nil (wx_then (wc_ret ?_))
  simp only [Option.some.injEq, Prod.mk.injEq] at h
  obtain ⟨rfl, rfl, rfl, rfl⟩ := h
  exact wx_spD tt_ok (.inl rfl) Tryd.results13 (Res.tmp rfl (Res.tmp rfl Res.nil)) ⟨j100022_p0_4_f1a0, j100022_p0_4_f1n0, j100022_p0_4_f1c0, j100022_p0_4_f1B0, j100022_p0_5_f1g0, j100022_p0_5_f1P0, j100022_p0_4_f1N0, j100022_p0_4_f1V0, j100022_p0_5_f1G0, j100022_p0_5_f1A0, rfl, rfl⟩ (fun F => by simp) (pSub (pCons (Sel.sc Sel.hc) (pApp (Sel.sc (Sel.sc (Sel.sc (Sel.sc (Sel.sc (Sel.sc Sel.ha)))))) (pApp (Sel.sc (Sel.sc (Sel.sc (Sel.sc (Sel.sc (Sel.sc Sel.ha)))))) (pCons (Sel.sc Sel.hc) (pApp (Sel.sc (Sel.sc (Sel.sc (Sel.sc (Sel.sc Sel.ha))))) (pCons (Sel.sc Sel.hc) (pApp (Sel.sc (Sel.sc (Sel.sc (Sel.sc Sel.ha)))) (pCons (Sel.sc (Sel.sc Sel.hc)) pNil)))))))))

theorem k_hindcastlaw28_pairs {F : Nat} {p0 : T_rollback_Engine} {p0b p0t : Nat} {p0a0 : Option Addr} {p0n0 : Nat} {p0c0 : Nat} {p0B0 : List Blk} {p0a1 : Option Addr} {p0n1 : Nat} {p0c1 : Nat} {p0B1 : List Blk} {p0_4 : T_queue_Queue} {p0_4b p0_4t : Nat} {p0_4a0 : Option Addr} {p0_4n0 : Nat} {p0_4c0 : Nat} {p0_4B0 : List Blk} {p0_5 : T_ring_Ring} {p0_5b p0_5t : Nat} {p0_5g0 : List (T_ring_place × G)} {p0_5P0 : List Blk} {p1 : T_fold_History} {p1b p1t : Nat} {p2 : Int} {p3 : (List (Int × Int))} {p3a0 : Option Addr} {p3n0 p3c0 : Nat} {r0 : T_queue_Queue} {r1 : T_ring_Ring} {r2 : Int} (p0N0 : p0n0 = p0.sure.Shots.length) (p0V0 : Own 92 6 p0a0 p0n0 p0c0 (flat c_T_api_Shot p0.sure.Shots) p0B0) (p0N1 : p0n1 = p0.own.length) (p0V1 : Own 34 1 p0a1 p0n1 p0c1 (flat (e1 .u8) p0.own) p0B1) (p0_4N0 : p0_4n0 = p0_4.l.length) (p0_4V0 : Own 34 1 p0_4a0 p0_4n0 p0_4c0 (flat (e1 .u8) p0_4.l) p0_4B0) (p0_5G0 : p0_5.places.1 = unG p0_5g0) (p0_5A0 : AllP sh_T_ring_place c_T_api_Shot p0_5P0 p0_5g0) (p3N0 : p3n0 = p3.length) (p3H0 : p3n0 ≤ p3c0) (h : m_hindcastlaw28_pairs F p0 p0_4 p0_5 p1 p2 p3 = some (r0, r1, r2)) :
    SpD Tryd.prog 18 [.pointer (some ⟨p0b, 0, none⟩), .pointer (some ⟨p1b, 0, none⟩), .int .u64 p2, .slice p3a0 p3n0 p3c0] (⟨p0b, [.int .u8 p0.player, .int .i64 p0.window, .int .u64 p0.sure.Frame, .int .u64 p0.sure.Seed, .int .i32 p0.sure.Players.1.X, .int .i32 p0.sure.Players.1.Y, .int .i32 p0.sure.Players.1.VX, .int .i32 p0.sure.Players.1.VY, .int .u8 p0.sure.Players.1.Health, .int .u8 p0.sure.Players.1.Cool, .int .u8 p0.sure.Players.1.Face, .int .i32 p0.sure.Players.2.X, .int .i32 p0.sure.Players.2.Y, .int .i32 p0.sure.Players.2.VX, .int .i32 p0.sure.Players.2.VY, .int .u8 p0.sure.Players.2.Health, .int .u8 p0.sure.Players.2.Cool, .int .u8 p0.sure.Players.2.Face, .slice p0a0 p0n0 p0c0, .int .u16 p0.sure.Score.1, .int .u16 p0.sure.Score.2, .slice p0a1 p0n1 p0c1, .pointer (some ⟨p0_4b, 0, none⟩), .pointer (some ⟨p0_5b, 0, none⟩)], p0t, (0, 0)⟩ :: (p0B0 ++ (p0B1 ++ (⟨p0_4b, [.int .u64 p0_4.first_, .slice p0_4a0 p0_4n0 p0_4c0, .int .u8 p0_4.last], p0_4t, (0, 0)⟩ :: (p0_4B0 ++ (⟨p0_5b, ([.int .i64 p0_5.size] ++ flat cg_T_ring_place p0_5g0), p0_5t, (0, 0)⟩ :: (p0_5P0 ++ (⟨p1b, ([.int .u64 p1.from_, .int .u64 p1.count, .int .u64 p1.most] ++ flat (e2 .u8) p1.ring.1), p1t, (0, 0)⟩ :: [])))))))) (fun w => Rds w (ids (⟨p0b, [.int .u8 p0.player, .int .i64 p0.window, .int .u64 p0.sure.Frame, .int .u64 p0.sure.Seed, .int .i32 p0.sure.Players.1.X, .int .i32 p0.sure.Players.1.Y, .int .i32 p0.sure.Players.1.VX, .int .i32 p0.sure.Players.1.VY, .int .u8 p0.sure.Players.1.Health, .int .u8 p0.sure.Players.1.Cool, .int .u8 p0.sure.Players.1.Face, .int .i32 p0.sure.Players.2.X, .int .i32 p0.sure.Players.2.Y, .int .i32 p0.sure.Players.2.VX, .int .i32 p0.sure.Players.2.VY, .int .u8 p0.sure.Players.2.Health, .int .u8 p0.sure.Players.2.Cool, .int .u8 p0.sure.Players.2.Face, .slice p0a0 p0n0 p0c0, .int .u16 p0.sure.Score.1, .int .u16 p0.sure.Score.2, .slice p0a1 p0n1 p0c1, .pointer (some ⟨p0_4b, 0, none⟩), .pointer (some ⟨p0_5b, 0, none⟩)], p0t, (0, 0)⟩ :: (p0B0 ++ (p0B1 ++ (⟨p0_4b, [.int .u64 p0_4.first_, .slice p0_4a0 p0_4n0 p0_4c0, .int .u8 p0_4.last], p0_4t, (0, 0)⟩ :: (p0_4B0 ++ (⟨p0_5b, ([.int .i64 p0_5.size] ++ flat cg_T_ring_place p0_5g0), p0_5t, (0, 0)⟩ :: (p0_5P0 ++ (⟨p1b, ([.int .u64 p1.from_, .int .u64 p1.count, .int .u64 p1.most] ++ flat (e2 .u8) p1.ring.1), p1t, (0, 0)⟩ :: []))))))))) [] p3a0 (flat (e2 .u8) p3)) (fun v D => ∃ (r0a0 : Option Addr) (r0n0 : Nat) (r0c0 : Nat) (r0B0 : List Blk) (r1g0 : List (T_ring_place × G)) (r1P0 : List Blk), r0n0 = r0.l.length ∧ Own 34 1 r0a0 r0n0 r0c0 (flat (e1 .u8) r0.l) r0B0 ∧ r1.places.1 = unG r1g0 ∧ AllP sh_T_ring_place c_T_api_Shot r1P0 r1g0 ∧ v = .int .i64 r2 ∧ D = fun F => (⟨p0b, [.int .u8 p0.player, .int .i64 p0.window, .int .u64 p0.sure.Frame, .int .u64 p0.sure.Seed, .int .i32 p0.sure.Players.1.X, .int .i32 p0.sure.Players.1.Y, .int .i32 p0.sure.Players.1.VX, .int .i32 p0.sure.Players.1.VY, .int .u8 p0.sure.Players.1.Health, .int .u8 p0.sure.Players.1.Cool, .int .u8 p0.sure.Players.1.Face, .int .i32 p0.sure.Players.2.X, .int .i32 p0.sure.Players.2.Y, .int .i32 p0.sure.Players.2.VX, .int .i32 p0.sure.Players.2.VY, .int .u8 p0.sure.Players.2.Health, .int .u8 p0.sure.Players.2.Cool, .int .u8 p0.sure.Players.2.Face, .slice p0a0 p0n0 p0c0, .int .u16 p0.sure.Score.1, .int .u16 p0.sure.Score.2, .slice p0a1 p0n1 p0c1, .pointer (some ⟨p0_4b, 0, none⟩), .pointer (some ⟨p0_5b, 0, none⟩)], p0t, (0, 0)⟩ :: (p0B0 ++ (p0B1 ++ (⟨p0_4b, [.int .u64 r0.first_, .slice r0a0 r0n0 r0c0, .int .u8 r0.last], p0_4t, (0, 0)⟩ :: (r0B0 ++ (⟨p0_5b, ([.int .i64 r1.size] ++ flat cg_T_ring_place r1g0), p0_5t, (0, 0)⟩ :: (r1P0 ++ (⟨p1b, ([.int .u64 p1.from_, .int .u64 p1.count, .int .u64 p1.most] ++ flat (e2 .u8) p1.ring.1), p1t, (0, 0)⟩ :: F))))))))) := by
  unfold m_hindcastlaw28_pairs at h
  refine sp_of_wc Tryd.func18 rfl Tryd.ntmps18 rfl rfl (fun w0 hR => ?_)
  have p3S0 := hR
  refine wc_seq (wc_region ?_)
  refine wl_pure tt_ok rfl rfl ?_
  refine wl_nil (wx_then (wc_seq (wc_region ?_)))
  iterate 4 refine wl_pure tt_ok rfl rfl ?_
  replace h := bsome h; obtain ⟨⟨o16_1, o16_2, v16_0, v16_1⟩, x16, h⟩ := h; try dsimp only at h
  refine wl_cs Tryd.call13 rfl rfl rfl (s_sp (k_backfill_Pairs (p0 := p0) (p0_4 := p0_4) (p0_5 := p0_5) (p4 := p3) p0N0 p0V0 p0N1 p0V1 p0_4N0 p0_4V0 p0_5G0 p0_5A0 p3N0 p3H0 x16) (pCons Sel.hc (pApp Sel.ha (pApp Sel.ha (pCons Sel.hc (pApp Sel.ha (pCons Sel.hc (pApp Sel.ha (pCons Sel.hc pNil)))))))) (Rds.call p3S0 (pCons Sel.hc (pApp Sel.ha (pApp Sel.ha (pCons Sel.hc (pApp Sel.ha (pCons Sel.hc (pApp Sel.ha (pCons Sel.hc pNil)))))))) rsub_nil)) rfl ?_
  rintro _ _ ⟨_, ⟨o16_1a0, o16_1n0, o16_1c0, o16_1B0, o16_2g0, o16_2P0, o16_1N0, o16_1V0, o16_2G0, o16_2A0, rfl, rfl⟩, rfl⟩
  iterate 5 refine wl_pure tt_ok rfl rfl ?_
  refine wl_nil (wx_then (wc_seq (wc_region ?_)))
  iterate 2 refine wl_pure tt_ok rfl rfl ?_
  refine wl_pure (v := .int .i64 (IntKind.wrap .i64 ((100 : Int) * v16_1))) tt_ok rfl rfl ?_
  refine wl_pure (v := .int .i64 (IntKind.wrap .i64 (v16_0 + (IntKind.wrap .i64 ((100 : Int) * v16_1))))) tt_ok rfl rfl ?_
  refine wl_pure tt_ok rfl rfl ?_
  refine wl_nil (wx_then (wc_ret ?_))
  simp only [Option.some.injEq, Prod.mk.injEq] at h
  obtain ⟨rfl, rfl, rfl⟩ := h
  exact wx_spD tt_ok (.inl rfl) Tryd.results18 (Res.tmp rfl Res.nil) ⟨o16_1a0, o16_1n0, o16_1c0, o16_1B0, o16_2g0, o16_2P0, o16_1N0, o16_1V0, o16_2G0, o16_2A0, rfl, rfl⟩ (fun F => by simp) (pSub (pCons Sel.hc (pApp Sel.ha (pApp Sel.ha (pCons Sel.hc (pApp Sel.ha (pCons Sel.hc (pApp Sel.ha (pCons Sel.hc pNil)))))))))

theorem k_rollback_Engine_Known {F : Nat} {p0 : T_rollback_Engine} {p0b p0t : Nat} {p0a0 : Option Addr} {p0n0 : Nat} {p0c0 : Nat} {p0B0 : List Blk} {p0a1 : Option Addr} {p0n1 : Nat} {p0c1 : Nat} {p0B1 : List Blk} {p0_4 : T_queue_Queue} {p0_4b p0_4t : Nat} {p0_4a0 : Option Addr} {p0_4n0 : Nat} {p0_4c0 : Nat} {p0_4B0 : List Blk} {p0_5 : T_ring_Ring} {p0_5b p0_5t : Nat} {p0_5g0 : List (T_ring_place × G)} {p0_5P0 : List Blk} {r0 : Int} (p0N0 : p0n0 = p0.sure.Shots.length) (p0V0 : Own 92 6 p0a0 p0n0 p0c0 (flat c_T_api_Shot p0.sure.Shots) p0B0) (p0N1 : p0n1 = p0.own.length) (p0V1 : Own 34 1 p0a1 p0n1 p0c1 (flat (e1 .u8) p0.own) p0B1) (p0_4N0 : p0_4n0 = p0_4.l.length) (p0_4V0 : Own 34 1 p0_4a0 p0_4n0 p0_4c0 (flat (e1 .u8) p0_4.l) p0_4B0) (p0_5G0 : p0_5.places.1 = unG p0_5g0) (p0_5A0 : AllP sh_T_ring_place c_T_api_Shot p0_5P0 p0_5g0) (h : m_rollback_Engine_Known F p0 p0_4 p0_5 = some r0) :
    Rd2 Tryd.prog 16 [.pointer (some ⟨p0b, 0, none⟩)] (⟨p0b, [.int .u8 p0.player, .int .i64 p0.window, .int .u64 p0.sure.Frame, .int .u64 p0.sure.Seed, .int .i32 p0.sure.Players.1.X, .int .i32 p0.sure.Players.1.Y, .int .i32 p0.sure.Players.1.VX, .int .i32 p0.sure.Players.1.VY, .int .u8 p0.sure.Players.1.Health, .int .u8 p0.sure.Players.1.Cool, .int .u8 p0.sure.Players.1.Face, .int .i32 p0.sure.Players.2.X, .int .i32 p0.sure.Players.2.Y, .int .i32 p0.sure.Players.2.VX, .int .i32 p0.sure.Players.2.VY, .int .u8 p0.sure.Players.2.Health, .int .u8 p0.sure.Players.2.Cool, .int .u8 p0.sure.Players.2.Face, .slice p0a0 p0n0 p0c0, .int .u16 p0.sure.Score.1, .int .u16 p0.sure.Score.2, .slice p0a1 p0n1 p0c1, .pointer (some ⟨p0_4b, 0, none⟩), .pointer (some ⟨p0_5b, 0, none⟩)], p0t, (0, 0)⟩ :: (p0B0 ++ (p0B1 ++ (⟨p0_4b, [.int .u64 p0_4.first_, .slice p0_4a0 p0_4n0 p0_4c0, .int .u8 p0_4.last], p0_4t, (0, 0)⟩ :: (p0_4B0 ++ (⟨p0_5b, ([.int .i64 p0_5.size] ++ flat cg_T_ring_place p0_5g0), p0_5t, (0, 0)⟩ :: (p0_5P0 ++ []))))))) (fun w => True) (.int .u64 r0) := by
  unfold m_rollback_Engine_Known at h
  refine sp_of_wc Tryd.func16 rfl Tryd.ntmps16 rfl rfl (fun w0 hR => ?_)
  refine wc_seq (wc_region ?_)
  refine wl_pure tt_ok rfl rfl ?_
  refine wl_nil (wx_then (wc_seq (wc_seq (wc_region ?_))))
  refine wl_pure tt_ok rfl rfl ?_
  replace h := bsome h; obtain ⟨v4, x4, h⟩ := h
  refine wl_cq Tryd.call29 rfl rfl rfl (q_rd (k_rollback_Engine_is (p0 := p0) (p0_4 := p0_4) (p0_5 := p0_5) p0N0 p0V0 p0N1 p0V1 p0_4N0 p0_4V0 p0_5G0 p0_5A0 x4) (pCons Sel.hc (pApp Sel.ha (pApp Sel.ha (pCons Sel.hc (pApp Sel.ha (pCons Sel.hc (pApp Sel.ha pNil))))))) (fun _ _ => trivial)) rfl ?_
  refine wl_pure (v := .bool (!v4)) tt_ok rfl rfl ?_
  refine wl_nil (wx_then ?_)
  refine wc_cond rfl (fun hc => ?_) (fun hc => ?_)
  · replace h := ct hc h
    refine wc_seq (wc_region ?_)
    refine wl_pure tt_ok rfl rfl ?_
    refine wl_nil (wx_then (wc_ret (wx_then_ret ?_)))
    simp only [Option.some.injEq] at h
    obtain rfl := h
    exact wx_rd tt_ok (.inl rfl) Tryd.results16 (Res.tmp rfl Res.nil) (pSub (pCons Sel.hc (pApp Sel.ha (pApp Sel.ha (pCons Sel.hc (pApp Sel.ha (pCons Sel.hc (pApp Sel.ha pNil)))))))) rfl
  replace h := cf hc h
  refine wc_skip (wx_then (wc_seq (wc_region ?_)))
  iterate 2 refine wl_pure tt_ok rfl rfl ?_
  refine wl_pure (v := .pointer (some ⟨p0b, 22, none⟩)) tt_ok rfl rfl ?_
  refine wl_val (v := .pointer (some ⟨p0_4b, 0, none⟩)) (val_load tt_ok rfl (List.Mem.head _) rfl) rfl ?_
  replace h := bsome h; obtain ⟨v10, x10, h⟩ := h
  refine wl_cq Tryd.call40 rfl rfl rfl (q_rd (k_queue_Queue_Known (p0 := p0_4) p0_4N0 p0_4V0 x10) (pCons (Sel.sc (Sel.sa (Sel.sa Sel.hc))) (pApp (Sel.sc (Sel.sa (Sel.sa Sel.ha))) pNil)) (fun _ _ => trivial)) rfl ?_
  refine wl_pure tt_ok rfl rfl ?_
  refine wl_nil (wx_then (wc_ret ?_))
  simp only [Option.some.injEq] at h
  obtain rfl := h
  exact wx_rd tt_ok (.inl rfl) Tryd.results16 (Res.tmp rfl Res.nil) (pSub (pCons Sel.hc (pApp Sel.ha (pApp Sel.ha (pCons Sel.hc (pApp Sel.ha (pCons Sel.hc (pApp Sel.ha pNil)))))))) rfl

end Go.Proofs.YtkdbpenjkcjimaaDoor
