/-
  Each function computes what its model says. Printed by a program of this claim's own.
-/
import Derived.Test.YthlnellnlhkphaaTab
import Derived.Test.YthlnellnlhkphaaMod
import Derived.Test.YthlnellnlhkphaaWalk3
import Derived.Test.YthlnellnlhkphaaIns
namespace Go.Proofs.Ythlnellnlhkphaa
open Go.Proofs.Ythlnellnlhkphaa.Eng
set_option linter.unusedVariables false
set_option linter.unusedSimpArgs false
set_option maxHeartbeats 4000000
set_option maxRecDepth 20000

theorem k_watch_Watch_told_f3_watch_otherSide {F : Nat} {p0 : T_watch_Watch} {p0b p0t : Nat} {p0a0 : Option Addr} {p0n0 : Nat} {p0c0 : Nat} {p0B0 : List Blk} {p1 : Int} {p2 : Int} {r0 : T_watch_Watch} {r1 : Int} (p0N0 : p0n0 = p0.l.length) (p0V0 : Own 41 5 p0a0 p0n0 p0c0 (flat c_T_watch_entry p0.l) p0B0) (h : m_watch_Watch_told_f3_watch_otherSide F p0 p1 p2 = some (r0, r1)) :
    SpD Try.prog 10 [.pointer (some ⟨p0b, 0, none⟩), .int .u64 p1, .int .u64 p2, .func (.func 12) #[] #[]] (⟨p0b, [.int .u64 p0.rows, .slice p0a0 p0n0 p0c0, .bool p0.clashed], p0t, (0, 0)⟩ :: (p0B0 ++ [])) (fun w => True) (fun v D => ∃ (r0a0 : Option Addr) (r0n0 : Nat) (r0c0 : Nat) (r0B0 : List Blk), r0n0 = r0.l.length ∧ Own 41 5 r0a0 r0n0 r0c0 (flat c_T_watch_entry r0.l) r0B0 ∧ v = .int .i64 r1 ∧ D = fun F => (⟨p0b, [.int .u64 r0.rows, .slice r0a0 r0n0 r0c0, .bool r0.clashed], p0t, (0, 0)⟩ :: (r0B0 ++ F))) := by
  unfold m_watch_Watch_told_f3_watch_otherSide at h
  refine sp_of_wc Try.func10 rfl Try.ntmps10 rfl rfl (fun w0 hR => ?_)
  refine wc_seq (wc_region ?_)
  refine wl_pure tt_ok rfl rfl ?_
  refine wl_nil (wx_then (wc_seq (wc_block (wc_seq (wc_region ?_)))))
  refine wl_pure tt_ok rfl rfl ?_
  replace h := bsome h; obtain ⟨v13, x13, h⟩ := h
  refine wl_cq Try.call13 rfl rfl rfl (q_rd (k_watch_Watch_is (p0 := p0) p0N0 p0V0 x13) (pCons Sel.hc (pApp Sel.ha pNil)) (fun _ _ => trivial)) rfl ?_
  refine wl_pure (v := .bool (!v13)) tt_ok rfl rfl ?_
  refine wl_pure tt_ok rfl rfl ?_
  refine wl_nil (wx_then ?_)
  refine wc_cond rfl (fun hc => ?_) (fun hc => ?_)
  · replace h := ct hc h
    refine wc_seq (wc_region ?_)
    refine wl_pure tt_ok rfl rfl ?_
    refine wl_nil (wx_then (wc_ret (wx_block_ret (wx_then_ret ?_))))
    simp only [Option.some.injEq, Prod.mk.injEq] at h
    obtain ⟨rfl, rfl⟩ := h
    exact wx_spD tt_ok (.inl rfl) Try.results10 (Res.tmp rfl Res.nil) ⟨p0a0, p0n0, p0c0, p0B0, p0N0, p0V0, rfl, rfl⟩ (fun F => by simp) (pSub (pCons Sel.hc (pApp Sel.ha pNil)))
  replace h := cf hc h
  refine wc_seq (wc_region ?_)
  iterate 3 refine wl_pure tt_ok rfl rfl ?_
  refine wl_pure (v := .pointer (some ⟨p0b, 0, none⟩)) tt_ok rfl rfl ?_
  refine wl_val (v := .int .u64 p0.rows) (val_load tt_ok rfl (List.Mem.head _) rfl) rfl ?_
  replace h := bsome h; obtain ⟨v21, x21, h⟩ := h
  refine wl_val (v := .int .u64 v21) (val_rem rfl rfl x21) rfl ?_
  refine wl_pure (v := .bool (v21 != (0 : Int))) tt_ok rfl rfl ?_
  refine wl_pure tt_ok rfl rfl ?_
  refine wl_nil (wx_then ?_)
  refine wc_cond rfl (fun hc => ?_) (fun hc => ?_)
  · replace h := ct hc h
    refine wc_seq (wc_region ?_)
    refine wl_pure tt_ok rfl rfl ?_
    refine wl_nil (wx_then (wc_ret (wx_block_ret (wx_then_ret ?_))))
    simp only [Option.some.injEq, Prod.mk.injEq] at h
    obtain ⟨rfl, rfl⟩ := h
    exact wx_spD tt_ok (.inl rfl) Try.results10 (Res.tmp rfl Res.nil) ⟨p0a0, p0n0, p0c0, p0B0, p0N0, p0V0, rfl, rfl⟩ (fun F => by simp) (pSub (pCons Sel.hc (pApp Sel.ha pNil)))
  replace h := cf hc h
  refine wc_skip (wx_block (wx_then (wc_seq (wc_seq (wc_region ?_)))))
  iterate 2 refine wl_pure tt_ok rfl rfl ?_
  refine wl_inl Try.call14 rfl rfl rfl Try.func14 rfl Try.ntmps14 rfl rfl rfl ?_
  refine wc_seq (wc_region ?_)
  refine wl_pure tt_ok rfl rfl ?_
  refine wl_nil (wx_then (wc_seq (wc_region ?_)))
  iterate 2 refine wl_pure tt_ok rfl rfl ?_
  refine wl_pure (v := .pointer (some ⟨p0b, 1, none⟩)) tt_ok rfl rfl ?_
  refine wl_val (v := .slice p0a0 p0n0 p0c0) (val_load tt_ok rfl (List.Mem.head _) rfl) rfl ?_
  refine wl_pure tt_ok rfl rfl ?_
  replace h := bsome h; obtain ⟨⟨v100013_0, v100013_1⟩, x100013, h⟩ := h; try dsimp only at h
  refine wl_cq Try.call15 rfl rfl rfl (q_pf (k_slices_BinarySearchFunc___watch_entry_watch_entry_uint64_f2_watch_Watch_at_1 (p0 := p0.l) p0N0 (vec_cap p0V0) x100013) (Rds.call (Rds.of_vec p0V0) pNil ⟨_, (Sel.sc Sel.ha)⟩)) rfl ?_
  iterate 5 refine wl_pure tt_ok rfl rfl ?_
  refine wl_nil (wx_then (wc_seq (wc_block (wc_seq (wc_region ?_)))))
  iterate 2 refine wl_pure tt_ok rfl rfl ?_
  refine wl_nil (wx_then ?_)
  refine wc_cond rfl (fun hc => ?_) (fun hc => ?_)
  · replace h := ct hc h
    refine wc_skip (wx_block (wx_then (wc_seq (wc_region ?_))))
    iterate 2 refine wl_pure tt_ok rfl rfl ?_
    refine wl_pure (v := .pointer (some ⟨p0b, 1, none⟩)) tt_ok rfl rfl ?_
    refine wl_val (v := .slice p0a0 p0n0 p0c0) (val_load tt_ok rfl (List.Mem.head _) rfl) rfl ?_
    refine wl_pure tt_ok rfl rfl ?_
    replace h := bsome h; obtain ⟨v100067, x100067, h⟩ := h
    refine wl_val (v := .pointer (some ((adOf p0a0).add (v100013_0.toNat * 5 + 0)))) (val_ix (enc := c_T_watch_entry) tt_ok rfl rfl rfl rfl p0N0 (Rds.of_vec p0V0) c_T_watch_entry_len rfl x100067) rfl ?_
    refine wl_pure tt_ok rfl rfl ?_
    refine wl_nil (wx_then (wc_ret ?_))
    refine wx_inl (v := .pointer (some ((adOf p0a0).add (v100013_0.toNat * 5 + 0)))) tt_ok (.inl rfl) Try.results14 (Res.tmp rfl Res.nil) rfl ?_
    refine wl_pure tt_ok rfl rfl ?_
    refine wl_nil (wx_then (wc_seq (wc_region ?_)))
    refine wl_pure tt_ok rfl rfl ?_
    refine wl_pure (v := .bool true) tt_ok rfl rfl ?_
    refine wl_nil (wx_then ?_)
    refine wc_cond_true rfl ?_
    refine wc_seq (wc_region ?_)
    iterate 2 refine wl_pure tt_ok rfl rfl ?_
    refine wl_inl Try.call12 rfl rfl rfl Try.func12 rfl Try.ntmps12 rfl rfl rfl ?_
    refine wc_seq (wc_region ?_)
    refine wl_pure tt_ok rfl rfl ?_
    refine wl_nil (wx_then (wc_seq (wc_region ?_)))
    iterate 2 refine wl_pure tt_ok rfl rfl ?_
    refine wl_val (v := .pointer (some ((adOf p0a0).add (v100013_0.toNat * 5 + 3)))) (val_fa (k := v100013_0.toNat * 5 + 0) (off := 3) tt_ok rfl rfl rfl rfl rfl) rfl ?_
    refine wl_pure tt_ok rfl rfl ?_
    refine wl_nil (wx_then (wc_ret ?_))
    refine wx_inl (v := .pointer (some ((adOf p0a0).add (v100013_0.toNat * 5 + 3)))) tt_ok (.inl rfl) Try.results12 (Res.tmp rfl Res.nil) rfl ?_
    refine wl_pure tt_ok rfl rfl ?_
    refine wl_nil (wx_then (wc_seq (wc_region ?_)))
    iterate 3 refine wl_pure tt_ok rfl rfl ?_
    refine wl_pure (v := .pointer (some ⟨p0b, 2, none⟩)) tt_ok rfl rfl ?_
    refine wl_val (v := .bool p0.clashed) (val_load tt_ok rfl (List.Mem.head _) rfl) rfl ?_
    refine wl_pure tt_ok rfl rfl ?_
    replace h := bsome h; obtain ⟨v49, h, hg49⟩ := h
    refine wl_split (t := 36) rfl (fun hc => ?_) (fun hc => ?_)
    · replace h := ct hc h
      refine wl_skip rfl rfl ?_
      refine wl_skip rfl rfl ?_
      refine wl_skip rfl rfl ?_
      refine wl_skip rfl rfl ?_
      refine wl_skip rfl rfl ?_
      refine wl_skip rfl rfl ?_
      refine wl_skip rfl rfl ?_
      refine wl_skip rfl rfl ?_
      refine wl_skip rfl rfl ?_
      refine wl_skip rfl rfl ?_
      refine wl_skip rfl rfl ?_
      refine wl_skip rfl rfl ?_
      simp only [Option.some.injEq, Prod.mk.injEq] at h
      obtain rfl := h
      have h := hg49; clear hg49
      refine wl_pure (v := .bool true) tt_ok rfl rfl ?_
      refine wl_pure tt_ok rfl rfl ?_
      refine wl_pure (v := .pointer (some ⟨p0b, 2, none⟩)) tt_ok rfl rfl ?_
      apply wl_store tt_ok; rfl; exact Upd.here; rfl; rfl; rfl; rfl; rfl; rfl
      refine wl_nil (wx_then (wc_seq (wc_seq (wc_region ?_))))
      iterate 2 refine wl_pure tt_ok rfl rfl ?_
      refine wl_val (v := .pointer (some ((adOf p0a0).add (v100013_0.toNat * 5 + 4)))) (val_fa (k := v100013_0.toNat * 5 + 3) (off := 1) tt_ok rfl rfl rfl rfl rfl) rfl ?_
      refine wl_val (v := .bool v100067.other.is_) (val_le (enc := c_T_watch_entry) (xs := p0.l) tt_ok rfl (Rds.of_vec p0V0) ⟨_, (Sel.sc Sel.ha)⟩ c_T_watch_entry_len x100067 rfl) rfl ?_
      refine wl_pure (v := .bool (!v100067.other.is_)) tt_ok rfl rfl ?_
      refine wl_nil (wx_then ?_)
      refine wc_cond rfl (fun hc => ?_) (fun hc => ?_)
      · replace h := ct hc h
        refine wc_region ?_
        iterate 2 refine wl_pure tt_ok rfl rfl ?_
        refine wl_pure (v := .agg #[.int .u64 p2, .bool true]) tt_ok rfl rfl ?_
        refine wl_pure tt_ok rfl rfl ?_
        refine wl_chg0 (chg_ste (enc := c_T_watch_entry) (y' := (T_watch_entry.mk v100067.f v100067.own (T_watch_sum.mk p2 true))) tt_ok rfl rfl rfl rfl rfl rfl p0N0 p0V0 (Sel.sc Sel.ha) c_T_watch_entry_len x100067 rfl (by intro h; cases h)) ?_
        rintro _ _ ⟨Bs32_4, Ns32_4, Vs32_4, rfl⟩
        refine wl_nil (wx_then ?_)
        refine wc_k2 (Ls := (Bs32_4 ++ (⟨p0b, [.int .u64 p0.rows, .slice p0a0 p0n0 p0c0, .bool true], p0t, (0, 0)⟩ :: []))) [34] [34] [0, 0, 2, 6, 14, 30, 62, 126, 254, 510, 1022, 2046, 4094, 8190, 16382, 32766, 65534, 131070, 262142, 524286, 1048574, 2097150, 4194302, 8388606, 524286, 17301502, 50855934, 117964798, 252182526, 536870910, 1073741822, 2147483646, 4294967295, 8589934591, 17179869183] [0, 1, 2, 3, 4, 5, 6, 7, 8, 9, 10, 11, 12, 13, 14, 15, 16, 17, 18, 19, 20, 21, 22, 23, 24, 25, 26, 27, 28, 29, 30, 31, 32, 33, 34] (by kernel_rfl) (by kernel_rfl) (by kernel_rfl) ?_
        refine k_val rfl rfl rfl (pSub (pApp Sel.ha (pCons Sel.hc pNil))) (stepV_ok tt_ok rfl) rfl ?_
        refine k_val rfl rfl rfl (pSub (pApp Sel.ha (pCons Sel.hc pNil))) (stepV_ok tt_ok rfl) rfl ?_
        refine k_val rfl rfl rfl (pSub (pApp Sel.ha (pCons Sel.hc pNil))) (stepV_ok tt_ok rfl) rfl ?_
        refine k_val (v := .pointer (some ⟨p0b, 2, none⟩)) rfl rfl rfl (pSub (pApp Sel.ha (pCons Sel.hc pNil))) (stepV_ok tt_ok rfl) rfl ?_
        refine k_val (v := .bool true) rfl rfl rfl (pSub (pApp Sel.ha (pCons Sel.hc pNil))) (val_load tt_ok rfl (mR (List.Mem.head _)) rfl) rfl ?_
        refine k_val rfl rfl rfl (pSub (pApp Sel.ha (pCons Sel.hc pNil))) (stepV_ok tt_ok rfl) rfl ?_
        replace h := bsome h; obtain ⟨v92, h, hg92⟩ := h
        replace h := ct rfl h
        refine k_skip rfl rfl (pSub (pApp Sel.ha (pCons Sel.hc pNil))) rfl ?_
        refine k_skip rfl rfl (pSub (pApp Sel.ha (pCons Sel.hc pNil))) rfl ?_
        refine k_skip rfl rfl (pSub (pApp Sel.ha (pCons Sel.hc pNil))) rfl ?_
        refine k_skip rfl rfl (pSub (pApp Sel.ha (pCons Sel.hc pNil))) rfl ?_
        refine k_skip rfl rfl (pSub (pApp Sel.ha (pCons Sel.hc pNil))) rfl ?_
        refine k_skip rfl rfl (pSub (pApp Sel.ha (pCons Sel.hc pNil))) rfl ?_
        refine k_skip rfl rfl (pSub (pApp Sel.ha (pCons Sel.hc pNil))) rfl ?_
        refine k_skip rfl rfl (pSub (pApp Sel.ha (pCons Sel.hc pNil))) rfl ?_
        refine k_skip rfl rfl (pSub (pApp Sel.ha (pCons Sel.hc pNil))) rfl ?_
        refine k_skip rfl rfl (pSub (pApp Sel.ha (pCons Sel.hc pNil))) rfl ?_
        refine k_skip rfl rfl (pSub (pApp Sel.ha (pCons Sel.hc pNil))) rfl ?_
        refine k_skip rfl rfl (pSub (pApp Sel.ha (pCons Sel.hc pNil))) rfl ?_
        refine k_skip rfl rfl (pSub (pApp Sel.ha (pCons Sel.hc pNil))) rfl ?_
        refine k_skip rfl rfl (pSub (pApp Sel.ha (pCons Sel.hc pNil))) rfl ?_
        refine k_skip rfl rfl (pSub (pApp Sel.ha (pCons Sel.hc pNil))) rfl ?_
        refine k_skip rfl rfl (pSub (pApp Sel.ha (pCons Sel.hc pNil))) rfl ?_
        refine k_skip rfl rfl (pSub (pApp Sel.ha (pCons Sel.hc pNil))) rfl ?_
        refine k_skip rfl rfl (pSub (pApp Sel.ha (pCons Sel.hc pNil))) rfl ?_
        refine k_skip rfl rfl (pSub (pApp Sel.ha (pCons Sel.hc pNil))) rfl ?_
        refine k_skip rfl rfl (pSub (pApp Sel.ha (pCons Sel.hc pNil))) rfl ?_
        refine k_skip rfl rfl (pSub (pApp Sel.ha (pCons Sel.hc pNil))) rfl ?_
        refine k_skip rfl rfl (pSub (pApp Sel.ha (pCons Sel.hc pNil))) rfl ?_
        refine k_skip rfl rfl (pSub (pApp Sel.ha (pCons Sel.hc pNil))) rfl ?_
        refine k_skip rfl rfl (pSub (pApp Sel.ha (pCons Sel.hc pNil))) rfl ?_
        refine k_skip rfl rfl (pSub (pApp Sel.ha (pCons Sel.hc pNil))) rfl ?_
        simp only [Option.some.injEq, Prod.mk.injEq] at h
        obtain rfl := h
        have h := hg92; clear hg92
        refine k_val (v := .bool true) rfl rfl rfl (pSub (pApp Sel.ha (pCons Sel.hc pNil))) (stepV_ok tt_ok rfl) rfl ?_
        refine k_val rfl rfl rfl (pSub (pApp Sel.ha (pCons Sel.hc pNil))) (stepV_ok tt_ok rfl) rfl ?_
        refine k_val (v := .pointer (some ⟨p0b, 2, none⟩)) rfl rfl rfl (pSub (pApp Sel.ha (pCons Sel.hc pNil))) (stepV_ok tt_ok rfl) rfl ?_
        refine k_chg0 rfl rfl rfl (chg_store tt_ok rfl (Upd.right Upd.here) rfl rfl rfl rfl rfl rfl) (.inl rfl) ?_
        rintro _ _ rfl
        refine k_end (by kernel_rfl) ?_
        refine wx_then (wc_seq (wc_seq (wc_region ?_)))
        iterate 2 refine wl_pure tt_ok rfl rfl ?_
        refine wl_pure (v := .pointer (some ⟨p0b, 2, none⟩)) tt_ok rfl rfl ?_
        refine wl_val (v := .bool true) (val_load tt_ok rfl (mR (List.Mem.head _)) rfl) rfl ?_
        refine wl_nil (wx_then ?_)
        replace h := ct rfl h
        refine wc_cond_true rfl ?_
        refine wc_seq (wc_region ?_)
        refine wl_pure tt_ok rfl rfl ?_
        refine wl_nil (wx_then (wc_ret (wx_then_ret ?_)))
        simp only [Option.some.injEq, Prod.mk.injEq] at h
        obtain ⟨rfl, rfl⟩ := h
        exact wx_spD tt_ok (.inl rfl) Try.results10 (Res.tmp rfl Res.nil) ⟨p0a0, p0n0, p0c0, Bs32_4, Ns32_4, Vs32_4, rfl, rfl⟩ (fun F => by simp) (pSub (pCons (Sel.sa Sel.hc) (pApp Sel.ha pNil)))
      replace h := cf hc h
      refine wc_skip (wx_then ?_)
      refine wc_k2 (Ls := (⟨p0b, [.int .u64 p0.rows, .slice p0a0 p0n0 p0c0, .bool true], p0t, (0, 0)⟩ :: (p0B0 ++ []))) [34] [34] [0, 0, 2, 6, 14, 30, 62, 126, 254, 510, 1022, 2046, 4094, 8190, 16382, 32766, 65534, 131070, 262142, 524286, 1048574, 2097150, 4194302, 8388606, 524286, 17301502, 50855934, 117964798, 252182526, 536870910, 1073741822, 2147483646, 4294967295, 8589934591, 17179869183] [0, 1, 2, 3, 4, 5, 6, 7, 8, 9, 10, 11, 12, 13, 14, 15, 16, 17, 18, 19, 20, 21, 22, 23, 24, 25, 26, 27, 28, 29, 30, 31, 32, 33, 34] (by kernel_rfl) (by kernel_rfl) (by kernel_rfl) ?_
      refine k_val rfl rfl rfl (pSub (pCons Sel.hc (pApp Sel.ha pNil))) (stepV_ok tt_ok rfl) rfl ?_
      refine k_val rfl rfl rfl (pSub (pCons Sel.hc (pApp Sel.ha pNil))) (stepV_ok tt_ok rfl) rfl ?_
      refine k_val rfl rfl rfl (pSub (pCons Sel.hc (pApp Sel.ha pNil))) (stepV_ok tt_ok rfl) rfl ?_
      refine k_val (v := .pointer (some ⟨p0b, 2, none⟩)) rfl rfl rfl (pSub (pCons Sel.hc (pApp Sel.ha pNil))) (stepV_ok tt_ok rfl) rfl ?_
      refine k_val (v := .bool true) rfl rfl rfl (pSub (pCons Sel.hc (pApp Sel.ha pNil))) (val_load tt_ok rfl (List.Mem.head _) rfl) rfl ?_
      refine k_val rfl rfl rfl (pSub (pCons Sel.hc (pApp Sel.ha pNil))) (stepV_ok tt_ok rfl) rfl ?_
      replace h := bsome h; obtain ⟨v92, h, hg92⟩ := h
      replace h := ct rfl h
      refine k_skip rfl rfl (pSub (pCons Sel.hc (pApp Sel.ha pNil))) rfl ?_
      refine k_skip rfl rfl (pSub (pCons Sel.hc (pApp Sel.ha pNil))) rfl ?_
      refine k_skip rfl rfl (pSub (pCons Sel.hc (pApp Sel.ha pNil))) rfl ?_
      refine k_skip rfl rfl (pSub (pCons Sel.hc (pApp Sel.ha pNil))) rfl ?_
      refine k_skip rfl rfl (pSub (pCons Sel.hc (pApp Sel.ha pNil))) rfl ?_
      refine k_skip rfl rfl (pSub (pCons Sel.hc (pApp Sel.ha pNil))) rfl ?_
      refine k_skip rfl rfl (pSub (pCons Sel.hc (pApp Sel.ha pNil))) rfl ?_
      refine k_skip rfl rfl (pSub (pCons Sel.hc (pApp Sel.ha pNil))) rfl ?_
      refine k_skip rfl rfl (pSub (pCons Sel.hc (pApp Sel.ha pNil))) rfl ?_
      refine k_skip rfl rfl (pSub (pCons Sel.hc (pApp Sel.ha pNil))) rfl ?_
      refine k_skip rfl rfl (pSub (pCons Sel.hc (pApp Sel.ha pNil))) rfl ?_
      refine k_skip rfl rfl (pSub (pCons Sel.hc (pApp Sel.ha pNil))) rfl ?_
      refine k_skip rfl rfl (pSub (pCons Sel.hc (pApp Sel.ha pNil))) rfl ?_
      refine k_skip rfl rfl (pSub (pCons Sel.hc (pApp Sel.ha pNil))) rfl ?_
      refine k_skip rfl rfl (pSub (pCons Sel.hc (pApp Sel.ha pNil))) rfl ?_
      refine k_skip rfl rfl (pSub (pCons Sel.hc (pApp Sel.ha pNil))) rfl ?_
      refine k_skip rfl rfl (pSub (pCons Sel.hc (pApp Sel.ha pNil))) rfl ?_
      refine k_skip rfl rfl (pSub (pCons Sel.hc (pApp Sel.ha pNil))) rfl ?_
      refine k_skip rfl rfl (pSub (pCons Sel.hc (pApp Sel.ha pNil))) rfl ?_
      refine k_skip rfl rfl (pSub (pCons Sel.hc (pApp Sel.ha pNil))) rfl ?_
      refine k_skip rfl rfl (pSub (pCons Sel.hc (pApp Sel.ha pNil))) rfl ?_
      refine k_skip rfl rfl (pSub (pCons Sel.hc (pApp Sel.ha pNil))) rfl ?_
      refine k_skip rfl rfl (pSub (pCons Sel.hc (pApp Sel.ha pNil))) rfl ?_
      refine k_skip rfl rfl (pSub (pCons Sel.hc (pApp Sel.ha pNil))) rfl ?_
      refine k_skip rfl rfl (pSub (pCons Sel.hc (pApp Sel.ha pNil))) rfl ?_
      simp only [Option.some.injEq, Prod.mk.injEq] at h
      obtain rfl := h
      have h := hg92; clear hg92
      refine k_val (v := .bool true) rfl rfl rfl (pSub (pCons Sel.hc (pApp Sel.ha pNil))) (stepV_ok tt_ok rfl) rfl ?_
      refine k_val rfl rfl rfl (pSub (pCons Sel.hc (pApp Sel.ha pNil))) (stepV_ok tt_ok rfl) rfl ?_
      refine k_val (v := .pointer (some ⟨p0b, 2, none⟩)) rfl rfl rfl (pSub (pCons Sel.hc (pApp Sel.ha pNil))) (stepV_ok tt_ok rfl) rfl ?_
      refine k_chg0 rfl rfl rfl (chg_store tt_ok rfl Upd.here rfl rfl rfl rfl rfl rfl) (.inl rfl) ?_
      rintro _ _ rfl
      refine k_end (by kernel_rfl) ?_
      refine wx_then (wc_seq (wc_seq (wc_region ?_)))
      iterate 2 refine wl_pure tt_ok rfl rfl ?_
      refine wl_pure (v := .pointer (some ⟨p0b, 2, none⟩)) tt_ok rfl rfl ?_
      refine wl_val (v := .bool true) (val_load tt_ok rfl (List.Mem.head _) rfl) rfl ?_
      refine wl_nil (wx_then ?_)
      replace h := ct rfl h
      refine wc_cond_true rfl ?_
      refine wc_seq (wc_region ?_)
      refine wl_pure tt_ok rfl rfl ?_
      refine wl_nil (wx_then (wc_ret (wx_then_ret ?_)))
      simp only [Option.some.injEq, Prod.mk.injEq] at h
      obtain ⟨rfl, rfl⟩ := h
      exact wx_spD tt_ok (.inl rfl) Try.results10 (Res.tmp rfl Res.nil) ⟨p0a0, p0n0, p0c0, p0B0, p0N0, p0V0, rfl, rfl⟩ (fun F => by simp) (pSub (pCons Sel.hc (pApp Sel.ha pNil)))
    replace h := cf hc h
    refine wl_run rfl ?_
    refine wl_pure tt_ok rfl rfl ?_
    refine wl_run rfl ?_
    refine wl_pure tt_ok rfl rfl ?_
    refine wl_run rfl ?_
    refine wl_val (v := .pointer (some ((adOf p0a0).add (v100013_0.toNat * 5 + 4)))) (val_fa (k := v100013_0.toNat * 5 + 3) (off := 1) tt_ok rfl rfl rfl rfl rfl) rfl ?_
    refine wl_run rfl ?_
    refine wl_val (v := .bool v100067.other.is_) (val_le (enc := c_T_watch_entry) (xs := p0.l) tt_ok rfl (Rds.of_vec p0V0) ⟨_, (Sel.sc Sel.ha)⟩ c_T_watch_entry_len x100067 rfl) rfl ?_
    refine wl_run rfl ?_
    refine wl_pure tt_ok rfl rfl ?_
    replace h := bsome h; obtain ⟨v48, h, hg48⟩ := h
    refine wl_split (t := 41) rfl (fun hc => ?_) (fun hc => ?_)
    · replace h := ct hc h
      refine wl_run rfl ?_
      refine wl_pure tt_ok rfl rfl ?_
      refine wl_run rfl ?_
      refine wl_pure tt_ok rfl rfl ?_
      refine wl_run rfl ?_
      refine wl_val (v := .pointer (some ((adOf p0a0).add (v100013_0.toNat * 5 + 3)))) (val_fa (k := v100013_0.toNat * 5 + 3) (off := 0) tt_ok rfl rfl rfl rfl rfl) rfl ?_
      refine wl_run rfl ?_
      refine wl_val (v := .int .u64 v100067.other.n) (val_le (enc := c_T_watch_entry) (xs := p0.l) tt_ok rfl (Rds.of_vec p0V0) ⟨_, (Sel.sc Sel.ha)⟩ c_T_watch_entry_len x100067 rfl) rfl ?_
      refine wl_run rfl ?_
      refine wl_pure tt_ok rfl rfl ?_
      refine wl_run rfl ?_
      refine wl_pure (v := .bool (v100067.other.n != p2)) tt_ok rfl rfl ?_
      simp only [Option.some.injEq, Prod.mk.injEq] at h
      obtain rfl := h
      have h := hg48; clear hg48
      refine wl_run rfl ?_
      refine wl_pure (v := .bool (v100067.other.n != p2)) tt_ok rfl rfl ?_
      simp only [Option.some.injEq, Prod.mk.injEq] at h
      obtain rfl := h
      have h := hg49; clear hg49
      refine wl_pure (v := .bool (v100067.other.n != p2)) tt_ok rfl rfl ?_
      refine wl_pure tt_ok rfl rfl ?_
      refine wl_pure (v := .pointer (some ⟨p0b, 2, none⟩)) tt_ok rfl rfl ?_
      apply wl_store tt_ok; rfl; exact Upd.here; rfl; rfl; rfl; rfl; rfl; rfl
      refine wl_nil (wx_then (wc_seq (wc_seq (wc_region ?_))))
      iterate 2 refine wl_pure tt_ok rfl rfl ?_
      refine wl_val (v := .pointer (some ((adOf p0a0).add (v100013_0.toNat * 5 + 4)))) (val_fa (k := v100013_0.toNat * 5 + 3) (off := 1) tt_ok rfl rfl rfl rfl rfl) rfl ?_
      refine wl_val (v := .bool v100067.other.is_) (val_le (enc := c_T_watch_entry) (xs := p0.l) tt_ok rfl (Rds.of_vec p0V0) ⟨_, (Sel.sc Sel.ha)⟩ c_T_watch_entry_len x100067 rfl) rfl ?_
      refine wl_pure (v := .bool (!v100067.other.is_)) tt_ok rfl rfl ?_
      refine wl_nil (wx_then ?_)
      refine wc_cond rfl (fun hc => ?_) (fun hc => ?_)
      · replace h := ct hc h
        refine wc_region ?_
        iterate 2 refine wl_pure tt_ok rfl rfl ?_
        refine wl_pure (v := .agg #[.int .u64 p2, .bool true]) tt_ok rfl rfl ?_
        refine wl_pure tt_ok rfl rfl ?_
        refine wl_chg0 (chg_ste (enc := c_T_watch_entry) (y' := (T_watch_entry.mk v100067.f v100067.own (T_watch_sum.mk p2 true))) tt_ok rfl rfl rfl rfl rfl rfl p0N0 p0V0 (Sel.sc Sel.ha) c_T_watch_entry_len x100067 rfl (by intro h; cases h)) ?_
        rintro _ _ ⟨Bs32_4, Ns32_4, Vs32_4, rfl⟩
        refine wl_nil (wx_then ?_)
        refine wc_k2 (Ls := (Bs32_4 ++ (⟨p0b, [.int .u64 p0.rows, .slice p0a0 p0n0 p0c0, .bool (v100067.other.n != p2)], p0t, (0, 0)⟩ :: []))) [34] [34] [0, 0, 2, 6, 14, 30, 62, 126, 254, 510, 1022, 2046, 4094, 8190, 16382, 32766, 65534, 131070, 262142, 524286, 1048574, 2097150, 4194302, 8388606, 524286, 17301502, 50855934, 117964798, 252182526, 536870910, 1073741822, 2147483646, 4294967295, 8589934591, 17179869183] [0, 1, 2, 3, 4, 5, 6, 7, 8, 9, 10, 11, 12, 13, 14, 15, 16, 17, 18, 19, 20, 21, 22, 23, 24, 25, 26, 27, 28, 29, 30, 31, 32, 33, 34] (by kernel_rfl) (by kernel_rfl) (by kernel_rfl) ?_
        refine k_val rfl rfl rfl (pSub (pApp Sel.ha (pCons Sel.hc pNil))) (stepV_ok tt_ok rfl) rfl ?_
        refine k_val rfl rfl rfl (pSub (pApp Sel.ha (pCons Sel.hc pNil))) (stepV_ok tt_ok rfl) rfl ?_
        refine k_val rfl rfl rfl (pSub (pApp Sel.ha (pCons Sel.hc pNil))) (stepV_ok tt_ok rfl) rfl ?_
        refine k_val (v := .pointer (some ⟨p0b, 2, none⟩)) rfl rfl rfl (pSub (pApp Sel.ha (pCons Sel.hc pNil))) (stepV_ok tt_ok rfl) rfl ?_
        refine k_val (v := .bool (v100067.other.n != p2)) rfl rfl rfl (pSub (pApp Sel.ha (pCons Sel.hc pNil))) (val_load tt_ok rfl (mR (List.Mem.head _)) rfl) rfl ?_
        refine k_val rfl rfl rfl (pSub (pApp Sel.ha (pCons Sel.hc pNil))) (stepV_ok tt_ok rfl) rfl ?_
        replace h := bsome h; obtain ⟨v92, h, hg92⟩ := h
        refine k_split (t := 66) rfl (fun hc => ?_) (fun hc => ?_)
        · replace h := ct hc h
          refine k_skip rfl rfl (pSub (pApp Sel.ha (pCons Sel.hc pNil))) rfl ?_
          refine k_skip rfl rfl (pSub (pApp Sel.ha (pCons Sel.hc pNil))) rfl ?_
          refine k_skip rfl rfl (pSub (pApp Sel.ha (pCons Sel.hc pNil))) rfl ?_
          refine k_skip rfl rfl (pSub (pApp Sel.ha (pCons Sel.hc pNil))) rfl ?_
          refine k_skip rfl rfl (pSub (pApp Sel.ha (pCons Sel.hc pNil))) rfl ?_
          refine k_skip rfl rfl (pSub (pApp Sel.ha (pCons Sel.hc pNil))) rfl ?_
          refine k_skip rfl rfl (pSub (pApp Sel.ha (pCons Sel.hc pNil))) rfl ?_
          refine k_skip rfl rfl (pSub (pApp Sel.ha (pCons Sel.hc pNil))) rfl ?_
          refine k_skip rfl rfl (pSub (pApp Sel.ha (pCons Sel.hc pNil))) rfl ?_
          refine k_skip rfl rfl (pSub (pApp Sel.ha (pCons Sel.hc pNil))) rfl ?_
          refine k_skip rfl rfl (pSub (pApp Sel.ha (pCons Sel.hc pNil))) rfl ?_
          refine k_skip rfl rfl (pSub (pApp Sel.ha (pCons Sel.hc pNil))) rfl ?_
          refine k_skip rfl rfl (pSub (pApp Sel.ha (pCons Sel.hc pNil))) rfl ?_
          refine k_skip rfl rfl (pSub (pApp Sel.ha (pCons Sel.hc pNil))) rfl ?_
          refine k_skip rfl rfl (pSub (pApp Sel.ha (pCons Sel.hc pNil))) rfl ?_
          refine k_skip rfl rfl (pSub (pApp Sel.ha (pCons Sel.hc pNil))) rfl ?_
          refine k_skip rfl rfl (pSub (pApp Sel.ha (pCons Sel.hc pNil))) rfl ?_
          refine k_skip rfl rfl (pSub (pApp Sel.ha (pCons Sel.hc pNil))) rfl ?_
          refine k_skip rfl rfl (pSub (pApp Sel.ha (pCons Sel.hc pNil))) rfl ?_
          refine k_skip rfl rfl (pSub (pApp Sel.ha (pCons Sel.hc pNil))) rfl ?_
          refine k_skip rfl rfl (pSub (pApp Sel.ha (pCons Sel.hc pNil))) rfl ?_
          refine k_skip rfl rfl (pSub (pApp Sel.ha (pCons Sel.hc pNil))) rfl ?_
          refine k_skip rfl rfl (pSub (pApp Sel.ha (pCons Sel.hc pNil))) rfl ?_
          refine k_skip rfl rfl (pSub (pApp Sel.ha (pCons Sel.hc pNil))) rfl ?_
          refine k_skip rfl rfl (pSub (pApp Sel.ha (pCons Sel.hc pNil))) rfl ?_
          simp only [Option.some.injEq, Prod.mk.injEq] at h
          obtain rfl := h
          have h := hg92; clear hg92
          refine k_val (v := .bool true) rfl rfl rfl (pSub (pApp Sel.ha (pCons Sel.hc pNil))) (stepV_ok tt_ok rfl) rfl ?_
          refine k_val rfl rfl rfl (pSub (pApp Sel.ha (pCons Sel.hc pNil))) (stepV_ok tt_ok rfl) rfl ?_
          refine k_val (v := .pointer (some ⟨p0b, 2, none⟩)) rfl rfl rfl (pSub (pApp Sel.ha (pCons Sel.hc pNil))) (stepV_ok tt_ok rfl) rfl ?_
          refine k_chg0 rfl rfl rfl (chg_store tt_ok rfl (Upd.right Upd.here) rfl rfl rfl rfl rfl rfl) (.inl rfl) ?_
          rintro _ _ rfl
          refine k_end (by kernel_rfl) ?_
          refine wx_then (wc_seq (wc_seq (wc_region ?_)))
          iterate 2 refine wl_pure tt_ok rfl rfl ?_
          refine wl_pure (v := .pointer (some ⟨p0b, 2, none⟩)) tt_ok rfl rfl ?_
          refine wl_val (v := .bool true) (val_load tt_ok rfl (mR (List.Mem.head _)) rfl) rfl ?_
          refine wl_nil (wx_then ?_)
          replace h := ct rfl h
          refine wc_cond_true rfl ?_
          refine wc_seq (wc_region ?_)
          refine wl_pure tt_ok rfl rfl ?_
          refine wl_nil (wx_then (wc_ret (wx_then_ret ?_)))
          simp only [Option.some.injEq, Prod.mk.injEq] at h
          obtain ⟨rfl, rfl⟩ := h
          exact wx_spD tt_ok (.inl rfl) Try.results10 (Res.tmp rfl Res.nil) ⟨p0a0, p0n0, p0c0, Bs32_4, Ns32_4, Vs32_4, rfl, rfl⟩ (fun F => by simp) (pSub (pCons (Sel.sa Sel.hc) (pApp Sel.ha pNil)))
        replace h := cf hc h
        refine k_val rfl rfl rfl (pSub (pApp Sel.ha (pCons Sel.hc pNil))) (stepV_ok tt_ok rfl) rfl ?_
        refine k_val rfl rfl rfl (pSub (pApp Sel.ha (pCons Sel.hc pNil))) (stepV_ok tt_ok rfl) rfl ?_
        refine k_val (v := .pointer (some ((adOf p0a0).add (v100013_0.toNat * 5 + 1)))) rfl rfl rfl (pSub (pApp Sel.ha (pCons Sel.hc pNil))) (val_fa (k := v100013_0.toNat * 5 + 0) (off := 1) tt_ok rfl rfl rfl rfl rfl) rfl ?_
        refine k_val (v := .pointer (some ((adOf p0a0).add (v100013_0.toNat * 5 + 2)))) rfl rfl rfl (pSub (pApp Sel.ha (pCons Sel.hc pNil))) (val_fa (k := v100013_0.toNat * 5 + 1) (off := 1) tt_ok rfl rfl rfl rfl rfl) rfl ?_
        refine k_val (v := .bool v100067.own.is_) rfl rfl rfl (pSub (pApp Sel.ha (pCons Sel.hc pNil))) (val_le (enc := c_T_watch_entry) (xs := (setI p0.l v100013_0 (T_watch_entry.mk v100067.f v100067.own (T_watch_sum.mk p2 true)))) tt_ok rfl (Rds.of_vec Vs32_4) ⟨_, Sel.ha⟩ c_T_watch_entry_len (getI_set x100067) rfl) rfl ?_
        refine k_val rfl rfl rfl (pSub (pApp Sel.ha (pCons Sel.hc pNil))) (stepV_ok tt_ok rfl) rfl ?_
        replace h := bsome h; obtain ⟨v78, h, hg78⟩ := h
        refine k_split (t := 72) rfl (fun hc => ?_) (fun hc => ?_)
        · replace h := ct hc h
          refine k_val rfl rfl rfl (pSub (pApp Sel.ha (pCons Sel.hc pNil))) (stepV_ok tt_ok rfl) rfl ?_
          refine k_val rfl rfl rfl (pSub (pApp Sel.ha (pCons Sel.hc pNil))) (stepV_ok tt_ok rfl) rfl ?_
          refine k_val (v := .pointer (some ((adOf p0a0).add (v100013_0.toNat * 5 + 3)))) rfl rfl rfl (pSub (pApp Sel.ha (pCons Sel.hc pNil))) (val_fa (k := v100013_0.toNat * 5 + 0) (off := 3) tt_ok rfl rfl rfl rfl rfl) rfl ?_
          refine k_val (v := .pointer (some ((adOf p0a0).add (v100013_0.toNat * 5 + 4)))) rfl rfl rfl (pSub (pApp Sel.ha (pCons Sel.hc pNil))) (val_fa (k := v100013_0.toNat * 5 + 3) (off := 1) tt_ok rfl rfl rfl rfl rfl) rfl ?_
          refine k_val (v := .bool true) rfl rfl rfl (pSub (pApp Sel.ha (pCons Sel.hc pNil))) (val_le (enc := c_T_watch_entry) (xs := (setI p0.l v100013_0 (T_watch_entry.mk v100067.f v100067.own (T_watch_sum.mk p2 true)))) tt_ok rfl (Rds.of_vec Vs32_4) ⟨_, Sel.ha⟩ c_T_watch_entry_len (getI_set x100067) rfl) rfl ?_
          simp only [Option.some.injEq, Prod.mk.injEq] at h
          obtain rfl := h
          have h := hg78; clear hg78
          refine k_val (v := .bool true) rfl rfl rfl (pSub (pApp Sel.ha (pCons Sel.hc pNil))) (stepV_ok tt_ok rfl) rfl ?_
          refine k_val rfl rfl rfl (pSub (pApp Sel.ha (pCons Sel.hc pNil))) (stepV_ok tt_ok rfl) rfl ?_
          replace h := bsome h; obtain ⟨v91, h, hg91⟩ := h
          replace h := ct rfl h
          refine k_val rfl rfl rfl (pSub (pApp Sel.ha (pCons Sel.hc pNil))) (stepV_ok tt_ok rfl) rfl ?_
          refine k_val rfl rfl rfl (pSub (pApp Sel.ha (pCons Sel.hc pNil))) (stepV_ok tt_ok rfl) rfl ?_
          refine k_val (v := .pointer (some ((adOf p0a0).add (v100013_0.toNat * 5 + 1)))) rfl rfl rfl (pSub (pApp Sel.ha (pCons Sel.hc pNil))) (val_fa (k := v100013_0.toNat * 5 + 0) (off := 1) tt_ok rfl rfl rfl rfl rfl) rfl ?_
          refine k_val (v := .pointer (some ((adOf p0a0).add (v100013_0.toNat * 5 + 1)))) rfl rfl rfl (pSub (pApp Sel.ha (pCons Sel.hc pNil))) (val_fa (k := v100013_0.toNat * 5 + 1) (off := 0) tt_ok rfl rfl rfl rfl rfl) rfl ?_
          refine k_val (v := .int .u64 v100067.own.n) rfl rfl rfl (pSub (pApp Sel.ha (pCons Sel.hc pNil))) (val_le (enc := c_T_watch_entry) (xs := (setI p0.l v100013_0 (T_watch_entry.mk v100067.f v100067.own (T_watch_sum.mk p2 true)))) tt_ok rfl (Rds.of_vec Vs32_4) ⟨_, Sel.ha⟩ c_T_watch_entry_len (getI_set x100067) rfl) rfl ?_
          refine k_val rfl rfl rfl (pSub (pApp Sel.ha (pCons Sel.hc pNil))) (stepV_ok tt_ok rfl) rfl ?_
          refine k_val rfl rfl rfl (pSub (pApp Sel.ha (pCons Sel.hc pNil))) (stepV_ok tt_ok rfl) rfl ?_
          refine k_val (v := .pointer (some ((adOf p0a0).add (v100013_0.toNat * 5 + 3)))) rfl rfl rfl (pSub (pApp Sel.ha (pCons Sel.hc pNil))) (val_fa (k := v100013_0.toNat * 5 + 0) (off := 3) tt_ok rfl rfl rfl rfl rfl) rfl ?_
          refine k_val (v := .pointer (some ((adOf p0a0).add (v100013_0.toNat * 5 + 3)))) rfl rfl rfl (pSub (pApp Sel.ha (pCons Sel.hc pNil))) (val_fa (k := v100013_0.toNat * 5 + 3) (off := 0) tt_ok rfl rfl rfl rfl rfl) rfl ?_
          refine k_val (v := .int .u64 p2) rfl rfl rfl (pSub (pApp Sel.ha (pCons Sel.hc pNil))) (val_le (enc := c_T_watch_entry) (xs := (setI p0.l v100013_0 (T_watch_entry.mk v100067.f v100067.own (T_watch_sum.mk p2 true)))) tt_ok rfl (Rds.of_vec Vs32_4) ⟨_, Sel.ha⟩ c_T_watch_entry_len (getI_set x100067) rfl) rfl ?_
          refine k_val (v := .bool (v100067.own.n != p2)) rfl rfl rfl (pSub (pApp Sel.ha (pCons Sel.hc pNil))) (stepV_ok tt_ok rfl) rfl ?_
          simp only [Option.some.injEq, Prod.mk.injEq] at h
          obtain rfl := h
          have h := hg91; clear hg91
          refine k_val (v := .bool (v100067.own.n != p2)) rfl rfl rfl (pSub (pApp Sel.ha (pCons Sel.hc pNil))) (stepV_ok tt_ok rfl) rfl ?_
          simp only [Option.some.injEq, Prod.mk.injEq] at h
          obtain rfl := h
          have h := hg92; clear hg92
          refine k_val (v := .bool (v100067.own.n != p2)) rfl rfl rfl (pSub (pApp Sel.ha (pCons Sel.hc pNil))) (stepV_ok tt_ok rfl) rfl ?_
          refine k_val rfl rfl rfl (pSub (pApp Sel.ha (pCons Sel.hc pNil))) (stepV_ok tt_ok rfl) rfl ?_
          refine k_val (v := .pointer (some ⟨p0b, 2, none⟩)) rfl rfl rfl (pSub (pApp Sel.ha (pCons Sel.hc pNil))) (stepV_ok tt_ok rfl) rfl ?_
          refine k_chg0 rfl rfl rfl (chg_store tt_ok rfl (Upd.right Upd.here) rfl rfl rfl rfl rfl rfl) (.inl rfl) ?_
          rintro _ _ rfl
          refine k_end (by kernel_rfl) ?_
          refine wx_then (wc_seq (wc_seq (wc_region ?_)))
          iterate 2 refine wl_pure tt_ok rfl rfl ?_
          refine wl_pure (v := .pointer (some ⟨p0b, 2, none⟩)) tt_ok rfl rfl ?_
          refine wl_val (v := .bool (v100067.own.n != p2)) (val_load tt_ok rfl (mR (List.Mem.head _)) rfl) rfl ?_
          refine wl_nil (wx_then ?_)
          refine wc_cond rfl (fun hc => ?_) (fun hc => ?_)
          · replace h := ct hc h
            refine wc_seq (wc_region ?_)
            refine wl_pure tt_ok rfl rfl ?_
            refine wl_nil (wx_then (wc_ret (wx_then_ret ?_)))
            simp only [Option.some.injEq, Prod.mk.injEq] at h
            obtain ⟨rfl, rfl⟩ := h
            exact wx_spD tt_ok (.inl rfl) Try.results10 (Res.tmp rfl Res.nil) ⟨p0a0, p0n0, p0c0, Bs32_4, Ns32_4, Vs32_4, rfl, rfl⟩ (fun F => by simp) (pSub (pCons (Sel.sa Sel.hc) (pApp Sel.ha pNil)))
          replace h := cf hc h
          refine wc_skip (wx_then (wc_seq (wc_region ?_)))
          refine wl_pure tt_ok rfl rfl ?_
          refine wl_nil (wx_then (wc_ret ?_))
          simp only [Option.some.injEq, Prod.mk.injEq] at h
          obtain ⟨rfl, rfl⟩ := h
          exact wx_spD tt_ok (.inl rfl) Try.results10 (Res.tmp rfl Res.nil) ⟨p0a0, p0n0, p0c0, Bs32_4, Ns32_4, Vs32_4, rfl, rfl⟩ (fun F => by simp) (pSub (pCons (Sel.sa Sel.hc) (pApp Sel.ha pNil)))
        replace h := cf hc h
        refine k_skip rfl rfl (pSub (pApp Sel.ha (pCons Sel.hc pNil))) rfl ?_
        refine k_skip rfl rfl (pSub (pApp Sel.ha (pCons Sel.hc pNil))) rfl ?_
        refine k_skip rfl rfl (pSub (pApp Sel.ha (pCons Sel.hc pNil))) rfl ?_
        refine k_skip rfl rfl (pSub (pApp Sel.ha (pCons Sel.hc pNil))) rfl ?_
        refine k_skip rfl rfl (pSub (pApp Sel.ha (pCons Sel.hc pNil))) rfl ?_
        simp only [Option.some.injEq, Prod.mk.injEq] at h
        obtain rfl := h
        have h := hg78; clear hg78
        refine k_val (v := .bool false) rfl rfl rfl (pSub (pApp Sel.ha (pCons Sel.hc pNil))) (stepV_ok tt_ok rfl) rfl ?_
        refine k_val rfl rfl rfl (pSub (pApp Sel.ha (pCons Sel.hc pNil))) (stepV_ok tt_ok rfl) rfl ?_
        replace h := bsome h; obtain ⟨v91, h, hg91⟩ := h
        replace h := cf rfl h
        refine k_skip rfl rfl (pSub (pApp Sel.ha (pCons Sel.hc pNil))) rfl ?_
        refine k_skip rfl rfl (pSub (pApp Sel.ha (pCons Sel.hc pNil))) rfl ?_
        refine k_skip rfl rfl (pSub (pApp Sel.ha (pCons Sel.hc pNil))) rfl ?_
        refine k_skip rfl rfl (pSub (pApp Sel.ha (pCons Sel.hc pNil))) rfl ?_
        refine k_skip rfl rfl (pSub (pApp Sel.ha (pCons Sel.hc pNil))) rfl ?_
        refine k_skip rfl rfl (pSub (pApp Sel.ha (pCons Sel.hc pNil))) rfl ?_
        refine k_skip rfl rfl (pSub (pApp Sel.ha (pCons Sel.hc pNil))) rfl ?_
        refine k_skip rfl rfl (pSub (pApp Sel.ha (pCons Sel.hc pNil))) rfl ?_
        refine k_skip rfl rfl (pSub (pApp Sel.ha (pCons Sel.hc pNil))) rfl ?_
        refine k_skip rfl rfl (pSub (pApp Sel.ha (pCons Sel.hc pNil))) rfl ?_
        refine k_skip rfl rfl (pSub (pApp Sel.ha (pCons Sel.hc pNil))) rfl ?_
        simp only [Option.some.injEq, Prod.mk.injEq] at h
        obtain rfl := h
        have h := hg91; clear hg91
        refine k_val (v := .bool false) rfl rfl rfl (pSub (pApp Sel.ha (pCons Sel.hc pNil))) (stepV_ok tt_ok rfl) rfl ?_
        simp only [Option.some.injEq, Prod.mk.injEq] at h
        obtain rfl := h
        have h := hg92; clear hg92
        refine k_val (v := .bool false) rfl rfl rfl (pSub (pApp Sel.ha (pCons Sel.hc pNil))) (stepV_ok tt_ok rfl) rfl ?_
        refine k_val rfl rfl rfl (pSub (pApp Sel.ha (pCons Sel.hc pNil))) (stepV_ok tt_ok rfl) rfl ?_
        refine k_val (v := .pointer (some ⟨p0b, 2, none⟩)) rfl rfl rfl (pSub (pApp Sel.ha (pCons Sel.hc pNil))) (stepV_ok tt_ok rfl) rfl ?_
        refine k_chg0 rfl rfl rfl (chg_store tt_ok rfl (Upd.right Upd.here) rfl rfl rfl rfl rfl rfl) (.inl rfl) ?_
        rintro _ _ rfl
        refine k_end (by kernel_rfl) ?_
        refine wx_then (wc_seq (wc_seq (wc_region ?_)))
        iterate 2 refine wl_pure tt_ok rfl rfl ?_
        refine wl_pure (v := .pointer (some ⟨p0b, 2, none⟩)) tt_ok rfl rfl ?_
        refine wl_val (v := .bool false) (val_load tt_ok rfl (mR (List.Mem.head _)) rfl) rfl ?_
        refine wl_nil (wx_then ?_)
        replace h := cf rfl h
        refine wc_cond_false rfl ?_
        refine wc_skip (wx_then (wc_seq (wc_region ?_)))
        refine wl_pure tt_ok rfl rfl ?_
        refine wl_nil (wx_then (wc_ret ?_))
        simp only [Option.some.injEq, Prod.mk.injEq] at h
        obtain ⟨rfl, rfl⟩ := h
        exact wx_spD tt_ok (.inl rfl) Try.results10 (Res.tmp rfl Res.nil) ⟨p0a0, p0n0, p0c0, Bs32_4, Ns32_4, Vs32_4, rfl, rfl⟩ (fun F => by simp) (pSub (pCons (Sel.sa Sel.hc) (pApp Sel.ha pNil)))
      replace h := cf hc h
      refine wc_skip (wx_then ?_)
      refine wc_k2 (Ls := (⟨p0b, [.int .u64 p0.rows, .slice p0a0 p0n0 p0c0, .bool (v100067.other.n != p2)], p0t, (0, 0)⟩ :: (p0B0 ++ []))) [34] [34] [0, 0, 2, 6, 14, 30, 62, 126, 254, 510, 1022, 2046, 4094, 8190, 16382, 32766, 65534, 131070, 262142, 524286, 1048574, 2097150, 4194302, 8388606, 524286, 17301502, 50855934, 117964798, 252182526, 536870910, 1073741822, 2147483646, 4294967295, 8589934591, 17179869183] [0, 1, 2, 3, 4, 5, 6, 7, 8, 9, 10, 11, 12, 13, 14, 15, 16, 17, 18, 19, 20, 21, 22, 23, 24, 25, 26, 27, 28, 29, 30, 31, 32, 33, 34] (by kernel_rfl) (by kernel_rfl) (by kernel_rfl) ?_
      refine k_val rfl rfl rfl (pSub (pCons Sel.hc (pApp Sel.ha pNil))) (stepV_ok tt_ok rfl) rfl ?_
      refine k_val rfl rfl rfl (pSub (pCons Sel.hc (pApp Sel.ha pNil))) (stepV_ok tt_ok rfl) rfl ?_
      refine k_val rfl rfl rfl (pSub (pCons Sel.hc (pApp Sel.ha pNil))) (stepV_ok tt_ok rfl) rfl ?_
      refine k_val (v := .pointer (some ⟨p0b, 2, none⟩)) rfl rfl rfl (pSub (pCons Sel.hc (pApp Sel.ha pNil))) (stepV_ok tt_ok rfl) rfl ?_
      refine k_val (v := .bool (v100067.other.n != p2)) rfl rfl rfl (pSub (pCons Sel.hc (pApp Sel.ha pNil))) (val_load tt_ok rfl (List.Mem.head _) rfl) rfl ?_
      refine k_val rfl rfl rfl (pSub (pCons Sel.hc (pApp Sel.ha pNil))) (stepV_ok tt_ok rfl) rfl ?_
      replace h := bsome h; obtain ⟨v92, h, hg92⟩ := h
      refine k_split (t := 66) rfl (fun hc => ?_) (fun hc => ?_)
      · replace h := ct hc h
        refine k_skip rfl rfl (pSub (pCons Sel.hc (pApp Sel.ha pNil))) rfl ?_
        refine k_skip rfl rfl (pSub (pCons Sel.hc (pApp Sel.ha pNil))) rfl ?_
        refine k_skip rfl rfl (pSub (pCons Sel.hc (pApp Sel.ha pNil))) rfl ?_
        refine k_skip rfl rfl (pSub (pCons Sel.hc (pApp Sel.ha pNil))) rfl ?_
        refine k_skip rfl rfl (pSub (pCons Sel.hc (pApp Sel.ha pNil))) rfl ?_
        refine k_skip rfl rfl (pSub (pCons Sel.hc (pApp Sel.ha pNil))) rfl ?_
        refine k_skip rfl rfl (pSub (pCons Sel.hc (pApp Sel.ha pNil))) rfl ?_
        refine k_skip rfl rfl (pSub (pCons Sel.hc (pApp Sel.ha pNil))) rfl ?_
        refine k_skip rfl rfl (pSub (pCons Sel.hc (pApp Sel.ha pNil))) rfl ?_
        refine k_skip rfl rfl (pSub (pCons Sel.hc (pApp Sel.ha pNil))) rfl ?_
        refine k_skip rfl rfl (pSub (pCons Sel.hc (pApp Sel.ha pNil))) rfl ?_
        refine k_skip rfl rfl (pSub (pCons Sel.hc (pApp Sel.ha pNil))) rfl ?_
        refine k_skip rfl rfl (pSub (pCons Sel.hc (pApp Sel.ha pNil))) rfl ?_
        refine k_skip rfl rfl (pSub (pCons Sel.hc (pApp Sel.ha pNil))) rfl ?_
        refine k_skip rfl rfl (pSub (pCons Sel.hc (pApp Sel.ha pNil))) rfl ?_
        refine k_skip rfl rfl (pSub (pCons Sel.hc (pApp Sel.ha pNil))) rfl ?_
        refine k_skip rfl rfl (pSub (pCons Sel.hc (pApp Sel.ha pNil))) rfl ?_
        refine k_skip rfl rfl (pSub (pCons Sel.hc (pApp Sel.ha pNil))) rfl ?_
        refine k_skip rfl rfl (pSub (pCons Sel.hc (pApp Sel.ha pNil))) rfl ?_
        refine k_skip rfl rfl (pSub (pCons Sel.hc (pApp Sel.ha pNil))) rfl ?_
        refine k_skip rfl rfl (pSub (pCons Sel.hc (pApp Sel.ha pNil))) rfl ?_
        refine k_skip rfl rfl (pSub (pCons Sel.hc (pApp Sel.ha pNil))) rfl ?_
        refine k_skip rfl rfl (pSub (pCons Sel.hc (pApp Sel.ha pNil))) rfl ?_
        refine k_skip rfl rfl (pSub (pCons Sel.hc (pApp Sel.ha pNil))) rfl ?_
        refine k_skip rfl rfl (pSub (pCons Sel.hc (pApp Sel.ha pNil))) rfl ?_
        simp only [Option.some.injEq, Prod.mk.injEq] at h
        obtain rfl := h
        have h := hg92; clear hg92
        refine k_val (v := .bool true) rfl rfl rfl (pSub (pCons Sel.hc (pApp Sel.ha pNil))) (stepV_ok tt_ok rfl) rfl ?_
        refine k_val rfl rfl rfl (pSub (pCons Sel.hc (pApp Sel.ha pNil))) (stepV_ok tt_ok rfl) rfl ?_
        refine k_val (v := .pointer (some ⟨p0b, 2, none⟩)) rfl rfl rfl (pSub (pCons Sel.hc (pApp Sel.ha pNil))) (stepV_ok tt_ok rfl) rfl ?_
        refine k_chg0 rfl rfl rfl (chg_store tt_ok rfl Upd.here rfl rfl rfl rfl rfl rfl) (.inl rfl) ?_
        rintro _ _ rfl
        refine k_end (by kernel_rfl) ?_
        refine wx_then (wc_seq (wc_seq (wc_region ?_)))
        iterate 2 refine wl_pure tt_ok rfl rfl ?_
        refine wl_pure (v := .pointer (some ⟨p0b, 2, none⟩)) tt_ok rfl rfl ?_
        refine wl_val (v := .bool true) (val_load tt_ok rfl (List.Mem.head _) rfl) rfl ?_
        refine wl_nil (wx_then ?_)
        replace h := ct rfl h
        refine wc_cond_true rfl ?_
        refine wc_seq (wc_region ?_)
        refine wl_pure tt_ok rfl rfl ?_
        refine wl_nil (wx_then (wc_ret (wx_then_ret ?_)))
        simp only [Option.some.injEq, Prod.mk.injEq] at h
        obtain ⟨rfl, rfl⟩ := h
        exact wx_spD tt_ok (.inl rfl) Try.results10 (Res.tmp rfl Res.nil) ⟨p0a0, p0n0, p0c0, p0B0, p0N0, p0V0, rfl, rfl⟩ (fun F => by simp) (pSub (pCons Sel.hc (pApp Sel.ha pNil)))
      replace h := cf hc h
      refine k_val rfl rfl rfl (pSub (pCons Sel.hc (pApp Sel.ha pNil))) (stepV_ok tt_ok rfl) rfl ?_
      refine k_val rfl rfl rfl (pSub (pCons Sel.hc (pApp Sel.ha pNil))) (stepV_ok tt_ok rfl) rfl ?_
      refine k_val (v := .pointer (some ((adOf p0a0).add (v100013_0.toNat * 5 + 1)))) rfl rfl rfl (pSub (pCons Sel.hc (pApp Sel.ha pNil))) (val_fa (k := v100013_0.toNat * 5 + 0) (off := 1) tt_ok rfl rfl rfl rfl rfl) rfl ?_
      refine k_val (v := .pointer (some ((adOf p0a0).add (v100013_0.toNat * 5 + 2)))) rfl rfl rfl (pSub (pCons Sel.hc (pApp Sel.ha pNil))) (val_fa (k := v100013_0.toNat * 5 + 1) (off := 1) tt_ok rfl rfl rfl rfl rfl) rfl ?_
      refine k_val (v := .bool v100067.own.is_) rfl rfl rfl (pSub (pCons Sel.hc (pApp Sel.ha pNil))) (val_le (enc := c_T_watch_entry) (xs := p0.l) tt_ok rfl (Rds.of_vec p0V0) ⟨_, (Sel.sc Sel.ha)⟩ c_T_watch_entry_len x100067 rfl) rfl ?_
      refine k_val rfl rfl rfl (pSub (pCons Sel.hc (pApp Sel.ha pNil))) (stepV_ok tt_ok rfl) rfl ?_
      replace h := bsome h; obtain ⟨v78, h, hg78⟩ := h
      refine k_split (t := 72) rfl (fun hc => ?_) (fun hc => ?_)
      · replace h := ct hc h
        refine k_val rfl rfl rfl (pSub (pCons Sel.hc (pApp Sel.ha pNil))) (stepV_ok tt_ok rfl) rfl ?_
        refine k_val rfl rfl rfl (pSub (pCons Sel.hc (pApp Sel.ha pNil))) (stepV_ok tt_ok rfl) rfl ?_
        refine k_val (v := .pointer (some ((adOf p0a0).add (v100013_0.toNat * 5 + 3)))) rfl rfl rfl (pSub (pCons Sel.hc (pApp Sel.ha pNil))) (val_fa (k := v100013_0.toNat * 5 + 0) (off := 3) tt_ok rfl rfl rfl rfl rfl) rfl ?_
        refine k_val (v := .pointer (some ((adOf p0a0).add (v100013_0.toNat * 5 + 4)))) rfl rfl rfl (pSub (pCons Sel.hc (pApp Sel.ha pNil))) (val_fa (k := v100013_0.toNat * 5 + 3) (off := 1) tt_ok rfl rfl rfl rfl rfl) rfl ?_
        refine k_val (v := .bool v100067.other.is_) rfl rfl rfl (pSub (pCons Sel.hc (pApp Sel.ha pNil))) (val_le (enc := c_T_watch_entry) (xs := p0.l) tt_ok rfl (Rds.of_vec p0V0) ⟨_, (Sel.sc Sel.ha)⟩ c_T_watch_entry_len x100067 rfl) rfl ?_
        simp only [Option.some.injEq, Prod.mk.injEq] at h
        obtain rfl := h
        have h := hg78; clear hg78
        refine k_val (v := .bool v100067.other.is_) rfl rfl rfl (pSub (pCons Sel.hc (pApp Sel.ha pNil))) (stepV_ok tt_ok rfl) rfl ?_
        refine k_val rfl rfl rfl (pSub (pCons Sel.hc (pApp Sel.ha pNil))) (stepV_ok tt_ok rfl) rfl ?_
        replace h := bsome h; obtain ⟨v91, h, hg91⟩ := h
        refine k_split (t := 79) rfl (fun hc => ?_) (fun hc => ?_)
        · replace h := ct hc h
          refine k_val rfl rfl rfl (pSub (pCons Sel.hc (pApp Sel.ha pNil))) (stepV_ok tt_ok rfl) rfl ?_
          refine k_val rfl rfl rfl (pSub (pCons Sel.hc (pApp Sel.ha pNil))) (stepV_ok tt_ok rfl) rfl ?_
          refine k_val (v := .pointer (some ((adOf p0a0).add (v100013_0.toNat * 5 + 1)))) rfl rfl rfl (pSub (pCons Sel.hc (pApp Sel.ha pNil))) (val_fa (k := v100013_0.toNat * 5 + 0) (off := 1) tt_ok rfl rfl rfl rfl rfl) rfl ?_
          refine k_val (v := .pointer (some ((adOf p0a0).add (v100013_0.toNat * 5 + 1)))) rfl rfl rfl (pSub (pCons Sel.hc (pApp Sel.ha pNil))) (val_fa (k := v100013_0.toNat * 5 + 1) (off := 0) tt_ok rfl rfl rfl rfl rfl) rfl ?_
          refine k_val (v := .int .u64 v100067.own.n) rfl rfl rfl (pSub (pCons Sel.hc (pApp Sel.ha pNil))) (val_le (enc := c_T_watch_entry) (xs := p0.l) tt_ok rfl (Rds.of_vec p0V0) ⟨_, (Sel.sc Sel.ha)⟩ c_T_watch_entry_len x100067 rfl) rfl ?_
          refine k_val rfl rfl rfl (pSub (pCons Sel.hc (pApp Sel.ha pNil))) (stepV_ok tt_ok rfl) rfl ?_
          refine k_val rfl rfl rfl (pSub (pCons Sel.hc (pApp Sel.ha pNil))) (stepV_ok tt_ok rfl) rfl ?_
          refine k_val (v := .pointer (some ((adOf p0a0).add (v100013_0.toNat * 5 + 3)))) rfl rfl rfl (pSub (pCons Sel.hc (pApp Sel.ha pNil))) (val_fa (k := v100013_0.toNat * 5 + 0) (off := 3) tt_ok rfl rfl rfl rfl rfl) rfl ?_
          refine k_val (v := .pointer (some ((adOf p0a0).add (v100013_0.toNat * 5 + 3)))) rfl rfl rfl (pSub (pCons Sel.hc (pApp Sel.ha pNil))) (val_fa (k := v100013_0.toNat * 5 + 3) (off := 0) tt_ok rfl rfl rfl rfl rfl) rfl ?_
          refine k_val (v := .int .u64 v100067.other.n) rfl rfl rfl (pSub (pCons Sel.hc (pApp Sel.ha pNil))) (val_le (enc := c_T_watch_entry) (xs := p0.l) tt_ok rfl (Rds.of_vec p0V0) ⟨_, (Sel.sc Sel.ha)⟩ c_T_watch_entry_len x100067 rfl) rfl ?_
          refine k_val (v := .bool (v100067.own.n != v100067.other.n)) rfl rfl rfl (pSub (pCons Sel.hc (pApp Sel.ha pNil))) (stepV_ok tt_ok rfl) rfl ?_
          simp only [Option.some.injEq, Prod.mk.injEq] at h
          obtain rfl := h
          have h := hg91; clear hg91
          refine k_val (v := .bool (v100067.own.n != v100067.other.n)) rfl rfl rfl (pSub (pCons Sel.hc (pApp Sel.ha pNil))) (stepV_ok tt_ok rfl) rfl ?_
          simp only [Option.some.injEq, Prod.mk.injEq] at h
          obtain rfl := h
          have h := hg92; clear hg92
          refine k_val (v := .bool (v100067.own.n != v100067.other.n)) rfl rfl rfl (pSub (pCons Sel.hc (pApp Sel.ha pNil))) (stepV_ok tt_ok rfl) rfl ?_
          refine k_val rfl rfl rfl (pSub (pCons Sel.hc (pApp Sel.ha pNil))) (stepV_ok tt_ok rfl) rfl ?_
          refine k_val (v := .pointer (some ⟨p0b, 2, none⟩)) rfl rfl rfl (pSub (pCons Sel.hc (pApp Sel.ha pNil))) (stepV_ok tt_ok rfl) rfl ?_
          refine k_chg0 rfl rfl rfl (chg_store tt_ok rfl Upd.here rfl rfl rfl rfl rfl rfl) (.inl rfl) ?_
          rintro _ _ rfl
          refine k_end (by kernel_rfl) ?_
          refine wx_then (wc_seq (wc_seq (wc_region ?_)))
          iterate 2 refine wl_pure tt_ok rfl rfl ?_
          refine wl_pure (v := .pointer (some ⟨p0b, 2, none⟩)) tt_ok rfl rfl ?_
          refine wl_val (v := .bool (v100067.own.n != v100067.other.n)) (val_load tt_ok rfl (List.Mem.head _) rfl) rfl ?_
          refine wl_nil (wx_then ?_)
          refine wc_cond rfl (fun hc => ?_) (fun hc => ?_)
          · replace h := ct hc h
            refine wc_seq (wc_region ?_)
            refine wl_pure tt_ok rfl rfl ?_
            refine wl_nil (wx_then (wc_ret (wx_then_ret ?_)))
            simp only [Option.some.injEq, Prod.mk.injEq] at h
            obtain ⟨rfl, rfl⟩ := h
            exact wx_spD tt_ok (.inl rfl) Try.results10 (Res.tmp rfl Res.nil) ⟨p0a0, p0n0, p0c0, p0B0, p0N0, p0V0, rfl, rfl⟩ (fun F => by simp) (pSub (pCons Sel.hc (pApp Sel.ha pNil)))
          replace h := cf hc h
          refine wc_skip (wx_then (wc_seq (wc_region ?_)))
          refine wl_pure tt_ok rfl rfl ?_
          refine wl_nil (wx_then (wc_ret ?_))
          simp only [Option.some.injEq, Prod.mk.injEq] at h
          obtain ⟨rfl, rfl⟩ := h
          exact wx_spD tt_ok (.inl rfl) Try.results10 (Res.tmp rfl Res.nil) ⟨p0a0, p0n0, p0c0, p0B0, p0N0, p0V0, rfl, rfl⟩ (fun F => by simp) (pSub (pCons Sel.hc (pApp Sel.ha pNil)))
        replace h := cf hc h
        refine k_skip rfl rfl (pSub (pCons Sel.hc (pApp Sel.ha pNil))) rfl ?_
        refine k_skip rfl rfl (pSub (pCons Sel.hc (pApp Sel.ha pNil))) rfl ?_
        refine k_skip rfl rfl (pSub (pCons Sel.hc (pApp Sel.ha pNil))) rfl ?_
        refine k_skip rfl rfl (pSub (pCons Sel.hc (pApp Sel.ha pNil))) rfl ?_
        refine k_skip rfl rfl (pSub (pCons Sel.hc (pApp Sel.ha pNil))) rfl ?_
        refine k_skip rfl rfl (pSub (pCons Sel.hc (pApp Sel.ha pNil))) rfl ?_
        refine k_skip rfl rfl (pSub (pCons Sel.hc (pApp Sel.ha pNil))) rfl ?_
        refine k_skip rfl rfl (pSub (pCons Sel.hc (pApp Sel.ha pNil))) rfl ?_
        refine k_skip rfl rfl (pSub (pCons Sel.hc (pApp Sel.ha pNil))) rfl ?_
        refine k_skip rfl rfl (pSub (pCons Sel.hc (pApp Sel.ha pNil))) rfl ?_
        refine k_skip rfl rfl (pSub (pCons Sel.hc (pApp Sel.ha pNil))) rfl ?_
        simp only [Option.some.injEq, Prod.mk.injEq] at h
        obtain rfl := h
        have h := hg91; clear hg91
        refine k_val (v := .bool false) rfl rfl rfl (pSub (pCons Sel.hc (pApp Sel.ha pNil))) (stepV_ok tt_ok rfl) rfl ?_
        simp only [Option.some.injEq, Prod.mk.injEq] at h
        obtain rfl := h
        have h := hg92; clear hg92
        refine k_val (v := .bool false) rfl rfl rfl (pSub (pCons Sel.hc (pApp Sel.ha pNil))) (stepV_ok tt_ok rfl) rfl ?_
        refine k_val rfl rfl rfl (pSub (pCons Sel.hc (pApp Sel.ha pNil))) (stepV_ok tt_ok rfl) rfl ?_
        refine k_val (v := .pointer (some ⟨p0b, 2, none⟩)) rfl rfl rfl (pSub (pCons Sel.hc (pApp Sel.ha pNil))) (stepV_ok tt_ok rfl) rfl ?_
        refine k_chg0 rfl rfl rfl (chg_store tt_ok rfl Upd.here rfl rfl rfl rfl rfl rfl) (.inl rfl) ?_
        rintro _ _ rfl
        refine k_end (by kernel_rfl) ?_
        refine wx_then (wc_seq (wc_seq (wc_region ?_)))
        iterate 2 refine wl_pure tt_ok rfl rfl ?_
        refine wl_pure (v := .pointer (some ⟨p0b, 2, none⟩)) tt_ok rfl rfl ?_
        refine wl_val (v := .bool false) (val_load tt_ok rfl (List.Mem.head _) rfl) rfl ?_
        refine wl_nil (wx_then ?_)
        replace h := cf rfl h
        refine wc_cond_false rfl ?_
        refine wc_skip (wx_then (wc_seq (wc_region ?_)))
        refine wl_pure tt_ok rfl rfl ?_
        refine wl_nil (wx_then (wc_ret ?_))
        simp only [Option.some.injEq, Prod.mk.injEq] at h
        obtain ⟨rfl, rfl⟩ := h
        exact wx_spD tt_ok (.inl rfl) Try.results10 (Res.tmp rfl Res.nil) ⟨p0a0, p0n0, p0c0, p0B0, p0N0, p0V0, rfl, rfl⟩ (fun F => by simp) (pSub (pCons Sel.hc (pApp Sel.ha pNil)))
      replace h := cf hc h
      refine k_skip rfl rfl (pSub (pCons Sel.hc (pApp Sel.ha pNil))) rfl ?_
      refine k_skip rfl rfl (pSub (pCons Sel.hc (pApp Sel.ha pNil))) rfl ?_
      refine k_skip rfl rfl (pSub (pCons Sel.hc (pApp Sel.ha pNil))) rfl ?_
      refine k_skip rfl rfl (pSub (pCons Sel.hc (pApp Sel.ha pNil))) rfl ?_
      refine k_skip rfl rfl (pSub (pCons Sel.hc (pApp Sel.ha pNil))) rfl ?_
      simp only [Option.some.injEq, Prod.mk.injEq] at h
      obtain rfl := h
      have h := hg78; clear hg78
      refine k_val (v := .bool false) rfl rfl rfl (pSub (pCons Sel.hc (pApp Sel.ha pNil))) (stepV_ok tt_ok rfl) rfl ?_
      refine k_val rfl rfl rfl (pSub (pCons Sel.hc (pApp Sel.ha pNil))) (stepV_ok tt_ok rfl) rfl ?_
      replace h := bsome h; obtain ⟨v91, h, hg91⟩ := h
      replace h := cf rfl h
      refine k_skip rfl rfl (pSub (pCons Sel.hc (pApp Sel.ha pNil))) rfl ?_
      refine k_skip rfl rfl (pSub (pCons Sel.hc (pApp Sel.ha pNil))) rfl ?_
      refine k_skip rfl rfl (pSub (pCons Sel.hc (pApp Sel.ha pNil))) rfl ?_
      refine k_skip rfl rfl (pSub (pCons Sel.hc (pApp Sel.ha pNil))) rfl ?_
      refine k_skip rfl rfl (pSub (pCons Sel.hc (pApp Sel.ha pNil))) rfl ?_
      refine k_skip rfl rfl (pSub (pCons Sel.hc (pApp Sel.ha pNil))) rfl ?_
      refine k_skip rfl rfl (pSub (pCons Sel.hc (pApp Sel.ha pNil))) rfl ?_
      refine k_skip rfl rfl (pSub (pCons Sel.hc (pApp Sel.ha pNil))) rfl ?_
      refine k_skip rfl rfl (pSub (pCons Sel.hc (pApp Sel.ha pNil))) rfl ?_
      refine k_skip rfl rfl (pSub (pCons Sel.hc (pApp Sel.ha pNil))) rfl ?_
      refine k_skip rfl rfl (pSub (pCons Sel.hc (pApp Sel.ha pNil))) rfl ?_
      simp only [Option.some.injEq, Prod.mk.injEq] at h
      obtain rfl := h
      have h := hg91; clear hg91
      refine k_val (v := .bool false) rfl rfl rfl (pSub (pCons Sel.hc (pApp Sel.ha pNil))) (stepV_ok tt_ok rfl) rfl ?_
      simp only [Option.some.injEq, Prod.mk.injEq] at h
      obtain rfl := h
      have h := hg92; clear hg92
      refine k_val (v := .bool false) rfl rfl rfl (pSub (pCons Sel.hc (pApp Sel.ha pNil))) (stepV_ok tt_ok rfl) rfl ?_
      refine k_val rfl rfl rfl (pSub (pCons Sel.hc (pApp Sel.ha pNil))) (stepV_ok tt_ok rfl) rfl ?_
      refine k_val (v := .pointer (some ⟨p0b, 2, none⟩)) rfl rfl rfl (pSub (pCons Sel.hc (pApp Sel.ha pNil))) (stepV_ok tt_ok rfl) rfl ?_
      refine k_chg0 rfl rfl rfl (chg_store tt_ok rfl Upd.here rfl rfl rfl rfl rfl rfl) (.inl rfl) ?_
      rintro _ _ rfl
      refine k_end (by kernel_rfl) ?_
      refine wx_then (wc_seq (wc_seq (wc_region ?_)))
      iterate 2 refine wl_pure tt_ok rfl rfl ?_
      refine wl_pure (v := .pointer (some ⟨p0b, 2, none⟩)) tt_ok rfl rfl ?_
      refine wl_val (v := .bool false) (val_load tt_ok rfl (List.Mem.head _) rfl) rfl ?_
      refine wl_nil (wx_then ?_)
      replace h := cf rfl h
      refine wc_cond_false rfl ?_
      refine wc_skip (wx_then (wc_seq (wc_region ?_)))
      refine wl_pure tt_ok rfl rfl ?_
      refine wl_nil (wx_then (wc_ret ?_))
      simp only [Option.some.injEq, Prod.mk.injEq] at h
      obtain ⟨rfl, rfl⟩ := h
      exact wx_spD tt_ok (.inl rfl) Try.results10 (Res.tmp rfl Res.nil) ⟨p0a0, p0n0, p0c0, p0B0, p0N0, p0V0, rfl, rfl⟩ (fun F => by simp) (pSub (pCons Sel.hc (pApp Sel.ha pNil)))
    replace h := cf hc h
    refine wl_skip rfl rfl ?_
    refine wl_skip rfl rfl ?_
    refine wl_skip rfl rfl ?_
    refine wl_skip rfl rfl ?_
    refine wl_skip rfl rfl ?_
    refine wl_skip rfl rfl ?_
    simp only [Option.some.injEq, Prod.mk.injEq] at h
    obtain rfl := h
    have h := hg48; clear hg48
    refine wl_run rfl ?_
    refine wl_pure (v := .bool false) tt_ok rfl rfl ?_
    simp only [Option.some.injEq, Prod.mk.injEq] at h
    obtain rfl := h
    have h := hg49; clear hg49
    refine wl_pure (v := .bool false) tt_ok rfl rfl ?_
    refine wl_pure tt_ok rfl rfl ?_
    refine wl_pure (v := .pointer (some ⟨p0b, 2, none⟩)) tt_ok rfl rfl ?_
    apply wl_store tt_ok; rfl; exact Upd.here; rfl; rfl; rfl; rfl; rfl; rfl
    refine wl_nil (wx_then (wc_seq (wc_seq (wc_region ?_))))
    iterate 2 refine wl_pure tt_ok rfl rfl ?_
    refine wl_val (v := .pointer (some ((adOf p0a0).add (v100013_0.toNat * 5 + 4)))) (val_fa (k := v100013_0.toNat * 5 + 3) (off := 1) tt_ok rfl rfl rfl rfl rfl) rfl ?_
    refine wl_val (v := .bool v100067.other.is_) (val_le (enc := c_T_watch_entry) (xs := p0.l) tt_ok rfl (Rds.of_vec p0V0) ⟨_, (Sel.sc Sel.ha)⟩ c_T_watch_entry_len x100067 rfl) rfl ?_
    refine wl_pure (v := .bool (!v100067.other.is_)) tt_ok rfl rfl ?_
    refine wl_nil (wx_then ?_)
    refine wc_cond rfl (fun hc => ?_) (fun hc => ?_)
    · replace h := ct hc h
      refine wc_region ?_
      iterate 2 refine wl_pure tt_ok rfl rfl ?_
      refine wl_pure (v := .agg #[.int .u64 p2, .bool true]) tt_ok rfl rfl ?_
      refine wl_pure tt_ok rfl rfl ?_
      refine wl_chg0 (chg_ste (enc := c_T_watch_entry) (y' := (T_watch_entry.mk v100067.f v100067.own (T_watch_sum.mk p2 true))) tt_ok rfl rfl rfl rfl rfl rfl p0N0 p0V0 (Sel.sc Sel.ha) c_T_watch_entry_len x100067 rfl (by intro h; cases h)) ?_
      rintro _ _ ⟨Bs32_4, Ns32_4, Vs32_4, rfl⟩
      refine wl_nil (wx_then ?_)
      refine wc_k2 (Ls := (Bs32_4 ++ (⟨p0b, [.int .u64 p0.rows, .slice p0a0 p0n0 p0c0, .bool false], p0t, (0, 0)⟩ :: []))) [34] [34] [0, 0, 2, 6, 14, 30, 62, 126, 254, 510, 1022, 2046, 4094, 8190, 16382, 32766, 65534, 131070, 262142, 524286, 1048574, 2097150, 4194302, 8388606, 524286, 17301502, 50855934, 117964798, 252182526, 536870910, 1073741822, 2147483646, 4294967295, 8589934591, 17179869183] [0, 1, 2, 3, 4, 5, 6, 7, 8, 9, 10, 11, 12, 13, 14, 15, 16, 17, 18, 19, 20, 21, 22, 23, 24, 25, 26, 27, 28, 29, 30, 31, 32, 33, 34] (by kernel_rfl) (by kernel_rfl) (by kernel_rfl) ?_
      refine k_val rfl rfl rfl (pSub (pApp Sel.ha (pCons Sel.hc pNil))) (stepV_ok tt_ok rfl) rfl ?_
      refine k_val rfl rfl rfl (pSub (pApp Sel.ha (pCons Sel.hc pNil))) (stepV_ok tt_ok rfl) rfl ?_
      refine k_val rfl rfl rfl (pSub (pApp Sel.ha (pCons Sel.hc pNil))) (stepV_ok tt_ok rfl) rfl ?_
      refine k_val (v := .pointer (some ⟨p0b, 2, none⟩)) rfl rfl rfl (pSub (pApp Sel.ha (pCons Sel.hc pNil))) (stepV_ok tt_ok rfl) rfl ?_
      refine k_val (v := .bool false) rfl rfl rfl (pSub (pApp Sel.ha (pCons Sel.hc pNil))) (val_load tt_ok rfl (mR (List.Mem.head _)) rfl) rfl ?_
      refine k_val rfl rfl rfl (pSub (pApp Sel.ha (pCons Sel.hc pNil))) (stepV_ok tt_ok rfl) rfl ?_
      replace h := bsome h; obtain ⟨v92, h, hg92⟩ := h
      replace h := cf rfl h
      refine k_val rfl rfl rfl (pSub (pApp Sel.ha (pCons Sel.hc pNil))) (stepV_ok tt_ok rfl) rfl ?_
      refine k_val rfl rfl rfl (pSub (pApp Sel.ha (pCons Sel.hc pNil))) (stepV_ok tt_ok rfl) rfl ?_
      refine k_val (v := .pointer (some ((adOf p0a0).add (v100013_0.toNat * 5 + 1)))) rfl rfl rfl (pSub (pApp Sel.ha (pCons Sel.hc pNil))) (val_fa (k := v100013_0.toNat * 5 + 0) (off := 1) tt_ok rfl rfl rfl rfl rfl) rfl ?_
      refine k_val (v := .pointer (some ((adOf p0a0).add (v100013_0.toNat * 5 + 2)))) rfl rfl rfl (pSub (pApp Sel.ha (pCons Sel.hc pNil))) (val_fa (k := v100013_0.toNat * 5 + 1) (off := 1) tt_ok rfl rfl rfl rfl rfl) rfl ?_
      refine k_val (v := .bool v100067.own.is_) rfl rfl rfl (pSub (pApp Sel.ha (pCons Sel.hc pNil))) (val_le (enc := c_T_watch_entry) (xs := (setI p0.l v100013_0 (T_watch_entry.mk v100067.f v100067.own (T_watch_sum.mk p2 true)))) tt_ok rfl (Rds.of_vec Vs32_4) ⟨_, Sel.ha⟩ c_T_watch_entry_len (getI_set x100067) rfl) rfl ?_
      refine k_val rfl rfl rfl (pSub (pApp Sel.ha (pCons Sel.hc pNil))) (stepV_ok tt_ok rfl) rfl ?_
      replace h := bsome h; obtain ⟨v78, h, hg78⟩ := h
      refine k_split (t := 72) rfl (fun hc => ?_) (fun hc => ?_)
      · replace h := ct hc h
        refine k_val rfl rfl rfl (pSub (pApp Sel.ha (pCons Sel.hc pNil))) (stepV_ok tt_ok rfl) rfl ?_
        refine k_val rfl rfl rfl (pSub (pApp Sel.ha (pCons Sel.hc pNil))) (stepV_ok tt_ok rfl) rfl ?_
        refine k_val (v := .pointer (some ((adOf p0a0).add (v100013_0.toNat * 5 + 3)))) rfl rfl rfl (pSub (pApp Sel.ha (pCons Sel.hc pNil))) (val_fa (k := v100013_0.toNat * 5 + 0) (off := 3) tt_ok rfl rfl rfl rfl rfl) rfl ?_
        refine k_val (v := .pointer (some ((adOf p0a0).add (v100013_0.toNat * 5 + 4)))) rfl rfl rfl (pSub (pApp Sel.ha (pCons Sel.hc pNil))) (val_fa (k := v100013_0.toNat * 5 + 3) (off := 1) tt_ok rfl rfl rfl rfl rfl) rfl ?_
        refine k_val (v := .bool true) rfl rfl rfl (pSub (pApp Sel.ha (pCons Sel.hc pNil))) (val_le (enc := c_T_watch_entry) (xs := (setI p0.l v100013_0 (T_watch_entry.mk v100067.f v100067.own (T_watch_sum.mk p2 true)))) tt_ok rfl (Rds.of_vec Vs32_4) ⟨_, Sel.ha⟩ c_T_watch_entry_len (getI_set x100067) rfl) rfl ?_
        simp only [Option.some.injEq, Prod.mk.injEq] at h
        obtain rfl := h
        have h := hg78; clear hg78
        refine k_val (v := .bool true) rfl rfl rfl (pSub (pApp Sel.ha (pCons Sel.hc pNil))) (stepV_ok tt_ok rfl) rfl ?_
        refine k_val rfl rfl rfl (pSub (pApp Sel.ha (pCons Sel.hc pNil))) (stepV_ok tt_ok rfl) rfl ?_
        replace h := bsome h; obtain ⟨v91, h, hg91⟩ := h
        replace h := ct rfl h
        refine k_val rfl rfl rfl (pSub (pApp Sel.ha (pCons Sel.hc pNil))) (stepV_ok tt_ok rfl) rfl ?_
        refine k_val rfl rfl rfl (pSub (pApp Sel.ha (pCons Sel.hc pNil))) (stepV_ok tt_ok rfl) rfl ?_
        refine k_val (v := .pointer (some ((adOf p0a0).add (v100013_0.toNat * 5 + 1)))) rfl rfl rfl (pSub (pApp Sel.ha (pCons Sel.hc pNil))) (val_fa (k := v100013_0.toNat * 5 + 0) (off := 1) tt_ok rfl rfl rfl rfl rfl) rfl ?_
        refine k_val (v := .pointer (some ((adOf p0a0).add (v100013_0.toNat * 5 + 1)))) rfl rfl rfl (pSub (pApp Sel.ha (pCons Sel.hc pNil))) (val_fa (k := v100013_0.toNat * 5 + 1) (off := 0) tt_ok rfl rfl rfl rfl rfl) rfl ?_
        refine k_val (v := .int .u64 v100067.own.n) rfl rfl rfl (pSub (pApp Sel.ha (pCons Sel.hc pNil))) (val_le (enc := c_T_watch_entry) (xs := (setI p0.l v100013_0 (T_watch_entry.mk v100067.f v100067.own (T_watch_sum.mk p2 true)))) tt_ok rfl (Rds.of_vec Vs32_4) ⟨_, Sel.ha⟩ c_T_watch_entry_len (getI_set x100067) rfl) rfl ?_
        refine k_val rfl rfl rfl (pSub (pApp Sel.ha (pCons Sel.hc pNil))) (stepV_ok tt_ok rfl) rfl ?_
        refine k_val rfl rfl rfl (pSub (pApp Sel.ha (pCons Sel.hc pNil))) (stepV_ok tt_ok rfl) rfl ?_
        refine k_val (v := .pointer (some ((adOf p0a0).add (v100013_0.toNat * 5 + 3)))) rfl rfl rfl (pSub (pApp Sel.ha (pCons Sel.hc pNil))) (val_fa (k := v100013_0.toNat * 5 + 0) (off := 3) tt_ok rfl rfl rfl rfl rfl) rfl ?_
        refine k_val (v := .pointer (some ((adOf p0a0).add (v100013_0.toNat * 5 + 3)))) rfl rfl rfl (pSub (pApp Sel.ha (pCons Sel.hc pNil))) (val_fa (k := v100013_0.toNat * 5 + 3) (off := 0) tt_ok rfl rfl rfl rfl rfl) rfl ?_
        refine k_val (v := .int .u64 p2) rfl rfl rfl (pSub (pApp Sel.ha (pCons Sel.hc pNil))) (val_le (enc := c_T_watch_entry) (xs := (setI p0.l v100013_0 (T_watch_entry.mk v100067.f v100067.own (T_watch_sum.mk p2 true)))) tt_ok rfl (Rds.of_vec Vs32_4) ⟨_, Sel.ha⟩ c_T_watch_entry_len (getI_set x100067) rfl) rfl ?_
        refine k_val (v := .bool (v100067.own.n != p2)) rfl rfl rfl (pSub (pApp Sel.ha (pCons Sel.hc pNil))) (stepV_ok tt_ok rfl) rfl ?_
        simp only [Option.some.injEq, Prod.mk.injEq] at h
        obtain rfl := h
        have h := hg91; clear hg91
        refine k_val (v := .bool (v100067.own.n != p2)) rfl rfl rfl (pSub (pApp Sel.ha (pCons Sel.hc pNil))) (stepV_ok tt_ok rfl) rfl ?_
        simp only [Option.some.injEq, Prod.mk.injEq] at h
        obtain rfl := h
        have h := hg92; clear hg92
        refine k_val (v := .bool (v100067.own.n != p2)) rfl rfl rfl (pSub (pApp Sel.ha (pCons Sel.hc pNil))) (stepV_ok tt_ok rfl) rfl ?_
        refine k_val rfl rfl rfl (pSub (pApp Sel.ha (pCons Sel.hc pNil))) (stepV_ok tt_ok rfl) rfl ?_
        refine k_val (v := .pointer (some ⟨p0b, 2, none⟩)) rfl rfl rfl (pSub (pApp Sel.ha (pCons Sel.hc pNil))) (stepV_ok tt_ok rfl) rfl ?_
        refine k_chg0 rfl rfl rfl (chg_store tt_ok rfl (Upd.right Upd.here) rfl rfl rfl rfl rfl rfl) (.inl rfl) ?_
        rintro _ _ rfl
        refine k_end (by kernel_rfl) ?_
        refine wx_then (wc_seq (wc_seq (wc_region ?_)))
        iterate 2 refine wl_pure tt_ok rfl rfl ?_
        refine wl_pure (v := .pointer (some ⟨p0b, 2, none⟩)) tt_ok rfl rfl ?_
        refine wl_val (v := .bool (v100067.own.n != p2)) (val_load tt_ok rfl (mR (List.Mem.head _)) rfl) rfl ?_
        refine wl_nil (wx_then ?_)
        refine wc_cond rfl (fun hc => ?_) (fun hc => ?_)
        · replace h := ct hc h
          refine wc_seq (wc_region ?_)
          refine wl_pure tt_ok rfl rfl ?_
          refine wl_nil (wx_then (wc_ret (wx_then_ret ?_)))
          simp only [Option.some.injEq, Prod.mk.injEq] at h
          obtain ⟨rfl, rfl⟩ := h
          exact wx_spD tt_ok (.inl rfl) Try.results10 (Res.tmp rfl Res.nil) ⟨p0a0, p0n0, p0c0, Bs32_4, Ns32_4, Vs32_4, rfl, rfl⟩ (fun F => by simp) (pSub (pCons (Sel.sa Sel.hc) (pApp Sel.ha pNil)))
        replace h := cf hc h
        refine wc_skip (wx_then (wc_seq (wc_region ?_)))
        refine wl_pure tt_ok rfl rfl ?_
        refine wl_nil (wx_then (wc_ret ?_))
        simp only [Option.some.injEq, Prod.mk.injEq] at h
        obtain ⟨rfl, rfl⟩ := h
        exact wx_spD tt_ok (.inl rfl) Try.results10 (Res.tmp rfl Res.nil) ⟨p0a0, p0n0, p0c0, Bs32_4, Ns32_4, Vs32_4, rfl, rfl⟩ (fun F => by simp) (pSub (pCons (Sel.sa Sel.hc) (pApp Sel.ha pNil)))
      replace h := cf hc h
      refine k_skip rfl rfl (pSub (pApp Sel.ha (pCons Sel.hc pNil))) rfl ?_
      refine k_skip rfl rfl (pSub (pApp Sel.ha (pCons Sel.hc pNil))) rfl ?_
      refine k_skip rfl rfl (pSub (pApp Sel.ha (pCons Sel.hc pNil))) rfl ?_
      refine k_skip rfl rfl (pSub (pApp Sel.ha (pCons Sel.hc pNil))) rfl ?_
      refine k_skip rfl rfl (pSub (pApp Sel.ha (pCons Sel.hc pNil))) rfl ?_
      simp only [Option.some.injEq, Prod.mk.injEq] at h
      obtain rfl := h
      have h := hg78; clear hg78
      refine k_val (v := .bool false) rfl rfl rfl (pSub (pApp Sel.ha (pCons Sel.hc pNil))) (stepV_ok tt_ok rfl) rfl ?_
      refine k_val rfl rfl rfl (pSub (pApp Sel.ha (pCons Sel.hc pNil))) (stepV_ok tt_ok rfl) rfl ?_
      replace h := bsome h; obtain ⟨v91, h, hg91⟩ := h
      replace h := cf rfl h
      refine k_skip rfl rfl (pSub (pApp Sel.ha (pCons Sel.hc pNil))) rfl ?_
      refine k_skip rfl rfl (pSub (pApp Sel.ha (pCons Sel.hc pNil))) rfl ?_
      refine k_skip rfl rfl (pSub (pApp Sel.ha (pCons Sel.hc pNil))) rfl ?_
      refine k_skip rfl rfl (pSub (pApp Sel.ha (pCons Sel.hc pNil))) rfl ?_
      refine k_skip rfl rfl (pSub (pApp Sel.ha (pCons Sel.hc pNil))) rfl ?_
      refine k_skip rfl rfl (pSub (pApp Sel.ha (pCons Sel.hc pNil))) rfl ?_
      refine k_skip rfl rfl (pSub (pApp Sel.ha (pCons Sel.hc pNil))) rfl ?_
      refine k_skip rfl rfl (pSub (pApp Sel.ha (pCons Sel.hc pNil))) rfl ?_
      refine k_skip rfl rfl (pSub (pApp Sel.ha (pCons Sel.hc pNil))) rfl ?_
      refine k_skip rfl rfl (pSub (pApp Sel.ha (pCons Sel.hc pNil))) rfl ?_
      refine k_skip rfl rfl (pSub (pApp Sel.ha (pCons Sel.hc pNil))) rfl ?_
      simp only [Option.some.injEq, Prod.mk.injEq] at h
      obtain rfl := h
      have h := hg91; clear hg91
      refine k_val (v := .bool false) rfl rfl rfl (pSub (pApp Sel.ha (pCons Sel.hc pNil))) (stepV_ok tt_ok rfl) rfl ?_
      simp only [Option.some.injEq, Prod.mk.injEq] at h
      obtain rfl := h
      have h := hg92; clear hg92
      refine k_val (v := .bool false) rfl rfl rfl (pSub (pApp Sel.ha (pCons Sel.hc pNil))) (stepV_ok tt_ok rfl) rfl ?_
      refine k_val rfl rfl rfl (pSub (pApp Sel.ha (pCons Sel.hc pNil))) (stepV_ok tt_ok rfl) rfl ?_
      refine k_val (v := .pointer (some ⟨p0b, 2, none⟩)) rfl rfl rfl (pSub (pApp Sel.ha (pCons Sel.hc pNil))) (stepV_ok tt_ok rfl) rfl ?_
      refine k_chg0 rfl rfl rfl (chg_store tt_ok rfl (Upd.right Upd.here) rfl rfl rfl rfl rfl rfl) (.inl rfl) ?_
      rintro _ _ rfl
      refine k_end (by kernel_rfl) ?_
      refine wx_then (wc_seq (wc_seq (wc_region ?_)))
      iterate 2 refine wl_pure tt_ok rfl rfl ?_
      refine wl_pure (v := .pointer (some ⟨p0b, 2, none⟩)) tt_ok rfl rfl ?_
      refine wl_val (v := .bool false) (val_load tt_ok rfl (mR (List.Mem.head _)) rfl) rfl ?_
      refine wl_nil (wx_then ?_)
      replace h := cf rfl h
      refine wc_cond_false rfl ?_
      refine wc_skip (wx_then (wc_seq (wc_region ?_)))
      refine wl_pure tt_ok rfl rfl ?_
      refine wl_nil (wx_then (wc_ret ?_))
      simp only [Option.some.injEq, Prod.mk.injEq] at h
      obtain ⟨rfl, rfl⟩ := h
      exact wx_spD tt_ok (.inl rfl) Try.results10 (Res.tmp rfl Res.nil) ⟨p0a0, p0n0, p0c0, Bs32_4, Ns32_4, Vs32_4, rfl, rfl⟩ (fun F => by simp) (pSub (pCons (Sel.sa Sel.hc) (pApp Sel.ha pNil)))
    replace h := cf hc h
    refine wc_skip (wx_then ?_)
    refine wc_k2 (Ls := (⟨p0b, [.int .u64 p0.rows, .slice p0a0 p0n0 p0c0, .bool false], p0t, (0, 0)⟩ :: (p0B0 ++ []))) [34] [34] [0, 0, 2, 6, 14, 30, 62, 126, 254, 510, 1022, 2046, 4094, 8190, 16382, 32766, 65534, 131070, 262142, 524286, 1048574, 2097150, 4194302, 8388606, 524286, 17301502, 50855934, 117964798, 252182526, 536870910, 1073741822, 2147483646, 4294967295, 8589934591, 17179869183] [0, 1, 2, 3, 4, 5, 6, 7, 8, 9, 10, 11, 12, 13, 14, 15, 16, 17, 18, 19, 20, 21, 22, 23, 24, 25, 26, 27, 28, 29, 30, 31, 32, 33, 34] (by kernel_rfl) (by kernel_rfl) (by kernel_rfl) ?_
    refine k_val rfl rfl rfl (pSub (pCons Sel.hc (pApp Sel.ha pNil))) (stepV_ok tt_ok rfl) rfl ?_
    refine k_val rfl rfl rfl (pSub (pCons Sel.hc (pApp Sel.ha pNil))) (stepV_ok tt_ok rfl) rfl ?_
    refine k_val rfl rfl rfl (pSub (pCons Sel.hc (pApp Sel.ha pNil))) (stepV_ok tt_ok rfl) rfl ?_
    refine k_val (v := .pointer (some ⟨p0b, 2, none⟩)) rfl rfl rfl (pSub (pCons Sel.hc (pApp Sel.ha pNil))) (stepV_ok tt_ok rfl) rfl ?_
    refine k_val (v := .bool false) rfl rfl rfl (pSub (pCons Sel.hc (pApp Sel.ha pNil))) (val_load tt_ok rfl (List.Mem.head _) rfl) rfl ?_
    refine k_val rfl rfl rfl (pSub (pCons Sel.hc (pApp Sel.ha pNil))) (stepV_ok tt_ok rfl) rfl ?_
    replace h := bsome h; obtain ⟨v92, h, hg92⟩ := h
    replace h := cf rfl h
    refine k_val rfl rfl rfl (pSub (pCons Sel.hc (pApp Sel.ha pNil))) (stepV_ok tt_ok rfl) rfl ?_
    refine k_val rfl rfl rfl (pSub (pCons Sel.hc (pApp Sel.ha pNil))) (stepV_ok tt_ok rfl) rfl ?_
    refine k_val (v := .pointer (some ((adOf p0a0).add (v100013_0.toNat * 5 + 1)))) rfl rfl rfl (pSub (pCons Sel.hc (pApp Sel.ha pNil))) (val_fa (k := v100013_0.toNat * 5 + 0) (off := 1) tt_ok rfl rfl rfl rfl rfl) rfl ?_
    refine k_val (v := .pointer (some ((adOf p0a0).add (v100013_0.toNat * 5 + 2)))) rfl rfl rfl (pSub (pCons Sel.hc (pApp Sel.ha pNil))) (val_fa (k := v100013_0.toNat * 5 + 1) (off := 1) tt_ok rfl rfl rfl rfl rfl) rfl ?_
    refine k_val (v := .bool v100067.own.is_) rfl rfl rfl (pSub (pCons Sel.hc (pApp Sel.ha pNil))) (val_le (enc := c_T_watch_entry) (xs := p0.l) tt_ok rfl (Rds.of_vec p0V0) ⟨_, (Sel.sc Sel.ha)⟩ c_T_watch_entry_len x100067 rfl) rfl ?_
    refine k_val rfl rfl rfl (pSub (pCons Sel.hc (pApp Sel.ha pNil))) (stepV_ok tt_ok rfl) rfl ?_
    replace h := bsome h; obtain ⟨v78, h, hg78⟩ := h
    refine k_split (t := 72) rfl (fun hc => ?_) (fun hc => ?_)
    · replace h := ct hc h
      refine k_val rfl rfl rfl (pSub (pCons Sel.hc (pApp Sel.ha pNil))) (stepV_ok tt_ok rfl) rfl ?_
      refine k_val rfl rfl rfl (pSub (pCons Sel.hc (pApp Sel.ha pNil))) (stepV_ok tt_ok rfl) rfl ?_
      refine k_val (v := .pointer (some ((adOf p0a0).add (v100013_0.toNat * 5 + 3)))) rfl rfl rfl (pSub (pCons Sel.hc (pApp Sel.ha pNil))) (val_fa (k := v100013_0.toNat * 5 + 0) (off := 3) tt_ok rfl rfl rfl rfl rfl) rfl ?_
      refine k_val (v := .pointer (some ((adOf p0a0).add (v100013_0.toNat * 5 + 4)))) rfl rfl rfl (pSub (pCons Sel.hc (pApp Sel.ha pNil))) (val_fa (k := v100013_0.toNat * 5 + 3) (off := 1) tt_ok rfl rfl rfl rfl rfl) rfl ?_
      refine k_val (v := .bool v100067.other.is_) rfl rfl rfl (pSub (pCons Sel.hc (pApp Sel.ha pNil))) (val_le (enc := c_T_watch_entry) (xs := p0.l) tt_ok rfl (Rds.of_vec p0V0) ⟨_, (Sel.sc Sel.ha)⟩ c_T_watch_entry_len x100067 rfl) rfl ?_
      simp only [Option.some.injEq, Prod.mk.injEq] at h
      obtain rfl := h
      have h := hg78; clear hg78
      refine k_val (v := .bool v100067.other.is_) rfl rfl rfl (pSub (pCons Sel.hc (pApp Sel.ha pNil))) (stepV_ok tt_ok rfl) rfl ?_
      refine k_val rfl rfl rfl (pSub (pCons Sel.hc (pApp Sel.ha pNil))) (stepV_ok tt_ok rfl) rfl ?_
      replace h := bsome h; obtain ⟨v91, h, hg91⟩ := h
      refine k_split (t := 79) rfl (fun hc => ?_) (fun hc => ?_)
      · replace h := ct hc h
        refine k_val rfl rfl rfl (pSub (pCons Sel.hc (pApp Sel.ha pNil))) (stepV_ok tt_ok rfl) rfl ?_
        refine k_val rfl rfl rfl (pSub (pCons Sel.hc (pApp Sel.ha pNil))) (stepV_ok tt_ok rfl) rfl ?_
        refine k_val (v := .pointer (some ((adOf p0a0).add (v100013_0.toNat * 5 + 1)))) rfl rfl rfl (pSub (pCons Sel.hc (pApp Sel.ha pNil))) (val_fa (k := v100013_0.toNat * 5 + 0) (off := 1) tt_ok rfl rfl rfl rfl rfl) rfl ?_
        refine k_val (v := .pointer (some ((adOf p0a0).add (v100013_0.toNat * 5 + 1)))) rfl rfl rfl (pSub (pCons Sel.hc (pApp Sel.ha pNil))) (val_fa (k := v100013_0.toNat * 5 + 1) (off := 0) tt_ok rfl rfl rfl rfl rfl) rfl ?_
        refine k_val (v := .int .u64 v100067.own.n) rfl rfl rfl (pSub (pCons Sel.hc (pApp Sel.ha pNil))) (val_le (enc := c_T_watch_entry) (xs := p0.l) tt_ok rfl (Rds.of_vec p0V0) ⟨_, (Sel.sc Sel.ha)⟩ c_T_watch_entry_len x100067 rfl) rfl ?_
        refine k_val rfl rfl rfl (pSub (pCons Sel.hc (pApp Sel.ha pNil))) (stepV_ok tt_ok rfl) rfl ?_
        refine k_val rfl rfl rfl (pSub (pCons Sel.hc (pApp Sel.ha pNil))) (stepV_ok tt_ok rfl) rfl ?_
        refine k_val (v := .pointer (some ((adOf p0a0).add (v100013_0.toNat * 5 + 3)))) rfl rfl rfl (pSub (pCons Sel.hc (pApp Sel.ha pNil))) (val_fa (k := v100013_0.toNat * 5 + 0) (off := 3) tt_ok rfl rfl rfl rfl rfl) rfl ?_
        refine k_val (v := .pointer (some ((adOf p0a0).add (v100013_0.toNat * 5 + 3)))) rfl rfl rfl (pSub (pCons Sel.hc (pApp Sel.ha pNil))) (val_fa (k := v100013_0.toNat * 5 + 3) (off := 0) tt_ok rfl rfl rfl rfl rfl) rfl ?_
        refine k_val (v := .int .u64 v100067.other.n) rfl rfl rfl (pSub (pCons Sel.hc (pApp Sel.ha pNil))) (val_le (enc := c_T_watch_entry) (xs := p0.l) tt_ok rfl (Rds.of_vec p0V0) ⟨_, (Sel.sc Sel.ha)⟩ c_T_watch_entry_len x100067 rfl) rfl ?_
        refine k_val (v := .bool (v100067.own.n != v100067.other.n)) rfl rfl rfl (pSub (pCons Sel.hc (pApp Sel.ha pNil))) (stepV_ok tt_ok rfl) rfl ?_
        simp only [Option.some.injEq, Prod.mk.injEq] at h
        obtain rfl := h
        have h := hg91; clear hg91
        refine k_val (v := .bool (v100067.own.n != v100067.other.n)) rfl rfl rfl (pSub (pCons Sel.hc (pApp Sel.ha pNil))) (stepV_ok tt_ok rfl) rfl ?_
        simp only [Option.some.injEq, Prod.mk.injEq] at h
        obtain rfl := h
        have h := hg92; clear hg92
        refine k_val (v := .bool (v100067.own.n != v100067.other.n)) rfl rfl rfl (pSub (pCons Sel.hc (pApp Sel.ha pNil))) (stepV_ok tt_ok rfl) rfl ?_
        refine k_val rfl rfl rfl (pSub (pCons Sel.hc (pApp Sel.ha pNil))) (stepV_ok tt_ok rfl) rfl ?_
        refine k_val (v := .pointer (some ⟨p0b, 2, none⟩)) rfl rfl rfl (pSub (pCons Sel.hc (pApp Sel.ha pNil))) (stepV_ok tt_ok rfl) rfl ?_
        refine k_chg0 rfl rfl rfl (chg_store tt_ok rfl Upd.here rfl rfl rfl rfl rfl rfl) (.inl rfl) ?_
        rintro _ _ rfl
        refine k_end (by kernel_rfl) ?_
        refine wx_then (wc_seq (wc_seq (wc_region ?_)))
        iterate 2 refine wl_pure tt_ok rfl rfl ?_
        refine wl_pure (v := .pointer (some ⟨p0b, 2, none⟩)) tt_ok rfl rfl ?_
        refine wl_val (v := .bool (v100067.own.n != v100067.other.n)) (val_load tt_ok rfl (List.Mem.head _) rfl) rfl ?_
        refine wl_nil (wx_then ?_)
        refine wc_cond rfl (fun hc => ?_) (fun hc => ?_)
        · replace h := ct hc h
          refine wc_seq (wc_region ?_)
          refine wl_pure tt_ok rfl rfl ?_
          refine wl_nil (wx_then (wc_ret (wx_then_ret ?_)))
          simp only [Option.some.injEq, Prod.mk.injEq] at h
          obtain ⟨rfl, rfl⟩ := h
          exact wx_spD tt_ok (.inl rfl) Try.results10 (Res.tmp rfl Res.nil) ⟨p0a0, p0n0, p0c0, p0B0, p0N0, p0V0, rfl, rfl⟩ (fun F => by simp) (pSub (pCons Sel.hc (pApp Sel.ha pNil)))
        replace h := cf hc h
        refine wc_skip (wx_then (wc_seq (wc_region ?_)))
        refine wl_pure tt_ok rfl rfl ?_
        refine wl_nil (wx_then (wc_ret ?_))
        simp only [Option.some.injEq, Prod.mk.injEq] at h
        obtain ⟨rfl, rfl⟩ := h
        exact wx_spD tt_ok (.inl rfl) Try.results10 (Res.tmp rfl Res.nil) ⟨p0a0, p0n0, p0c0, p0B0, p0N0, p0V0, rfl, rfl⟩ (fun F => by simp) (pSub (pCons Sel.hc (pApp Sel.ha pNil)))
      replace h := cf hc h
      refine k_skip rfl rfl (pSub (pCons Sel.hc (pApp Sel.ha pNil))) rfl ?_
      refine k_skip rfl rfl (pSub (pCons Sel.hc (pApp Sel.ha pNil))) rfl ?_
      refine k_skip rfl rfl (pSub (pCons Sel.hc (pApp Sel.ha pNil))) rfl ?_
      refine k_skip rfl rfl (pSub (pCons Sel.hc (pApp Sel.ha pNil))) rfl ?_
      refine k_skip rfl rfl (pSub (pCons Sel.hc (pApp Sel.ha pNil))) rfl ?_
      refine k_skip rfl rfl (pSub (pCons Sel.hc (pApp Sel.ha pNil))) rfl ?_
      refine k_skip rfl rfl (pSub (pCons Sel.hc (pApp Sel.ha pNil))) rfl ?_
      refine k_skip rfl rfl (pSub (pCons Sel.hc (pApp Sel.ha pNil))) rfl ?_
      refine k_skip rfl rfl (pSub (pCons Sel.hc (pApp Sel.ha pNil))) rfl ?_
      refine k_skip rfl rfl (pSub (pCons Sel.hc (pApp Sel.ha pNil))) rfl ?_
      refine k_skip rfl rfl (pSub (pCons Sel.hc (pApp Sel.ha pNil))) rfl ?_
      simp only [Option.some.injEq, Prod.mk.injEq] at h
      obtain rfl := h
      have h := hg91; clear hg91
      refine k_val (v := .bool false) rfl rfl rfl (pSub (pCons Sel.hc (pApp Sel.ha pNil))) (stepV_ok tt_ok rfl) rfl ?_
      simp only [Option.some.injEq, Prod.mk.injEq] at h
      obtain rfl := h
      have h := hg92; clear hg92
      refine k_val (v := .bool false) rfl rfl rfl (pSub (pCons Sel.hc (pApp Sel.ha pNil))) (stepV_ok tt_ok rfl) rfl ?_
      refine k_val rfl rfl rfl (pSub (pCons Sel.hc (pApp Sel.ha pNil))) (stepV_ok tt_ok rfl) rfl ?_
      refine k_val (v := .pointer (some ⟨p0b, 2, none⟩)) rfl rfl rfl (pSub (pCons Sel.hc (pApp Sel.ha pNil))) (stepV_ok tt_ok rfl) rfl ?_
      refine k_chg0 rfl rfl rfl (chg_store tt_ok rfl Upd.here rfl rfl rfl rfl rfl rfl) (.inl rfl) ?_
      rintro _ _ rfl
      refine k_end (by kernel_rfl) ?_
      refine wx_then (wc_seq (wc_seq (wc_region ?_)))
      iterate 2 refine wl_pure tt_ok rfl rfl ?_
      refine wl_pure (v := .pointer (some ⟨p0b, 2, none⟩)) tt_ok rfl rfl ?_
      refine wl_val (v := .bool false) (val_load tt_ok rfl (List.Mem.head _) rfl) rfl ?_
      refine wl_nil (wx_then ?_)
      replace h := cf rfl h
      refine wc_cond_false rfl ?_
      refine wc_skip (wx_then (wc_seq (wc_region ?_)))
      refine wl_pure tt_ok rfl rfl ?_
      refine wl_nil (wx_then (wc_ret ?_))
      simp only [Option.some.injEq, Prod.mk.injEq] at h
      obtain ⟨rfl, rfl⟩ := h
      exact wx_spD tt_ok (.inl rfl) Try.results10 (Res.tmp rfl Res.nil) ⟨p0a0, p0n0, p0c0, p0B0, p0N0, p0V0, rfl, rfl⟩ (fun F => by simp) (pSub (pCons Sel.hc (pApp Sel.ha pNil)))
    replace h := cf hc h
    refine k_skip rfl rfl (pSub (pCons Sel.hc (pApp Sel.ha pNil))) rfl ?_
    refine k_skip rfl rfl (pSub (pCons Sel.hc (pApp Sel.ha pNil))) rfl ?_
    refine k_skip rfl rfl (pSub (pCons Sel.hc (pApp Sel.ha pNil))) rfl ?_
    refine k_skip rfl rfl (pSub (pCons Sel.hc (pApp Sel.ha pNil))) rfl ?_
    refine k_skip rfl rfl (pSub (pCons Sel.hc (pApp Sel.ha pNil))) rfl ?_
    simp only [Option.some.injEq, Prod.mk.injEq] at h
    obtain rfl := h
    have h := hg78; clear hg78
    refine k_val (v := .bool false) rfl rfl rfl (pSub (pCons Sel.hc (pApp Sel.ha pNil))) (stepV_ok tt_ok rfl) rfl ?_
    refine k_val rfl rfl rfl (pSub (pCons Sel.hc (pApp Sel.ha pNil))) (stepV_ok tt_ok rfl) rfl ?_
    replace h := bsome h; obtain ⟨v91, h, hg91⟩ := h
    replace h := cf rfl h
    refine k_skip rfl rfl (pSub (pCons Sel.hc (pApp Sel.ha pNil))) rfl ?_
    refine k_skip rfl rfl (pSub (pCons Sel.hc (pApp Sel.ha pNil))) rfl ?_
    refine k_skip rfl rfl (pSub (pCons Sel.hc (pApp Sel.ha pNil))) rfl ?_
    refine k_skip rfl rfl (pSub (pCons Sel.hc (pApp Sel.ha pNil))) rfl ?_
    refine k_skip rfl rfl (pSub (pCons Sel.hc (pApp Sel.ha pNil))) rfl ?_
    refine k_skip rfl rfl (pSub (pCons Sel.hc (pApp Sel.ha pNil))) rfl ?_
    refine k_skip rfl rfl (pSub (pCons Sel.hc (pApp Sel.ha pNil))) rfl ?_
    refine k_skip rfl rfl (pSub (pCons Sel.hc (pApp Sel.ha pNil))) rfl ?_
    refine k_skip rfl rfl (pSub (pCons Sel.hc (pApp Sel.ha pNil))) rfl ?_
    refine k_skip rfl rfl (pSub (pCons Sel.hc (pApp Sel.ha pNil))) rfl ?_
    refine k_skip rfl rfl (pSub (pCons Sel.hc (pApp Sel.ha pNil))) rfl ?_
    simp only [Option.some.injEq, Prod.mk.injEq] at h
    obtain rfl := h
    have h := hg91; clear hg91
    refine k_val (v := .bool false) rfl rfl rfl (pSub (pCons Sel.hc (pApp Sel.ha pNil))) (stepV_ok tt_ok rfl) rfl ?_
    simp only [Option.some.injEq, Prod.mk.injEq] at h
    obtain rfl := h
    have h := hg92; clear hg92
    refine k_val (v := .bool false) rfl rfl rfl (pSub (pCons Sel.hc (pApp Sel.ha pNil))) (stepV_ok tt_ok rfl) rfl ?_
    refine k_val rfl rfl rfl (pSub (pCons Sel.hc (pApp Sel.ha pNil))) (stepV_ok tt_ok rfl) rfl ?_
    refine k_val (v := .pointer (some ⟨p0b, 2, none⟩)) rfl rfl rfl (pSub (pCons Sel.hc (pApp Sel.ha pNil))) (stepV_ok tt_ok rfl) rfl ?_
    refine k_chg0 rfl rfl rfl (chg_store tt_ok rfl Upd.here rfl rfl rfl rfl rfl rfl) (.inl rfl) ?_
    rintro _ _ rfl
    refine k_end (by kernel_rfl) ?_
    refine wx_then (wc_seq (wc_seq (wc_region ?_)))
    iterate 2 refine wl_pure tt_ok rfl rfl ?_
    refine wl_pure (v := .pointer (some ⟨p0b, 2, none⟩)) tt_ok rfl rfl ?_
    refine wl_val (v := .bool false) (val_load tt_ok rfl (List.Mem.head _) rfl) rfl ?_
    refine wl_nil (wx_then ?_)
    replace h := cf rfl h
    refine wc_cond_false rfl ?_
    refine wc_skip (wx_then (wc_seq (wc_region ?_)))
    refine wl_pure tt_ok rfl rfl ?_
    refine wl_nil (wx_then (wc_ret ?_))
    simp only [Option.some.injEq, Prod.mk.injEq] at h
    obtain ⟨rfl, rfl⟩ := h
    exact wx_spD tt_ok (.inl rfl) Try.results10 (Res.tmp rfl Res.nil) ⟨p0a0, p0n0, p0c0, p0B0, p0N0, p0V0, rfl, rfl⟩ (fun F => by simp) (pSub (pCons Sel.hc (pApp Sel.ha pNil)))
  replace h := cf hc h
  refine wc_seq (wc_region ?_)
  iterate 2 refine wl_pure tt_ok rfl rfl ?_
  refine wl_pure (v := .pointer (some ⟨p0b, 1, none⟩)) tt_ok rfl rfl ?_
  refine wl_val (v := .slice p0a0 p0n0 p0c0) (val_load tt_ok rfl (List.Mem.head _) rfl) rfl ?_
  refine wl_val (v := .int .i64 (p0.l.length : Int)) (val_len tt_ok rfl rfl p0N0) rfl ?_
  refine wl_pure (v := .bool (decide ((p0.l.length : Int) < (8 : Int)))) tt_ok rfl rfl ?_
  refine wl_pure tt_ok rfl rfl ?_
  refine wl_nil (wx_then ?_)
  refine wc_cond rfl (fun hc => ?_) (fun hc => ?_)
  · replace h := ct hc h
    refine wc_region ?_
    iterate 3 refine wl_pure tt_ok rfl rfl ?_
    refine wl_pure (v := .pointer (some ⟨p0b, 1, none⟩)) tt_ok rfl rfl ?_
    refine wl_val (v := .slice p0a0 p0n0 p0c0) (val_load tt_ok rfl (List.Mem.head _) rfl) rfl ?_
    iterate 2 refine wl_pure tt_ok rfl rfl ?_
    refine wl_pure (v := .agg #[.int .u64 p1, .int .u64 (0 : Int), .bool false, .int .u64 (0 : Int), .bool false]) tt_ok rfl rfl ?_
    refine wl_chg (chg_bsv (enc := c_T_watch_entry) (xs := ([(T_watch_entry.mk p1 (T_watch_sum.mk (0 : Int) false) (T_watch_sum.mk (0 : Int) false))] : List T_watch_entry)) tt_ok rfl rfl rfl rfl rfl rfl rfl rfl c_T_watch_entry_len) rfl ?_
    rintro _ _ ⟨a100055, n100055_, c100055, B100055, rfl, N100055, V100055, rfl⟩
    replace h := bsome h; obtain ⟨v100056, x100056, h⟩ := h
    refine wl_cs Try.call18 rfl rfl rfl (s_sp (k_slices_Insert (p0 := p0.l) (p2 := ([(T_watch_entry.mk p1 (T_watch_sum.mk (0 : Int) false) (T_watch_sum.mk (0 : Int) false))] : List T_watch_entry)) p0N0 p0V0 N100055 V100055 x100056) (pApp (Sel.sa (Sel.sc Sel.ha)) (pApp Sel.ha pNil)) (fun _ _ => trivial)) rfl ?_
    rintro _ _ ⟨_, ⟨v100056a0, v100056n0, v100056c0, v100056B0, v100056N0, v100056V0, rfl, rfl⟩, rfl⟩
    refine wl_pure tt_ok rfl rfl ?_
    refine wl_pure (v := .pointer (some ⟨p0b, 1, none⟩)) tt_ok rfl rfl ?_
    apply wl_store tt_ok; rfl; exact (Upd.right Upd.here); rfl; rfl; rfl; rfl; rfl; rfl
    refine wl_nil (wx_block (wx_then (wc_seq (wc_region ?_))))
    iterate 2 refine wl_pure tt_ok rfl rfl ?_
    refine wl_pure (v := .pointer (some ⟨p0b, 1, none⟩)) tt_ok rfl rfl ?_
    refine wl_val (v := .slice v100056a0 v100056n0 v100056c0) (val_load tt_ok rfl (mR (List.Mem.head _)) rfl) rfl ?_
    refine wl_pure tt_ok rfl rfl ?_
    replace h := bsome h; obtain ⟨v100067, x100067, h⟩ := h
    refine wl_val (v := .pointer (some ((adOf v100056a0).add (v100013_0.toNat * 5 + 0)))) (val_ix (enc := c_T_watch_entry) tt_ok rfl rfl rfl rfl v100056N0 (Rds.of_vec v100056V0) c_T_watch_entry_len rfl x100067) rfl ?_
    refine wl_pure tt_ok rfl rfl ?_
    refine wl_nil (wx_then (wc_ret ?_))
    refine wx_inl (v := .pointer (some ((adOf v100056a0).add (v100013_0.toNat * 5 + 0)))) tt_ok (.inl rfl) Try.results14 (Res.tmp rfl Res.nil) rfl ?_
    refine wl_pure tt_ok rfl rfl ?_
    refine wl_nil (wx_then (wc_seq (wc_region ?_)))
    refine wl_pure tt_ok rfl rfl ?_
    refine wl_pure (v := .bool true) tt_ok rfl rfl ?_
    refine wl_nil (wx_then ?_)
    refine wc_cond_true rfl ?_
    refine wc_seq (wc_region ?_)
    iterate 2 refine wl_pure tt_ok rfl rfl ?_
    refine wl_inl Try.call12 rfl rfl rfl Try.func12 rfl Try.ntmps12 rfl rfl rfl ?_
    refine wc_seq (wc_region ?_)
    refine wl_pure tt_ok rfl rfl ?_
    refine wl_nil (wx_then (wc_seq (wc_region ?_)))
    iterate 2 refine wl_pure tt_ok rfl rfl ?_
    refine wl_val (v := .pointer (some ((adOf v100056a0).add (v100013_0.toNat * 5 + 3)))) (val_fa (k := v100013_0.toNat * 5 + 0) (off := 3) tt_ok rfl rfl rfl rfl rfl) rfl ?_
    refine wl_pure tt_ok rfl rfl ?_
    refine wl_nil (wx_then (wc_ret ?_))
    refine wx_inl (v := .pointer (some ((adOf v100056a0).add (v100013_0.toNat * 5 + 3)))) tt_ok (.inl rfl) Try.results12 (Res.tmp rfl Res.nil) rfl ?_
    refine wl_pure tt_ok rfl rfl ?_
    refine wl_nil (wx_then (wc_seq (wc_region ?_)))
    iterate 3 refine wl_pure tt_ok rfl rfl ?_
    refine wl_pure (v := .pointer (some ⟨p0b, 2, none⟩)) tt_ok rfl rfl ?_
    refine wl_val (v := .bool p0.clashed) (val_load tt_ok rfl (mR (List.Mem.head _)) rfl) rfl ?_
    refine wl_pure tt_ok rfl rfl ?_
    replace h := bsome h; obtain ⟨v49, h, hg49⟩ := h
    refine wl_split (t := 36) rfl (fun hc => ?_) (fun hc => ?_)
    · replace h := ct hc h
      refine wl_skip rfl rfl ?_
      refine wl_skip rfl rfl ?_
      refine wl_skip rfl rfl ?_
      refine wl_skip rfl rfl ?_
      refine wl_skip rfl rfl ?_
      refine wl_skip rfl rfl ?_
      refine wl_skip rfl rfl ?_
      refine wl_skip rfl rfl ?_
      refine wl_skip rfl rfl ?_
      refine wl_skip rfl rfl ?_
      refine wl_skip rfl rfl ?_
      refine wl_skip rfl rfl ?_
      simp only [Option.some.injEq, Prod.mk.injEq] at h
      obtain rfl := h
      have h := hg49; clear hg49
      refine wl_pure (v := .bool true) tt_ok rfl rfl ?_
      refine wl_pure tt_ok rfl rfl ?_
      refine wl_pure (v := .pointer (some ⟨p0b, 2, none⟩)) tt_ok rfl rfl ?_
      apply wl_store tt_ok; rfl; exact (Upd.right Upd.here); rfl; rfl; rfl; rfl; rfl; rfl
      refine wl_nil (wx_then (wc_seq (wc_seq (wc_region ?_))))
      iterate 2 refine wl_pure tt_ok rfl rfl ?_
      refine wl_val (v := .pointer (some ((adOf v100056a0).add (v100013_0.toNat * 5 + 4)))) (val_fa (k := v100013_0.toNat * 5 + 3) (off := 1) tt_ok rfl rfl rfl rfl rfl) rfl ?_
      refine wl_val (v := .bool v100067.other.is_) (val_le (enc := c_T_watch_entry) (xs := v100056) tt_ok rfl (Rds.of_vec v100056V0) ⟨_, Sel.ha⟩ c_T_watch_entry_len x100067 rfl) rfl ?_
      refine wl_pure (v := .bool (!v100067.other.is_)) tt_ok rfl rfl ?_
      refine wl_nil (wx_then ?_)
      refine wc_cond rfl (fun hc => ?_) (fun hc => ?_)
      · replace h := ct hc h
        refine wc_region ?_
        iterate 2 refine wl_pure tt_ok rfl rfl ?_
        refine wl_pure (v := .agg #[.int .u64 p2, .bool true]) tt_ok rfl rfl ?_
        refine wl_pure tt_ok rfl rfl ?_
        refine wl_chg0 (chg_ste (enc := c_T_watch_entry) (y' := (T_watch_entry.mk v100067.f v100067.own (T_watch_sum.mk p2 true))) tt_ok rfl rfl rfl rfl rfl rfl v100056N0 v100056V0 Sel.ha c_T_watch_entry_len x100067 rfl (by intro h; cases h)) ?_
        rintro _ _ ⟨Bs32_4, Ns32_4, Vs32_4, rfl⟩
        refine wl_nil (wx_then ?_)
        refine wc_k2 (Ls := (Bs32_4 ++ (⟨p0b, [.int .u64 p0.rows, .slice v100056a0 v100056n0 v100056c0, .bool true], p0t, (0, 0)⟩ :: []))) [34] [34] [0, 0, 2, 6, 14, 30, 62, 126, 254, 510, 1022, 2046, 4094, 8190, 16382, 32766, 65534, 131070, 262142, 524286, 1048574, 2097150, 4194302, 8388606, 524286, 17301502, 50855934, 117964798, 252182526, 536870910, 1073741822, 2147483646, 4294967295, 8589934591, 17179869183] [0, 1, 2, 3, 4, 5, 6, 7, 8, 9, 10, 11, 12, 13, 14, 15, 16, 17, 18, 19, 20, 21, 22, 23, 24, 25, 26, 27, 28, 29, 30, 31, 32, 33, 34] (by kernel_rfl) (by kernel_rfl) (by kernel_rfl) ?_
        refine k_val rfl rfl rfl (pSub (pApp Sel.ha (pCons Sel.hc pNil))) (stepV_ok tt_ok rfl) rfl ?_
        refine k_val rfl rfl rfl (pSub (pApp Sel.ha (pCons Sel.hc pNil))) (stepV_ok tt_ok rfl) rfl ?_
        refine k_val rfl rfl rfl (pSub (pApp Sel.ha (pCons Sel.hc pNil))) (stepV_ok tt_ok rfl) rfl ?_
        refine k_val (v := .pointer (some ⟨p0b, 2, none⟩)) rfl rfl rfl (pSub (pApp Sel.ha (pCons Sel.hc pNil))) (stepV_ok tt_ok rfl) rfl ?_
        refine k_val (v := .bool true) rfl rfl rfl (pSub (pApp Sel.ha (pCons Sel.hc pNil))) (val_load tt_ok rfl (mR (List.Mem.head _)) rfl) rfl ?_
        refine k_val rfl rfl rfl (pSub (pApp Sel.ha (pCons Sel.hc pNil))) (stepV_ok tt_ok rfl) rfl ?_
        replace h := bsome h; obtain ⟨v92, h, hg92⟩ := h
        replace h := ct rfl h
        refine k_skip rfl rfl (pSub (pApp Sel.ha (pCons Sel.hc pNil))) rfl ?_
        refine k_skip rfl rfl (pSub (pApp Sel.ha (pCons Sel.hc pNil))) rfl ?_
        refine k_skip rfl rfl (pSub (pApp Sel.ha (pCons Sel.hc pNil))) rfl ?_
        refine k_skip rfl rfl (pSub (pApp Sel.ha (pCons Sel.hc pNil))) rfl ?_
        refine k_skip rfl rfl (pSub (pApp Sel.ha (pCons Sel.hc pNil))) rfl ?_
        refine k_skip rfl rfl (pSub (pApp Sel.ha (pCons Sel.hc pNil))) rfl ?_
        refine k_skip rfl rfl (pSub (pApp Sel.ha (pCons Sel.hc pNil))) rfl ?_
        refine k_skip rfl rfl (pSub (pApp Sel.ha (pCons Sel.hc pNil))) rfl ?_
        refine k_skip rfl rfl (pSub (pApp Sel.ha (pCons Sel.hc pNil))) rfl ?_
        refine k_skip rfl rfl (pSub (pApp Sel.ha (pCons Sel.hc pNil))) rfl ?_
        refine k_skip rfl rfl (pSub (pApp Sel.ha (pCons Sel.hc pNil))) rfl ?_
        refine k_skip rfl rfl (pSub (pApp Sel.ha (pCons Sel.hc pNil))) rfl ?_
        refine k_skip rfl rfl (pSub (pApp Sel.ha (pCons Sel.hc pNil))) rfl ?_
        refine k_skip rfl rfl (pSub (pApp Sel.ha (pCons Sel.hc pNil))) rfl ?_
        refine k_skip rfl rfl (pSub (pApp Sel.ha (pCons Sel.hc pNil))) rfl ?_
        refine k_skip rfl rfl (pSub (pApp Sel.ha (pCons Sel.hc pNil))) rfl ?_
        refine k_skip rfl rfl (pSub (pApp Sel.ha (pCons Sel.hc pNil))) rfl ?_
        refine k_skip rfl rfl (pSub (pApp Sel.ha (pCons Sel.hc pNil))) rfl ?_
        refine k_skip rfl rfl (pSub (pApp Sel.ha (pCons Sel.hc pNil))) rfl ?_
        refine k_skip rfl rfl (pSub (pApp Sel.ha (pCons Sel.hc pNil))) rfl ?_
        refine k_skip rfl rfl (pSub (pApp Sel.ha (pCons Sel.hc pNil))) rfl ?_
        refine k_skip rfl rfl (pSub (pApp Sel.ha (pCons Sel.hc pNil))) rfl ?_
        refine k_skip rfl rfl (pSub (pApp Sel.ha (pCons Sel.hc pNil))) rfl ?_
        refine k_skip rfl rfl (pSub (pApp Sel.ha (pCons Sel.hc pNil))) rfl ?_
        refine k_skip rfl rfl (pSub (pApp Sel.ha (pCons Sel.hc pNil))) rfl ?_
        simp only [Option.some.injEq, Prod.mk.injEq] at h
        obtain rfl := h
        have h := hg92; clear hg92
        refine k_val (v := .bool true) rfl rfl rfl (pSub (pApp Sel.ha (pCons Sel.hc pNil))) (stepV_ok tt_ok rfl) rfl ?_
        refine k_val rfl rfl rfl (pSub (pApp Sel.ha (pCons Sel.hc pNil))) (stepV_ok tt_ok rfl) rfl ?_
        refine k_val (v := .pointer (some ⟨p0b, 2, none⟩)) rfl rfl rfl (pSub (pApp Sel.ha (pCons Sel.hc pNil))) (stepV_ok tt_ok rfl) rfl ?_
        refine k_chg0 rfl rfl rfl (chg_store tt_ok rfl (Upd.right Upd.here) rfl rfl rfl rfl rfl rfl) (.inl rfl) ?_
        rintro _ _ rfl
        refine k_end (by kernel_rfl) ?_
        refine wx_then (wc_seq (wc_seq (wc_region ?_)))
        iterate 2 refine wl_pure tt_ok rfl rfl ?_
        refine wl_pure (v := .pointer (some ⟨p0b, 2, none⟩)) tt_ok rfl rfl ?_
        refine wl_val (v := .bool true) (val_load tt_ok rfl (mR (List.Mem.head _)) rfl) rfl ?_
        refine wl_nil (wx_then ?_)
        replace h := ct rfl h
        refine wc_cond_true rfl ?_
        refine wc_seq (wc_region ?_)
        refine wl_pure tt_ok rfl rfl ?_
        refine wl_nil (wx_then (wc_ret (wx_then_ret ?_)))
        simp only [Option.some.injEq, Prod.mk.injEq] at h
        obtain ⟨rfl, rfl⟩ := h
        exact wx_spD tt_ok (.inl rfl) Try.results10 (Res.tmp rfl Res.nil) ⟨v100056a0, v100056n0, v100056c0, Bs32_4, Ns32_4, Vs32_4, rfl, rfl⟩ (fun F => by simp) (pSub (pCons (Sel.sa Sel.hc) (pApp Sel.ha pNil)))
      replace h := cf hc h
      refine wc_skip (wx_then ?_)
      refine wc_k2 (Ls := (v100056B0 ++ (⟨p0b, [.int .u64 p0.rows, .slice v100056a0 v100056n0 v100056c0, .bool true], p0t, (0, 0)⟩ :: []))) [34] [34] [0, 0, 2, 6, 14, 30, 62, 126, 254, 510, 1022, 2046, 4094, 8190, 16382, 32766, 65534, 131070, 262142, 524286, 1048574, 2097150, 4194302, 8388606, 524286, 17301502, 50855934, 117964798, 252182526, 536870910, 1073741822, 2147483646, 4294967295, 8589934591, 17179869183] [0, 1, 2, 3, 4, 5, 6, 7, 8, 9, 10, 11, 12, 13, 14, 15, 16, 17, 18, 19, 20, 21, 22, 23, 24, 25, 26, 27, 28, 29, 30, 31, 32, 33, 34] (by kernel_rfl) (by kernel_rfl) (by kernel_rfl) ?_
      refine k_val rfl rfl rfl (pSub (pApp Sel.ha (pCons Sel.hc pNil))) (stepV_ok tt_ok rfl) rfl ?_
      refine k_val rfl rfl rfl (pSub (pApp Sel.ha (pCons Sel.hc pNil))) (stepV_ok tt_ok rfl) rfl ?_
      refine k_val rfl rfl rfl (pSub (pApp Sel.ha (pCons Sel.hc pNil))) (stepV_ok tt_ok rfl) rfl ?_
      refine k_val (v := .pointer (some ⟨p0b, 2, none⟩)) rfl rfl rfl (pSub (pApp Sel.ha (pCons Sel.hc pNil))) (stepV_ok tt_ok rfl) rfl ?_
      refine k_val (v := .bool true) rfl rfl rfl (pSub (pApp Sel.ha (pCons Sel.hc pNil))) (val_load tt_ok rfl (mR (List.Mem.head _)) rfl) rfl ?_
      refine k_val rfl rfl rfl (pSub (pApp Sel.ha (pCons Sel.hc pNil))) (stepV_ok tt_ok rfl) rfl ?_
      replace h := bsome h; obtain ⟨v92, h, hg92⟩ := h
      replace h := ct rfl h
      refine k_skip rfl rfl (pSub (pApp Sel.ha (pCons Sel.hc pNil))) rfl ?_
      refine k_skip rfl rfl (pSub (pApp Sel.ha (pCons Sel.hc pNil))) rfl ?_
      refine k_skip rfl rfl (pSub (pApp Sel.ha (pCons Sel.hc pNil))) rfl ?_
      refine k_skip rfl rfl (pSub (pApp Sel.ha (pCons Sel.hc pNil))) rfl ?_
      refine k_skip rfl rfl (pSub (pApp Sel.ha (pCons Sel.hc pNil))) rfl ?_
      refine k_skip rfl rfl (pSub (pApp Sel.ha (pCons Sel.hc pNil))) rfl ?_
      refine k_skip rfl rfl (pSub (pApp Sel.ha (pCons Sel.hc pNil))) rfl ?_
      refine k_skip rfl rfl (pSub (pApp Sel.ha (pCons Sel.hc pNil))) rfl ?_
      refine k_skip rfl rfl (pSub (pApp Sel.ha (pCons Sel.hc pNil))) rfl ?_
      refine k_skip rfl rfl (pSub (pApp Sel.ha (pCons Sel.hc pNil))) rfl ?_
      refine k_skip rfl rfl (pSub (pApp Sel.ha (pCons Sel.hc pNil))) rfl ?_
      refine k_skip rfl rfl (pSub (pApp Sel.ha (pCons Sel.hc pNil))) rfl ?_
      refine k_skip rfl rfl (pSub (pApp Sel.ha (pCons Sel.hc pNil))) rfl ?_
      refine k_skip rfl rfl (pSub (pApp Sel.ha (pCons Sel.hc pNil))) rfl ?_
      refine k_skip rfl rfl (pSub (pApp Sel.ha (pCons Sel.hc pNil))) rfl ?_
      refine k_skip rfl rfl (pSub (pApp Sel.ha (pCons Sel.hc pNil))) rfl ?_
      refine k_skip rfl rfl (pSub (pApp Sel.ha (pCons Sel.hc pNil))) rfl ?_
      refine k_skip rfl rfl (pSub (pApp Sel.ha (pCons Sel.hc pNil))) rfl ?_
      refine k_skip rfl rfl (pSub (pApp Sel.ha (pCons Sel.hc pNil))) rfl ?_
      refine k_skip rfl rfl (pSub (pApp Sel.ha (pCons Sel.hc pNil))) rfl ?_
      refine k_skip rfl rfl (pSub (pApp Sel.ha (pCons Sel.hc pNil))) rfl ?_
      refine k_skip rfl rfl (pSub (pApp Sel.ha (pCons Sel.hc pNil))) rfl ?_
      refine k_skip rfl rfl (pSub (pApp Sel.ha (pCons Sel.hc pNil))) rfl ?_
      refine k_skip rfl rfl (pSub (pApp Sel.ha (pCons Sel.hc pNil))) rfl ?_
      refine k_skip rfl rfl (pSub (pApp Sel.ha (pCons Sel.hc pNil))) rfl ?_
      simp only [Option.some.injEq, Prod.mk.injEq] at h
      obtain rfl := h
      have h := hg92; clear hg92
      refine k_val (v := .bool true) rfl rfl rfl (pSub (pApp Sel.ha (pCons Sel.hc pNil))) (stepV_ok tt_ok rfl) rfl ?_
      refine k_val rfl rfl rfl (pSub (pApp Sel.ha (pCons Sel.hc pNil))) (stepV_ok tt_ok rfl) rfl ?_
      refine k_val (v := .pointer (some ⟨p0b, 2, none⟩)) rfl rfl rfl (pSub (pApp Sel.ha (pCons Sel.hc pNil))) (stepV_ok tt_ok rfl) rfl ?_
      refine k_chg0 rfl rfl rfl (chg_store tt_ok rfl (Upd.right Upd.here) rfl rfl rfl rfl rfl rfl) (.inl rfl) ?_
      rintro _ _ rfl
      refine k_end (by kernel_rfl) ?_
      refine wx_then (wc_seq (wc_seq (wc_region ?_)))
      iterate 2 refine wl_pure tt_ok rfl rfl ?_
      refine wl_pure (v := .pointer (some ⟨p0b, 2, none⟩)) tt_ok rfl rfl ?_
      refine wl_val (v := .bool true) (val_load tt_ok rfl (mR (List.Mem.head _)) rfl) rfl ?_
      refine wl_nil (wx_then ?_)
      replace h := ct rfl h
      refine wc_cond_true rfl ?_
      refine wc_seq (wc_region ?_)
      refine wl_pure tt_ok rfl rfl ?_
      refine wl_nil (wx_then (wc_ret (wx_then_ret ?_)))
      simp only [Option.some.injEq, Prod.mk.injEq] at h
      obtain ⟨rfl, rfl⟩ := h
      exact wx_spD tt_ok (.inl rfl) Try.results10 (Res.tmp rfl Res.nil) ⟨v100056a0, v100056n0, v100056c0, v100056B0, v100056N0, v100056V0, rfl, rfl⟩ (fun F => by simp) (pSub (pCons (Sel.sa Sel.hc) (pApp Sel.ha pNil)))
    replace h := cf hc h
    refine wl_run rfl ?_
    refine wl_pure tt_ok rfl rfl ?_
    refine wl_run rfl ?_
    refine wl_pure tt_ok rfl rfl ?_
    refine wl_run rfl ?_
    refine wl_val (v := .pointer (some ((adOf v100056a0).add (v100013_0.toNat * 5 + 4)))) (val_fa (k := v100013_0.toNat * 5 + 3) (off := 1) tt_ok rfl rfl rfl rfl rfl) rfl ?_
    refine wl_run rfl ?_
    refine wl_val (v := .bool v100067.other.is_) (val_le (enc := c_T_watch_entry) (xs := v100056) tt_ok rfl (Rds.of_vec v100056V0) ⟨_, Sel.ha⟩ c_T_watch_entry_len x100067 rfl) rfl ?_
    refine wl_run rfl ?_
    refine wl_pure tt_ok rfl rfl ?_
    replace h := bsome h; obtain ⟨v48, h, hg48⟩ := h
    refine wl_split (t := 41) rfl (fun hc => ?_) (fun hc => ?_)
    · replace h := ct hc h
      refine wl_run rfl ?_
      refine wl_pure tt_ok rfl rfl ?_
      refine wl_run rfl ?_
      refine wl_pure tt_ok rfl rfl ?_
      refine wl_run rfl ?_
      refine wl_val (v := .pointer (some ((adOf v100056a0).add (v100013_0.toNat * 5 + 3)))) (val_fa (k := v100013_0.toNat * 5 + 3) (off := 0) tt_ok rfl rfl rfl rfl rfl) rfl ?_
      refine wl_run rfl ?_
      refine wl_val (v := .int .u64 v100067.other.n) (val_le (enc := c_T_watch_entry) (xs := v100056) tt_ok rfl (Rds.of_vec v100056V0) ⟨_, Sel.ha⟩ c_T_watch_entry_len x100067 rfl) rfl ?_
      refine wl_run rfl ?_
      refine wl_pure tt_ok rfl rfl ?_
      refine wl_run rfl ?_
      refine wl_pure (v := .bool (v100067.other.n != p2)) tt_ok rfl rfl ?_
      simp only [Option.some.injEq, Prod.mk.injEq] at h
      obtain rfl := h
      have h := hg48; clear hg48
      refine wl_run rfl ?_
      refine wl_pure (v := .bool (v100067.other.n != p2)) tt_ok rfl rfl ?_
      simp only [Option.some.injEq, Prod.mk.injEq] at h
      obtain rfl := h
      have h := hg49; clear hg49
      refine wl_pure (v := .bool (v100067.other.n != p2)) tt_ok rfl rfl ?_
      refine wl_pure tt_ok rfl rfl ?_
      refine wl_pure (v := .pointer (some ⟨p0b, 2, none⟩)) tt_ok rfl rfl ?_
      apply wl_store tt_ok; rfl; exact (Upd.right Upd.here); rfl; rfl; rfl; rfl; rfl; rfl
      refine wl_nil (wx_then (wc_seq (wc_seq (wc_region ?_))))
      iterate 2 refine wl_pure tt_ok rfl rfl ?_
      refine wl_val (v := .pointer (some ((adOf v100056a0).add (v100013_0.toNat * 5 + 4)))) (val_fa (k := v100013_0.toNat * 5 + 3) (off := 1) tt_ok rfl rfl rfl rfl rfl) rfl ?_
      refine wl_val (v := .bool v100067.other.is_) (val_le (enc := c_T_watch_entry) (xs := v100056) tt_ok rfl (Rds.of_vec v100056V0) ⟨_, Sel.ha⟩ c_T_watch_entry_len x100067 rfl) rfl ?_
      refine wl_pure (v := .bool (!v100067.other.is_)) tt_ok rfl rfl ?_
      refine wl_nil (wx_then ?_)
      refine wc_cond rfl (fun hc => ?_) (fun hc => ?_)
      · replace h := ct hc h
        refine wc_region ?_
        iterate 2 refine wl_pure tt_ok rfl rfl ?_
        refine wl_pure (v := .agg #[.int .u64 p2, .bool true]) tt_ok rfl rfl ?_
        refine wl_pure tt_ok rfl rfl ?_
        refine wl_chg0 (chg_ste (enc := c_T_watch_entry) (y' := (T_watch_entry.mk v100067.f v100067.own (T_watch_sum.mk p2 true))) tt_ok rfl rfl rfl rfl rfl rfl v100056N0 v100056V0 Sel.ha c_T_watch_entry_len x100067 rfl (by intro h; cases h)) ?_
        rintro _ _ ⟨Bs32_4, Ns32_4, Vs32_4, rfl⟩
        refine wl_nil (wx_then ?_)
        refine wc_k2 (Ls := (Bs32_4 ++ (⟨p0b, [.int .u64 p0.rows, .slice v100056a0 v100056n0 v100056c0, .bool (v100067.other.n != p2)], p0t, (0, 0)⟩ :: []))) [34] [34] [0, 0, 2, 6, 14, 30, 62, 126, 254, 510, 1022, 2046, 4094, 8190, 16382, 32766, 65534, 131070, 262142, 524286, 1048574, 2097150, 4194302, 8388606, 524286, 17301502, 50855934, 117964798, 252182526, 536870910, 1073741822, 2147483646, 4294967295, 8589934591, 17179869183] [0, 1, 2, 3, 4, 5, 6, 7, 8, 9, 10, 11, 12, 13, 14, 15, 16, 17, 18, 19, 20, 21, 22, 23, 24, 25, 26, 27, 28, 29, 30, 31, 32, 33, 34] (by kernel_rfl) (by kernel_rfl) (by kernel_rfl) ?_
        refine k_val rfl rfl rfl (pSub (pApp Sel.ha (pCons Sel.hc pNil))) (stepV_ok tt_ok rfl) rfl ?_
        refine k_val rfl rfl rfl (pSub (pApp Sel.ha (pCons Sel.hc pNil))) (stepV_ok tt_ok rfl) rfl ?_
        refine k_val rfl rfl rfl (pSub (pApp Sel.ha (pCons Sel.hc pNil))) (stepV_ok tt_ok rfl) rfl ?_
        refine k_val (v := .pointer (some ⟨p0b, 2, none⟩)) rfl rfl rfl (pSub (pApp Sel.ha (pCons Sel.hc pNil))) (stepV_ok tt_ok rfl) rfl ?_
        refine k_val (v := .bool (v100067.other.n != p2)) rfl rfl rfl (pSub (pApp Sel.ha (pCons Sel.hc pNil))) (val_load tt_ok rfl (mR (List.Mem.head _)) rfl) rfl ?_
        refine k_val rfl rfl rfl (pSub (pApp Sel.ha (pCons Sel.hc pNil))) (stepV_ok tt_ok rfl) rfl ?_
        replace h := bsome h; obtain ⟨v92, h, hg92⟩ := h
        refine k_split (t := 66) rfl (fun hc => ?_) (fun hc => ?_)
        · replace h := ct hc h
          refine k_skip rfl rfl (pSub (pApp Sel.ha (pCons Sel.hc pNil))) rfl ?_
          refine k_skip rfl rfl (pSub (pApp Sel.ha (pCons Sel.hc pNil))) rfl ?_
          refine k_skip rfl rfl (pSub (pApp Sel.ha (pCons Sel.hc pNil))) rfl ?_
          refine k_skip rfl rfl (pSub (pApp Sel.ha (pCons Sel.hc pNil))) rfl ?_
          refine k_skip rfl rfl (pSub (pApp Sel.ha (pCons Sel.hc pNil))) rfl ?_
          refine k_skip rfl rfl (pSub (pApp Sel.ha (pCons Sel.hc pNil))) rfl ?_
          refine k_skip rfl rfl (pSub (pApp Sel.ha (pCons Sel.hc pNil))) rfl ?_
          refine k_skip rfl rfl (pSub (pApp Sel.ha (pCons Sel.hc pNil))) rfl ?_
          refine k_skip rfl rfl (pSub (pApp Sel.ha (pCons Sel.hc pNil))) rfl ?_
          refine k_skip rfl rfl (pSub (pApp Sel.ha (pCons Sel.hc pNil))) rfl ?_
          refine k_skip rfl rfl (pSub (pApp Sel.ha (pCons Sel.hc pNil))) rfl ?_
          refine k_skip rfl rfl (pSub (pApp Sel.ha (pCons Sel.hc pNil))) rfl ?_
          refine k_skip rfl rfl (pSub (pApp Sel.ha (pCons Sel.hc pNil))) rfl ?_
          refine k_skip rfl rfl (pSub (pApp Sel.ha (pCons Sel.hc pNil))) rfl ?_
          refine k_skip rfl rfl (pSub (pApp Sel.ha (pCons Sel.hc pNil))) rfl ?_
          refine k_skip rfl rfl (pSub (pApp Sel.ha (pCons Sel.hc pNil))) rfl ?_
          refine k_skip rfl rfl (pSub (pApp Sel.ha (pCons Sel.hc pNil))) rfl ?_
          refine k_skip rfl rfl (pSub (pApp Sel.ha (pCons Sel.hc pNil))) rfl ?_
          refine k_skip rfl rfl (pSub (pApp Sel.ha (pCons Sel.hc pNil))) rfl ?_
          refine k_skip rfl rfl (pSub (pApp Sel.ha (pCons Sel.hc pNil))) rfl ?_
          refine k_skip rfl rfl (pSub (pApp Sel.ha (pCons Sel.hc pNil))) rfl ?_
          refine k_skip rfl rfl (pSub (pApp Sel.ha (pCons Sel.hc pNil))) rfl ?_
          refine k_skip rfl rfl (pSub (pApp Sel.ha (pCons Sel.hc pNil))) rfl ?_
          refine k_skip rfl rfl (pSub (pApp Sel.ha (pCons Sel.hc pNil))) rfl ?_
          refine k_skip rfl rfl (pSub (pApp Sel.ha (pCons Sel.hc pNil))) rfl ?_
          simp only [Option.some.injEq, Prod.mk.injEq] at h
          obtain rfl := h
          have h := hg92; clear hg92
          refine k_val (v := .bool true) rfl rfl rfl (pSub (pApp Sel.ha (pCons Sel.hc pNil))) (stepV_ok tt_ok rfl) rfl ?_
          refine k_val rfl rfl rfl (pSub (pApp Sel.ha (pCons Sel.hc pNil))) (stepV_ok tt_ok rfl) rfl ?_
          refine k_val (v := .pointer (some ⟨p0b, 2, none⟩)) rfl rfl rfl (pSub (pApp Sel.ha (pCons Sel.hc pNil))) (stepV_ok tt_ok rfl) rfl ?_
          refine k_chg0 rfl rfl rfl (chg_store tt_ok rfl (Upd.right Upd.here) rfl rfl rfl rfl rfl rfl) (.inl rfl) ?_
          rintro _ _ rfl
          refine k_end (by kernel_rfl) ?_
          refine wx_then (wc_seq (wc_seq (wc_region ?_)))
          iterate 2 refine wl_pure tt_ok rfl rfl ?_
          refine wl_pure (v := .pointer (some ⟨p0b, 2, none⟩)) tt_ok rfl rfl ?_
          refine wl_val (v := .bool true) (val_load tt_ok rfl (mR (List.Mem.head _)) rfl) rfl ?_
          refine wl_nil (wx_then ?_)
          replace h := ct rfl h
          refine wc_cond_true rfl ?_
          refine wc_seq (wc_region ?_)
          refine wl_pure tt_ok rfl rfl ?_
          refine wl_nil (wx_then (wc_ret (wx_then_ret ?_)))
          simp only [Option.some.injEq, Prod.mk.injEq] at h
          obtain ⟨rfl, rfl⟩ := h
          exact wx_spD tt_ok (.inl rfl) Try.results10 (Res.tmp rfl Res.nil) ⟨v100056a0, v100056n0, v100056c0, Bs32_4, Ns32_4, Vs32_4, rfl, rfl⟩ (fun F => by simp) (pSub (pCons (Sel.sa Sel.hc) (pApp Sel.ha pNil)))
        replace h := cf hc h
        refine k_val rfl rfl rfl (pSub (pApp Sel.ha (pCons Sel.hc pNil))) (stepV_ok tt_ok rfl) rfl ?_
        refine k_val rfl rfl rfl (pSub (pApp Sel.ha (pCons Sel.hc pNil))) (stepV_ok tt_ok rfl) rfl ?_
        refine k_val (v := .pointer (some ((adOf v100056a0).add (v100013_0.toNat * 5 + 1)))) rfl rfl rfl (pSub (pApp Sel.ha (pCons Sel.hc pNil))) (val_fa (k := v100013_0.toNat * 5 + 0) (off := 1) tt_ok rfl rfl rfl rfl rfl) rfl ?_
        refine k_val (v := .pointer (some ((adOf v100056a0).add (v100013_0.toNat * 5 + 2)))) rfl rfl rfl (pSub (pApp Sel.ha (pCons Sel.hc pNil))) (val_fa (k := v100013_0.toNat * 5 + 1) (off := 1) tt_ok rfl rfl rfl rfl rfl) rfl ?_
        refine k_val (v := .bool v100067.own.is_) rfl rfl rfl (pSub (pApp Sel.ha (pCons Sel.hc pNil))) (val_le (enc := c_T_watch_entry) (xs := (setI v100056 v100013_0 (T_watch_entry.mk v100067.f v100067.own (T_watch_sum.mk p2 true)))) tt_ok rfl (Rds.of_vec Vs32_4) ⟨_, Sel.ha⟩ c_T_watch_entry_len (getI_set x100067) rfl) rfl ?_
        refine k_val rfl rfl rfl (pSub (pApp Sel.ha (pCons Sel.hc pNil))) (stepV_ok tt_ok rfl) rfl ?_
        replace h := bsome h; obtain ⟨v78, h, hg78⟩ := h
        refine k_split (t := 72) rfl (fun hc => ?_) (fun hc => ?_)
        · replace h := ct hc h
          refine k_val rfl rfl rfl (pSub (pApp Sel.ha (pCons Sel.hc pNil))) (stepV_ok tt_ok rfl) rfl ?_
          refine k_val rfl rfl rfl (pSub (pApp Sel.ha (pCons Sel.hc pNil))) (stepV_ok tt_ok rfl) rfl ?_
          refine k_val (v := .pointer (some ((adOf v100056a0).add (v100013_0.toNat * 5 + 3)))) rfl rfl rfl (pSub (pApp Sel.ha (pCons Sel.hc pNil))) (val_fa (k := v100013_0.toNat * 5 + 0) (off := 3) tt_ok rfl rfl rfl rfl rfl) rfl ?_
          refine k_val (v := .pointer (some ((adOf v100056a0).add (v100013_0.toNat * 5 + 4)))) rfl rfl rfl (pSub (pApp Sel.ha (pCons Sel.hc pNil))) (val_fa (k := v100013_0.toNat * 5 + 3) (off := 1) tt_ok rfl rfl rfl rfl rfl) rfl ?_
          refine k_val (v := .bool true) rfl rfl rfl (pSub (pApp Sel.ha (pCons Sel.hc pNil))) (val_le (enc := c_T_watch_entry) (xs := (setI v100056 v100013_0 (T_watch_entry.mk v100067.f v100067.own (T_watch_sum.mk p2 true)))) tt_ok rfl (Rds.of_vec Vs32_4) ⟨_, Sel.ha⟩ c_T_watch_entry_len (getI_set x100067) rfl) rfl ?_
          simp only [Option.some.injEq, Prod.mk.injEq] at h
          obtain rfl := h
          have h := hg78; clear hg78
          refine k_val (v := .bool true) rfl rfl rfl (pSub (pApp Sel.ha (pCons Sel.hc pNil))) (stepV_ok tt_ok rfl) rfl ?_
          refine k_val rfl rfl rfl (pSub (pApp Sel.ha (pCons Sel.hc pNil))) (stepV_ok tt_ok rfl) rfl ?_
          replace h := bsome h; obtain ⟨v91, h, hg91⟩ := h
          replace h := ct rfl h
          refine k_val rfl rfl rfl (pSub (pApp Sel.ha (pCons Sel.hc pNil))) (stepV_ok tt_ok rfl) rfl ?_
          refine k_val rfl rfl rfl (pSub (pApp Sel.ha (pCons Sel.hc pNil))) (stepV_ok tt_ok rfl) rfl ?_
          refine k_val (v := .pointer (some ((adOf v100056a0).add (v100013_0.toNat * 5 + 1)))) rfl rfl rfl (pSub (pApp Sel.ha (pCons Sel.hc pNil))) (val_fa (k := v100013_0.toNat * 5 + 0) (off := 1) tt_ok rfl rfl rfl rfl rfl) rfl ?_
          refine k_val (v := .pointer (some ((adOf v100056a0).add (v100013_0.toNat * 5 + 1)))) rfl rfl rfl (pSub (pApp Sel.ha (pCons Sel.hc pNil))) (val_fa (k := v100013_0.toNat * 5 + 1) (off := 0) tt_ok rfl rfl rfl rfl rfl) rfl ?_
          refine k_val (v := .int .u64 v100067.own.n) rfl rfl rfl (pSub (pApp Sel.ha (pCons Sel.hc pNil))) (val_le (enc := c_T_watch_entry) (xs := (setI v100056 v100013_0 (T_watch_entry.mk v100067.f v100067.own (T_watch_sum.mk p2 true)))) tt_ok rfl (Rds.of_vec Vs32_4) ⟨_, Sel.ha⟩ c_T_watch_entry_len (getI_set x100067) rfl) rfl ?_
          refine k_val rfl rfl rfl (pSub (pApp Sel.ha (pCons Sel.hc pNil))) (stepV_ok tt_ok rfl) rfl ?_
          refine k_val rfl rfl rfl (pSub (pApp Sel.ha (pCons Sel.hc pNil))) (stepV_ok tt_ok rfl) rfl ?_
          refine k_val (v := .pointer (some ((adOf v100056a0).add (v100013_0.toNat * 5 + 3)))) rfl rfl rfl (pSub (pApp Sel.ha (pCons Sel.hc pNil))) (val_fa (k := v100013_0.toNat * 5 + 0) (off := 3) tt_ok rfl rfl rfl rfl rfl) rfl ?_
          refine k_val (v := .pointer (some ((adOf v100056a0).add (v100013_0.toNat * 5 + 3)))) rfl rfl rfl (pSub (pApp Sel.ha (pCons Sel.hc pNil))) (val_fa (k := v100013_0.toNat * 5 + 3) (off := 0) tt_ok rfl rfl rfl rfl rfl) rfl ?_
          refine k_val (v := .int .u64 p2) rfl rfl rfl (pSub (pApp Sel.ha (pCons Sel.hc pNil))) (val_le (enc := c_T_watch_entry) (xs := (setI v100056 v100013_0 (T_watch_entry.mk v100067.f v100067.own (T_watch_sum.mk p2 true)))) tt_ok rfl (Rds.of_vec Vs32_4) ⟨_, Sel.ha⟩ c_T_watch_entry_len (getI_set x100067) rfl) rfl ?_
          refine k_val (v := .bool (v100067.own.n != p2)) rfl rfl rfl (pSub (pApp Sel.ha (pCons Sel.hc pNil))) (stepV_ok tt_ok rfl) rfl ?_
          simp only [Option.some.injEq, Prod.mk.injEq] at h
          obtain rfl := h
          have h := hg91; clear hg91
          refine k_val (v := .bool (v100067.own.n != p2)) rfl rfl rfl (pSub (pApp Sel.ha (pCons Sel.hc pNil))) (stepV_ok tt_ok rfl) rfl ?_
          simp only [Option.some.injEq, Prod.mk.injEq] at h
          obtain rfl := h
          have h := hg92; clear hg92
          refine k_val (v := .bool (v100067.own.n != p2)) rfl rfl rfl (pSub (pApp Sel.ha (pCons Sel.hc pNil))) (stepV_ok tt_ok rfl) rfl ?_
          refine k_val rfl rfl rfl (pSub (pApp Sel.ha (pCons Sel.hc pNil))) (stepV_ok tt_ok rfl) rfl ?_
          refine k_val (v := .pointer (some ⟨p0b, 2, none⟩)) rfl rfl rfl (pSub (pApp Sel.ha (pCons Sel.hc pNil))) (stepV_ok tt_ok rfl) rfl ?_
          refine k_chg0 rfl rfl rfl (chg_store tt_ok rfl (Upd.right Upd.here) rfl rfl rfl rfl rfl rfl) (.inl rfl) ?_
          rintro _ _ rfl
          refine k_end (by kernel_rfl) ?_
          refine wx_then (wc_seq (wc_seq (wc_region ?_)))
          iterate 2 refine wl_pure tt_ok rfl rfl ?_
          refine wl_pure (v := .pointer (some ⟨p0b, 2, none⟩)) tt_ok rfl rfl ?_
          refine wl_val (v := .bool (v100067.own.n != p2)) (val_load tt_ok rfl (mR (List.Mem.head _)) rfl) rfl ?_
          refine wl_nil (wx_then ?_)
          refine wc_cond rfl (fun hc => ?_) (fun hc => ?_)
          · replace h := ct hc h
            refine wc_seq (wc_region ?_)
            refine wl_pure tt_ok rfl rfl ?_
            refine wl_nil (wx_then (wc_ret (wx_then_ret ?_)))
            simp only [Option.some.injEq, Prod.mk.injEq] at h
            obtain ⟨rfl, rfl⟩ := h
            exact wx_spD tt_ok (.inl rfl) Try.results10 (Res.tmp rfl Res.nil) ⟨v100056a0, v100056n0, v100056c0, Bs32_4, Ns32_4, Vs32_4, rfl, rfl⟩ (fun F => by simp) (pSub (pCons (Sel.sa Sel.hc) (pApp Sel.ha pNil)))
          replace h := cf hc h
          refine wc_skip (wx_then (wc_seq (wc_region ?_)))
          refine wl_pure tt_ok rfl rfl ?_
          refine wl_nil (wx_then (wc_ret ?_))
          simp only [Option.some.injEq, Prod.mk.injEq] at h
          obtain ⟨rfl, rfl⟩ := h
          exact wx_spD tt_ok (.inl rfl) Try.results10 (Res.tmp rfl Res.nil) ⟨v100056a0, v100056n0, v100056c0, Bs32_4, Ns32_4, Vs32_4, rfl, rfl⟩ (fun F => by simp) (pSub (pCons (Sel.sa Sel.hc) (pApp Sel.ha pNil)))
        replace h := cf hc h
        refine k_skip rfl rfl (pSub (pApp Sel.ha (pCons Sel.hc pNil))) rfl ?_
        refine k_skip rfl rfl (pSub (pApp Sel.ha (pCons Sel.hc pNil))) rfl ?_
        refine k_skip rfl rfl (pSub (pApp Sel.ha (pCons Sel.hc pNil))) rfl ?_
        refine k_skip rfl rfl (pSub (pApp Sel.ha (pCons Sel.hc pNil))) rfl ?_
        refine k_skip rfl rfl (pSub (pApp Sel.ha (pCons Sel.hc pNil))) rfl ?_
        simp only [Option.some.injEq, Prod.mk.injEq] at h
        obtain rfl := h
        have h := hg78; clear hg78
        refine k_val (v := .bool false) rfl rfl rfl (pSub (pApp Sel.ha (pCons Sel.hc pNil))) (stepV_ok tt_ok rfl) rfl ?_
        refine k_val rfl rfl rfl (pSub (pApp Sel.ha (pCons Sel.hc pNil))) (stepV_ok tt_ok rfl) rfl ?_
        replace h := bsome h; obtain ⟨v91, h, hg91⟩ := h
        replace h := cf rfl h
        refine k_skip rfl rfl (pSub (pApp Sel.ha (pCons Sel.hc pNil))) rfl ?_
        refine k_skip rfl rfl (pSub (pApp Sel.ha (pCons Sel.hc pNil))) rfl ?_
        refine k_skip rfl rfl (pSub (pApp Sel.ha (pCons Sel.hc pNil))) rfl ?_
        refine k_skip rfl rfl (pSub (pApp Sel.ha (pCons Sel.hc pNil))) rfl ?_
        refine k_skip rfl rfl (pSub (pApp Sel.ha (pCons Sel.hc pNil))) rfl ?_
        refine k_skip rfl rfl (pSub (pApp Sel.ha (pCons Sel.hc pNil))) rfl ?_
        refine k_skip rfl rfl (pSub (pApp Sel.ha (pCons Sel.hc pNil))) rfl ?_
        refine k_skip rfl rfl (pSub (pApp Sel.ha (pCons Sel.hc pNil))) rfl ?_
        refine k_skip rfl rfl (pSub (pApp Sel.ha (pCons Sel.hc pNil))) rfl ?_
        refine k_skip rfl rfl (pSub (pApp Sel.ha (pCons Sel.hc pNil))) rfl ?_
        refine k_skip rfl rfl (pSub (pApp Sel.ha (pCons Sel.hc pNil))) rfl ?_
        simp only [Option.some.injEq, Prod.mk.injEq] at h
        obtain rfl := h
        have h := hg91; clear hg91
        refine k_val (v := .bool false) rfl rfl rfl (pSub (pApp Sel.ha (pCons Sel.hc pNil))) (stepV_ok tt_ok rfl) rfl ?_
        simp only [Option.some.injEq, Prod.mk.injEq] at h
        obtain rfl := h
        have h := hg92; clear hg92
        refine k_val (v := .bool false) rfl rfl rfl (pSub (pApp Sel.ha (pCons Sel.hc pNil))) (stepV_ok tt_ok rfl) rfl ?_
        refine k_val rfl rfl rfl (pSub (pApp Sel.ha (pCons Sel.hc pNil))) (stepV_ok tt_ok rfl) rfl ?_
        refine k_val (v := .pointer (some ⟨p0b, 2, none⟩)) rfl rfl rfl (pSub (pApp Sel.ha (pCons Sel.hc pNil))) (stepV_ok tt_ok rfl) rfl ?_
        refine k_chg0 rfl rfl rfl (chg_store tt_ok rfl (Upd.right Upd.here) rfl rfl rfl rfl rfl rfl) (.inl rfl) ?_
        rintro _ _ rfl
        refine k_end (by kernel_rfl) ?_
        refine wx_then (wc_seq (wc_seq (wc_region ?_)))
        iterate 2 refine wl_pure tt_ok rfl rfl ?_
        refine wl_pure (v := .pointer (some ⟨p0b, 2, none⟩)) tt_ok rfl rfl ?_
        refine wl_val (v := .bool false) (val_load tt_ok rfl (mR (List.Mem.head _)) rfl) rfl ?_
        refine wl_nil (wx_then ?_)
        replace h := cf rfl h
        refine wc_cond_false rfl ?_
        refine wc_skip (wx_then (wc_seq (wc_region ?_)))
        refine wl_pure tt_ok rfl rfl ?_
        refine wl_nil (wx_then (wc_ret ?_))
        simp only [Option.some.injEq, Prod.mk.injEq] at h
        obtain ⟨rfl, rfl⟩ := h
        exact wx_spD tt_ok (.inl rfl) Try.results10 (Res.tmp rfl Res.nil) ⟨v100056a0, v100056n0, v100056c0, Bs32_4, Ns32_4, Vs32_4, rfl, rfl⟩ (fun F => by simp) (pSub (pCons (Sel.sa Sel.hc) (pApp Sel.ha pNil)))
      replace h := cf hc h
      refine wc_skip (wx_then ?_)
      refine wc_k2 (Ls := (v100056B0 ++ (⟨p0b, [.int .u64 p0.rows, .slice v100056a0 v100056n0 v100056c0, .bool (v100067.other.n != p2)], p0t, (0, 0)⟩ :: []))) [34] [34] [0, 0, 2, 6, 14, 30, 62, 126, 254, 510, 1022, 2046, 4094, 8190, 16382, 32766, 65534, 131070, 262142, 524286, 1048574, 2097150, 4194302, 8388606, 524286, 17301502, 50855934, 117964798, 252182526, 536870910, 1073741822, 2147483646, 4294967295, 8589934591, 17179869183] [0, 1, 2, 3, 4, 5, 6, 7, 8, 9, 10, 11, 12, 13, 14, 15, 16, 17, 18, 19, 20, 21, 22, 23, 24, 25, 26, 27, 28, 29, 30, 31, 32, 33, 34] (by kernel_rfl) (by kernel_rfl) (by kernel_rfl) ?_
      refine k_val rfl rfl rfl (pSub (pApp Sel.ha (pCons Sel.hc pNil))) (stepV_ok tt_ok rfl) rfl ?_
      refine k_val rfl rfl rfl (pSub (pApp Sel.ha (pCons Sel.hc pNil))) (stepV_ok tt_ok rfl) rfl ?_
      refine k_val rfl rfl rfl (pSub (pApp Sel.ha (pCons Sel.hc pNil))) (stepV_ok tt_ok rfl) rfl ?_
      refine k_val (v := .pointer (some ⟨p0b, 2, none⟩)) rfl rfl rfl (pSub (pApp Sel.ha (pCons Sel.hc pNil))) (stepV_ok tt_ok rfl) rfl ?_
      refine k_val (v := .bool (v100067.other.n != p2)) rfl rfl rfl (pSub (pApp Sel.ha (pCons Sel.hc pNil))) (val_load tt_ok rfl (mR (List.Mem.head _)) rfl) rfl ?_
      refine k_val rfl rfl rfl (pSub (pApp Sel.ha (pCons Sel.hc pNil))) (stepV_ok tt_ok rfl) rfl ?_
      replace h := bsome h; obtain ⟨v92, h, hg92⟩ := h
      refine k_split (t := 66) rfl (fun hc => ?_) (fun hc => ?_)
      · replace h := ct hc h
        refine k_skip rfl rfl (pSub (pApp Sel.ha (pCons Sel.hc pNil))) rfl ?_
        refine k_skip rfl rfl (pSub (pApp Sel.ha (pCons Sel.hc pNil))) rfl ?_
        refine k_skip rfl rfl (pSub (pApp Sel.ha (pCons Sel.hc pNil))) rfl ?_
        refine k_skip rfl rfl (pSub (pApp Sel.ha (pCons Sel.hc pNil))) rfl ?_
        refine k_skip rfl rfl (pSub (pApp Sel.ha (pCons Sel.hc pNil))) rfl ?_
        refine k_skip rfl rfl (pSub (pApp Sel.ha (pCons Sel.hc pNil))) rfl ?_
        refine k_skip rfl rfl (pSub (pApp Sel.ha (pCons Sel.hc pNil))) rfl ?_
        refine k_skip rfl rfl (pSub (pApp Sel.ha (pCons Sel.hc pNil))) rfl ?_
        refine k_skip rfl rfl (pSub (pApp Sel.ha (pCons Sel.hc pNil))) rfl ?_
        refine k_skip rfl rfl (pSub (pApp Sel.ha (pCons Sel.hc pNil))) rfl ?_
        refine k_skip rfl rfl (pSub (pApp Sel.ha (pCons Sel.hc pNil))) rfl ?_
        refine k_skip rfl rfl (pSub (pApp Sel.ha (pCons Sel.hc pNil))) rfl ?_
        refine k_skip rfl rfl (pSub (pApp Sel.ha (pCons Sel.hc pNil))) rfl ?_
        refine k_skip rfl rfl (pSub (pApp Sel.ha (pCons Sel.hc pNil))) rfl ?_
        refine k_skip rfl rfl (pSub (pApp Sel.ha (pCons Sel.hc pNil))) rfl ?_
        refine k_skip rfl rfl (pSub (pApp Sel.ha (pCons Sel.hc pNil))) rfl ?_
        refine k_skip rfl rfl (pSub (pApp Sel.ha (pCons Sel.hc pNil))) rfl ?_
        refine k_skip rfl rfl (pSub (pApp Sel.ha (pCons Sel.hc pNil))) rfl ?_
        refine k_skip rfl rfl (pSub (pApp Sel.ha (pCons Sel.hc pNil))) rfl ?_
        refine k_skip rfl rfl (pSub (pApp Sel.ha (pCons Sel.hc pNil))) rfl ?_
        refine k_skip rfl rfl (pSub (pApp Sel.ha (pCons Sel.hc pNil))) rfl ?_
        refine k_skip rfl rfl (pSub (pApp Sel.ha (pCons Sel.hc pNil))) rfl ?_
        refine k_skip rfl rfl (pSub (pApp Sel.ha (pCons Sel.hc pNil))) rfl ?_
        refine k_skip rfl rfl (pSub (pApp Sel.ha (pCons Sel.hc pNil))) rfl ?_
        refine k_skip rfl rfl (pSub (pApp Sel.ha (pCons Sel.hc pNil))) rfl ?_
        simp only [Option.some.injEq, Prod.mk.injEq] at h
        obtain rfl := h
        have h := hg92; clear hg92
        refine k_val (v := .bool true) rfl rfl rfl (pSub (pApp Sel.ha (pCons Sel.hc pNil))) (stepV_ok tt_ok rfl) rfl ?_
        refine k_val rfl rfl rfl (pSub (pApp Sel.ha (pCons Sel.hc pNil))) (stepV_ok tt_ok rfl) rfl ?_
        refine k_val (v := .pointer (some ⟨p0b, 2, none⟩)) rfl rfl rfl (pSub (pApp Sel.ha (pCons Sel.hc pNil))) (stepV_ok tt_ok rfl) rfl ?_
        refine k_chg0 rfl rfl rfl (chg_store tt_ok rfl (Upd.right Upd.here) rfl rfl rfl rfl rfl rfl) (.inl rfl) ?_
        rintro _ _ rfl
        refine k_end (by kernel_rfl) ?_
        refine wx_then (wc_seq (wc_seq (wc_region ?_)))
        iterate 2 refine wl_pure tt_ok rfl rfl ?_
        refine wl_pure (v := .pointer (some ⟨p0b, 2, none⟩)) tt_ok rfl rfl ?_
        refine wl_val (v := .bool true) (val_load tt_ok rfl (mR (List.Mem.head _)) rfl) rfl ?_
        refine wl_nil (wx_then ?_)
        replace h := ct rfl h
        refine wc_cond_true rfl ?_
        refine wc_seq (wc_region ?_)
        refine wl_pure tt_ok rfl rfl ?_
        refine wl_nil (wx_then (wc_ret (wx_then_ret ?_)))
        simp only [Option.some.injEq, Prod.mk.injEq] at h
        obtain ⟨rfl, rfl⟩ := h
        exact wx_spD tt_ok (.inl rfl) Try.results10 (Res.tmp rfl Res.nil) ⟨v100056a0, v100056n0, v100056c0, v100056B0, v100056N0, v100056V0, rfl, rfl⟩ (fun F => by simp) (pSub (pCons (Sel.sa Sel.hc) (pApp Sel.ha pNil)))
      replace h := cf hc h
      refine k_val rfl rfl rfl (pSub (pApp Sel.ha (pCons Sel.hc pNil))) (stepV_ok tt_ok rfl) rfl ?_
      refine k_val rfl rfl rfl (pSub (pApp Sel.ha (pCons Sel.hc pNil))) (stepV_ok tt_ok rfl) rfl ?_
      refine k_val (v := .pointer (some ((adOf v100056a0).add (v100013_0.toNat * 5 + 1)))) rfl rfl rfl (pSub (pApp Sel.ha (pCons Sel.hc pNil))) (val_fa (k := v100013_0.toNat * 5 + 0) (off := 1) tt_ok rfl rfl rfl rfl rfl) rfl ?_
      refine k_val (v := .pointer (some ((adOf v100056a0).add (v100013_0.toNat * 5 + 2)))) rfl rfl rfl (pSub (pApp Sel.ha (pCons Sel.hc pNil))) (val_fa (k := v100013_0.toNat * 5 + 1) (off := 1) tt_ok rfl rfl rfl rfl rfl) rfl ?_
      refine k_val (v := .bool v100067.own.is_) rfl rfl rfl (pSub (pApp Sel.ha (pCons Sel.hc pNil))) (val_le (enc := c_T_watch_entry) (xs := v100056) tt_ok rfl (Rds.of_vec v100056V0) ⟨_, Sel.ha⟩ c_T_watch_entry_len x100067 rfl) rfl ?_
      refine k_val rfl rfl rfl (pSub (pApp Sel.ha (pCons Sel.hc pNil))) (stepV_ok tt_ok rfl) rfl ?_
      replace h := bsome h; obtain ⟨v78, h, hg78⟩ := h
      refine k_split (t := 72) rfl (fun hc => ?_) (fun hc => ?_)
      · replace h := ct hc h
        refine k_val rfl rfl rfl (pSub (pApp Sel.ha (pCons Sel.hc pNil))) (stepV_ok tt_ok rfl) rfl ?_
        refine k_val rfl rfl rfl (pSub (pApp Sel.ha (pCons Sel.hc pNil))) (stepV_ok tt_ok rfl) rfl ?_
        refine k_val (v := .pointer (some ((adOf v100056a0).add (v100013_0.toNat * 5 + 3)))) rfl rfl rfl (pSub (pApp Sel.ha (pCons Sel.hc pNil))) (val_fa (k := v100013_0.toNat * 5 + 0) (off := 3) tt_ok rfl rfl rfl rfl rfl) rfl ?_
        refine k_val (v := .pointer (some ((adOf v100056a0).add (v100013_0.toNat * 5 + 4)))) rfl rfl rfl (pSub (pApp Sel.ha (pCons Sel.hc pNil))) (val_fa (k := v100013_0.toNat * 5 + 3) (off := 1) tt_ok rfl rfl rfl rfl rfl) rfl ?_
        refine k_val (v := .bool v100067.other.is_) rfl rfl rfl (pSub (pApp Sel.ha (pCons Sel.hc pNil))) (val_le (enc := c_T_watch_entry) (xs := v100056) tt_ok rfl (Rds.of_vec v100056V0) ⟨_, Sel.ha⟩ c_T_watch_entry_len x100067 rfl) rfl ?_
        simp only [Option.some.injEq, Prod.mk.injEq] at h
        obtain rfl := h
        have h := hg78; clear hg78
        refine k_val (v := .bool v100067.other.is_) rfl rfl rfl (pSub (pApp Sel.ha (pCons Sel.hc pNil))) (stepV_ok tt_ok rfl) rfl ?_
        refine k_val rfl rfl rfl (pSub (pApp Sel.ha (pCons Sel.hc pNil))) (stepV_ok tt_ok rfl) rfl ?_
        replace h := bsome h; obtain ⟨v91, h, hg91⟩ := h
        refine k_split (t := 79) rfl (fun hc => ?_) (fun hc => ?_)
        · replace h := ct hc h
          refine k_val rfl rfl rfl (pSub (pApp Sel.ha (pCons Sel.hc pNil))) (stepV_ok tt_ok rfl) rfl ?_
          refine k_val rfl rfl rfl (pSub (pApp Sel.ha (pCons Sel.hc pNil))) (stepV_ok tt_ok rfl) rfl ?_
          refine k_val (v := .pointer (some ((adOf v100056a0).add (v100013_0.toNat * 5 + 1)))) rfl rfl rfl (pSub (pApp Sel.ha (pCons Sel.hc pNil))) (val_fa (k := v100013_0.toNat * 5 + 0) (off := 1) tt_ok rfl rfl rfl rfl rfl) rfl ?_
          refine k_val (v := .pointer (some ((adOf v100056a0).add (v100013_0.toNat * 5 + 1)))) rfl rfl rfl (pSub (pApp Sel.ha (pCons Sel.hc pNil))) (val_fa (k := v100013_0.toNat * 5 + 1) (off := 0) tt_ok rfl rfl rfl rfl rfl) rfl ?_
          refine k_val (v := .int .u64 v100067.own.n) rfl rfl rfl (pSub (pApp Sel.ha (pCons Sel.hc pNil))) (val_le (enc := c_T_watch_entry) (xs := v100056) tt_ok rfl (Rds.of_vec v100056V0) ⟨_, Sel.ha⟩ c_T_watch_entry_len x100067 rfl) rfl ?_
          refine k_val rfl rfl rfl (pSub (pApp Sel.ha (pCons Sel.hc pNil))) (stepV_ok tt_ok rfl) rfl ?_
          refine k_val rfl rfl rfl (pSub (pApp Sel.ha (pCons Sel.hc pNil))) (stepV_ok tt_ok rfl) rfl ?_
          refine k_val (v := .pointer (some ((adOf v100056a0).add (v100013_0.toNat * 5 + 3)))) rfl rfl rfl (pSub (pApp Sel.ha (pCons Sel.hc pNil))) (val_fa (k := v100013_0.toNat * 5 + 0) (off := 3) tt_ok rfl rfl rfl rfl rfl) rfl ?_
          refine k_val (v := .pointer (some ((adOf v100056a0).add (v100013_0.toNat * 5 + 3)))) rfl rfl rfl (pSub (pApp Sel.ha (pCons Sel.hc pNil))) (val_fa (k := v100013_0.toNat * 5 + 3) (off := 0) tt_ok rfl rfl rfl rfl rfl) rfl ?_
          refine k_val (v := .int .u64 v100067.other.n) rfl rfl rfl (pSub (pApp Sel.ha (pCons Sel.hc pNil))) (val_le (enc := c_T_watch_entry) (xs := v100056) tt_ok rfl (Rds.of_vec v100056V0) ⟨_, Sel.ha⟩ c_T_watch_entry_len x100067 rfl) rfl ?_
          refine k_val (v := .bool (v100067.own.n != v100067.other.n)) rfl rfl rfl (pSub (pApp Sel.ha (pCons Sel.hc pNil))) (stepV_ok tt_ok rfl) rfl ?_
          simp only [Option.some.injEq, Prod.mk.injEq] at h
          obtain rfl := h
          have h := hg91; clear hg91
          refine k_val (v := .bool (v100067.own.n != v100067.other.n)) rfl rfl rfl (pSub (pApp Sel.ha (pCons Sel.hc pNil))) (stepV_ok tt_ok rfl) rfl ?_
          simp only [Option.some.injEq, Prod.mk.injEq] at h
          obtain rfl := h
          have h := hg92; clear hg92
          refine k_val (v := .bool (v100067.own.n != v100067.other.n)) rfl rfl rfl (pSub (pApp Sel.ha (pCons Sel.hc pNil))) (stepV_ok tt_ok rfl) rfl ?_
          refine k_val rfl rfl rfl (pSub (pApp Sel.ha (pCons Sel.hc pNil))) (stepV_ok tt_ok rfl) rfl ?_
          refine k_val (v := .pointer (some ⟨p0b, 2, none⟩)) rfl rfl rfl (pSub (pApp Sel.ha (pCons Sel.hc pNil))) (stepV_ok tt_ok rfl) rfl ?_
          refine k_chg0 rfl rfl rfl (chg_store tt_ok rfl (Upd.right Upd.here) rfl rfl rfl rfl rfl rfl) (.inl rfl) ?_
          rintro _ _ rfl
          refine k_end (by kernel_rfl) ?_
          refine wx_then (wc_seq (wc_seq (wc_region ?_)))
          iterate 2 refine wl_pure tt_ok rfl rfl ?_
          refine wl_pure (v := .pointer (some ⟨p0b, 2, none⟩)) tt_ok rfl rfl ?_
          refine wl_val (v := .bool (v100067.own.n != v100067.other.n)) (val_load tt_ok rfl (mR (List.Mem.head _)) rfl) rfl ?_
          refine wl_nil (wx_then ?_)
          refine wc_cond rfl (fun hc => ?_) (fun hc => ?_)
          · replace h := ct hc h
            refine wc_seq (wc_region ?_)
            refine wl_pure tt_ok rfl rfl ?_
            refine wl_nil (wx_then (wc_ret (wx_then_ret ?_)))
            simp only [Option.some.injEq, Prod.mk.injEq] at h
            obtain ⟨rfl, rfl⟩ := h
            exact wx_spD tt_ok (.inl rfl) Try.results10 (Res.tmp rfl Res.nil) ⟨v100056a0, v100056n0, v100056c0, v100056B0, v100056N0, v100056V0, rfl, rfl⟩ (fun F => by simp) (pSub (pCons (Sel.sa Sel.hc) (pApp Sel.ha pNil)))
          replace h := cf hc h
          refine wc_skip (wx_then (wc_seq (wc_region ?_)))
          refine wl_pure tt_ok rfl rfl ?_
          refine wl_nil (wx_then (wc_ret ?_))
          simp only [Option.some.injEq, Prod.mk.injEq] at h
          obtain ⟨rfl, rfl⟩ := h
          exact wx_spD tt_ok (.inl rfl) Try.results10 (Res.tmp rfl Res.nil) ⟨v100056a0, v100056n0, v100056c0, v100056B0, v100056N0, v100056V0, rfl, rfl⟩ (fun F => by simp) (pSub (pCons (Sel.sa Sel.hc) (pApp Sel.ha pNil)))
        replace h := cf hc h
        refine k_skip rfl rfl (pSub (pApp Sel.ha (pCons Sel.hc pNil))) rfl ?_
        refine k_skip rfl rfl (pSub (pApp Sel.ha (pCons Sel.hc pNil))) rfl ?_
        refine k_skip rfl rfl (pSub (pApp Sel.ha (pCons Sel.hc pNil))) rfl ?_
        refine k_skip rfl rfl (pSub (pApp Sel.ha (pCons Sel.hc pNil))) rfl ?_
        refine k_skip rfl rfl (pSub (pApp Sel.ha (pCons Sel.hc pNil))) rfl ?_
        refine k_skip rfl rfl (pSub (pApp Sel.ha (pCons Sel.hc pNil))) rfl ?_
        refine k_skip rfl rfl (pSub (pApp Sel.ha (pCons Sel.hc pNil))) rfl ?_
        refine k_skip rfl rfl (pSub (pApp Sel.ha (pCons Sel.hc pNil))) rfl ?_
        refine k_skip rfl rfl (pSub (pApp Sel.ha (pCons Sel.hc pNil))) rfl ?_
        refine k_skip rfl rfl (pSub (pApp Sel.ha (pCons Sel.hc pNil))) rfl ?_
        refine k_skip rfl rfl (pSub (pApp Sel.ha (pCons Sel.hc pNil))) rfl ?_
        simp only [Option.some.injEq, Prod.mk.injEq] at h
        obtain rfl := h
        have h := hg91; clear hg91
        refine k_val (v := .bool false) rfl rfl rfl (pSub (pApp Sel.ha (pCons Sel.hc pNil))) (stepV_ok tt_ok rfl) rfl ?_
        simp only [Option.some.injEq, Prod.mk.injEq] at h
        obtain rfl := h
        have h := hg92; clear hg92
        refine k_val (v := .bool false) rfl rfl rfl (pSub (pApp Sel.ha (pCons Sel.hc pNil))) (stepV_ok tt_ok rfl) rfl ?_
        refine k_val rfl rfl rfl (pSub (pApp Sel.ha (pCons Sel.hc pNil))) (stepV_ok tt_ok rfl) rfl ?_
        refine k_val (v := .pointer (some ⟨p0b, 2, none⟩)) rfl rfl rfl (pSub (pApp Sel.ha (pCons Sel.hc pNil))) (stepV_ok tt_ok rfl) rfl ?_
        refine k_chg0 rfl rfl rfl (chg_store tt_ok rfl (Upd.right Upd.here) rfl rfl rfl rfl rfl rfl) (.inl rfl) ?_
        rintro _ _ rfl
        refine k_end (by kernel_rfl) ?_
        refine wx_then (wc_seq (wc_seq (wc_region ?_)))
        iterate 2 refine wl_pure tt_ok rfl rfl ?_
        refine wl_pure (v := .pointer (some ⟨p0b, 2, none⟩)) tt_ok rfl rfl ?_
        refine wl_val (v := .bool false) (val_load tt_ok rfl (mR (List.Mem.head _)) rfl) rfl ?_
        refine wl_nil (wx_then ?_)
        replace h := cf rfl h
        refine wc_cond_false rfl ?_
        refine wc_skip (wx_then (wc_seq (wc_region ?_)))
        refine wl_pure tt_ok rfl rfl ?_
        refine wl_nil (wx_then (wc_ret ?_))
        simp only [Option.some.injEq, Prod.mk.injEq] at h
        obtain ⟨rfl, rfl⟩ := h
        exact wx_spD tt_ok (.inl rfl) Try.results10 (Res.tmp rfl Res.nil) ⟨v100056a0, v100056n0, v100056c0, v100056B0, v100056N0, v100056V0, rfl, rfl⟩ (fun F => by simp) (pSub (pCons (Sel.sa Sel.hc) (pApp Sel.ha pNil)))
      replace h := cf hc h
      refine k_skip rfl rfl (pSub (pApp Sel.ha (pCons Sel.hc pNil))) rfl ?_
      refine k_skip rfl rfl (pSub (pApp Sel.ha (pCons Sel.hc pNil))) rfl ?_
      refine k_skip rfl rfl (pSub (pApp Sel.ha (pCons Sel.hc pNil))) rfl ?_
      refine k_skip rfl rfl (pSub (pApp Sel.ha (pCons Sel.hc pNil))) rfl ?_
      refine k_skip rfl rfl (pSub (pApp Sel.ha (pCons Sel.hc pNil))) rfl ?_
      simp only [Option.some.injEq, Prod.mk.injEq] at h
      obtain rfl := h
      have h := hg78; clear hg78
      refine k_val (v := .bool false) rfl rfl rfl (pSub (pApp Sel.ha (pCons Sel.hc pNil))) (stepV_ok tt_ok rfl) rfl ?_
      refine k_val rfl rfl rfl (pSub (pApp Sel.ha (pCons Sel.hc pNil))) (stepV_ok tt_ok rfl) rfl ?_
      replace h := bsome h; obtain ⟨v91, h, hg91⟩ := h
      replace h := cf rfl h
      refine k_skip rfl rfl (pSub (pApp Sel.ha (pCons Sel.hc pNil))) rfl ?_
      refine k_skip rfl rfl (pSub (pApp Sel.ha (pCons Sel.hc pNil))) rfl ?_
      refine k_skip rfl rfl (pSub (pApp Sel.ha (pCons Sel.hc pNil))) rfl ?_
      refine k_skip rfl rfl (pSub (pApp Sel.ha (pCons Sel.hc pNil))) rfl ?_
      refine k_skip rfl rfl (pSub (pApp Sel.ha (pCons Sel.hc pNil))) rfl ?_
      refine k_skip rfl rfl (pSub (pApp Sel.ha (pCons Sel.hc pNil))) rfl ?_
      refine k_skip rfl rfl (pSub (pApp Sel.ha (pCons Sel.hc pNil))) rfl ?_
      refine k_skip rfl rfl (pSub (pApp Sel.ha (pCons Sel.hc pNil))) rfl ?_
      refine k_skip rfl rfl (pSub (pApp Sel.ha (pCons Sel.hc pNil))) rfl ?_
      refine k_skip rfl rfl (pSub (pApp Sel.ha (pCons Sel.hc pNil))) rfl ?_
      refine k_skip rfl rfl (pSub (pApp Sel.ha (pCons Sel.hc pNil))) rfl ?_
      simp only [Option.some.injEq, Prod.mk.injEq] at h
      obtain rfl := h
      have h := hg91; clear hg91
      refine k_val (v := .bool false) rfl rfl rfl (pSub (pApp Sel.ha (pCons Sel.hc pNil))) (stepV_ok tt_ok rfl) rfl ?_
      simp only [Option.some.injEq, Prod.mk.injEq] at h
      obtain rfl := h
      have h := hg92; clear hg92
      refine k_val (v := .bool false) rfl rfl rfl (pSub (pApp Sel.ha (pCons Sel.hc pNil))) (stepV_ok tt_ok rfl) rfl ?_
      refine k_val rfl rfl rfl (pSub (pApp Sel.ha (pCons Sel.hc pNil))) (stepV_ok tt_ok rfl) rfl ?_
      refine k_val (v := .pointer (some ⟨p0b, 2, none⟩)) rfl rfl rfl (pSub (pApp Sel.ha (pCons Sel.hc pNil))) (stepV_ok tt_ok rfl) rfl ?_
      refine k_chg0 rfl rfl rfl (chg_store tt_ok rfl (Upd.right Upd.here) rfl rfl rfl rfl rfl rfl) (.inl rfl) ?_
      rintro _ _ rfl
      refine k_end (by kernel_rfl) ?_
      refine wx_then (wc_seq (wc_seq (wc_region ?_)))
      iterate 2 refine wl_pure tt_ok rfl rfl ?_
      refine wl_pure (v := .pointer (some ⟨p0b, 2, none⟩)) tt_ok rfl rfl ?_
      refine wl_val (v := .bool false) (val_load tt_ok rfl (mR (List.Mem.head _)) rfl) rfl ?_
      refine wl_nil (wx_then ?_)
      replace h := cf rfl h
      refine wc_cond_false rfl ?_
      refine wc_skip (wx_then (wc_seq (wc_region ?_)))
      refine wl_pure tt_ok rfl rfl ?_
      refine wl_nil (wx_then (wc_ret ?_))
      simp only [Option.some.injEq, Prod.mk.injEq] at h
      obtain ⟨rfl, rfl⟩ := h
      exact wx_spD tt_ok (.inl rfl) Try.results10 (Res.tmp rfl Res.nil) ⟨v100056a0, v100056n0, v100056c0, v100056B0, v100056N0, v100056V0, rfl, rfl⟩ (fun F => by simp) (pSub (pCons (Sel.sa Sel.hc) (pApp Sel.ha pNil)))
    replace h := cf hc h
    refine wl_skip rfl rfl ?_
    refine wl_skip rfl rfl ?_
    refine wl_skip rfl rfl ?_
    refine wl_skip rfl rfl ?_
    refine wl_skip rfl rfl ?_
    refine wl_skip rfl rfl ?_
    simp only [Option.some.injEq, Prod.mk.injEq] at h
    obtain rfl := h
    have h := hg48; clear hg48
    refine wl_run rfl ?_
    refine wl_pure (v := .bool false) tt_ok rfl rfl ?_
    simp only [Option.some.injEq, Prod.mk.injEq] at h
    obtain rfl := h
    have h := hg49; clear hg49
    refine wl_pure (v := .bool false) tt_ok rfl rfl ?_
    refine wl_pure tt_ok rfl rfl ?_
    refine wl_pure (v := .pointer (some ⟨p0b, 2, none⟩)) tt_ok rfl rfl ?_
    apply wl_store tt_ok; rfl; exact (Upd.right Upd.here); rfl; rfl; rfl; rfl; rfl; rfl
    refine wl_nil (wx_then (wc_seq (wc_seq (wc_region ?_))))
    iterate 2 refine wl_pure tt_ok rfl rfl ?_
    refine wl_val (v := .pointer (some ((adOf v100056a0).add (v100013_0.toNat * 5 + 4)))) (val_fa (k := v100013_0.toNat * 5 + 3) (off := 1) tt_ok rfl rfl rfl rfl rfl) rfl ?_
    refine wl_val (v := .bool v100067.other.is_) (val_le (enc := c_T_watch_entry) (xs := v100056) tt_ok rfl (Rds.of_vec v100056V0) ⟨_, Sel.ha⟩ c_T_watch_entry_len x100067 rfl) rfl ?_
    refine wl_pure (v := .bool (!v100067.other.is_)) tt_ok rfl rfl ?_
    refine wl_nil (wx_then ?_)
    refine wc_cond rfl (fun hc => ?_) (fun hc => ?_)
    · replace h := ct hc h
      refine wc_region ?_
      iterate 2 refine wl_pure tt_ok rfl rfl ?_
      refine wl_pure (v := .agg #[.int .u64 p2, .bool true]) tt_ok rfl rfl ?_
      refine wl_pure tt_ok rfl rfl ?_
      refine wl_chg0 (chg_ste (enc := c_T_watch_entry) (y' := (T_watch_entry.mk v100067.f v100067.own (T_watch_sum.mk p2 true))) tt_ok rfl rfl rfl rfl rfl rfl v100056N0 v100056V0 Sel.ha c_T_watch_entry_len x100067 rfl (by intro h; cases h)) ?_
      rintro _ _ ⟨Bs32_4, Ns32_4, Vs32_4, rfl⟩
      refine wl_nil (wx_then ?_)
      refine wc_k2 (Ls := (Bs32_4 ++ (⟨p0b, [.int .u64 p0.rows, .slice v100056a0 v100056n0 v100056c0, .bool false], p0t, (0, 0)⟩ :: []))) [34] [34] [0, 0, 2, 6, 14, 30, 62, 126, 254, 510, 1022, 2046, 4094, 8190, 16382, 32766, 65534, 131070, 262142, 524286, 1048574, 2097150, 4194302, 8388606, 524286, 17301502, 50855934, 117964798, 252182526, 536870910, 1073741822, 2147483646, 4294967295, 8589934591, 17179869183] [0, 1, 2, 3, 4, 5, 6, 7, 8, 9, 10, 11, 12, 13, 14, 15, 16, 17, 18, 19, 20, 21, 22, 23, 24, 25, 26, 27, 28, 29, 30, 31, 32, 33, 34] (by kernel_rfl) (by kernel_rfl) (by kernel_rfl) ?_
      refine k_val rfl rfl rfl (pSub (pApp Sel.ha (pCons Sel.hc pNil))) (stepV_ok tt_ok rfl) rfl ?_
      refine k_val rfl rfl rfl (pSub (pApp Sel.ha (pCons Sel.hc pNil))) (stepV_ok tt_ok rfl) rfl ?_
      refine k_val rfl rfl rfl (pSub (pApp Sel.ha (pCons Sel.hc pNil))) (stepV_ok tt_ok rfl) rfl ?_
      refine k_val (v := .pointer (some ⟨p0b, 2, none⟩)) rfl rfl rfl (pSub (pApp Sel.ha (pCons Sel.hc pNil))) (stepV_ok tt_ok rfl) rfl ?_
      refine k_val (v := .bool false) rfl rfl rfl (pSub (pApp Sel.ha (pCons Sel.hc pNil))) (val_load tt_ok rfl (mR (List.Mem.head _)) rfl) rfl ?_
      refine k_val rfl rfl rfl (pSub (pApp Sel.ha (pCons Sel.hc pNil))) (stepV_ok tt_ok rfl) rfl ?_
      replace h := bsome h; obtain ⟨v92, h, hg92⟩ := h
      replace h := cf rfl h
      refine k_val rfl rfl rfl (pSub (pApp Sel.ha (pCons Sel.hc pNil))) (stepV_ok tt_ok rfl) rfl ?_
      refine k_val rfl rfl rfl (pSub (pApp Sel.ha (pCons Sel.hc pNil))) (stepV_ok tt_ok rfl) rfl ?_
      refine k_val (v := .pointer (some ((adOf v100056a0).add (v100013_0.toNat * 5 + 1)))) rfl rfl rfl (pSub (pApp Sel.ha (pCons Sel.hc pNil))) (val_fa (k := v100013_0.toNat * 5 + 0) (off := 1) tt_ok rfl rfl rfl rfl rfl) rfl ?_
      refine k_val (v := .pointer (some ((adOf v100056a0).add (v100013_0.toNat * 5 + 2)))) rfl rfl rfl (pSub (pApp Sel.ha (pCons Sel.hc pNil))) (val_fa (k := v100013_0.toNat * 5 + 1) (off := 1) tt_ok rfl rfl rfl rfl rfl) rfl ?_
      refine k_val (v := .bool v100067.own.is_) rfl rfl rfl (pSub (pApp Sel.ha (pCons Sel.hc pNil))) (val_le (enc := c_T_watch_entry) (xs := (setI v100056 v100013_0 (T_watch_entry.mk v100067.f v100067.own (T_watch_sum.mk p2 true)))) tt_ok rfl (Rds.of_vec Vs32_4) ⟨_, Sel.ha⟩ c_T_watch_entry_len (getI_set x100067) rfl) rfl ?_
      refine k_val rfl rfl rfl (pSub (pApp Sel.ha (pCons Sel.hc pNil))) (stepV_ok tt_ok rfl) rfl ?_
      replace h := bsome h; obtain ⟨v78, h, hg78⟩ := h
      refine k_split (t := 72) rfl (fun hc => ?_) (fun hc => ?_)
      · replace h := ct hc h
        refine k_val rfl rfl rfl (pSub (pApp Sel.ha (pCons Sel.hc pNil))) (stepV_ok tt_ok rfl) rfl ?_
        refine k_val rfl rfl rfl (pSub (pApp Sel.ha (pCons Sel.hc pNil))) (stepV_ok tt_ok rfl) rfl ?_
        refine k_val (v := .pointer (some ((adOf v100056a0).add (v100013_0.toNat * 5 + 3)))) rfl rfl rfl (pSub (pApp Sel.ha (pCons Sel.hc pNil))) (val_fa (k := v100013_0.toNat * 5 + 0) (off := 3) tt_ok rfl rfl rfl rfl rfl) rfl ?_
        refine k_val (v := .pointer (some ((adOf v100056a0).add (v100013_0.toNat * 5 + 4)))) rfl rfl rfl (pSub (pApp Sel.ha (pCons Sel.hc pNil))) (val_fa (k := v100013_0.toNat * 5 + 3) (off := 1) tt_ok rfl rfl rfl rfl rfl) rfl ?_
        refine k_val (v := .bool true) rfl rfl rfl (pSub (pApp Sel.ha (pCons Sel.hc pNil))) (val_le (enc := c_T_watch_entry) (xs := (setI v100056 v100013_0 (T_watch_entry.mk v100067.f v100067.own (T_watch_sum.mk p2 true)))) tt_ok rfl (Rds.of_vec Vs32_4) ⟨_, Sel.ha⟩ c_T_watch_entry_len (getI_set x100067) rfl) rfl ?_
        simp only [Option.some.injEq, Prod.mk.injEq] at h
        obtain rfl := h
        have h := hg78; clear hg78
        refine k_val (v := .bool true) rfl rfl rfl (pSub (pApp Sel.ha (pCons Sel.hc pNil))) (stepV_ok tt_ok rfl) rfl ?_
        refine k_val rfl rfl rfl (pSub (pApp Sel.ha (pCons Sel.hc pNil))) (stepV_ok tt_ok rfl) rfl ?_
        replace h := bsome h; obtain ⟨v91, h, hg91⟩ := h
        replace h := ct rfl h
        refine k_val rfl rfl rfl (pSub (pApp Sel.ha (pCons Sel.hc pNil))) (stepV_ok tt_ok rfl) rfl ?_
        refine k_val rfl rfl rfl (pSub (pApp Sel.ha (pCons Sel.hc pNil))) (stepV_ok tt_ok rfl) rfl ?_
        refine k_val (v := .pointer (some ((adOf v100056a0).add (v100013_0.toNat * 5 + 1)))) rfl rfl rfl (pSub (pApp Sel.ha (pCons Sel.hc pNil))) (val_fa (k := v100013_0.toNat * 5 + 0) (off := 1) tt_ok rfl rfl rfl rfl rfl) rfl ?_
        refine k_val (v := .pointer (some ((adOf v100056a0).add (v100013_0.toNat * 5 + 1)))) rfl rfl rfl (pSub (pApp Sel.ha (pCons Sel.hc pNil))) (val_fa (k := v100013_0.toNat * 5 + 1) (off := 0) tt_ok rfl rfl rfl rfl rfl) rfl ?_
        refine k_val (v := .int .u64 v100067.own.n) rfl rfl rfl (pSub (pApp Sel.ha (pCons Sel.hc pNil))) (val_le (enc := c_T_watch_entry) (xs := (setI v100056 v100013_0 (T_watch_entry.mk v100067.f v100067.own (T_watch_sum.mk p2 true)))) tt_ok rfl (Rds.of_vec Vs32_4) ⟨_, Sel.ha⟩ c_T_watch_entry_len (getI_set x100067) rfl) rfl ?_
        refine k_val rfl rfl rfl (pSub (pApp Sel.ha (pCons Sel.hc pNil))) (stepV_ok tt_ok rfl) rfl ?_
        refine k_val rfl rfl rfl (pSub (pApp Sel.ha (pCons Sel.hc pNil))) (stepV_ok tt_ok rfl) rfl ?_
        refine k_val (v := .pointer (some ((adOf v100056a0).add (v100013_0.toNat * 5 + 3)))) rfl rfl rfl (pSub (pApp Sel.ha (pCons Sel.hc pNil))) (val_fa (k := v100013_0.toNat * 5 + 0) (off := 3) tt_ok rfl rfl rfl rfl rfl) rfl ?_
        refine k_val (v := .pointer (some ((adOf v100056a0).add (v100013_0.toNat * 5 + 3)))) rfl rfl rfl (pSub (pApp Sel.ha (pCons Sel.hc pNil))) (val_fa (k := v100013_0.toNat * 5 + 3) (off := 0) tt_ok rfl rfl rfl rfl rfl) rfl ?_
        refine k_val (v := .int .u64 p2) rfl rfl rfl (pSub (pApp Sel.ha (pCons Sel.hc pNil))) (val_le (enc := c_T_watch_entry) (xs := (setI v100056 v100013_0 (T_watch_entry.mk v100067.f v100067.own (T_watch_sum.mk p2 true)))) tt_ok rfl (Rds.of_vec Vs32_4) ⟨_, Sel.ha⟩ c_T_watch_entry_len (getI_set x100067) rfl) rfl ?_
        refine k_val (v := .bool (v100067.own.n != p2)) rfl rfl rfl (pSub (pApp Sel.ha (pCons Sel.hc pNil))) (stepV_ok tt_ok rfl) rfl ?_
        simp only [Option.some.injEq, Prod.mk.injEq] at h
        obtain rfl := h
        have h := hg91; clear hg91
        refine k_val (v := .bool (v100067.own.n != p2)) rfl rfl rfl (pSub (pApp Sel.ha (pCons Sel.hc pNil))) (stepV_ok tt_ok rfl) rfl ?_
        simp only [Option.some.injEq, Prod.mk.injEq] at h
        obtain rfl := h
        have h := hg92; clear hg92
        refine k_val (v := .bool (v100067.own.n != p2)) rfl rfl rfl (pSub (pApp Sel.ha (pCons Sel.hc pNil))) (stepV_ok tt_ok rfl) rfl ?_
        refine k_val rfl rfl rfl (pSub (pApp Sel.ha (pCons Sel.hc pNil))) (stepV_ok tt_ok rfl) rfl ?_
        refine k_val (v := .pointer (some ⟨p0b, 2, none⟩)) rfl rfl rfl (pSub (pApp Sel.ha (pCons Sel.hc pNil))) (stepV_ok tt_ok rfl) rfl ?_
        refine k_chg0 rfl rfl rfl (chg_store tt_ok rfl (Upd.right Upd.here) rfl rfl rfl rfl rfl rfl) (.inl rfl) ?_
        rintro _ _ rfl
        refine k_end (by kernel_rfl) ?_
        refine wx_then (wc_seq (wc_seq (wc_region ?_)))
        iterate 2 refine wl_pure tt_ok rfl rfl ?_
        refine wl_pure (v := .pointer (some ⟨p0b, 2, none⟩)) tt_ok rfl rfl ?_
        refine wl_val (v := .bool (v100067.own.n != p2)) (val_load tt_ok rfl (mR (List.Mem.head _)) rfl) rfl ?_
        refine wl_nil (wx_then ?_)
        refine wc_cond rfl (fun hc => ?_) (fun hc => ?_)
        · replace h := ct hc h
          refine wc_seq (wc_region ?_)
          refine wl_pure tt_ok rfl rfl ?_
          refine wl_nil (wx_then (wc_ret (wx_then_ret ?_)))
          simp only [Option.some.injEq, Prod.mk.injEq] at h
          obtain ⟨rfl, rfl⟩ := h
          exact wx_spD tt_ok (.inl rfl) Try.results10 (Res.tmp rfl Res.nil) ⟨v100056a0, v100056n0, v100056c0, Bs32_4, Ns32_4, Vs32_4, rfl, rfl⟩ (fun F => by simp) (pSub (pCons (Sel.sa Sel.hc) (pApp Sel.ha pNil)))
        replace h := cf hc h
        refine wc_skip (wx_then (wc_seq (wc_region ?_)))
        refine wl_pure tt_ok rfl rfl ?_
        refine wl_nil (wx_then (wc_ret ?_))
        simp only [Option.some.injEq, Prod.mk.injEq] at h
        obtain ⟨rfl, rfl⟩ := h
        exact wx_spD tt_ok (.inl rfl) Try.results10 (Res.tmp rfl Res.nil) ⟨v100056a0, v100056n0, v100056c0, Bs32_4, Ns32_4, Vs32_4, rfl, rfl⟩ (fun F => by simp) (pSub (pCons (Sel.sa Sel.hc) (pApp Sel.ha pNil)))
      replace h := cf hc h
      refine k_skip rfl rfl (pSub (pApp Sel.ha (pCons Sel.hc pNil))) rfl ?_
      refine k_skip rfl rfl (pSub (pApp Sel.ha (pCons Sel.hc pNil))) rfl ?_
      refine k_skip rfl rfl (pSub (pApp Sel.ha (pCons Sel.hc pNil))) rfl ?_
      refine k_skip rfl rfl (pSub (pApp Sel.ha (pCons Sel.hc pNil))) rfl ?_
      refine k_skip rfl rfl (pSub (pApp Sel.ha (pCons Sel.hc pNil))) rfl ?_
      simp only [Option.some.injEq, Prod.mk.injEq] at h
      obtain rfl := h
      have h := hg78; clear hg78
      refine k_val (v := .bool false) rfl rfl rfl (pSub (pApp Sel.ha (pCons Sel.hc pNil))) (stepV_ok tt_ok rfl) rfl ?_
      refine k_val rfl rfl rfl (pSub (pApp Sel.ha (pCons Sel.hc pNil))) (stepV_ok tt_ok rfl) rfl ?_
      replace h := bsome h; obtain ⟨v91, h, hg91⟩ := h
      replace h := cf rfl h
      refine k_skip rfl rfl (pSub (pApp Sel.ha (pCons Sel.hc pNil))) rfl ?_
      refine k_skip rfl rfl (pSub (pApp Sel.ha (pCons Sel.hc pNil))) rfl ?_
      refine k_skip rfl rfl (pSub (pApp Sel.ha (pCons Sel.hc pNil))) rfl ?_
      refine k_skip rfl rfl (pSub (pApp Sel.ha (pCons Sel.hc pNil))) rfl ?_
      refine k_skip rfl rfl (pSub (pApp Sel.ha (pCons Sel.hc pNil))) rfl ?_
      refine k_skip rfl rfl (pSub (pApp Sel.ha (pCons Sel.hc pNil))) rfl ?_
      refine k_skip rfl rfl (pSub (pApp Sel.ha (pCons Sel.hc pNil))) rfl ?_
      refine k_skip rfl rfl (pSub (pApp Sel.ha (pCons Sel.hc pNil))) rfl ?_
      refine k_skip rfl rfl (pSub (pApp Sel.ha (pCons Sel.hc pNil))) rfl ?_
      refine k_skip rfl rfl (pSub (pApp Sel.ha (pCons Sel.hc pNil))) rfl ?_
      refine k_skip rfl rfl (pSub (pApp Sel.ha (pCons Sel.hc pNil))) rfl ?_
      simp only [Option.some.injEq, Prod.mk.injEq] at h
      obtain rfl := h
      have h := hg91; clear hg91
      refine k_val (v := .bool false) rfl rfl rfl (pSub (pApp Sel.ha (pCons Sel.hc pNil))) (stepV_ok tt_ok rfl) rfl ?_
      simp only [Option.some.injEq, Prod.mk.injEq] at h
      obtain rfl := h
      have h := hg92; clear hg92
      refine k_val (v := .bool false) rfl rfl rfl (pSub (pApp Sel.ha (pCons Sel.hc pNil))) (stepV_ok tt_ok rfl) rfl ?_
      refine k_val rfl rfl rfl (pSub (pApp Sel.ha (pCons Sel.hc pNil))) (stepV_ok tt_ok rfl) rfl ?_
      refine k_val (v := .pointer (some ⟨p0b, 2, none⟩)) rfl rfl rfl (pSub (pApp Sel.ha (pCons Sel.hc pNil))) (stepV_ok tt_ok rfl) rfl ?_
      refine k_chg0 rfl rfl rfl (chg_store tt_ok rfl (Upd.right Upd.here) rfl rfl rfl rfl rfl rfl) (.inl rfl) ?_
      rintro _ _ rfl
      refine k_end (by kernel_rfl) ?_
      refine wx_then (wc_seq (wc_seq (wc_region ?_)))
      iterate 2 refine wl_pure tt_ok rfl rfl ?_
      refine wl_pure (v := .pointer (some ⟨p0b, 2, none⟩)) tt_ok rfl rfl ?_
      refine wl_val (v := .bool false) (val_load tt_ok rfl (mR (List.Mem.head _)) rfl) rfl ?_
      refine wl_nil (wx_then ?_)
      replace h := cf rfl h
      refine wc_cond_false rfl ?_
      refine wc_skip (wx_then (wc_seq (wc_region ?_)))
      refine wl_pure tt_ok rfl rfl ?_
      refine wl_nil (wx_then (wc_ret ?_))
      simp only [Option.some.injEq, Prod.mk.injEq] at h
      obtain ⟨rfl, rfl⟩ := h
      exact wx_spD tt_ok (.inl rfl) Try.results10 (Res.tmp rfl Res.nil) ⟨v100056a0, v100056n0, v100056c0, Bs32_4, Ns32_4, Vs32_4, rfl, rfl⟩ (fun F => by simp) (pSub (pCons (Sel.sa Sel.hc) (pApp Sel.ha pNil)))
    replace h := cf hc h
    refine wc_skip (wx_then ?_)
    refine wc_k2 (Ls := (v100056B0 ++ (⟨p0b, [.int .u64 p0.rows, .slice v100056a0 v100056n0 v100056c0, .bool false], p0t, (0, 0)⟩ :: []))) [34] [34] [0, 0, 2, 6, 14, 30, 62, 126, 254, 510, 1022, 2046, 4094, 8190, 16382, 32766, 65534, 131070, 262142, 524286, 1048574, 2097150, 4194302, 8388606, 524286, 17301502, 50855934, 117964798, 252182526, 536870910, 1073741822, 2147483646, 4294967295, 8589934591, 17179869183] [0, 1, 2, 3, 4, 5, 6, 7, 8, 9, 10, 11, 12, 13, 14, 15, 16, 17, 18, 19, 20, 21, 22, 23, 24, 25, 26, 27, 28, 29, 30, 31, 32, 33, 34] (by kernel_rfl) (by kernel_rfl) (by kernel_rfl) ?_
    refine k_val rfl rfl rfl (pSub (pApp Sel.ha (pCons Sel.hc pNil))) (stepV_ok tt_ok rfl) rfl ?_
    refine k_val rfl rfl rfl (pSub (pApp Sel.ha (pCons Sel.hc pNil))) (stepV_ok tt_ok rfl) rfl ?_
    refine k_val rfl rfl rfl (pSub (pApp Sel.ha (pCons Sel.hc pNil))) (stepV_ok tt_ok rfl) rfl ?_
    refine k_val (v := .pointer (some ⟨p0b, 2, none⟩)) rfl rfl rfl (pSub (pApp Sel.ha (pCons Sel.hc pNil))) (stepV_ok tt_ok rfl) rfl ?_
    refine k_val (v := .bool false) rfl rfl rfl (pSub (pApp Sel.ha (pCons Sel.hc pNil))) (val_load tt_ok rfl (mR (List.Mem.head _)) rfl) rfl ?_
    refine k_val rfl rfl rfl (pSub (pApp Sel.ha (pCons Sel.hc pNil))) (stepV_ok tt_ok rfl) rfl ?_
    replace h := bsome h; obtain ⟨v92, h, hg92⟩ := h
    replace h := cf rfl h
    refine k_val rfl rfl rfl (pSub (pApp Sel.ha (pCons Sel.hc pNil))) (stepV_ok tt_ok rfl) rfl ?_
    refine k_val rfl rfl rfl (pSub (pApp Sel.ha (pCons Sel.hc pNil))) (stepV_ok tt_ok rfl) rfl ?_
    refine k_val (v := .pointer (some ((adOf v100056a0).add (v100013_0.toNat * 5 + 1)))) rfl rfl rfl (pSub (pApp Sel.ha (pCons Sel.hc pNil))) (val_fa (k := v100013_0.toNat * 5 + 0) (off := 1) tt_ok rfl rfl rfl rfl rfl) rfl ?_
    refine k_val (v := .pointer (some ((adOf v100056a0).add (v100013_0.toNat * 5 + 2)))) rfl rfl rfl (pSub (pApp Sel.ha (pCons Sel.hc pNil))) (val_fa (k := v100013_0.toNat * 5 + 1) (off := 1) tt_ok rfl rfl rfl rfl rfl) rfl ?_
    refine k_val (v := .bool v100067.own.is_) rfl rfl rfl (pSub (pApp Sel.ha (pCons Sel.hc pNil))) (val_le (enc := c_T_watch_entry) (xs := v100056) tt_ok rfl (Rds.of_vec v100056V0) ⟨_, Sel.ha⟩ c_T_watch_entry_len x100067 rfl) rfl ?_
    refine k_val rfl rfl rfl (pSub (pApp Sel.ha (pCons Sel.hc pNil))) (stepV_ok tt_ok rfl) rfl ?_
    replace h := bsome h; obtain ⟨v78, h, hg78⟩ := h
    refine k_split (t := 72) rfl (fun hc => ?_) (fun hc => ?_)
    · replace h := ct hc h
      refine k_val rfl rfl rfl (pSub (pApp Sel.ha (pCons Sel.hc pNil))) (stepV_ok tt_ok rfl) rfl ?_
      refine k_val rfl rfl rfl (pSub (pApp Sel.ha (pCons Sel.hc pNil))) (stepV_ok tt_ok rfl) rfl ?_
      refine k_val (v := .pointer (some ((adOf v100056a0).add (v100013_0.toNat * 5 + 3)))) rfl rfl rfl (pSub (pApp Sel.ha (pCons Sel.hc pNil))) (val_fa (k := v100013_0.toNat * 5 + 0) (off := 3) tt_ok rfl rfl rfl rfl rfl) rfl ?_
      refine k_val (v := .pointer (some ((adOf v100056a0).add (v100013_0.toNat * 5 + 4)))) rfl rfl rfl (pSub (pApp Sel.ha (pCons Sel.hc pNil))) (val_fa (k := v100013_0.toNat * 5 + 3) (off := 1) tt_ok rfl rfl rfl rfl rfl) rfl ?_
      refine k_val (v := .bool v100067.other.is_) rfl rfl rfl (pSub (pApp Sel.ha (pCons Sel.hc pNil))) (val_le (enc := c_T_watch_entry) (xs := v100056) tt_ok rfl (Rds.of_vec v100056V0) ⟨_, Sel.ha⟩ c_T_watch_entry_len x100067 rfl) rfl ?_
      simp only [Option.some.injEq, Prod.mk.injEq] at h
      obtain rfl := h
      have h := hg78; clear hg78
      refine k_val (v := .bool v100067.other.is_) rfl rfl rfl (pSub (pApp Sel.ha (pCons Sel.hc pNil))) (stepV_ok tt_ok rfl) rfl ?_
      refine k_val rfl rfl rfl (pSub (pApp Sel.ha (pCons Sel.hc pNil))) (stepV_ok tt_ok rfl) rfl ?_
      replace h := bsome h; obtain ⟨v91, h, hg91⟩ := h
      refine k_split (t := 79) rfl (fun hc => ?_) (fun hc => ?_)
      · replace h := ct hc h
        refine k_val rfl rfl rfl (pSub (pApp Sel.ha (pCons Sel.hc pNil))) (stepV_ok tt_ok rfl) rfl ?_
        refine k_val rfl rfl rfl (pSub (pApp Sel.ha (pCons Sel.hc pNil))) (stepV_ok tt_ok rfl) rfl ?_
        refine k_val (v := .pointer (some ((adOf v100056a0).add (v100013_0.toNat * 5 + 1)))) rfl rfl rfl (pSub (pApp Sel.ha (pCons Sel.hc pNil))) (val_fa (k := v100013_0.toNat * 5 + 0) (off := 1) tt_ok rfl rfl rfl rfl rfl) rfl ?_
        refine k_val (v := .pointer (some ((adOf v100056a0).add (v100013_0.toNat * 5 + 1)))) rfl rfl rfl (pSub (pApp Sel.ha (pCons Sel.hc pNil))) (val_fa (k := v100013_0.toNat * 5 + 1) (off := 0) tt_ok rfl rfl rfl rfl rfl) rfl ?_
        refine k_val (v := .int .u64 v100067.own.n) rfl rfl rfl (pSub (pApp Sel.ha (pCons Sel.hc pNil))) (val_le (enc := c_T_watch_entry) (xs := v100056) tt_ok rfl (Rds.of_vec v100056V0) ⟨_, Sel.ha⟩ c_T_watch_entry_len x100067 rfl) rfl ?_
        refine k_val rfl rfl rfl (pSub (pApp Sel.ha (pCons Sel.hc pNil))) (stepV_ok tt_ok rfl) rfl ?_
        refine k_val rfl rfl rfl (pSub (pApp Sel.ha (pCons Sel.hc pNil))) (stepV_ok tt_ok rfl) rfl ?_
        refine k_val (v := .pointer (some ((adOf v100056a0).add (v100013_0.toNat * 5 + 3)))) rfl rfl rfl (pSub (pApp Sel.ha (pCons Sel.hc pNil))) (val_fa (k := v100013_0.toNat * 5 + 0) (off := 3) tt_ok rfl rfl rfl rfl rfl) rfl ?_
        refine k_val (v := .pointer (some ((adOf v100056a0).add (v100013_0.toNat * 5 + 3)))) rfl rfl rfl (pSub (pApp Sel.ha (pCons Sel.hc pNil))) (val_fa (k := v100013_0.toNat * 5 + 3) (off := 0) tt_ok rfl rfl rfl rfl rfl) rfl ?_
        refine k_val (v := .int .u64 v100067.other.n) rfl rfl rfl (pSub (pApp Sel.ha (pCons Sel.hc pNil))) (val_le (enc := c_T_watch_entry) (xs := v100056) tt_ok rfl (Rds.of_vec v100056V0) ⟨_, Sel.ha⟩ c_T_watch_entry_len x100067 rfl) rfl ?_
        refine k_val (v := .bool (v100067.own.n != v100067.other.n)) rfl rfl rfl (pSub (pApp Sel.ha (pCons Sel.hc pNil))) (stepV_ok tt_ok rfl) rfl ?_
        simp only [Option.some.injEq, Prod.mk.injEq] at h
        obtain rfl := h
        have h := hg91; clear hg91
        refine k_val (v := .bool (v100067.own.n != v100067.other.n)) rfl rfl rfl (pSub (pApp Sel.ha (pCons Sel.hc pNil))) (stepV_ok tt_ok rfl) rfl ?_
        simp only [Option.some.injEq, Prod.mk.injEq] at h
        obtain rfl := h
        have h := hg92; clear hg92
        refine k_val (v := .bool (v100067.own.n != v100067.other.n)) rfl rfl rfl (pSub (pApp Sel.ha (pCons Sel.hc pNil))) (stepV_ok tt_ok rfl) rfl ?_
        refine k_val rfl rfl rfl (pSub (pApp Sel.ha (pCons Sel.hc pNil))) (stepV_ok tt_ok rfl) rfl ?_
        refine k_val (v := .pointer (some ⟨p0b, 2, none⟩)) rfl rfl rfl (pSub (pApp Sel.ha (pCons Sel.hc pNil))) (stepV_ok tt_ok rfl) rfl ?_
        refine k_chg0 rfl rfl rfl (chg_store tt_ok rfl (Upd.right Upd.here) rfl rfl rfl rfl rfl rfl) (.inl rfl) ?_
        rintro _ _ rfl
        refine k_end (by kernel_rfl) ?_
        refine wx_then (wc_seq (wc_seq (wc_region ?_)))
        iterate 2 refine wl_pure tt_ok rfl rfl ?_
        refine wl_pure (v := .pointer (some ⟨p0b, 2, none⟩)) tt_ok rfl rfl ?_
        refine wl_val (v := .bool (v100067.own.n != v100067.other.n)) (val_load tt_ok rfl (mR (List.Mem.head _)) rfl) rfl ?_
        refine wl_nil (wx_then ?_)
        refine wc_cond rfl (fun hc => ?_) (fun hc => ?_)
        · replace h := ct hc h
          refine wc_seq (wc_region ?_)
          refine wl_pure tt_ok rfl rfl ?_
          refine wl_nil (wx_then (wc_ret (wx_then_ret ?_)))
          simp only [Option.some.injEq, Prod.mk.injEq] at h
          obtain ⟨rfl, rfl⟩ := h
          exact wx_spD tt_ok (.inl rfl) Try.results10 (Res.tmp rfl Res.nil) ⟨v100056a0, v100056n0, v100056c0, v100056B0, v100056N0, v100056V0, rfl, rfl⟩ (fun F => by simp) (pSub (pCons (Sel.sa Sel.hc) (pApp Sel.ha pNil)))
        replace h := cf hc h
        refine wc_skip (wx_then (wc_seq (wc_region ?_)))
        refine wl_pure tt_ok rfl rfl ?_
        refine wl_nil (wx_then (wc_ret ?_))
        simp only [Option.some.injEq, Prod.mk.injEq] at h
        obtain ⟨rfl, rfl⟩ := h
        exact wx_spD tt_ok (.inl rfl) Try.results10 (Res.tmp rfl Res.nil) ⟨v100056a0, v100056n0, v100056c0, v100056B0, v100056N0, v100056V0, rfl, rfl⟩ (fun F => by simp) (pSub (pCons (Sel.sa Sel.hc) (pApp Sel.ha pNil)))
      replace h := cf hc h
      refine k_skip rfl rfl (pSub (pApp Sel.ha (pCons Sel.hc pNil))) rfl ?_
      refine k_skip rfl rfl (pSub (pApp Sel.ha (pCons Sel.hc pNil))) rfl ?_
      refine k_skip rfl rfl (pSub (pApp Sel.ha (pCons Sel.hc pNil))) rfl ?_
      refine k_skip rfl rfl (pSub (pApp Sel.ha (pCons Sel.hc pNil))) rfl ?_
      refine k_skip rfl rfl (pSub (pApp Sel.ha (pCons Sel.hc pNil))) rfl ?_
      refine k_skip rfl rfl (pSub (pApp Sel.ha (pCons Sel.hc pNil))) rfl ?_
      refine k_skip rfl rfl (pSub (pApp Sel.ha (pCons Sel.hc pNil))) rfl ?_
      refine k_skip rfl rfl (pSub (pApp Sel.ha (pCons Sel.hc pNil))) rfl ?_
      refine k_skip rfl rfl (pSub (pApp Sel.ha (pCons Sel.hc pNil))) rfl ?_
      refine k_skip rfl rfl (pSub (pApp Sel.ha (pCons Sel.hc pNil))) rfl ?_
      refine k_skip rfl rfl (pSub (pApp Sel.ha (pCons Sel.hc pNil))) rfl ?_
      simp only [Option.some.injEq, Prod.mk.injEq] at h
      obtain rfl := h
      have h := hg91; clear hg91
      refine k_val (v := .bool false) rfl rfl rfl (pSub (pApp Sel.ha (pCons Sel.hc pNil))) (stepV_ok tt_ok rfl) rfl ?_
      simp only [Option.some.injEq, Prod.mk.injEq] at h
      obtain rfl := h
      have h := hg92; clear hg92
      refine k_val (v := .bool false) rfl rfl rfl (pSub (pApp Sel.ha (pCons Sel.hc pNil))) (stepV_ok tt_ok rfl) rfl ?_
      refine k_val rfl rfl rfl (pSub (pApp Sel.ha (pCons Sel.hc pNil))) (stepV_ok tt_ok rfl) rfl ?_
      refine k_val (v := .pointer (some ⟨p0b, 2, none⟩)) rfl rfl rfl (pSub (pApp Sel.ha (pCons Sel.hc pNil))) (stepV_ok tt_ok rfl) rfl ?_
      refine k_chg0 rfl rfl rfl (chg_store tt_ok rfl (Upd.right Upd.here) rfl rfl rfl rfl rfl rfl) (.inl rfl) ?_
      rintro _ _ rfl
      refine k_end (by kernel_rfl) ?_
      refine wx_then (wc_seq (wc_seq (wc_region ?_)))
      iterate 2 refine wl_pure tt_ok rfl rfl ?_
      refine wl_pure (v := .pointer (some ⟨p0b, 2, none⟩)) tt_ok rfl rfl ?_
      refine wl_val (v := .bool false) (val_load tt_ok rfl (mR (List.Mem.head _)) rfl) rfl ?_
      refine wl_nil (wx_then ?_)
      replace h := cf rfl h
      refine wc_cond_false rfl ?_
      refine wc_skip (wx_then (wc_seq (wc_region ?_)))
      refine wl_pure tt_ok rfl rfl ?_
      refine wl_nil (wx_then (wc_ret ?_))
      simp only [Option.some.injEq, Prod.mk.injEq] at h
      obtain ⟨rfl, rfl⟩ := h
      exact wx_spD tt_ok (.inl rfl) Try.results10 (Res.tmp rfl Res.nil) ⟨v100056a0, v100056n0, v100056c0, v100056B0, v100056N0, v100056V0, rfl, rfl⟩ (fun F => by simp) (pSub (pCons (Sel.sa Sel.hc) (pApp Sel.ha pNil)))
    replace h := cf hc h
    refine k_skip rfl rfl (pSub (pApp Sel.ha (pCons Sel.hc pNil))) rfl ?_
    refine k_skip rfl rfl (pSub (pApp Sel.ha (pCons Sel.hc pNil))) rfl ?_
    refine k_skip rfl rfl (pSub (pApp Sel.ha (pCons Sel.hc pNil))) rfl ?_
    refine k_skip rfl rfl (pSub (pApp Sel.ha (pCons Sel.hc pNil))) rfl ?_
    refine k_skip rfl rfl (pSub (pApp Sel.ha (pCons Sel.hc pNil))) rfl ?_
    simp only [Option.some.injEq, Prod.mk.injEq] at h
    obtain rfl := h
    have h := hg78; clear hg78
    refine k_val (v := .bool false) rfl rfl rfl (pSub (pApp Sel.ha (pCons Sel.hc pNil))) (stepV_ok tt_ok rfl) rfl ?_
    refine k_val rfl rfl rfl (pSub (pApp Sel.ha (pCons Sel.hc pNil))) (stepV_ok tt_ok rfl) rfl ?_
    replace h := bsome h; obtain ⟨v91, h, hg91⟩ := h
    replace h := cf rfl h
    refine k_skip rfl rfl (pSub (pApp Sel.ha (pCons Sel.hc pNil))) rfl ?_
    refine k_skip rfl rfl (pSub (pApp Sel.ha (pCons Sel.hc pNil))) rfl ?_
    refine k_skip rfl rfl (pSub (pApp Sel.ha (pCons Sel.hc pNil))) rfl ?_
    refine k_skip rfl rfl (pSub (pApp Sel.ha (pCons Sel.hc pNil))) rfl ?_
    refine k_skip rfl rfl (pSub (pApp Sel.ha (pCons Sel.hc pNil))) rfl ?_
    refine k_skip rfl rfl (pSub (pApp Sel.ha (pCons Sel.hc pNil))) rfl ?_
    refine k_skip rfl rfl (pSub (pApp Sel.ha (pCons Sel.hc pNil))) rfl ?_
    refine k_skip rfl rfl (pSub (pApp Sel.ha (pCons Sel.hc pNil))) rfl ?_
    refine k_skip rfl rfl (pSub (pApp Sel.ha (pCons Sel.hc pNil))) rfl ?_
    refine k_skip rfl rfl (pSub (pApp Sel.ha (pCons Sel.hc pNil))) rfl ?_
    refine k_skip rfl rfl (pSub (pApp Sel.ha (pCons Sel.hc pNil))) rfl ?_
    simp only [Option.some.injEq, Prod.mk.injEq] at h
    obtain rfl := h
    have h := hg91; clear hg91
    refine k_val (v := .bool false) rfl rfl rfl (pSub (pApp Sel.ha (pCons Sel.hc pNil))) (stepV_ok tt_ok rfl) rfl ?_
    simp only [Option.some.injEq, Prod.mk.injEq] at h
    obtain rfl := h
    have h := hg92; clear hg92
    refine k_val (v := .bool false) rfl rfl rfl (pSub (pApp Sel.ha (pCons Sel.hc pNil))) (stepV_ok tt_ok rfl) rfl ?_
    refine k_val rfl rfl rfl (pSub (pApp Sel.ha (pCons Sel.hc pNil))) (stepV_ok tt_ok rfl) rfl ?_
    refine k_val (v := .pointer (some ⟨p0b, 2, none⟩)) rfl rfl rfl (pSub (pApp Sel.ha (pCons Sel.hc pNil))) (stepV_ok tt_ok rfl) rfl ?_
    refine k_chg0 rfl rfl rfl (chg_store tt_ok rfl (Upd.right Upd.here) rfl rfl rfl rfl rfl rfl) (.inl rfl) ?_
    rintro _ _ rfl
    refine k_end (by kernel_rfl) ?_
    refine wx_then (wc_seq (wc_seq (wc_region ?_)))
    iterate 2 refine wl_pure tt_ok rfl rfl ?_
    refine wl_pure (v := .pointer (some ⟨p0b, 2, none⟩)) tt_ok rfl rfl ?_
    refine wl_val (v := .bool false) (val_load tt_ok rfl (mR (List.Mem.head _)) rfl) rfl ?_
    refine wl_nil (wx_then ?_)
    replace h := cf rfl h
    refine wc_cond_false rfl ?_
    refine wc_skip (wx_then (wc_seq (wc_region ?_)))
    refine wl_pure tt_ok rfl rfl ?_
    refine wl_nil (wx_then (wc_ret ?_))
    simp only [Option.some.injEq, Prod.mk.injEq] at h
    obtain ⟨rfl, rfl⟩ := h
    exact wx_spD tt_ok (.inl rfl) Try.results10 (Res.tmp rfl Res.nil) ⟨v100056a0, v100056n0, v100056c0, v100056B0, v100056N0, v100056V0, rfl, rfl⟩ (fun F => by simp) (pSub (pCons (Sel.sa Sel.hc) (pApp Sel.ha pNil)))
  replace h := cf hc h
  refine wc_seq (wc_region ?_)
  refine wl_pure tt_ok rfl rfl ?_
  refine wl_pure (v := .bool (v100013_0 == (0 : Int))) tt_ok rfl rfl ?_
  refine wl_pure tt_ok rfl rfl ?_
  refine wl_nil (wx_then ?_)
  refine wc_cond rfl (fun hc => ?_) (fun hc => ?_)
  · replace h := ct hc h
    refine wc_seq (wc_region ?_)
    refine wl_pure tt_ok rfl rfl ?_
    refine wl_nil (wx_then (wc_ret (wx_block_ret (wx_then_ret ?_))))
    refine wx_inl (v := .pointer none) tt_ok (.inl rfl) Try.results14 (Res.tmp rfl Res.nil) rfl ?_
    refine wl_pure tt_ok rfl rfl ?_
    refine wl_nil (wx_then (wc_seq (wc_region ?_)))
    refine wl_pure tt_ok rfl rfl ?_
    refine wl_pure (v := .bool false) tt_ok rfl rfl ?_
    refine wl_nil (wx_then ?_)
    refine wc_cond_false rfl ?_
    refine wc_skip (wx_then (wc_seq (wc_seq (wc_region ?_))))
    iterate 2 refine wl_pure tt_ok rfl rfl ?_
    refine wl_pure (v := .pointer (some ⟨p0b, 2, none⟩)) tt_ok rfl rfl ?_
    refine wl_val (v := .bool p0.clashed) (val_load tt_ok rfl (List.Mem.head _) rfl) rfl ?_
    refine wl_nil (wx_then ?_)
    refine wc_cond rfl (fun hc => ?_) (fun hc => ?_)
    · replace h := ct hc h
      refine wc_seq (wc_region ?_)
      refine wl_pure tt_ok rfl rfl ?_
      refine wl_nil (wx_then (wc_ret (wx_then_ret ?_)))
      simp only [Option.some.injEq, Prod.mk.injEq] at h
      obtain ⟨rfl, rfl⟩ := h
      exact wx_spD tt_ok (.inl rfl) Try.results10 (Res.tmp rfl Res.nil) ⟨p0a0, p0n0, p0c0, p0B0, p0N0, p0V0, rfl, rfl⟩ (fun F => by simp) (pSub (pCons Sel.hc (pApp Sel.ha pNil)))
    replace h := cf hc h
    refine wc_skip (wx_then (wc_seq (wc_region ?_)))
    refine wl_pure tt_ok rfl rfl ?_
    refine wl_nil (wx_then (wc_ret ?_))
    simp only [Option.some.injEq, Prod.mk.injEq] at h
    obtain ⟨rfl, rfl⟩ := h
    exact wx_spD tt_ok (.inl rfl) Try.results10 (Res.tmp rfl Res.nil) ⟨p0a0, p0n0, p0c0, p0B0, p0N0, p0V0, rfl, rfl⟩ (fun F => by simp) (pSub (pCons Sel.hc (pApp Sel.ha pNil)))
  replace h := cf hc h
  refine wc_seq (wc_region ?_)
  iterate 3 refine wl_pure tt_ok rfl rfl ?_
  refine wl_pure (v := .pointer (some ⟨p0b, 1, none⟩)) tt_ok rfl rfl ?_
  refine wl_val (v := .slice p0a0 p0n0 p0c0) (val_load tt_ok rfl (List.Mem.head _) rfl) rfl ?_
  iterate 2 refine wl_pure tt_ok rfl rfl ?_
  refine wl_pure (v := .agg #[.int .u64 p1, .int .u64 (0 : Int), .bool false, .int .u64 (0 : Int), .bool false]) tt_ok rfl rfl ?_
  refine wl_chg (chg_bsv (enc := c_T_watch_entry) (xs := ([(T_watch_entry.mk p1 (T_watch_sum.mk (0 : Int) false) (T_watch_sum.mk (0 : Int) false))] : List T_watch_entry)) tt_ok rfl rfl rfl rfl rfl rfl rfl rfl c_T_watch_entry_len) rfl ?_
  rintro _ _ ⟨a100024, n100024_, c100024, B100024, rfl, N100024, V100024, rfl⟩
  replace h := bsome h; obtain ⟨v100025, x100025, h⟩ := h
  refine wl_cs Try.call18 rfl rfl rfl (s_sp (k_slices_Insert (p0 := p0.l) (p2 := ([(T_watch_entry.mk p1 (T_watch_sum.mk (0 : Int) false) (T_watch_sum.mk (0 : Int) false))] : List T_watch_entry)) p0N0 p0V0 N100024 V100024 x100025) (pApp (Sel.sa (Sel.sc Sel.ha)) (pApp Sel.ha pNil)) (fun _ _ => trivial)) rfl ?_
  rintro _ _ ⟨_, ⟨v100025a0, v100025n0, v100025c0, v100025B0, v100025N0, v100025V0, rfl, rfl⟩, rfl⟩
  refine wl_pure tt_ok rfl rfl ?_
  refine wl_pure (v := .pointer (some ⟨p0b, 1, none⟩)) tt_ok rfl rfl ?_
  apply wl_store tt_ok; rfl; exact (Upd.right Upd.here); rfl; rfl; rfl; rfl; rfl; rfl
  refine wl_nil (wx_then (wc_seq (wc_region ?_)))
  iterate 3 refine wl_pure tt_ok rfl rfl ?_
  refine wl_pure (v := .pointer (some ⟨p0b, 1, none⟩)) tt_ok rfl rfl ?_
  refine wl_val (v := .slice v100025a0 v100025n0 v100025c0) (val_load tt_ok rfl (mR (List.Mem.head _)) rfl) rfl ?_
  replace h := bsome h; obtain ⟨v100033, x100033, h⟩ := h
  refine wl_cs Try.call19 rfl rfl rfl (s_sp (k_slices_Delete (p0 := v100025) v100025N0 v100025V0 x100033) (pApp Sel.ha pNil) (fun _ _ => trivial)) rfl ?_
  rintro _ _ ⟨_, ⟨v100033a0, v100033n0, v100033c0, v100033B0, v100033N0, v100033V0, rfl, rfl⟩, rfl⟩
  refine wl_pure tt_ok rfl rfl ?_
  refine wl_pure (v := .pointer (some ⟨p0b, 1, none⟩)) tt_ok rfl rfl ?_
  apply wl_store tt_ok; rfl; exact (Upd.right Upd.here); rfl; rfl; rfl; rfl; rfl; rfl
  refine wl_nil (wx_then (wc_region ?_))
  refine wl_pure tt_ok rfl rfl ?_
  refine wl_pure (v := .int .i64 (IntKind.wrap .i64 (v100013_0 - (1 : Int)))) tt_ok rfl rfl ?_
  refine wl_pure tt_ok rfl rfl ?_
  refine wl_nil (wx_block (wx_then (wc_seq (wc_region ?_))))
  iterate 2 refine wl_pure tt_ok rfl rfl ?_
  refine wl_pure (v := .pointer (some ⟨p0b, 1, none⟩)) tt_ok rfl rfl ?_
  refine wl_val (v := .slice v100033a0 v100033n0 v100033c0) (val_load tt_ok rfl (mR (List.Mem.head _)) rfl) rfl ?_
  refine wl_pure tt_ok rfl rfl ?_
  replace h := bsome h; obtain ⟨v100067, x100067, h⟩ := h
  refine wl_val (v := .pointer (some ((adOf v100033a0).add ((IntKind.wrap .i64 (v100013_0 - (1 : Int))).toNat * 5 + 0)))) (val_ix (enc := c_T_watch_entry) tt_ok rfl rfl rfl rfl v100033N0 (Rds.of_vec v100033V0) c_T_watch_entry_len rfl x100067) rfl ?_
  refine wl_pure tt_ok rfl rfl ?_
  refine wl_nil (wx_then (wc_ret ?_))
  refine wx_inl (v := .pointer (some ((adOf v100033a0).add ((IntKind.wrap .i64 (v100013_0 - (1 : Int))).toNat * 5 + 0)))) tt_ok (.inl rfl) Try.results14 (Res.tmp rfl Res.nil) rfl ?_
  refine wl_pure tt_ok rfl rfl ?_
  refine wl_nil (wx_then (wc_seq (wc_region ?_)))
  refine wl_pure tt_ok rfl rfl ?_
  refine wl_pure (v := .bool true) tt_ok rfl rfl ?_
  refine wl_nil (wx_then ?_)
  refine wc_cond_true rfl ?_
  refine wc_seq (wc_region ?_)
  iterate 2 refine wl_pure tt_ok rfl rfl ?_
  refine wl_inl Try.call12 rfl rfl rfl Try.func12 rfl Try.ntmps12 rfl rfl rfl ?_
  refine wc_seq (wc_region ?_)
  refine wl_pure tt_ok rfl rfl ?_
  refine wl_nil (wx_then (wc_seq (wc_region ?_)))
  iterate 2 refine wl_pure tt_ok rfl rfl ?_
  refine wl_val (v := .pointer (some ((adOf v100033a0).add ((IntKind.wrap .i64 (v100013_0 - (1 : Int))).toNat * 5 + 3)))) (val_fa (k := (IntKind.wrap .i64 (v100013_0 - (1 : Int))).toNat * 5 + 0) (off := 3) tt_ok rfl rfl rfl rfl rfl) rfl ?_
  refine wl_pure tt_ok rfl rfl ?_
  refine wl_nil (wx_then (wc_ret ?_))
  refine wx_inl (v := .pointer (some ((adOf v100033a0).add ((IntKind.wrap .i64 (v100013_0 - (1 : Int))).toNat * 5 + 3)))) tt_ok (.inl rfl) Try.results12 (Res.tmp rfl Res.nil) rfl ?_
  refine wl_pure tt_ok rfl rfl ?_
  refine wl_nil (wx_then (wc_seq (wc_region ?_)))
  iterate 3 refine wl_pure tt_ok rfl rfl ?_
  refine wl_pure (v := .pointer (some ⟨p0b, 2, none⟩)) tt_ok rfl rfl ?_
  refine wl_val (v := .bool p0.clashed) (val_load tt_ok rfl (mR (List.Mem.head _)) rfl) rfl ?_
  refine wl_pure tt_ok rfl rfl ?_
  replace h := bsome h; obtain ⟨v49, h, hg49⟩ := h
  refine wl_split (t := 36) rfl (fun hc => ?_) (fun hc => ?_)
  · replace h := ct hc h
    refine wl_skip rfl rfl ?_
    refine wl_skip rfl rfl ?_
    refine wl_skip rfl rfl ?_
    refine wl_skip rfl rfl ?_
    refine wl_skip rfl rfl ?_
    refine wl_skip rfl rfl ?_
    refine wl_skip rfl rfl ?_
    refine wl_skip rfl rfl ?_
    refine wl_skip rfl rfl ?_
    refine wl_skip rfl rfl ?_
    refine wl_skip rfl rfl ?_
    refine wl_skip rfl rfl ?_
    simp only [Option.some.injEq, Prod.mk.injEq] at h
    obtain rfl := h
    have h := hg49; clear hg49
    refine wl_pure (v := .bool true) tt_ok rfl rfl ?_
    refine wl_pure tt_ok rfl rfl ?_
    refine wl_pure (v := .pointer (some ⟨p0b, 2, none⟩)) tt_ok rfl rfl ?_
    apply wl_store tt_ok; rfl; exact (Upd.right Upd.here); rfl; rfl; rfl; rfl; rfl; rfl
    refine wl_nil (wx_then (wc_seq (wc_seq (wc_region ?_))))
    iterate 2 refine wl_pure tt_ok rfl rfl ?_
    refine wl_val (v := .pointer (some ((adOf v100033a0).add ((IntKind.wrap .i64 (v100013_0 - (1 : Int))).toNat * 5 + 4)))) (val_fa (k := (IntKind.wrap .i64 (v100013_0 - (1 : Int))).toNat * 5 + 3) (off := 1) tt_ok rfl rfl rfl rfl rfl) rfl ?_
    refine wl_val (v := .bool v100067.other.is_) (val_le (enc := c_T_watch_entry) (xs := v100033) tt_ok rfl (Rds.of_vec v100033V0) ⟨_, Sel.ha⟩ c_T_watch_entry_len x100067 rfl) rfl ?_
    refine wl_pure (v := .bool (!v100067.other.is_)) tt_ok rfl rfl ?_
    refine wl_nil (wx_then ?_)
    refine wc_cond rfl (fun hc => ?_) (fun hc => ?_)
    · replace h := ct hc h
      refine wc_region ?_
      iterate 2 refine wl_pure tt_ok rfl rfl ?_
      refine wl_pure (v := .agg #[.int .u64 p2, .bool true]) tt_ok rfl rfl ?_
      refine wl_pure tt_ok rfl rfl ?_
      refine wl_chg0 (chg_ste (enc := c_T_watch_entry) (y' := (T_watch_entry.mk v100067.f v100067.own (T_watch_sum.mk p2 true))) tt_ok rfl rfl rfl rfl rfl rfl v100033N0 v100033V0 Sel.ha c_T_watch_entry_len x100067 rfl (by intro h; cases h)) ?_
      rintro _ _ ⟨Bs32_4, Ns32_4, Vs32_4, rfl⟩
      refine wl_nil (wx_then ?_)
      refine wc_k2 (Ls := (Bs32_4 ++ (⟨p0b, [.int .u64 p0.rows, .slice v100033a0 v100033n0 v100033c0, .bool true], p0t, (0, 0)⟩ :: []))) [34] [34] [0, 0, 2, 6, 14, 30, 62, 126, 254, 510, 1022, 2046, 4094, 8190, 16382, 32766, 65534, 131070, 262142, 524286, 1048574, 2097150, 4194302, 8388606, 524286, 17301502, 50855934, 117964798, 252182526, 536870910, 1073741822, 2147483646, 4294967295, 8589934591, 17179869183] [0, 1, 2, 3, 4, 5, 6, 7, 8, 9, 10, 11, 12, 13, 14, 15, 16, 17, 18, 19, 20, 21, 22, 23, 24, 25, 26, 27, 28, 29, 30, 31, 32, 33, 34] (by kernel_rfl) (by kernel_rfl) (by kernel_rfl) ?_
      refine k_val rfl rfl rfl (pSub (pApp Sel.ha (pCons Sel.hc pNil))) (stepV_ok tt_ok rfl) rfl ?_
      refine k_val rfl rfl rfl (pSub (pApp Sel.ha (pCons Sel.hc pNil))) (stepV_ok tt_ok rfl) rfl ?_
      refine k_val rfl rfl rfl (pSub (pApp Sel.ha (pCons Sel.hc pNil))) (stepV_ok tt_ok rfl) rfl ?_
      refine k_val (v := .pointer (some ⟨p0b, 2, none⟩)) rfl rfl rfl (pSub (pApp Sel.ha (pCons Sel.hc pNil))) (stepV_ok tt_ok rfl) rfl ?_
      refine k_val (v := .bool true) rfl rfl rfl (pSub (pApp Sel.ha (pCons Sel.hc pNil))) (val_load tt_ok rfl (mR (List.Mem.head _)) rfl) rfl ?_
      refine k_val rfl rfl rfl (pSub (pApp Sel.ha (pCons Sel.hc pNil))) (stepV_ok tt_ok rfl) rfl ?_
      replace h := bsome h; obtain ⟨v92, h, hg92⟩ := h
      replace h := ct rfl h
      refine k_skip rfl rfl (pSub (pApp Sel.ha (pCons Sel.hc pNil))) rfl ?_
      refine k_skip rfl rfl (pSub (pApp Sel.ha (pCons Sel.hc pNil))) rfl ?_
      refine k_skip rfl rfl (pSub (pApp Sel.ha (pCons Sel.hc pNil))) rfl ?_
      refine k_skip rfl rfl (pSub (pApp Sel.ha (pCons Sel.hc pNil))) rfl ?_
      refine k_skip rfl rfl (pSub (pApp Sel.ha (pCons Sel.hc pNil))) rfl ?_
      refine k_skip rfl rfl (pSub (pApp Sel.ha (pCons Sel.hc pNil))) rfl ?_
      refine k_skip rfl rfl (pSub (pApp Sel.ha (pCons Sel.hc pNil))) rfl ?_
      refine k_skip rfl rfl (pSub (pApp Sel.ha (pCons Sel.hc pNil))) rfl ?_
      refine k_skip rfl rfl (pSub (pApp Sel.ha (pCons Sel.hc pNil))) rfl ?_
      refine k_skip rfl rfl (pSub (pApp Sel.ha (pCons Sel.hc pNil))) rfl ?_
      refine k_skip rfl rfl (pSub (pApp Sel.ha (pCons Sel.hc pNil))) rfl ?_
      refine k_skip rfl rfl (pSub (pApp Sel.ha (pCons Sel.hc pNil))) rfl ?_
      refine k_skip rfl rfl (pSub (pApp Sel.ha (pCons Sel.hc pNil))) rfl ?_
      refine k_skip rfl rfl (pSub (pApp Sel.ha (pCons Sel.hc pNil))) rfl ?_
      refine k_skip rfl rfl (pSub (pApp Sel.ha (pCons Sel.hc pNil))) rfl ?_
      refine k_skip rfl rfl (pSub (pApp Sel.ha (pCons Sel.hc pNil))) rfl ?_
      refine k_skip rfl rfl (pSub (pApp Sel.ha (pCons Sel.hc pNil))) rfl ?_
      refine k_skip rfl rfl (pSub (pApp Sel.ha (pCons Sel.hc pNil))) rfl ?_
      refine k_skip rfl rfl (pSub (pApp Sel.ha (pCons Sel.hc pNil))) rfl ?_
      refine k_skip rfl rfl (pSub (pApp Sel.ha (pCons Sel.hc pNil))) rfl ?_
      refine k_skip rfl rfl (pSub (pApp Sel.ha (pCons Sel.hc pNil))) rfl ?_
      refine k_skip rfl rfl (pSub (pApp Sel.ha (pCons Sel.hc pNil))) rfl ?_
      refine k_skip rfl rfl (pSub (pApp Sel.ha (pCons Sel.hc pNil))) rfl ?_
      refine k_skip rfl rfl (pSub (pApp Sel.ha (pCons Sel.hc pNil))) rfl ?_
      refine k_skip rfl rfl (pSub (pApp Sel.ha (pCons Sel.hc pNil))) rfl ?_
      simp only [Option.some.injEq, Prod.mk.injEq] at h
      obtain rfl := h
      have h := hg92; clear hg92
      refine k_val (v := .bool true) rfl rfl rfl (pSub (pApp Sel.ha (pCons Sel.hc pNil))) (stepV_ok tt_ok rfl) rfl ?_
      refine k_val rfl rfl rfl (pSub (pApp Sel.ha (pCons Sel.hc pNil))) (stepV_ok tt_ok rfl) rfl ?_
      refine k_val (v := .pointer (some ⟨p0b, 2, none⟩)) rfl rfl rfl (pSub (pApp Sel.ha (pCons Sel.hc pNil))) (stepV_ok tt_ok rfl) rfl ?_
      refine k_chg0 rfl rfl rfl (chg_store tt_ok rfl (Upd.right Upd.here) rfl rfl rfl rfl rfl rfl) (.inl rfl) ?_
      rintro _ _ rfl
      refine k_end (by kernel_rfl) ?_
      refine wx_then (wc_seq (wc_seq (wc_region ?_)))
      iterate 2 refine wl_pure tt_ok rfl rfl ?_
      refine wl_pure (v := .pointer (some ⟨p0b, 2, none⟩)) tt_ok rfl rfl ?_
      refine wl_val (v := .bool true) (val_load tt_ok rfl (mR (List.Mem.head _)) rfl) rfl ?_
      refine wl_nil (wx_then ?_)
      replace h := ct rfl h
      refine wc_cond_true rfl ?_
      refine wc_seq (wc_region ?_)
      refine wl_pure tt_ok rfl rfl ?_
      refine wl_nil (wx_then (wc_ret (wx_then_ret ?_)))
      simp only [Option.some.injEq, Prod.mk.injEq] at h
      obtain ⟨rfl, rfl⟩ := h
      exact wx_spD tt_ok (.inl rfl) Try.results10 (Res.tmp rfl Res.nil) ⟨v100033a0, v100033n0, v100033c0, Bs32_4, Ns32_4, Vs32_4, rfl, rfl⟩ (fun F => by simp) (pSub (pCons (Sel.sa Sel.hc) (pApp Sel.ha pNil)))
    replace h := cf hc h
    refine wc_skip (wx_then ?_)
    refine wc_k2 (Ls := (v100033B0 ++ (⟨p0b, [.int .u64 p0.rows, .slice v100033a0 v100033n0 v100033c0, .bool true], p0t, (0, 0)⟩ :: []))) [34] [34] [0, 0, 2, 6, 14, 30, 62, 126, 254, 510, 1022, 2046, 4094, 8190, 16382, 32766, 65534, 131070, 262142, 524286, 1048574, 2097150, 4194302, 8388606, 524286, 17301502, 50855934, 117964798, 252182526, 536870910, 1073741822, 2147483646, 4294967295, 8589934591, 17179869183] [0, 1, 2, 3, 4, 5, 6, 7, 8, 9, 10, 11, 12, 13, 14, 15, 16, 17, 18, 19, 20, 21, 22, 23, 24, 25, 26, 27, 28, 29, 30, 31, 32, 33, 34] (by kernel_rfl) (by kernel_rfl) (by kernel_rfl) ?_
    refine k_val rfl rfl rfl (pSub (pApp Sel.ha (pCons Sel.hc pNil))) (stepV_ok tt_ok rfl) rfl ?_
    refine k_val rfl rfl rfl (pSub (pApp Sel.ha (pCons Sel.hc pNil))) (stepV_ok tt_ok rfl) rfl ?_
    refine k_val rfl rfl rfl (pSub (pApp Sel.ha (pCons Sel.hc pNil))) (stepV_ok tt_ok rfl) rfl ?_
    refine k_val (v := .pointer (some ⟨p0b, 2, none⟩)) rfl rfl rfl (pSub (pApp Sel.ha (pCons Sel.hc pNil))) (stepV_ok tt_ok rfl) rfl ?_
    refine k_val (v := .bool true) rfl rfl rfl (pSub (pApp Sel.ha (pCons Sel.hc pNil))) (val_load tt_ok rfl (mR (List.Mem.head _)) rfl) rfl ?_
    refine k_val rfl rfl rfl (pSub (pApp Sel.ha (pCons Sel.hc pNil))) (stepV_ok tt_ok rfl) rfl ?_
    replace h := bsome h; obtain ⟨v92, h, hg92⟩ := h
    replace h := ct rfl h
    refine k_skip rfl rfl (pSub (pApp Sel.ha (pCons Sel.hc pNil))) rfl ?_
    refine k_skip rfl rfl (pSub (pApp Sel.ha (pCons Sel.hc pNil))) rfl ?_
    refine k_skip rfl rfl (pSub (pApp Sel.ha (pCons Sel.hc pNil))) rfl ?_
    refine k_skip rfl rfl (pSub (pApp Sel.ha (pCons Sel.hc pNil))) rfl ?_
    refine k_skip rfl rfl (pSub (pApp Sel.ha (pCons Sel.hc pNil))) rfl ?_
    refine k_skip rfl rfl (pSub (pApp Sel.ha (pCons Sel.hc pNil))) rfl ?_
    refine k_skip rfl rfl (pSub (pApp Sel.ha (pCons Sel.hc pNil))) rfl ?_
    refine k_skip rfl rfl (pSub (pApp Sel.ha (pCons Sel.hc pNil))) rfl ?_
    refine k_skip rfl rfl (pSub (pApp Sel.ha (pCons Sel.hc pNil))) rfl ?_
    refine k_skip rfl rfl (pSub (pApp Sel.ha (pCons Sel.hc pNil))) rfl ?_
    refine k_skip rfl rfl (pSub (pApp Sel.ha (pCons Sel.hc pNil))) rfl ?_
    refine k_skip rfl rfl (pSub (pApp Sel.ha (pCons Sel.hc pNil))) rfl ?_
    refine k_skip rfl rfl (pSub (pApp Sel.ha (pCons Sel.hc pNil))) rfl ?_
    refine k_skip rfl rfl (pSub (pApp Sel.ha (pCons Sel.hc pNil))) rfl ?_
    refine k_skip rfl rfl (pSub (pApp Sel.ha (pCons Sel.hc pNil))) rfl ?_
    refine k_skip rfl rfl (pSub (pApp Sel.ha (pCons Sel.hc pNil))) rfl ?_
    refine k_skip rfl rfl (pSub (pApp Sel.ha (pCons Sel.hc pNil))) rfl ?_
    refine k_skip rfl rfl (pSub (pApp Sel.ha (pCons Sel.hc pNil))) rfl ?_
    refine k_skip rfl rfl (pSub (pApp Sel.ha (pCons Sel.hc pNil))) rfl ?_
    refine k_skip rfl rfl (pSub (pApp Sel.ha (pCons Sel.hc pNil))) rfl ?_
    refine k_skip rfl rfl (pSub (pApp Sel.ha (pCons Sel.hc pNil))) rfl ?_
    refine k_skip rfl rfl (pSub (pApp Sel.ha (pCons Sel.hc pNil))) rfl ?_
    refine k_skip rfl rfl (pSub (pApp Sel.ha (pCons Sel.hc pNil))) rfl ?_
    refine k_skip rfl rfl (pSub (pApp Sel.ha (pCons Sel.hc pNil))) rfl ?_
    refine k_skip rfl rfl (pSub (pApp Sel.ha (pCons Sel.hc pNil))) rfl ?_
    simp only [Option.some.injEq, Prod.mk.injEq] at h
    obtain rfl := h
    have h := hg92; clear hg92
    refine k_val (v := .bool true) rfl rfl rfl (pSub (pApp Sel.ha (pCons Sel.hc pNil))) (stepV_ok tt_ok rfl) rfl ?_
    refine k_val rfl rfl rfl (pSub (pApp Sel.ha (pCons Sel.hc pNil))) (stepV_ok tt_ok rfl) rfl ?_
    refine k_val (v := .pointer (some ⟨p0b, 2, none⟩)) rfl rfl rfl (pSub (pApp Sel.ha (pCons Sel.hc pNil))) (stepV_ok tt_ok rfl) rfl ?_
    refine k_chg0 rfl rfl rfl (chg_store tt_ok rfl (Upd.right Upd.here) rfl rfl rfl rfl rfl rfl) (.inl rfl) ?_
    rintro _ _ rfl
    refine k_end (by kernel_rfl) ?_
    refine wx_then (wc_seq (wc_seq (wc_region ?_)))
    iterate 2 refine wl_pure tt_ok rfl rfl ?_
    refine wl_pure (v := .pointer (some ⟨p0b, 2, none⟩)) tt_ok rfl rfl ?_
    refine wl_val (v := .bool true) (val_load tt_ok rfl (mR (List.Mem.head _)) rfl) rfl ?_
    refine wl_nil (wx_then ?_)
    replace h := ct rfl h
    refine wc_cond_true rfl ?_
    refine wc_seq (wc_region ?_)
    refine wl_pure tt_ok rfl rfl ?_
    refine wl_nil (wx_then (wc_ret (wx_then_ret ?_)))
    simp only [Option.some.injEq, Prod.mk.injEq] at h
    obtain ⟨rfl, rfl⟩ := h
    exact wx_spD tt_ok (.inl rfl) Try.results10 (Res.tmp rfl Res.nil) ⟨v100033a0, v100033n0, v100033c0, v100033B0, v100033N0, v100033V0, rfl, rfl⟩ (fun F => by simp) (pSub (pCons (Sel.sa Sel.hc) (pApp Sel.ha pNil)))
  replace h := cf hc h
  refine wl_run rfl ?_
  refine wl_pure tt_ok rfl rfl ?_
  refine wl_run rfl ?_
  refine wl_pure tt_ok rfl rfl ?_
  refine wl_run rfl ?_
  refine wl_val (v := .pointer (some ((adOf v100033a0).add ((IntKind.wrap .i64 (v100013_0 - (1 : Int))).toNat * 5 + 4)))) (val_fa (k := (IntKind.wrap .i64 (v100013_0 - (1 : Int))).toNat * 5 + 3) (off := 1) tt_ok rfl rfl rfl rfl rfl) rfl ?_
  refine wl_run rfl ?_
  refine wl_val (v := .bool v100067.other.is_) (val_le (enc := c_T_watch_entry) (xs := v100033) tt_ok rfl (Rds.of_vec v100033V0) ⟨_, Sel.ha⟩ c_T_watch_entry_len x100067 rfl) rfl ?_
  refine wl_run rfl ?_
  refine wl_pure tt_ok rfl rfl ?_
  replace h := bsome h; obtain ⟨v48, h, hg48⟩ := h
  refine wl_split (t := 41) rfl (fun hc => ?_) (fun hc => ?_)
  · replace h := ct hc h
    refine wl_run rfl ?_
    refine wl_pure tt_ok rfl rfl ?_
    refine wl_run rfl ?_
    refine wl_pure tt_ok rfl rfl ?_
    refine wl_run rfl ?_
    refine wl_val (v := .pointer (some ((adOf v100033a0).add ((IntKind.wrap .i64 (v100013_0 - (1 : Int))).toNat * 5 + 3)))) (val_fa (k := (IntKind.wrap .i64 (v100013_0 - (1 : Int))).toNat * 5 + 3) (off := 0) tt_ok rfl rfl rfl rfl rfl) rfl ?_
    refine wl_run rfl ?_
    refine wl_val (v := .int .u64 v100067.other.n) (val_le (enc := c_T_watch_entry) (xs := v100033) tt_ok rfl (Rds.of_vec v100033V0) ⟨_, Sel.ha⟩ c_T_watch_entry_len x100067 rfl) rfl ?_
    refine wl_run rfl ?_
    refine wl_pure tt_ok rfl rfl ?_
    refine wl_run rfl ?_
    refine wl_pure (v := .bool (v100067.other.n != p2)) tt_ok rfl rfl ?_
    simp only [Option.some.injEq, Prod.mk.injEq] at h
    obtain rfl := h
    have h := hg48; clear hg48
    refine wl_run rfl ?_
    refine wl_pure (v := .bool (v100067.other.n != p2)) tt_ok rfl rfl ?_
    simp only [Option.some.injEq, Prod.mk.injEq] at h
    obtain rfl := h
    have h := hg49; clear hg49
    refine wl_pure (v := .bool (v100067.other.n != p2)) tt_ok rfl rfl ?_
    refine wl_pure tt_ok rfl rfl ?_
    refine wl_pure (v := .pointer (some ⟨p0b, 2, none⟩)) tt_ok rfl rfl ?_
    apply wl_store tt_ok; rfl; exact (Upd.right Upd.here); rfl; rfl; rfl; rfl; rfl; rfl
    refine wl_nil (wx_then (wc_seq (wc_seq (wc_region ?_))))
    iterate 2 refine wl_pure tt_ok rfl rfl ?_
    refine wl_val (v := .pointer (some ((adOf v100033a0).add ((IntKind.wrap .i64 (v100013_0 - (1 : Int))).toNat * 5 + 4)))) (val_fa (k := (IntKind.wrap .i64 (v100013_0 - (1 : Int))).toNat * 5 + 3) (off := 1) tt_ok rfl rfl rfl rfl rfl) rfl ?_
    refine wl_val (v := .bool v100067.other.is_) (val_le (enc := c_T_watch_entry) (xs := v100033) tt_ok rfl (Rds.of_vec v100033V0) ⟨_, Sel.ha⟩ c_T_watch_entry_len x100067 rfl) rfl ?_
    refine wl_pure (v := .bool (!v100067.other.is_)) tt_ok rfl rfl ?_
    refine wl_nil (wx_then ?_)
    refine wc_cond rfl (fun hc => ?_) (fun hc => ?_)
    · replace h := ct hc h
      refine wc_region ?_
      iterate 2 refine wl_pure tt_ok rfl rfl ?_
      refine wl_pure (v := .agg #[.int .u64 p2, .bool true]) tt_ok rfl rfl ?_
      refine wl_pure tt_ok rfl rfl ?_
      refine wl_chg0 (chg_ste (enc := c_T_watch_entry) (y' := (T_watch_entry.mk v100067.f v100067.own (T_watch_sum.mk p2 true))) tt_ok rfl rfl rfl rfl rfl rfl v100033N0 v100033V0 Sel.ha c_T_watch_entry_len x100067 rfl (by intro h; cases h)) ?_
      rintro _ _ ⟨Bs32_4, Ns32_4, Vs32_4, rfl⟩
      refine wl_nil (wx_then ?_)
      refine wc_k2 (Ls := (Bs32_4 ++ (⟨p0b, [.int .u64 p0.rows, .slice v100033a0 v100033n0 v100033c0, .bool (v100067.other.n != p2)], p0t, (0, 0)⟩ :: []))) [34] [34] [0, 0, 2, 6, 14, 30, 62, 126, 254, 510, 1022, 2046, 4094, 8190, 16382, 32766, 65534, 131070, 262142, 524286, 1048574, 2097150, 4194302, 8388606, 524286, 17301502, 50855934, 117964798, 252182526, 536870910, 1073741822, 2147483646, 4294967295, 8589934591, 17179869183] [0, 1, 2, 3, 4, 5, 6, 7, 8, 9, 10, 11, 12, 13, 14, 15, 16, 17, 18, 19, 20, 21, 22, 23, 24, 25, 26, 27, 28, 29, 30, 31, 32, 33, 34] (by kernel_rfl) (by kernel_rfl) (by kernel_rfl) ?_
      refine k_val rfl rfl rfl (pSub (pApp Sel.ha (pCons Sel.hc pNil))) (stepV_ok tt_ok rfl) rfl ?_
      refine k_val rfl rfl rfl (pSub (pApp Sel.ha (pCons Sel.hc pNil))) (stepV_ok tt_ok rfl) rfl ?_
      refine k_val rfl rfl rfl (pSub (pApp Sel.ha (pCons Sel.hc pNil))) (stepV_ok tt_ok rfl) rfl ?_
      refine k_val (v := .pointer (some ⟨p0b, 2, none⟩)) rfl rfl rfl (pSub (pApp Sel.ha (pCons Sel.hc pNil))) (stepV_ok tt_ok rfl) rfl ?_
      refine k_val (v := .bool (v100067.other.n != p2)) rfl rfl rfl (pSub (pApp Sel.ha (pCons Sel.hc pNil))) (val_load tt_ok rfl (mR (List.Mem.head _)) rfl) rfl ?_
      refine k_val rfl rfl rfl (pSub (pApp Sel.ha (pCons Sel.hc pNil))) (stepV_ok tt_ok rfl) rfl ?_
      replace h := bsome h; obtain ⟨v92, h, hg92⟩ := h
      refine k_split (t := 66) rfl (fun hc => ?_) (fun hc => ?_)
      · replace h := ct hc h
        refine k_skip rfl rfl (pSub (pApp Sel.ha (pCons Sel.hc pNil))) rfl ?_
        refine k_skip rfl rfl (pSub (pApp Sel.ha (pCons Sel.hc pNil))) rfl ?_
        refine k_skip rfl rfl (pSub (pApp Sel.ha (pCons Sel.hc pNil))) rfl ?_
        refine k_skip rfl rfl (pSub (pApp Sel.ha (pCons Sel.hc pNil))) rfl ?_
        refine k_skip rfl rfl (pSub (pApp Sel.ha (pCons Sel.hc pNil))) rfl ?_
        refine k_skip rfl rfl (pSub (pApp Sel.ha (pCons Sel.hc pNil))) rfl ?_
        refine k_skip rfl rfl (pSub (pApp Sel.ha (pCons Sel.hc pNil))) rfl ?_
        refine k_skip rfl rfl (pSub (pApp Sel.ha (pCons Sel.hc pNil))) rfl ?_
        refine k_skip rfl rfl (pSub (pApp Sel.ha (pCons Sel.hc pNil))) rfl ?_
        refine k_skip rfl rfl (pSub (pApp Sel.ha (pCons Sel.hc pNil))) rfl ?_
        refine k_skip rfl rfl (pSub (pApp Sel.ha (pCons Sel.hc pNil))) rfl ?_
        refine k_skip rfl rfl (pSub (pApp Sel.ha (pCons Sel.hc pNil))) rfl ?_
        refine k_skip rfl rfl (pSub (pApp Sel.ha (pCons Sel.hc pNil))) rfl ?_
        refine k_skip rfl rfl (pSub (pApp Sel.ha (pCons Sel.hc pNil))) rfl ?_
        refine k_skip rfl rfl (pSub (pApp Sel.ha (pCons Sel.hc pNil))) rfl ?_
        refine k_skip rfl rfl (pSub (pApp Sel.ha (pCons Sel.hc pNil))) rfl ?_
        refine k_skip rfl rfl (pSub (pApp Sel.ha (pCons Sel.hc pNil))) rfl ?_
        refine k_skip rfl rfl (pSub (pApp Sel.ha (pCons Sel.hc pNil))) rfl ?_
        refine k_skip rfl rfl (pSub (pApp Sel.ha (pCons Sel.hc pNil))) rfl ?_
        refine k_skip rfl rfl (pSub (pApp Sel.ha (pCons Sel.hc pNil))) rfl ?_
        refine k_skip rfl rfl (pSub (pApp Sel.ha (pCons Sel.hc pNil))) rfl ?_
        refine k_skip rfl rfl (pSub (pApp Sel.ha (pCons Sel.hc pNil))) rfl ?_
        refine k_skip rfl rfl (pSub (pApp Sel.ha (pCons Sel.hc pNil))) rfl ?_
        refine k_skip rfl rfl (pSub (pApp Sel.ha (pCons Sel.hc pNil))) rfl ?_
        refine k_skip rfl rfl (pSub (pApp Sel.ha (pCons Sel.hc pNil))) rfl ?_
        simp only [Option.some.injEq, Prod.mk.injEq] at h
        obtain rfl := h
        have h := hg92; clear hg92
        refine k_val (v := .bool true) rfl rfl rfl (pSub (pApp Sel.ha (pCons Sel.hc pNil))) (stepV_ok tt_ok rfl) rfl ?_
        refine k_val rfl rfl rfl (pSub (pApp Sel.ha (pCons Sel.hc pNil))) (stepV_ok tt_ok rfl) rfl ?_
        refine k_val (v := .pointer (some ⟨p0b, 2, none⟩)) rfl rfl rfl (pSub (pApp Sel.ha (pCons Sel.hc pNil))) (stepV_ok tt_ok rfl) rfl ?_
        refine k_chg0 rfl rfl rfl (chg_store tt_ok rfl (Upd.right Upd.here) rfl rfl rfl rfl rfl rfl) (.inl rfl) ?_
        rintro _ _ rfl
        refine k_end (by kernel_rfl) ?_
        refine wx_then (wc_seq (wc_seq (wc_region ?_)))
        iterate 2 refine wl_pure tt_ok rfl rfl ?_
        refine wl_pure (v := .pointer (some ⟨p0b, 2, none⟩)) tt_ok rfl rfl ?_
        refine wl_val (v := .bool true) (val_load tt_ok rfl (mR (List.Mem.head _)) rfl) rfl ?_
        refine wl_nil (wx_then ?_)
        replace h := ct rfl h
        refine wc_cond_true rfl ?_
        refine wc_seq (wc_region ?_)
        refine wl_pure tt_ok rfl rfl ?_
        refine wl_nil (wx_then (wc_ret (wx_then_ret ?_)))
        simp only [Option.some.injEq, Prod.mk.injEq] at h
        obtain ⟨rfl, rfl⟩ := h
        exact wx_spD tt_ok (.inl rfl) Try.results10 (Res.tmp rfl Res.nil) ⟨v100033a0, v100033n0, v100033c0, Bs32_4, Ns32_4, Vs32_4, rfl, rfl⟩ (fun F => by simp) (pSub (pCons (Sel.sa Sel.hc) (pApp Sel.ha pNil)))
      replace h := cf hc h
      refine k_val rfl rfl rfl (pSub (pApp Sel.ha (pCons Sel.hc pNil))) (stepV_ok tt_ok rfl) rfl ?_
      refine k_val rfl rfl rfl (pSub (pApp Sel.ha (pCons Sel.hc pNil))) (stepV_ok tt_ok rfl) rfl ?_
      refine k_val (v := .pointer (some ((adOf v100033a0).add ((IntKind.wrap .i64 (v100013_0 - (1 : Int))).toNat * 5 + 1)))) rfl rfl rfl (pSub (pApp Sel.ha (pCons Sel.hc pNil))) (val_fa (k := (IntKind.wrap .i64 (v100013_0 - (1 : Int))).toNat * 5 + 0) (off := 1) tt_ok rfl rfl rfl rfl rfl) rfl ?_
      refine k_val (v := .pointer (some ((adOf v100033a0).add ((IntKind.wrap .i64 (v100013_0 - (1 : Int))).toNat * 5 + 2)))) rfl rfl rfl (pSub (pApp Sel.ha (pCons Sel.hc pNil))) (val_fa (k := (IntKind.wrap .i64 (v100013_0 - (1 : Int))).toNat * 5 + 1) (off := 1) tt_ok rfl rfl rfl rfl rfl) rfl ?_
      refine k_val (v := .bool v100067.own.is_) rfl rfl rfl (pSub (pApp Sel.ha (pCons Sel.hc pNil))) (val_le (enc := c_T_watch_entry) (xs := (setI v100033 (IntKind.wrap .i64 (v100013_0 - (1 : Int))) (T_watch_entry.mk v100067.f v100067.own (T_watch_sum.mk p2 true)))) tt_ok rfl (Rds.of_vec Vs32_4) ⟨_, Sel.ha⟩ c_T_watch_entry_len (getI_set x100067) rfl) rfl ?_
      refine k_val rfl rfl rfl (pSub (pApp Sel.ha (pCons Sel.hc pNil))) (stepV_ok tt_ok rfl) rfl ?_
      replace h := bsome h; obtain ⟨v78, h, hg78⟩ := h
      refine k_split (t := 72) rfl (fun hc => ?_) (fun hc => ?_)
      · replace h := ct hc h
        refine k_val rfl rfl rfl (pSub (pApp Sel.ha (pCons Sel.hc pNil))) (stepV_ok tt_ok rfl) rfl ?_
        refine k_val rfl rfl rfl (pSub (pApp Sel.ha (pCons Sel.hc pNil))) (stepV_ok tt_ok rfl) rfl ?_
        refine k_val (v := .pointer (some ((adOf v100033a0).add ((IntKind.wrap .i64 (v100013_0 - (1 : Int))).toNat * 5 + 3)))) rfl rfl rfl (pSub (pApp Sel.ha (pCons Sel.hc pNil))) (val_fa (k := (IntKind.wrap .i64 (v100013_0 - (1 : Int))).toNat * 5 + 0) (off := 3) tt_ok rfl rfl rfl rfl rfl) rfl ?_
        refine k_val (v := .pointer (some ((adOf v100033a0).add ((IntKind.wrap .i64 (v100013_0 - (1 : Int))).toNat * 5 + 4)))) rfl rfl rfl (pSub (pApp Sel.ha (pCons Sel.hc pNil))) (val_fa (k := (IntKind.wrap .i64 (v100013_0 - (1 : Int))).toNat * 5 + 3) (off := 1) tt_ok rfl rfl rfl rfl rfl) rfl ?_
        refine k_val (v := .bool true) rfl rfl rfl (pSub (pApp Sel.ha (pCons Sel.hc pNil))) (val_le (enc := c_T_watch_entry) (xs := (setI v100033 (IntKind.wrap .i64 (v100013_0 - (1 : Int))) (T_watch_entry.mk v100067.f v100067.own (T_watch_sum.mk p2 true)))) tt_ok rfl (Rds.of_vec Vs32_4) ⟨_, Sel.ha⟩ c_T_watch_entry_len (getI_set x100067) rfl) rfl ?_
        simp only [Option.some.injEq, Prod.mk.injEq] at h
        obtain rfl := h
        have h := hg78; clear hg78
        refine k_val (v := .bool true) rfl rfl rfl (pSub (pApp Sel.ha (pCons Sel.hc pNil))) (stepV_ok tt_ok rfl) rfl ?_
        refine k_val rfl rfl rfl (pSub (pApp Sel.ha (pCons Sel.hc pNil))) (stepV_ok tt_ok rfl) rfl ?_
        replace h := bsome h; obtain ⟨v91, h, hg91⟩ := h
        replace h := ct rfl h
        refine k_val rfl rfl rfl (pSub (pApp Sel.ha (pCons Sel.hc pNil))) (stepV_ok tt_ok rfl) rfl ?_
        refine k_val rfl rfl rfl (pSub (pApp Sel.ha (pCons Sel.hc pNil))) (stepV_ok tt_ok rfl) rfl ?_
        refine k_val (v := .pointer (some ((adOf v100033a0).add ((IntKind.wrap .i64 (v100013_0 - (1 : Int))).toNat * 5 + 1)))) rfl rfl rfl (pSub (pApp Sel.ha (pCons Sel.hc pNil))) (val_fa (k := (IntKind.wrap .i64 (v100013_0 - (1 : Int))).toNat * 5 + 0) (off := 1) tt_ok rfl rfl rfl rfl rfl) rfl ?_
        refine k_val (v := .pointer (some ((adOf v100033a0).add ((IntKind.wrap .i64 (v100013_0 - (1 : Int))).toNat * 5 + 1)))) rfl rfl rfl (pSub (pApp Sel.ha (pCons Sel.hc pNil))) (val_fa (k := (IntKind.wrap .i64 (v100013_0 - (1 : Int))).toNat * 5 + 1) (off := 0) tt_ok rfl rfl rfl rfl rfl) rfl ?_
        refine k_val (v := .int .u64 v100067.own.n) rfl rfl rfl (pSub (pApp Sel.ha (pCons Sel.hc pNil))) (val_le (enc := c_T_watch_entry) (xs := (setI v100033 (IntKind.wrap .i64 (v100013_0 - (1 : Int))) (T_watch_entry.mk v100067.f v100067.own (T_watch_sum.mk p2 true)))) tt_ok rfl (Rds.of_vec Vs32_4) ⟨_, Sel.ha⟩ c_T_watch_entry_len (getI_set x100067) rfl) rfl ?_
        refine k_val rfl rfl rfl (pSub (pApp Sel.ha (pCons Sel.hc pNil))) (stepV_ok tt_ok rfl) rfl ?_
        refine k_val rfl rfl rfl (pSub (pApp Sel.ha (pCons Sel.hc pNil))) (stepV_ok tt_ok rfl) rfl ?_
        refine k_val (v := .pointer (some ((adOf v100033a0).add ((IntKind.wrap .i64 (v100013_0 - (1 : Int))).toNat * 5 + 3)))) rfl rfl rfl (pSub (pApp Sel.ha (pCons Sel.hc pNil))) (val_fa (k := (IntKind.wrap .i64 (v100013_0 - (1 : Int))).toNat * 5 + 0) (off := 3) tt_ok rfl rfl rfl rfl rfl) rfl ?_
        refine k_val (v := .pointer (some ((adOf v100033a0).add ((IntKind.wrap .i64 (v100013_0 - (1 : Int))).toNat * 5 + 3)))) rfl rfl rfl (pSub (pApp Sel.ha (pCons Sel.hc pNil))) (val_fa (k := (IntKind.wrap .i64 (v100013_0 - (1 : Int))).toNat * 5 + 3) (off := 0) tt_ok rfl rfl rfl rfl rfl) rfl ?_
        refine k_val (v := .int .u64 p2) rfl rfl rfl (pSub (pApp Sel.ha (pCons Sel.hc pNil))) (val_le (enc := c_T_watch_entry) (xs := (setI v100033 (IntKind.wrap .i64 (v100013_0 - (1 : Int))) (T_watch_entry.mk v100067.f v100067.own (T_watch_sum.mk p2 true)))) tt_ok rfl (Rds.of_vec Vs32_4) ⟨_, Sel.ha⟩ c_T_watch_entry_len (getI_set x100067) rfl) rfl ?_
        refine k_val (v := .bool (v100067.own.n != p2)) rfl rfl rfl (pSub (pApp Sel.ha (pCons Sel.hc pNil))) (stepV_ok tt_ok rfl) rfl ?_
        simp only [Option.some.injEq, Prod.mk.injEq] at h
        obtain rfl := h
        have h := hg91; clear hg91
        refine k_val (v := .bool (v100067.own.n != p2)) rfl rfl rfl (pSub (pApp Sel.ha (pCons Sel.hc pNil))) (stepV_ok tt_ok rfl) rfl ?_
        simp only [Option.some.injEq, Prod.mk.injEq] at h
        obtain rfl := h
        have h := hg92; clear hg92
        refine k_val (v := .bool (v100067.own.n != p2)) rfl rfl rfl (pSub (pApp Sel.ha (pCons Sel.hc pNil))) (stepV_ok tt_ok rfl) rfl ?_
        refine k_val rfl rfl rfl (pSub (pApp Sel.ha (pCons Sel.hc pNil))) (stepV_ok tt_ok rfl) rfl ?_
        refine k_val (v := .pointer (some ⟨p0b, 2, none⟩)) rfl rfl rfl (pSub (pApp Sel.ha (pCons Sel.hc pNil))) (stepV_ok tt_ok rfl) rfl ?_
        refine k_chg0 rfl rfl rfl (chg_store tt_ok rfl (Upd.right Upd.here) rfl rfl rfl rfl rfl rfl) (.inl rfl) ?_
        rintro _ _ rfl
        refine k_end (by kernel_rfl) ?_
        refine wx_then (wc_seq (wc_seq (wc_region ?_)))
        iterate 2 refine wl_pure tt_ok rfl rfl ?_
        refine wl_pure (v := .pointer (some ⟨p0b, 2, none⟩)) tt_ok rfl rfl ?_
        refine wl_val (v := .bool (v100067.own.n != p2)) (val_load tt_ok rfl (mR (List.Mem.head _)) rfl) rfl ?_
        refine wl_nil (wx_then ?_)
        refine wc_cond rfl (fun hc => ?_) (fun hc => ?_)
        · replace h := ct hc h
          refine wc_seq (wc_region ?_)
          refine wl_pure tt_ok rfl rfl ?_
          refine wl_nil (wx_then (wc_ret (wx_then_ret ?_)))
          simp only [Option.some.injEq, Prod.mk.injEq] at h
          obtain ⟨rfl, rfl⟩ := h
          exact wx_spD tt_ok (.inl rfl) Try.results10 (Res.tmp rfl Res.nil) ⟨v100033a0, v100033n0, v100033c0, Bs32_4, Ns32_4, Vs32_4, rfl, rfl⟩ (fun F => by simp) (pSub (pCons (Sel.sa Sel.hc) (pApp Sel.ha pNil)))
        replace h := cf hc h
        refine wc_skip (wx_then (wc_seq (wc_region ?_)))
        refine wl_pure tt_ok rfl rfl ?_
        refine wl_nil (wx_then (wc_ret ?_))
        simp only [Option.some.injEq, Prod.mk.injEq] at h
        obtain ⟨rfl, rfl⟩ := h
        exact wx_spD tt_ok (.inl rfl) Try.results10 (Res.tmp rfl Res.nil) ⟨v100033a0, v100033n0, v100033c0, Bs32_4, Ns32_4, Vs32_4, rfl, rfl⟩ (fun F => by simp) (pSub (pCons (Sel.sa Sel.hc) (pApp Sel.ha pNil)))
      replace h := cf hc h
      refine k_skip rfl rfl (pSub (pApp Sel.ha (pCons Sel.hc pNil))) rfl ?_
      refine k_skip rfl rfl (pSub (pApp Sel.ha (pCons Sel.hc pNil))) rfl ?_
      refine k_skip rfl rfl (pSub (pApp Sel.ha (pCons Sel.hc pNil))) rfl ?_
      refine k_skip rfl rfl (pSub (pApp Sel.ha (pCons Sel.hc pNil))) rfl ?_
      refine k_skip rfl rfl (pSub (pApp Sel.ha (pCons Sel.hc pNil))) rfl ?_
      simp only [Option.some.injEq, Prod.mk.injEq] at h
      obtain rfl := h
      have h := hg78; clear hg78
      refine k_val (v := .bool false) rfl rfl rfl (pSub (pApp Sel.ha (pCons Sel.hc pNil))) (stepV_ok tt_ok rfl) rfl ?_
      refine k_val rfl rfl rfl (pSub (pApp Sel.ha (pCons Sel.hc pNil))) (stepV_ok tt_ok rfl) rfl ?_
      replace h := bsome h; obtain ⟨v91, h, hg91⟩ := h
      replace h := cf rfl h
      refine k_skip rfl rfl (pSub (pApp Sel.ha (pCons Sel.hc pNil))) rfl ?_
      refine k_skip rfl rfl (pSub (pApp Sel.ha (pCons Sel.hc pNil))) rfl ?_
      refine k_skip rfl rfl (pSub (pApp Sel.ha (pCons Sel.hc pNil))) rfl ?_
      refine k_skip rfl rfl (pSub (pApp Sel.ha (pCons Sel.hc pNil))) rfl ?_
      refine k_skip rfl rfl (pSub (pApp Sel.ha (pCons Sel.hc pNil))) rfl ?_
      refine k_skip rfl rfl (pSub (pApp Sel.ha (pCons Sel.hc pNil))) rfl ?_
      refine k_skip rfl rfl (pSub (pApp Sel.ha (pCons Sel.hc pNil))) rfl ?_
      refine k_skip rfl rfl (pSub (pApp Sel.ha (pCons Sel.hc pNil))) rfl ?_
      refine k_skip rfl rfl (pSub (pApp Sel.ha (pCons Sel.hc pNil))) rfl ?_
      refine k_skip rfl rfl (pSub (pApp Sel.ha (pCons Sel.hc pNil))) rfl ?_
      refine k_skip rfl rfl (pSub (pApp Sel.ha (pCons Sel.hc pNil))) rfl ?_
      simp only [Option.some.injEq, Prod.mk.injEq] at h
      obtain rfl := h
      have h := hg91; clear hg91
      refine k_val (v := .bool false) rfl rfl rfl (pSub (pApp Sel.ha (pCons Sel.hc pNil))) (stepV_ok tt_ok rfl) rfl ?_
      simp only [Option.some.injEq, Prod.mk.injEq] at h
      obtain rfl := h
      have h := hg92; clear hg92
      refine k_val (v := .bool false) rfl rfl rfl (pSub (pApp Sel.ha (pCons Sel.hc pNil))) (stepV_ok tt_ok rfl) rfl ?_
      refine k_val rfl rfl rfl (pSub (pApp Sel.ha (pCons Sel.hc pNil))) (stepV_ok tt_ok rfl) rfl ?_
      refine k_val (v := .pointer (some ⟨p0b, 2, none⟩)) rfl rfl rfl (pSub (pApp Sel.ha (pCons Sel.hc pNil))) (stepV_ok tt_ok rfl) rfl ?_
      refine k_chg0 rfl rfl rfl (chg_store tt_ok rfl (Upd.right Upd.here) rfl rfl rfl rfl rfl rfl) (.inl rfl) ?_
      rintro _ _ rfl
      refine k_end (by kernel_rfl) ?_
      refine wx_then (wc_seq (wc_seq (wc_region ?_)))
      iterate 2 refine wl_pure tt_ok rfl rfl ?_
      refine wl_pure (v := .pointer (some ⟨p0b, 2, none⟩)) tt_ok rfl rfl ?_
      refine wl_val (v := .bool false) (val_load tt_ok rfl (mR (List.Mem.head _)) rfl) rfl ?_
      refine wl_nil (wx_then ?_)
      replace h := cf rfl h
      refine wc_cond_false rfl ?_
      refine wc_skip (wx_then (wc_seq (wc_region ?_)))
      refine wl_pure tt_ok rfl rfl ?_
      refine wl_nil (wx_then (wc_ret ?_))
      simp only [Option.some.injEq, Prod.mk.injEq] at h
      obtain ⟨rfl, rfl⟩ := h
      exact wx_spD tt_ok (.inl rfl) Try.results10 (Res.tmp rfl Res.nil) ⟨v100033a0, v100033n0, v100033c0, Bs32_4, Ns32_4, Vs32_4, rfl, rfl⟩ (fun F => by simp) (pSub (pCons (Sel.sa Sel.hc) (pApp Sel.ha pNil)))
    replace h := cf hc h
    refine wc_skip (wx_then ?_)
    refine wc_k2 (Ls := (v100033B0 ++ (⟨p0b, [.int .u64 p0.rows, .slice v100033a0 v100033n0 v100033c0, .bool (v100067.other.n != p2)], p0t, (0, 0)⟩ :: []))) [34] [34] [0, 0, 2, 6, 14, 30, 62, 126, 254, 510, 1022, 2046, 4094, 8190, 16382, 32766, 65534, 131070, 262142, 524286, 1048574, 2097150, 4194302, 8388606, 524286, 17301502, 50855934, 117964798, 252182526, 536870910, 1073741822, 2147483646, 4294967295, 8589934591, 17179869183] [0, 1, 2, 3, 4, 5, 6, 7, 8, 9, 10, 11, 12, 13, 14, 15, 16, 17, 18, 19, 20, 21, 22, 23, 24, 25, 26, 27, 28, 29, 30, 31, 32, 33, 34] (by kernel_rfl) (by kernel_rfl) (by kernel_rfl) ?_
    refine k_val rfl rfl rfl (pSub (pApp Sel.ha (pCons Sel.hc pNil))) (stepV_ok tt_ok rfl) rfl ?_
    refine k_val rfl rfl rfl (pSub (pApp Sel.ha (pCons Sel.hc pNil))) (stepV_ok tt_ok rfl) rfl ?_
    refine k_val rfl rfl rfl (pSub (pApp Sel.ha (pCons Sel.hc pNil))) (stepV_ok tt_ok rfl) rfl ?_
    refine k_val (v := .pointer (some ⟨p0b, 2, none⟩)) rfl rfl rfl (pSub (pApp Sel.ha (pCons Sel.hc pNil))) (stepV_ok tt_ok rfl) rfl ?_
    refine k_val (v := .bool (v100067.other.n != p2)) rfl rfl rfl (pSub (pApp Sel.ha (pCons Sel.hc pNil))) (val_load tt_ok rfl (mR (List.Mem.head _)) rfl) rfl ?_
    refine k_val rfl rfl rfl (pSub (pApp Sel.ha (pCons Sel.hc pNil))) (stepV_ok tt_ok rfl) rfl ?_
    replace h := bsome h; obtain ⟨v92, h, hg92⟩ := h
    refine k_split (t := 66) rfl (fun hc => ?_) (fun hc => ?_)
    · replace h := ct hc h
      refine k_skip rfl rfl (pSub (pApp Sel.ha (pCons Sel.hc pNil))) rfl ?_
      refine k_skip rfl rfl (pSub (pApp Sel.ha (pCons Sel.hc pNil))) rfl ?_
      refine k_skip rfl rfl (pSub (pApp Sel.ha (pCons Sel.hc pNil))) rfl ?_
      refine k_skip rfl rfl (pSub (pApp Sel.ha (pCons Sel.hc pNil))) rfl ?_
      refine k_skip rfl rfl (pSub (pApp Sel.ha (pCons Sel.hc pNil))) rfl ?_
      refine k_skip rfl rfl (pSub (pApp Sel.ha (pCons Sel.hc pNil))) rfl ?_
      refine k_skip rfl rfl (pSub (pApp Sel.ha (pCons Sel.hc pNil))) rfl ?_
      refine k_skip rfl rfl (pSub (pApp Sel.ha (pCons Sel.hc pNil))) rfl ?_
      refine k_skip rfl rfl (pSub (pApp Sel.ha (pCons Sel.hc pNil))) rfl ?_
      refine k_skip rfl rfl (pSub (pApp Sel.ha (pCons Sel.hc pNil))) rfl ?_
      refine k_skip rfl rfl (pSub (pApp Sel.ha (pCons Sel.hc pNil))) rfl ?_
      refine k_skip rfl rfl (pSub (pApp Sel.ha (pCons Sel.hc pNil))) rfl ?_
      refine k_skip rfl rfl (pSub (pApp Sel.ha (pCons Sel.hc pNil))) rfl ?_
      refine k_skip rfl rfl (pSub (pApp Sel.ha (pCons Sel.hc pNil))) rfl ?_
      refine k_skip rfl rfl (pSub (pApp Sel.ha (pCons Sel.hc pNil))) rfl ?_
      refine k_skip rfl rfl (pSub (pApp Sel.ha (pCons Sel.hc pNil))) rfl ?_
      refine k_skip rfl rfl (pSub (pApp Sel.ha (pCons Sel.hc pNil))) rfl ?_
      refine k_skip rfl rfl (pSub (pApp Sel.ha (pCons Sel.hc pNil))) rfl ?_
      refine k_skip rfl rfl (pSub (pApp Sel.ha (pCons Sel.hc pNil))) rfl ?_
      refine k_skip rfl rfl (pSub (pApp Sel.ha (pCons Sel.hc pNil))) rfl ?_
      refine k_skip rfl rfl (pSub (pApp Sel.ha (pCons Sel.hc pNil))) rfl ?_
      refine k_skip rfl rfl (pSub (pApp Sel.ha (pCons Sel.hc pNil))) rfl ?_
      refine k_skip rfl rfl (pSub (pApp Sel.ha (pCons Sel.hc pNil))) rfl ?_
      refine k_skip rfl rfl (pSub (pApp Sel.ha (pCons Sel.hc pNil))) rfl ?_
      refine k_skip rfl rfl (pSub (pApp Sel.ha (pCons Sel.hc pNil))) rfl ?_
      simp only [Option.some.injEq, Prod.mk.injEq] at h
      obtain rfl := h
      have h := hg92; clear hg92
      refine k_val (v := .bool true) rfl rfl rfl (pSub (pApp Sel.ha (pCons Sel.hc pNil))) (stepV_ok tt_ok rfl) rfl ?_
      refine k_val rfl rfl rfl (pSub (pApp Sel.ha (pCons Sel.hc pNil))) (stepV_ok tt_ok rfl) rfl ?_
      refine k_val (v := .pointer (some ⟨p0b, 2, none⟩)) rfl rfl rfl (pSub (pApp Sel.ha (pCons Sel.hc pNil))) (stepV_ok tt_ok rfl) rfl ?_
      refine k_chg0 rfl rfl rfl (chg_store tt_ok rfl (Upd.right Upd.here) rfl rfl rfl rfl rfl rfl) (.inl rfl) ?_
      rintro _ _ rfl
      refine k_end (by kernel_rfl) ?_
      refine wx_then (wc_seq (wc_seq (wc_region ?_)))
      iterate 2 refine wl_pure tt_ok rfl rfl ?_
      refine wl_pure (v := .pointer (some ⟨p0b, 2, none⟩)) tt_ok rfl rfl ?_
      refine wl_val (v := .bool true) (val_load tt_ok rfl (mR (List.Mem.head _)) rfl) rfl ?_
      refine wl_nil (wx_then ?_)
      replace h := ct rfl h
      refine wc_cond_true rfl ?_
      refine wc_seq (wc_region ?_)
      refine wl_pure tt_ok rfl rfl ?_
      refine wl_nil (wx_then (wc_ret (wx_then_ret ?_)))
      simp only [Option.some.injEq, Prod.mk.injEq] at h
      obtain ⟨rfl, rfl⟩ := h
      exact wx_spD tt_ok (.inl rfl) Try.results10 (Res.tmp rfl Res.nil) ⟨v100033a0, v100033n0, v100033c0, v100033B0, v100033N0, v100033V0, rfl, rfl⟩ (fun F => by simp) (pSub (pCons (Sel.sa Sel.hc) (pApp Sel.ha pNil)))
    replace h := cf hc h
    refine k_val rfl rfl rfl (pSub (pApp Sel.ha (pCons Sel.hc pNil))) (stepV_ok tt_ok rfl) rfl ?_
    refine k_val rfl rfl rfl (pSub (pApp Sel.ha (pCons Sel.hc pNil))) (stepV_ok tt_ok rfl) rfl ?_
    refine k_val (v := .pointer (some ((adOf v100033a0).add ((IntKind.wrap .i64 (v100013_0 - (1 : Int))).toNat * 5 + 1)))) rfl rfl rfl (pSub (pApp Sel.ha (pCons Sel.hc pNil))) (val_fa (k := (IntKind.wrap .i64 (v100013_0 - (1 : Int))).toNat * 5 + 0) (off := 1) tt_ok rfl rfl rfl rfl rfl) rfl ?_
    refine k_val (v := .pointer (some ((adOf v100033a0).add ((IntKind.wrap .i64 (v100013_0 - (1 : Int))).toNat * 5 + 2)))) rfl rfl rfl (pSub (pApp Sel.ha (pCons Sel.hc pNil))) (val_fa (k := (IntKind.wrap .i64 (v100013_0 - (1 : Int))).toNat * 5 + 1) (off := 1) tt_ok rfl rfl rfl rfl rfl) rfl ?_
    refine k_val (v := .bool v100067.own.is_) rfl rfl rfl (pSub (pApp Sel.ha (pCons Sel.hc pNil))) (val_le (enc := c_T_watch_entry) (xs := v100033) tt_ok rfl (Rds.of_vec v100033V0) ⟨_, Sel.ha⟩ c_T_watch_entry_len x100067 rfl) rfl ?_
    refine k_val rfl rfl rfl (pSub (pApp Sel.ha (pCons Sel.hc pNil))) (stepV_ok tt_ok rfl) rfl ?_
    replace h := bsome h; obtain ⟨v78, h, hg78⟩ := h
    refine k_split (t := 72) rfl (fun hc => ?_) (fun hc => ?_)
    · replace h := ct hc h
      refine k_val rfl rfl rfl (pSub (pApp Sel.ha (pCons Sel.hc pNil))) (stepV_ok tt_ok rfl) rfl ?_
      refine k_val rfl rfl rfl (pSub (pApp Sel.ha (pCons Sel.hc pNil))) (stepV_ok tt_ok rfl) rfl ?_
      refine k_val (v := .pointer (some ((adOf v100033a0).add ((IntKind.wrap .i64 (v100013_0 - (1 : Int))).toNat * 5 + 3)))) rfl rfl rfl (pSub (pApp Sel.ha (pCons Sel.hc pNil))) (val_fa (k := (IntKind.wrap .i64 (v100013_0 - (1 : Int))).toNat * 5 + 0) (off := 3) tt_ok rfl rfl rfl rfl rfl) rfl ?_
      refine k_val (v := .pointer (some ((adOf v100033a0).add ((IntKind.wrap .i64 (v100013_0 - (1 : Int))).toNat * 5 + 4)))) rfl rfl rfl (pSub (pApp Sel.ha (pCons Sel.hc pNil))) (val_fa (k := (IntKind.wrap .i64 (v100013_0 - (1 : Int))).toNat * 5 + 3) (off := 1) tt_ok rfl rfl rfl rfl rfl) rfl ?_
      refine k_val (v := .bool v100067.other.is_) rfl rfl rfl (pSub (pApp Sel.ha (pCons Sel.hc pNil))) (val_le (enc := c_T_watch_entry) (xs := v100033) tt_ok rfl (Rds.of_vec v100033V0) ⟨_, Sel.ha⟩ c_T_watch_entry_len x100067 rfl) rfl ?_
      simp only [Option.some.injEq, Prod.mk.injEq] at h
      obtain rfl := h
      have h := hg78; clear hg78
      refine k_val (v := .bool v100067.other.is_) rfl rfl rfl (pSub (pApp Sel.ha (pCons Sel.hc pNil))) (stepV_ok tt_ok rfl) rfl ?_
      refine k_val rfl rfl rfl (pSub (pApp Sel.ha (pCons Sel.hc pNil))) (stepV_ok tt_ok rfl) rfl ?_
      replace h := bsome h; obtain ⟨v91, h, hg91⟩ := h
      refine k_split (t := 79) rfl (fun hc => ?_) (fun hc => ?_)
      · replace h := ct hc h
        refine k_val rfl rfl rfl (pSub (pApp Sel.ha (pCons Sel.hc pNil))) (stepV_ok tt_ok rfl) rfl ?_
        refine k_val rfl rfl rfl (pSub (pApp Sel.ha (pCons Sel.hc pNil))) (stepV_ok tt_ok rfl) rfl ?_
        refine k_val (v := .pointer (some ((adOf v100033a0).add ((IntKind.wrap .i64 (v100013_0 - (1 : Int))).toNat * 5 + 1)))) rfl rfl rfl (pSub (pApp Sel.ha (pCons Sel.hc pNil))) (val_fa (k := (IntKind.wrap .i64 (v100013_0 - (1 : Int))).toNat * 5 + 0) (off := 1) tt_ok rfl rfl rfl rfl rfl) rfl ?_
        refine k_val (v := .pointer (some ((adOf v100033a0).add ((IntKind.wrap .i64 (v100013_0 - (1 : Int))).toNat * 5 + 1)))) rfl rfl rfl (pSub (pApp Sel.ha (pCons Sel.hc pNil))) (val_fa (k := (IntKind.wrap .i64 (v100013_0 - (1 : Int))).toNat * 5 + 1) (off := 0) tt_ok rfl rfl rfl rfl rfl) rfl ?_
        refine k_val (v := .int .u64 v100067.own.n) rfl rfl rfl (pSub (pApp Sel.ha (pCons Sel.hc pNil))) (val_le (enc := c_T_watch_entry) (xs := v100033) tt_ok rfl (Rds.of_vec v100033V0) ⟨_, Sel.ha⟩ c_T_watch_entry_len x100067 rfl) rfl ?_
        refine k_val rfl rfl rfl (pSub (pApp Sel.ha (pCons Sel.hc pNil))) (stepV_ok tt_ok rfl) rfl ?_
        refine k_val rfl rfl rfl (pSub (pApp Sel.ha (pCons Sel.hc pNil))) (stepV_ok tt_ok rfl) rfl ?_
        refine k_val (v := .pointer (some ((adOf v100033a0).add ((IntKind.wrap .i64 (v100013_0 - (1 : Int))).toNat * 5 + 3)))) rfl rfl rfl (pSub (pApp Sel.ha (pCons Sel.hc pNil))) (val_fa (k := (IntKind.wrap .i64 (v100013_0 - (1 : Int))).toNat * 5 + 0) (off := 3) tt_ok rfl rfl rfl rfl rfl) rfl ?_
        refine k_val (v := .pointer (some ((adOf v100033a0).add ((IntKind.wrap .i64 (v100013_0 - (1 : Int))).toNat * 5 + 3)))) rfl rfl rfl (pSub (pApp Sel.ha (pCons Sel.hc pNil))) (val_fa (k := (IntKind.wrap .i64 (v100013_0 - (1 : Int))).toNat * 5 + 3) (off := 0) tt_ok rfl rfl rfl rfl rfl) rfl ?_
        refine k_val (v := .int .u64 v100067.other.n) rfl rfl rfl (pSub (pApp Sel.ha (pCons Sel.hc pNil))) (val_le (enc := c_T_watch_entry) (xs := v100033) tt_ok rfl (Rds.of_vec v100033V0) ⟨_, Sel.ha⟩ c_T_watch_entry_len x100067 rfl) rfl ?_
        refine k_val (v := .bool (v100067.own.n != v100067.other.n)) rfl rfl rfl (pSub (pApp Sel.ha (pCons Sel.hc pNil))) (stepV_ok tt_ok rfl) rfl ?_
        simp only [Option.some.injEq, Prod.mk.injEq] at h
        obtain rfl := h
        have h := hg91; clear hg91
        refine k_val (v := .bool (v100067.own.n != v100067.other.n)) rfl rfl rfl (pSub (pApp Sel.ha (pCons Sel.hc pNil))) (stepV_ok tt_ok rfl) rfl ?_
        simp only [Option.some.injEq, Prod.mk.injEq] at h
        obtain rfl := h
        have h := hg92; clear hg92
        refine k_val (v := .bool (v100067.own.n != v100067.other.n)) rfl rfl rfl (pSub (pApp Sel.ha (pCons Sel.hc pNil))) (stepV_ok tt_ok rfl) rfl ?_
        refine k_val rfl rfl rfl (pSub (pApp Sel.ha (pCons Sel.hc pNil))) (stepV_ok tt_ok rfl) rfl ?_
        refine k_val (v := .pointer (some ⟨p0b, 2, none⟩)) rfl rfl rfl (pSub (pApp Sel.ha (pCons Sel.hc pNil))) (stepV_ok tt_ok rfl) rfl ?_
        refine k_chg0 rfl rfl rfl (chg_store tt_ok rfl (Upd.right Upd.here) rfl rfl rfl rfl rfl rfl) (.inl rfl) ?_
        rintro _ _ rfl
        refine k_end (by kernel_rfl) ?_
        refine wx_then (wc_seq (wc_seq (wc_region ?_)))
        iterate 2 refine wl_pure tt_ok rfl rfl ?_
        refine wl_pure (v := .pointer (some ⟨p0b, 2, none⟩)) tt_ok rfl rfl ?_
        refine wl_val (v := .bool (v100067.own.n != v100067.other.n)) (val_load tt_ok rfl (mR (List.Mem.head _)) rfl) rfl ?_
        refine wl_nil (wx_then ?_)
        refine wc_cond rfl (fun hc => ?_) (fun hc => ?_)
        · replace h := ct hc h
          refine wc_seq (wc_region ?_)
          refine wl_pure tt_ok rfl rfl ?_
          refine wl_nil (wx_then (wc_ret (wx_then_ret ?_)))
          simp only [Option.some.injEq, Prod.mk.injEq] at h
          obtain ⟨rfl, rfl⟩ := h
          exact wx_spD tt_ok (.inl rfl) Try.results10 (Res.tmp rfl Res.nil) ⟨v100033a0, v100033n0, v100033c0, v100033B0, v100033N0, v100033V0, rfl, rfl⟩ (fun F => by simp) (pSub (pCons (Sel.sa Sel.hc) (pApp Sel.ha pNil)))
        replace h := cf hc h
        refine wc_skip (wx_then (wc_seq (wc_region ?_)))
        refine wl_pure tt_ok rfl rfl ?_
        refine wl_nil (wx_then (wc_ret ?_))
        simp only [Option.some.injEq, Prod.mk.injEq] at h
        obtain ⟨rfl, rfl⟩ := h
        exact wx_spD tt_ok (.inl rfl) Try.results10 (Res.tmp rfl Res.nil) ⟨v100033a0, v100033n0, v100033c0, v100033B0, v100033N0, v100033V0, rfl, rfl⟩ (fun F => by simp) (pSub (pCons (Sel.sa Sel.hc) (pApp Sel.ha pNil)))
      replace h := cf hc h
      refine k_skip rfl rfl (pSub (pApp Sel.ha (pCons Sel.hc pNil))) rfl ?_
      refine k_skip rfl rfl (pSub (pApp Sel.ha (pCons Sel.hc pNil))) rfl ?_
      refine k_skip rfl rfl (pSub (pApp Sel.ha (pCons Sel.hc pNil))) rfl ?_
      refine k_skip rfl rfl (pSub (pApp Sel.ha (pCons Sel.hc pNil))) rfl ?_
      refine k_skip rfl rfl (pSub (pApp Sel.ha (pCons Sel.hc pNil))) rfl ?_
      refine k_skip rfl rfl (pSub (pApp Sel.ha (pCons Sel.hc pNil))) rfl ?_
      refine k_skip rfl rfl (pSub (pApp Sel.ha (pCons Sel.hc pNil))) rfl ?_
      refine k_skip rfl rfl (pSub (pApp Sel.ha (pCons Sel.hc pNil))) rfl ?_
      refine k_skip rfl rfl (pSub (pApp Sel.ha (pCons Sel.hc pNil))) rfl ?_
      refine k_skip rfl rfl (pSub (pApp Sel.ha (pCons Sel.hc pNil))) rfl ?_
      refine k_skip rfl rfl (pSub (pApp Sel.ha (pCons Sel.hc pNil))) rfl ?_
      simp only [Option.some.injEq, Prod.mk.injEq] at h
      obtain rfl := h
      have h := hg91; clear hg91
      refine k_val (v := .bool false) rfl rfl rfl (pSub (pApp Sel.ha (pCons Sel.hc pNil))) (stepV_ok tt_ok rfl) rfl ?_
      simp only [Option.some.injEq, Prod.mk.injEq] at h
      obtain rfl := h
      have h := hg92; clear hg92
      refine k_val (v := .bool false) rfl rfl rfl (pSub (pApp Sel.ha (pCons Sel.hc pNil))) (stepV_ok tt_ok rfl) rfl ?_
      refine k_val rfl rfl rfl (pSub (pApp Sel.ha (pCons Sel.hc pNil))) (stepV_ok tt_ok rfl) rfl ?_
      refine k_val (v := .pointer (some ⟨p0b, 2, none⟩)) rfl rfl rfl (pSub (pApp Sel.ha (pCons Sel.hc pNil))) (stepV_ok tt_ok rfl) rfl ?_
      refine k_chg0 rfl rfl rfl (chg_store tt_ok rfl (Upd.right Upd.here) rfl rfl rfl rfl rfl rfl) (.inl rfl) ?_
      rintro _ _ rfl
      refine k_end (by kernel_rfl) ?_
      refine wx_then (wc_seq (wc_seq (wc_region ?_)))
      iterate 2 refine wl_pure tt_ok rfl rfl ?_
      refine wl_pure (v := .pointer (some ⟨p0b, 2, none⟩)) tt_ok rfl rfl ?_
      refine wl_val (v := .bool false) (val_load tt_ok rfl (mR (List.Mem.head _)) rfl) rfl ?_
      refine wl_nil (wx_then ?_)
      replace h := cf rfl h
      refine wc_cond_false rfl ?_
      refine wc_skip (wx_then (wc_seq (wc_region ?_)))
      refine wl_pure tt_ok rfl rfl ?_
      refine wl_nil (wx_then (wc_ret ?_))
      simp only [Option.some.injEq, Prod.mk.injEq] at h
      obtain ⟨rfl, rfl⟩ := h
      exact wx_spD tt_ok (.inl rfl) Try.results10 (Res.tmp rfl Res.nil) ⟨v100033a0, v100033n0, v100033c0, v100033B0, v100033N0, v100033V0, rfl, rfl⟩ (fun F => by simp) (pSub (pCons (Sel.sa Sel.hc) (pApp Sel.ha pNil)))
    replace h := cf hc h
    refine k_skip rfl rfl (pSub (pApp Sel.ha (pCons Sel.hc pNil))) rfl ?_
    refine k_skip rfl rfl (pSub (pApp Sel.ha (pCons Sel.hc pNil))) rfl ?_
    refine k_skip rfl rfl (pSub (pApp Sel.ha (pCons Sel.hc pNil))) rfl ?_
    refine k_skip rfl rfl (pSub (pApp Sel.ha (pCons Sel.hc pNil))) rfl ?_
    refine k_skip rfl rfl (pSub (pApp Sel.ha (pCons Sel.hc pNil))) rfl ?_
    simp only [Option.some.injEq, Prod.mk.injEq] at h
    obtain rfl := h
    have h := hg78; clear hg78
    refine k_val (v := .bool false) rfl rfl rfl (pSub (pApp Sel.ha (pCons Sel.hc pNil))) (stepV_ok tt_ok rfl) rfl ?_
    refine k_val rfl rfl rfl (pSub (pApp Sel.ha (pCons Sel.hc pNil))) (stepV_ok tt_ok rfl) rfl ?_
    replace h := bsome h; obtain ⟨v91, h, hg91⟩ := h
    replace h := cf rfl h
    refine k_skip rfl rfl (pSub (pApp Sel.ha (pCons Sel.hc pNil))) rfl ?_
    refine k_skip rfl rfl (pSub (pApp Sel.ha (pCons Sel.hc pNil))) rfl ?_
    refine k_skip rfl rfl (pSub (pApp Sel.ha (pCons Sel.hc pNil))) rfl ?_
    refine k_skip rfl rfl (pSub (pApp Sel.ha (pCons Sel.hc pNil))) rfl ?_
    refine k_skip rfl rfl (pSub (pApp Sel.ha (pCons Sel.hc pNil))) rfl ?_
    refine k_skip rfl rfl (pSub (pApp Sel.ha (pCons Sel.hc pNil))) rfl ?_
    refine k_skip rfl rfl (pSub (pApp Sel.ha (pCons Sel.hc pNil))) rfl ?_
    refine k_skip rfl rfl (pSub (pApp Sel.ha (pCons Sel.hc pNil))) rfl ?_
    refine k_skip rfl rfl (pSub (pApp Sel.ha (pCons Sel.hc pNil))) rfl ?_
    refine k_skip rfl rfl (pSub (pApp Sel.ha (pCons Sel.hc pNil))) rfl ?_
    refine k_skip rfl rfl (pSub (pApp Sel.ha (pCons Sel.hc pNil))) rfl ?_
    simp only [Option.some.injEq, Prod.mk.injEq] at h
    obtain rfl := h
    have h := hg91; clear hg91
    refine k_val (v := .bool false) rfl rfl rfl (pSub (pApp Sel.ha (pCons Sel.hc pNil))) (stepV_ok tt_ok rfl) rfl ?_
    simp only [Option.some.injEq, Prod.mk.injEq] at h
    obtain rfl := h
    have h := hg92; clear hg92
    refine k_val (v := .bool false) rfl rfl rfl (pSub (pApp Sel.ha (pCons Sel.hc pNil))) (stepV_ok tt_ok rfl) rfl ?_
    refine k_val rfl rfl rfl (pSub (pApp Sel.ha (pCons Sel.hc pNil))) (stepV_ok tt_ok rfl) rfl ?_
    refine k_val (v := .pointer (some ⟨p0b, 2, none⟩)) rfl rfl rfl (pSub (pApp Sel.ha (pCons Sel.hc pNil))) (stepV_ok tt_ok rfl) rfl ?_
    refine k_chg0 rfl rfl rfl (chg_store tt_ok rfl (Upd.right Upd.here) rfl rfl rfl rfl rfl rfl) (.inl rfl) ?_
    rintro _ _ rfl
    refine k_end (by kernel_rfl) ?_
    refine wx_then (wc_seq (wc_seq (wc_region ?_)))
    iterate 2 refine wl_pure tt_ok rfl rfl ?_
    refine wl_pure (v := .pointer (some ⟨p0b, 2, none⟩)) tt_ok rfl rfl ?_
    refine wl_val (v := .bool false) (val_load tt_ok rfl (mR (List.Mem.head _)) rfl) rfl ?_
    refine wl_nil (wx_then ?_)
    replace h := cf rfl h
    refine wc_cond_false rfl ?_
    refine wc_skip (wx_then (wc_seq (wc_region ?_)))
    refine wl_pure tt_ok rfl rfl ?_
    refine wl_nil (wx_then (wc_ret ?_))
    simp only [Option.some.injEq, Prod.mk.injEq] at h
    obtain ⟨rfl, rfl⟩ := h
    exact wx_spD tt_ok (.inl rfl) Try.results10 (Res.tmp rfl Res.nil) ⟨v100033a0, v100033n0, v100033c0, v100033B0, v100033N0, v100033V0, rfl, rfl⟩ (fun F => by simp) (pSub (pCons (Sel.sa Sel.hc) (pApp Sel.ha pNil)))
  replace h := cf hc h
  refine wl_skip rfl rfl ?_
  refine wl_skip rfl rfl ?_
  refine wl_skip rfl rfl ?_
  refine wl_skip rfl rfl ?_
  refine wl_skip rfl rfl ?_
  refine wl_skip rfl rfl ?_
  simp only [Option.some.injEq, Prod.mk.injEq] at h
  obtain rfl := h
  have h := hg48; clear hg48
  refine wl_run rfl ?_
  refine wl_pure (v := .bool false) tt_ok rfl rfl ?_
  simp only [Option.some.injEq, Prod.mk.injEq] at h
  obtain rfl := h
  have h := hg49; clear hg49
  refine wl_pure (v := .bool false) tt_ok rfl rfl ?_
  refine wl_pure tt_ok rfl rfl ?_
  refine wl_pure (v := .pointer (some ⟨p0b, 2, none⟩)) tt_ok rfl rfl ?_
  apply wl_store tt_ok; rfl; exact (Upd.right Upd.here); rfl; rfl; rfl; rfl; rfl; rfl
  refine wl_nil (wx_then (wc_seq (wc_seq (wc_region ?_))))
  iterate 2 refine wl_pure tt_ok rfl rfl ?_
  refine wl_val (v := .pointer (some ((adOf v100033a0).add ((IntKind.wrap .i64 (v100013_0 - (1 : Int))).toNat * 5 + 4)))) (val_fa (k := (IntKind.wrap .i64 (v100013_0 - (1 : Int))).toNat * 5 + 3) (off := 1) tt_ok rfl rfl rfl rfl rfl) rfl ?_
  refine wl_val (v := .bool v100067.other.is_) (val_le (enc := c_T_watch_entry) (xs := v100033) tt_ok rfl (Rds.of_vec v100033V0) ⟨_, Sel.ha⟩ c_T_watch_entry_len x100067 rfl) rfl ?_
  refine wl_pure (v := .bool (!v100067.other.is_)) tt_ok rfl rfl ?_
  refine wl_nil (wx_then ?_)
  refine wc_cond rfl (fun hc => ?_) (fun hc => ?_)
  · replace h := ct hc h
    refine wc_region ?_
    iterate 2 refine wl_pure tt_ok rfl rfl ?_
    refine wl_pure (v := .agg #[.int .u64 p2, .bool true]) tt_ok rfl rfl ?_
    refine wl_pure tt_ok rfl rfl ?_
    refine wl_chg0 (chg_ste (enc := c_T_watch_entry) (y' := (T_watch_entry.mk v100067.f v100067.own (T_watch_sum.mk p2 true))) tt_ok rfl rfl rfl rfl rfl rfl v100033N0 v100033V0 Sel.ha c_T_watch_entry_len x100067 rfl (by intro h; cases h)) ?_
    rintro _ _ ⟨Bs32_4, Ns32_4, Vs32_4, rfl⟩
    refine wl_nil (wx_then ?_)
    refine wc_k2 (Ls := (Bs32_4 ++ (⟨p0b, [.int .u64 p0.rows, .slice v100033a0 v100033n0 v100033c0, .bool false], p0t, (0, 0)⟩ :: []))) [34] [34] [0, 0, 2, 6, 14, 30, 62, 126, 254, 510, 1022, 2046, 4094, 8190, 16382, 32766, 65534, 131070, 262142, 524286, 1048574, 2097150, 4194302, 8388606, 524286, 17301502, 50855934, 117964798, 252182526, 536870910, 1073741822, 2147483646, 4294967295, 8589934591, 17179869183] [0, 1, 2, 3, 4, 5, 6, 7, 8, 9, 10, 11, 12, 13, 14, 15, 16, 17, 18, 19, 20, 21, 22, 23, 24, 25, 26, 27, 28, 29, 30, 31, 32, 33, 34] (by kernel_rfl) (by kernel_rfl) (by kernel_rfl) ?_
    refine k_val rfl rfl rfl (pSub (pApp Sel.ha (pCons Sel.hc pNil))) (stepV_ok tt_ok rfl) rfl ?_
    refine k_val rfl rfl rfl (pSub (pApp Sel.ha (pCons Sel.hc pNil))) (stepV_ok tt_ok rfl) rfl ?_
    refine k_val rfl rfl rfl (pSub (pApp Sel.ha (pCons Sel.hc pNil))) (stepV_ok tt_ok rfl) rfl ?_
    refine k_val (v := .pointer (some ⟨p0b, 2, none⟩)) rfl rfl rfl (pSub (pApp Sel.ha (pCons Sel.hc pNil))) (stepV_ok tt_ok rfl) rfl ?_
    refine k_val (v := .bool false) rfl rfl rfl (pSub (pApp Sel.ha (pCons Sel.hc pNil))) (val_load tt_ok rfl (mR (List.Mem.head _)) rfl) rfl ?_
    refine k_val rfl rfl rfl (pSub (pApp Sel.ha (pCons Sel.hc pNil))) (stepV_ok tt_ok rfl) rfl ?_
    replace h := bsome h; obtain ⟨v92, h, hg92⟩ := h
    replace h := cf rfl h
    refine k_val rfl rfl rfl (pSub (pApp Sel.ha (pCons Sel.hc pNil))) (stepV_ok tt_ok rfl) rfl ?_
    refine k_val rfl rfl rfl (pSub (pApp Sel.ha (pCons Sel.hc pNil))) (stepV_ok tt_ok rfl) rfl ?_
    refine k_val (v := .pointer (some ((adOf v100033a0).add ((IntKind.wrap .i64 (v100013_0 - (1 : Int))).toNat * 5 + 1)))) rfl rfl rfl (pSub (pApp Sel.ha (pCons Sel.hc pNil))) (val_fa (k := (IntKind.wrap .i64 (v100013_0 - (1 : Int))).toNat * 5 + 0) (off := 1) tt_ok rfl rfl rfl rfl rfl) rfl ?_
    refine k_val (v := .pointer (some ((adOf v100033a0).add ((IntKind.wrap .i64 (v100013_0 - (1 : Int))).toNat * 5 + 2)))) rfl rfl rfl (pSub (pApp Sel.ha (pCons Sel.hc pNil))) (val_fa (k := (IntKind.wrap .i64 (v100013_0 - (1 : Int))).toNat * 5 + 1) (off := 1) tt_ok rfl rfl rfl rfl rfl) rfl ?_
    refine k_val (v := .bool v100067.own.is_) rfl rfl rfl (pSub (pApp Sel.ha (pCons Sel.hc pNil))) (val_le (enc := c_T_watch_entry) (xs := (setI v100033 (IntKind.wrap .i64 (v100013_0 - (1 : Int))) (T_watch_entry.mk v100067.f v100067.own (T_watch_sum.mk p2 true)))) tt_ok rfl (Rds.of_vec Vs32_4) ⟨_, Sel.ha⟩ c_T_watch_entry_len (getI_set x100067) rfl) rfl ?_
    refine k_val rfl rfl rfl (pSub (pApp Sel.ha (pCons Sel.hc pNil))) (stepV_ok tt_ok rfl) rfl ?_
    replace h := bsome h; obtain ⟨v78, h, hg78⟩ := h
    refine k_split (t := 72) rfl (fun hc => ?_) (fun hc => ?_)
    · replace h := ct hc h
      refine k_val rfl rfl rfl (pSub (pApp Sel.ha (pCons Sel.hc pNil))) (stepV_ok tt_ok rfl) rfl ?_
      refine k_val rfl rfl rfl (pSub (pApp Sel.ha (pCons Sel.hc pNil))) (stepV_ok tt_ok rfl) rfl ?_
      refine k_val (v := .pointer (some ((adOf v100033a0).add ((IntKind.wrap .i64 (v100013_0 - (1 : Int))).toNat * 5 + 3)))) rfl rfl rfl (pSub (pApp Sel.ha (pCons Sel.hc pNil))) (val_fa (k := (IntKind.wrap .i64 (v100013_0 - (1 : Int))).toNat * 5 + 0) (off := 3) tt_ok rfl rfl rfl rfl rfl) rfl ?_
      refine k_val (v := .pointer (some ((adOf v100033a0).add ((IntKind.wrap .i64 (v100013_0 - (1 : Int))).toNat * 5 + 4)))) rfl rfl rfl (pSub (pApp Sel.ha (pCons Sel.hc pNil))) (val_fa (k := (IntKind.wrap .i64 (v100013_0 - (1 : Int))).toNat * 5 + 3) (off := 1) tt_ok rfl rfl rfl rfl rfl) rfl ?_
      refine k_val (v := .bool true) rfl rfl rfl (pSub (pApp Sel.ha (pCons Sel.hc pNil))) (val_le (enc := c_T_watch_entry) (xs := (setI v100033 (IntKind.wrap .i64 (v100013_0 - (1 : Int))) (T_watch_entry.mk v100067.f v100067.own (T_watch_sum.mk p2 true)))) tt_ok rfl (Rds.of_vec Vs32_4) ⟨_, Sel.ha⟩ c_T_watch_entry_len (getI_set x100067) rfl) rfl ?_
      simp only [Option.some.injEq, Prod.mk.injEq] at h
      obtain rfl := h
      have h := hg78; clear hg78
      refine k_val (v := .bool true) rfl rfl rfl (pSub (pApp Sel.ha (pCons Sel.hc pNil))) (stepV_ok tt_ok rfl) rfl ?_
      refine k_val rfl rfl rfl (pSub (pApp Sel.ha (pCons Sel.hc pNil))) (stepV_ok tt_ok rfl) rfl ?_
      replace h := bsome h; obtain ⟨v91, h, hg91⟩ := h
      replace h := ct rfl h
      refine k_val rfl rfl rfl (pSub (pApp Sel.ha (pCons Sel.hc pNil))) (stepV_ok tt_ok rfl) rfl ?_
      refine k_val rfl rfl rfl (pSub (pApp Sel.ha (pCons Sel.hc pNil))) (stepV_ok tt_ok rfl) rfl ?_
      refine k_val (v := .pointer (some ((adOf v100033a0).add ((IntKind.wrap .i64 (v100013_0 - (1 : Int))).toNat * 5 + 1)))) rfl rfl rfl (pSub (pApp Sel.ha (pCons Sel.hc pNil))) (val_fa (k := (IntKind.wrap .i64 (v100013_0 - (1 : Int))).toNat * 5 + 0) (off := 1) tt_ok rfl rfl rfl rfl rfl) rfl ?_
      refine k_val (v := .pointer (some ((adOf v100033a0).add ((IntKind.wrap .i64 (v100013_0 - (1 : Int))).toNat * 5 + 1)))) rfl rfl rfl (pSub (pApp Sel.ha (pCons Sel.hc pNil))) (val_fa (k := (IntKind.wrap .i64 (v100013_0 - (1 : Int))).toNat * 5 + 1) (off := 0) tt_ok rfl rfl rfl rfl rfl) rfl ?_
      refine k_val (v := .int .u64 v100067.own.n) rfl rfl rfl (pSub (pApp Sel.ha (pCons Sel.hc pNil))) (val_le (enc := c_T_watch_entry) (xs := (setI v100033 (IntKind.wrap .i64 (v100013_0 - (1 : Int))) (T_watch_entry.mk v100067.f v100067.own (T_watch_sum.mk p2 true)))) tt_ok rfl (Rds.of_vec Vs32_4) ⟨_, Sel.ha⟩ c_T_watch_entry_len (getI_set x100067) rfl) rfl ?_
      refine k_val rfl rfl rfl (pSub (pApp Sel.ha (pCons Sel.hc pNil))) (stepV_ok tt_ok rfl) rfl ?_
      refine k_val rfl rfl rfl (pSub (pApp Sel.ha (pCons Sel.hc pNil))) (stepV_ok tt_ok rfl) rfl ?_
      refine k_val (v := .pointer (some ((adOf v100033a0).add ((IntKind.wrap .i64 (v100013_0 - (1 : Int))).toNat * 5 + 3)))) rfl rfl rfl (pSub (pApp Sel.ha (pCons Sel.hc pNil))) (val_fa (k := (IntKind.wrap .i64 (v100013_0 - (1 : Int))).toNat * 5 + 0) (off := 3) tt_ok rfl rfl rfl rfl rfl) rfl ?_
      refine k_val (v := .pointer (some ((adOf v100033a0).add ((IntKind.wrap .i64 (v100013_0 - (1 : Int))).toNat * 5 + 3)))) rfl rfl rfl (pSub (pApp Sel.ha (pCons Sel.hc pNil))) (val_fa (k := (IntKind.wrap .i64 (v100013_0 - (1 : Int))).toNat * 5 + 3) (off := 0) tt_ok rfl rfl rfl rfl rfl) rfl ?_
      refine k_val (v := .int .u64 p2) rfl rfl rfl (pSub (pApp Sel.ha (pCons Sel.hc pNil))) (val_le (enc := c_T_watch_entry) (xs := (setI v100033 (IntKind.wrap .i64 (v100013_0 - (1 : Int))) (T_watch_entry.mk v100067.f v100067.own (T_watch_sum.mk p2 true)))) tt_ok rfl (Rds.of_vec Vs32_4) ⟨_, Sel.ha⟩ c_T_watch_entry_len (getI_set x100067) rfl) rfl ?_
      refine k_val (v := .bool (v100067.own.n != p2)) rfl rfl rfl (pSub (pApp Sel.ha (pCons Sel.hc pNil))) (stepV_ok tt_ok rfl) rfl ?_
      simp only [Option.some.injEq, Prod.mk.injEq] at h
      obtain rfl := h
      have h := hg91; clear hg91
      refine k_val (v := .bool (v100067.own.n != p2)) rfl rfl rfl (pSub (pApp Sel.ha (pCons Sel.hc pNil))) (stepV_ok tt_ok rfl) rfl ?_
      simp only [Option.some.injEq, Prod.mk.injEq] at h
      obtain rfl := h
      have h := hg92; clear hg92
      refine k_val (v := .bool (v100067.own.n != p2)) rfl rfl rfl (pSub (pApp Sel.ha (pCons Sel.hc pNil))) (stepV_ok tt_ok rfl) rfl ?_
      refine k_val rfl rfl rfl (pSub (pApp Sel.ha (pCons Sel.hc pNil))) (stepV_ok tt_ok rfl) rfl ?_
      refine k_val (v := .pointer (some ⟨p0b, 2, none⟩)) rfl rfl rfl (pSub (pApp Sel.ha (pCons Sel.hc pNil))) (stepV_ok tt_ok rfl) rfl ?_
      refine k_chg0 rfl rfl rfl (chg_store tt_ok rfl (Upd.right Upd.here) rfl rfl rfl rfl rfl rfl) (.inl rfl) ?_
      rintro _ _ rfl
      refine k_end (by kernel_rfl) ?_
      refine wx_then (wc_seq (wc_seq (wc_region ?_)))
      iterate 2 refine wl_pure tt_ok rfl rfl ?_
      refine wl_pure (v := .pointer (some ⟨p0b, 2, none⟩)) tt_ok rfl rfl ?_
      refine wl_val (v := .bool (v100067.own.n != p2)) (val_load tt_ok rfl (mR (List.Mem.head _)) rfl) rfl ?_
      refine wl_nil (wx_then ?_)
      refine wc_cond rfl (fun hc => ?_) (fun hc => ?_)
      · replace h := ct hc h
        refine wc_seq (wc_region ?_)
        refine wl_pure tt_ok rfl rfl ?_
        refine wl_nil (wx_then (wc_ret (wx_then_ret ?_)))
        simp only [Option.some.injEq, Prod.mk.injEq] at h
        obtain ⟨rfl, rfl⟩ := h
        exact wx_spD tt_ok (.inl rfl) Try.results10 (Res.tmp rfl Res.nil) ⟨v100033a0, v100033n0, v100033c0, Bs32_4, Ns32_4, Vs32_4, rfl, rfl⟩ (fun F => by simp) (pSub (pCons (Sel.sa Sel.hc) (pApp Sel.ha pNil)))
      replace h := cf hc h
      refine wc_skip (wx_then (wc_seq (wc_region ?_)))
      refine wl_pure tt_ok rfl rfl ?_
      refine wl_nil (wx_then (wc_ret ?_))
      simp only [Option.some.injEq, Prod.mk.injEq] at h
      obtain ⟨rfl, rfl⟩ := h
      exact wx_spD tt_ok (.inl rfl) Try.results10 (Res.tmp rfl Res.nil) ⟨v100033a0, v100033n0, v100033c0, Bs32_4, Ns32_4, Vs32_4, rfl, rfl⟩ (fun F => by simp) (pSub (pCons (Sel.sa Sel.hc) (pApp Sel.ha pNil)))
    replace h := cf hc h
    refine k_skip rfl rfl (pSub (pApp Sel.ha (pCons Sel.hc pNil))) rfl ?_
    refine k_skip rfl rfl (pSub (pApp Sel.ha (pCons Sel.hc pNil))) rfl ?_
    refine k_skip rfl rfl (pSub (pApp Sel.ha (pCons Sel.hc pNil))) rfl ?_
    refine k_skip rfl rfl (pSub (pApp Sel.ha (pCons Sel.hc pNil))) rfl ?_
    refine k_skip rfl rfl (pSub (pApp Sel.ha (pCons Sel.hc pNil))) rfl ?_
    simp only [Option.some.injEq, Prod.mk.injEq] at h
    obtain rfl := h
    have h := hg78; clear hg78
    refine k_val (v := .bool false) rfl rfl rfl (pSub (pApp Sel.ha (pCons Sel.hc pNil))) (stepV_ok tt_ok rfl) rfl ?_
    refine k_val rfl rfl rfl (pSub (pApp Sel.ha (pCons Sel.hc pNil))) (stepV_ok tt_ok rfl) rfl ?_
    replace h := bsome h; obtain ⟨v91, h, hg91⟩ := h
    replace h := cf rfl h
    refine k_skip rfl rfl (pSub (pApp Sel.ha (pCons Sel.hc pNil))) rfl ?_
    refine k_skip rfl rfl (pSub (pApp Sel.ha (pCons Sel.hc pNil))) rfl ?_
    refine k_skip rfl rfl (pSub (pApp Sel.ha (pCons Sel.hc pNil))) rfl ?_
    refine k_skip rfl rfl (pSub (pApp Sel.ha (pCons Sel.hc pNil))) rfl ?_
    refine k_skip rfl rfl (pSub (pApp Sel.ha (pCons Sel.hc pNil))) rfl ?_
    refine k_skip rfl rfl (pSub (pApp Sel.ha (pCons Sel.hc pNil))) rfl ?_
    refine k_skip rfl rfl (pSub (pApp Sel.ha (pCons Sel.hc pNil))) rfl ?_
    refine k_skip rfl rfl (pSub (pApp Sel.ha (pCons Sel.hc pNil))) rfl ?_
    refine k_skip rfl rfl (pSub (pApp Sel.ha (pCons Sel.hc pNil))) rfl ?_
    refine k_skip rfl rfl (pSub (pApp Sel.ha (pCons Sel.hc pNil))) rfl ?_
    refine k_skip rfl rfl (pSub (pApp Sel.ha (pCons Sel.hc pNil))) rfl ?_
    simp only [Option.some.injEq, Prod.mk.injEq] at h
    obtain rfl := h
    have h := hg91; clear hg91
    refine k_val (v := .bool false) rfl rfl rfl (pSub (pApp Sel.ha (pCons Sel.hc pNil))) (stepV_ok tt_ok rfl) rfl ?_
    simp only [Option.some.injEq, Prod.mk.injEq] at h
    obtain rfl := h
    have h := hg92; clear hg92
    refine k_val (v := .bool false) rfl rfl rfl (pSub (pApp Sel.ha (pCons Sel.hc pNil))) (stepV_ok tt_ok rfl) rfl ?_
    refine k_val rfl rfl rfl (pSub (pApp Sel.ha (pCons Sel.hc pNil))) (stepV_ok tt_ok rfl) rfl ?_
    refine k_val (v := .pointer (some ⟨p0b, 2, none⟩)) rfl rfl rfl (pSub (pApp Sel.ha (pCons Sel.hc pNil))) (stepV_ok tt_ok rfl) rfl ?_
    refine k_chg0 rfl rfl rfl (chg_store tt_ok rfl (Upd.right Upd.here) rfl rfl rfl rfl rfl rfl) (.inl rfl) ?_
    rintro _ _ rfl
    refine k_end (by kernel_rfl) ?_
    refine wx_then (wc_seq (wc_seq (wc_region ?_)))
    iterate 2 refine wl_pure tt_ok rfl rfl ?_
    refine wl_pure (v := .pointer (some ⟨p0b, 2, none⟩)) tt_ok rfl rfl ?_
    refine wl_val (v := .bool false) (val_load tt_ok rfl (mR (List.Mem.head _)) rfl) rfl ?_
    refine wl_nil (wx_then ?_)
    replace h := cf rfl h
    refine wc_cond_false rfl ?_
    refine wc_skip (wx_then (wc_seq (wc_region ?_)))
    refine wl_pure tt_ok rfl rfl ?_
    refine wl_nil (wx_then (wc_ret ?_))
    simp only [Option.some.injEq, Prod.mk.injEq] at h
    obtain ⟨rfl, rfl⟩ := h
    exact wx_spD tt_ok (.inl rfl) Try.results10 (Res.tmp rfl Res.nil) ⟨v100033a0, v100033n0, v100033c0, Bs32_4, Ns32_4, Vs32_4, rfl, rfl⟩ (fun F => by simp) (pSub (pCons (Sel.sa Sel.hc) (pApp Sel.ha pNil)))
  replace h := cf hc h
  refine wc_skip (wx_then ?_)
  refine wc_k2 (Ls := (v100033B0 ++ (⟨p0b, [.int .u64 p0.rows, .slice v100033a0 v100033n0 v100033c0, .bool false], p0t, (0, 0)⟩ :: []))) [34] [34] [0, 0, 2, 6, 14, 30, 62, 126, 254, 510, 1022, 2046, 4094, 8190, 16382, 32766, 65534, 131070, 262142, 524286, 1048574, 2097150, 4194302, 8388606, 524286, 17301502, 50855934, 117964798, 252182526, 536870910, 1073741822, 2147483646, 4294967295, 8589934591, 17179869183] [0, 1, 2, 3, 4, 5, 6, 7, 8, 9, 10, 11, 12, 13, 14, 15, 16, 17, 18, 19, 20, 21, 22, 23, 24, 25, 26, 27, 28, 29, 30, 31, 32, 33, 34] (by kernel_rfl) (by kernel_rfl) (by kernel_rfl) ?_
  refine k_val rfl rfl rfl (pSub (pApp Sel.ha (pCons Sel.hc pNil))) (stepV_ok tt_ok rfl) rfl ?_
  refine k_val rfl rfl rfl (pSub (pApp Sel.ha (pCons Sel.hc pNil))) (stepV_ok tt_ok rfl) rfl ?_
  refine k_val rfl rfl rfl (pSub (pApp Sel.ha (pCons Sel.hc pNil))) (stepV_ok tt_ok rfl) rfl ?_
  refine k_val (v := .pointer (some ⟨p0b, 2, none⟩)) rfl rfl rfl (pSub (pApp Sel.ha (pCons Sel.hc pNil))) (stepV_ok tt_ok rfl) rfl ?_
  refine k_val (v := .bool false) rfl rfl rfl (pSub (pApp Sel.ha (pCons Sel.hc pNil))) (val_load tt_ok rfl (mR (List.Mem.head _)) rfl) rfl ?_
  refine k_val rfl rfl rfl (pSub (pApp Sel.ha (pCons Sel.hc pNil))) (stepV_ok tt_ok rfl) rfl ?_
  replace h := bsome h; obtain ⟨v92, h, hg92⟩ := h
  replace h := cf rfl h
  refine k_val rfl rfl rfl (pSub (pApp Sel.ha (pCons Sel.hc pNil))) (stepV_ok tt_ok rfl) rfl ?_
  refine k_val rfl rfl rfl (pSub (pApp Sel.ha (pCons Sel.hc pNil))) (stepV_ok tt_ok rfl) rfl ?_
  refine k_val (v := .pointer (some ((adOf v100033a0).add ((IntKind.wrap .i64 (v100013_0 - (1 : Int))).toNat * 5 + 1)))) rfl rfl rfl (pSub (pApp Sel.ha (pCons Sel.hc pNil))) (val_fa (k := (IntKind.wrap .i64 (v100013_0 - (1 : Int))).toNat * 5 + 0) (off := 1) tt_ok rfl rfl rfl rfl rfl) rfl ?_
  refine k_val (v := .pointer (some ((adOf v100033a0).add ((IntKind.wrap .i64 (v100013_0 - (1 : Int))).toNat * 5 + 2)))) rfl rfl rfl (pSub (pApp Sel.ha (pCons Sel.hc pNil))) (val_fa (k := (IntKind.wrap .i64 (v100013_0 - (1 : Int))).toNat * 5 + 1) (off := 1) tt_ok rfl rfl rfl rfl rfl) rfl ?_
  refine k_val (v := .bool v100067.own.is_) rfl rfl rfl (pSub (pApp Sel.ha (pCons Sel.hc pNil))) (val_le (enc := c_T_watch_entry) (xs := v100033) tt_ok rfl (Rds.of_vec v100033V0) ⟨_, Sel.ha⟩ c_T_watch_entry_len x100067 rfl) rfl ?_
  refine k_val rfl rfl rfl (pSub (pApp Sel.ha (pCons Sel.hc pNil))) (stepV_ok tt_ok rfl) rfl ?_
  replace h := bsome h; obtain ⟨v78, h, hg78⟩ := h
  refine k_split (t := 72) rfl (fun hc => ?_) (fun hc => ?_)
  · replace h := ct hc h
    refine k_val rfl rfl rfl (pSub (pApp Sel.ha (pCons Sel.hc pNil))) (stepV_ok tt_ok rfl) rfl ?_
    refine k_val rfl rfl rfl (pSub (pApp Sel.ha (pCons Sel.hc pNil))) (stepV_ok tt_ok rfl) rfl ?_
    refine k_val (v := .pointer (some ((adOf v100033a0).add ((IntKind.wrap .i64 (v100013_0 - (1 : Int))).toNat * 5 + 3)))) rfl rfl rfl (pSub (pApp Sel.ha (pCons Sel.hc pNil))) (val_fa (k := (IntKind.wrap .i64 (v100013_0 - (1 : Int))).toNat * 5 + 0) (off := 3) tt_ok rfl rfl rfl rfl rfl) rfl ?_
    refine k_val (v := .pointer (some ((adOf v100033a0).add ((IntKind.wrap .i64 (v100013_0 - (1 : Int))).toNat * 5 + 4)))) rfl rfl rfl (pSub (pApp Sel.ha (pCons Sel.hc pNil))) (val_fa (k := (IntKind.wrap .i64 (v100013_0 - (1 : Int))).toNat * 5 + 3) (off := 1) tt_ok rfl rfl rfl rfl rfl) rfl ?_
    refine k_val (v := .bool v100067.other.is_) rfl rfl rfl (pSub (pApp Sel.ha (pCons Sel.hc pNil))) (val_le (enc := c_T_watch_entry) (xs := v100033) tt_ok rfl (Rds.of_vec v100033V0) ⟨_, Sel.ha⟩ c_T_watch_entry_len x100067 rfl) rfl ?_
    simp only [Option.some.injEq, Prod.mk.injEq] at h
    obtain rfl := h
    have h := hg78; clear hg78
    refine k_val (v := .bool v100067.other.is_) rfl rfl rfl (pSub (pApp Sel.ha (pCons Sel.hc pNil))) (stepV_ok tt_ok rfl) rfl ?_
    refine k_val rfl rfl rfl (pSub (pApp Sel.ha (pCons Sel.hc pNil))) (stepV_ok tt_ok rfl) rfl ?_
    replace h := bsome h; obtain ⟨v91, h, hg91⟩ := h
    refine k_split (t := 79) rfl (fun hc => ?_) (fun hc => ?_)
    · replace h := ct hc h
      refine k_val rfl rfl rfl (pSub (pApp Sel.ha (pCons Sel.hc pNil))) (stepV_ok tt_ok rfl) rfl ?_
      refine k_val rfl rfl rfl (pSub (pApp Sel.ha (pCons Sel.hc pNil))) (stepV_ok tt_ok rfl) rfl ?_
      refine k_val (v := .pointer (some ((adOf v100033a0).add ((IntKind.wrap .i64 (v100013_0 - (1 : Int))).toNat * 5 + 1)))) rfl rfl rfl (pSub (pApp Sel.ha (pCons Sel.hc pNil))) (val_fa (k := (IntKind.wrap .i64 (v100013_0 - (1 : Int))).toNat * 5 + 0) (off := 1) tt_ok rfl rfl rfl rfl rfl) rfl ?_
      refine k_val (v := .pointer (some ((adOf v100033a0).add ((IntKind.wrap .i64 (v100013_0 - (1 : Int))).toNat * 5 + 1)))) rfl rfl rfl (pSub (pApp Sel.ha (pCons Sel.hc pNil))) (val_fa (k := (IntKind.wrap .i64 (v100013_0 - (1 : Int))).toNat * 5 + 1) (off := 0) tt_ok rfl rfl rfl rfl rfl) rfl ?_
      refine k_val (v := .int .u64 v100067.own.n) rfl rfl rfl (pSub (pApp Sel.ha (pCons Sel.hc pNil))) (val_le (enc := c_T_watch_entry) (xs := v100033) tt_ok rfl (Rds.of_vec v100033V0) ⟨_, Sel.ha⟩ c_T_watch_entry_len x100067 rfl) rfl ?_
      refine k_val rfl rfl rfl (pSub (pApp Sel.ha (pCons Sel.hc pNil))) (stepV_ok tt_ok rfl) rfl ?_
      refine k_val rfl rfl rfl (pSub (pApp Sel.ha (pCons Sel.hc pNil))) (stepV_ok tt_ok rfl) rfl ?_
      refine k_val (v := .pointer (some ((adOf v100033a0).add ((IntKind.wrap .i64 (v100013_0 - (1 : Int))).toNat * 5 + 3)))) rfl rfl rfl (pSub (pApp Sel.ha (pCons Sel.hc pNil))) (val_fa (k := (IntKind.wrap .i64 (v100013_0 - (1 : Int))).toNat * 5 + 0) (off := 3) tt_ok rfl rfl rfl rfl rfl) rfl ?_
      refine k_val (v := .pointer (some ((adOf v100033a0).add ((IntKind.wrap .i64 (v100013_0 - (1 : Int))).toNat * 5 + 3)))) rfl rfl rfl (pSub (pApp Sel.ha (pCons Sel.hc pNil))) (val_fa (k := (IntKind.wrap .i64 (v100013_0 - (1 : Int))).toNat * 5 + 3) (off := 0) tt_ok rfl rfl rfl rfl rfl) rfl ?_
      refine k_val (v := .int .u64 v100067.other.n) rfl rfl rfl (pSub (pApp Sel.ha (pCons Sel.hc pNil))) (val_le (enc := c_T_watch_entry) (xs := v100033) tt_ok rfl (Rds.of_vec v100033V0) ⟨_, Sel.ha⟩ c_T_watch_entry_len x100067 rfl) rfl ?_
      refine k_val (v := .bool (v100067.own.n != v100067.other.n)) rfl rfl rfl (pSub (pApp Sel.ha (pCons Sel.hc pNil))) (stepV_ok tt_ok rfl) rfl ?_
      simp only [Option.some.injEq, Prod.mk.injEq] at h
      obtain rfl := h
      have h := hg91; clear hg91
      refine k_val (v := .bool (v100067.own.n != v100067.other.n)) rfl rfl rfl (pSub (pApp Sel.ha (pCons Sel.hc pNil))) (stepV_ok tt_ok rfl) rfl ?_
      simp only [Option.some.injEq, Prod.mk.injEq] at h
      obtain rfl := h
      have h := hg92; clear hg92
      refine k_val (v := .bool (v100067.own.n != v100067.other.n)) rfl rfl rfl (pSub (pApp Sel.ha (pCons Sel.hc pNil))) (stepV_ok tt_ok rfl) rfl ?_
      refine k_val rfl rfl rfl (pSub (pApp Sel.ha (pCons Sel.hc pNil))) (stepV_ok tt_ok rfl) rfl ?_
      refine k_val (v := .pointer (some ⟨p0b, 2, none⟩)) rfl rfl rfl (pSub (pApp Sel.ha (pCons Sel.hc pNil))) (stepV_ok tt_ok rfl) rfl ?_
      refine k_chg0 rfl rfl rfl (chg_store tt_ok rfl (Upd.right Upd.here) rfl rfl rfl rfl rfl rfl) (.inl rfl) ?_
      rintro _ _ rfl
      refine k_end (by kernel_rfl) ?_
      refine wx_then (wc_seq (wc_seq (wc_region ?_)))
      iterate 2 refine wl_pure tt_ok rfl rfl ?_
      refine wl_pure (v := .pointer (some ⟨p0b, 2, none⟩)) tt_ok rfl rfl ?_
      refine wl_val (v := .bool (v100067.own.n != v100067.other.n)) (val_load tt_ok rfl (mR (List.Mem.head _)) rfl) rfl ?_
      refine wl_nil (wx_then ?_)
      refine wc_cond rfl (fun hc => ?_) (fun hc => ?_)
      · replace h := ct hc h
        refine wc_seq (wc_region ?_)
        refine wl_pure tt_ok rfl rfl ?_
        refine wl_nil (wx_then (wc_ret (wx_then_ret ?_)))
        simp only [Option.some.injEq, Prod.mk.injEq] at h
        obtain ⟨rfl, rfl⟩ := h
        exact wx_spD tt_ok (.inl rfl) Try.results10 (Res.tmp rfl Res.nil) ⟨v100033a0, v100033n0, v100033c0, v100033B0, v100033N0, v100033V0, rfl, rfl⟩ (fun F => by simp) (pSub (pCons (Sel.sa Sel.hc) (pApp Sel.ha pNil)))
      replace h := cf hc h
      refine wc_skip (wx_then (wc_seq (wc_region ?_)))
      refine wl_pure tt_ok rfl rfl ?_
      refine wl_nil (wx_then (wc_ret ?_))
      simp only [Option.some.injEq, Prod.mk.injEq] at h
      obtain ⟨rfl, rfl⟩ := h
      exact wx_spD tt_ok (.inl rfl) Try.results10 (Res.tmp rfl Res.nil) ⟨v100033a0, v100033n0, v100033c0, v100033B0, v100033N0, v100033V0, rfl, rfl⟩ (fun F => by simp) (pSub (pCons (Sel.sa Sel.hc) (pApp Sel.ha pNil)))
    replace h := cf hc h
    refine k_skip rfl rfl (pSub (pApp Sel.ha (pCons Sel.hc pNil))) rfl ?_
    refine k_skip rfl rfl (pSub (pApp Sel.ha (pCons Sel.hc pNil))) rfl ?_
    refine k_skip rfl rfl (pSub (pApp Sel.ha (pCons Sel.hc pNil))) rfl ?_
    refine k_skip rfl rfl (pSub (pApp Sel.ha (pCons Sel.hc pNil))) rfl ?_
    refine k_skip rfl rfl (pSub (pApp Sel.ha (pCons Sel.hc pNil))) rfl ?_
    refine k_skip rfl rfl (pSub (pApp Sel.ha (pCons Sel.hc pNil))) rfl ?_
    refine k_skip rfl rfl (pSub (pApp Sel.ha (pCons Sel.hc pNil))) rfl ?_
    refine k_skip rfl rfl (pSub (pApp Sel.ha (pCons Sel.hc pNil))) rfl ?_
    refine k_skip rfl rfl (pSub (pApp Sel.ha (pCons Sel.hc pNil))) rfl ?_
    refine k_skip rfl rfl (pSub (pApp Sel.ha (pCons Sel.hc pNil))) rfl ?_
    refine k_skip rfl rfl (pSub (pApp Sel.ha (pCons Sel.hc pNil))) rfl ?_
    simp only [Option.some.injEq, Prod.mk.injEq] at h
    obtain rfl := h
    have h := hg91; clear hg91
    refine k_val (v := .bool false) rfl rfl rfl (pSub (pApp Sel.ha (pCons Sel.hc pNil))) (stepV_ok tt_ok rfl) rfl ?_
    simp only [Option.some.injEq, Prod.mk.injEq] at h
    obtain rfl := h
    have h := hg92; clear hg92
    refine k_val (v := .bool false) rfl rfl rfl (pSub (pApp Sel.ha (pCons Sel.hc pNil))) (stepV_ok tt_ok rfl) rfl ?_
    refine k_val rfl rfl rfl (pSub (pApp Sel.ha (pCons Sel.hc pNil))) (stepV_ok tt_ok rfl) rfl ?_
    refine k_val (v := .pointer (some ⟨p0b, 2, none⟩)) rfl rfl rfl (pSub (pApp Sel.ha (pCons Sel.hc pNil))) (stepV_ok tt_ok rfl) rfl ?_
    refine k_chg0 rfl rfl rfl (chg_store tt_ok rfl (Upd.right Upd.here) rfl rfl rfl rfl rfl rfl) (.inl rfl) ?_
    rintro _ _ rfl
    refine k_end (by kernel_rfl) ?_
    refine wx_then (wc_seq (wc_seq (wc_region ?_)))
    iterate 2 refine wl_pure tt_ok rfl rfl ?_
    refine wl_pure (v := .pointer (some ⟨p0b, 2, none⟩)) tt_ok rfl rfl ?_
    refine wl_val (v := .bool false) (val_load tt_ok rfl (mR (List.Mem.head _)) rfl) rfl ?_
    refine wl_nil (wx_then ?_)
    replace h := cf rfl h
    refine wc_cond_false rfl ?_
    refine wc_skip (wx_then (wc_seq (wc_region ?_)))
    refine wl_pure tt_ok rfl rfl ?_
    refine wl_nil (wx_then (wc_ret ?_))
    simp only [Option.some.injEq, Prod.mk.injEq] at h
    obtain ⟨rfl, rfl⟩ := h
    exact wx_spD tt_ok (.inl rfl) Try.results10 (Res.tmp rfl Res.nil) ⟨v100033a0, v100033n0, v100033c0, v100033B0, v100033N0, v100033V0, rfl, rfl⟩ (fun F => by simp) (pSub (pCons (Sel.sa Sel.hc) (pApp Sel.ha pNil)))
  replace h := cf hc h
  refine k_skip rfl rfl (pSub (pApp Sel.ha (pCons Sel.hc pNil))) rfl ?_
  refine k_skip rfl rfl (pSub (pApp Sel.ha (pCons Sel.hc pNil))) rfl ?_
  refine k_skip rfl rfl (pSub (pApp Sel.ha (pCons Sel.hc pNil))) rfl ?_
  refine k_skip rfl rfl (pSub (pApp Sel.ha (pCons Sel.hc pNil))) rfl ?_
  refine k_skip rfl rfl (pSub (pApp Sel.ha (pCons Sel.hc pNil))) rfl ?_
  simp only [Option.some.injEq, Prod.mk.injEq] at h
  obtain rfl := h
  have h := hg78; clear hg78
  refine k_val (v := .bool false) rfl rfl rfl (pSub (pApp Sel.ha (pCons Sel.hc pNil))) (stepV_ok tt_ok rfl) rfl ?_
  refine k_val rfl rfl rfl (pSub (pApp Sel.ha (pCons Sel.hc pNil))) (stepV_ok tt_ok rfl) rfl ?_
  replace h := bsome h; obtain ⟨v91, h, hg91⟩ := h
  replace h := cf rfl h
  refine k_skip rfl rfl (pSub (pApp Sel.ha (pCons Sel.hc pNil))) rfl ?_
  refine k_skip rfl rfl (pSub (pApp Sel.ha (pCons Sel.hc pNil))) rfl ?_
  refine k_skip rfl rfl (pSub (pApp Sel.ha (pCons Sel.hc pNil))) rfl ?_
  refine k_skip rfl rfl (pSub (pApp Sel.ha (pCons Sel.hc pNil))) rfl ?_
  refine k_skip rfl rfl (pSub (pApp Sel.ha (pCons Sel.hc pNil))) rfl ?_
  refine k_skip rfl rfl (pSub (pApp Sel.ha (pCons Sel.hc pNil))) rfl ?_
  refine k_skip rfl rfl (pSub (pApp Sel.ha (pCons Sel.hc pNil))) rfl ?_
  refine k_skip rfl rfl (pSub (pApp Sel.ha (pCons Sel.hc pNil))) rfl ?_
  refine k_skip rfl rfl (pSub (pApp Sel.ha (pCons Sel.hc pNil))) rfl ?_
  refine k_skip rfl rfl (pSub (pApp Sel.ha (pCons Sel.hc pNil))) rfl ?_
  refine k_skip rfl rfl (pSub (pApp Sel.ha (pCons Sel.hc pNil))) rfl ?_
  simp only [Option.some.injEq, Prod.mk.injEq] at h
  obtain rfl := h
  have h := hg91; clear hg91
  refine k_val (v := .bool false) rfl rfl rfl (pSub (pApp Sel.ha (pCons Sel.hc pNil))) (stepV_ok tt_ok rfl) rfl ?_
  simp only [Option.some.injEq, Prod.mk.injEq] at h
  obtain rfl := h
  have h := hg92; clear hg92
  refine k_val (v := .bool false) rfl rfl rfl (pSub (pApp Sel.ha (pCons Sel.hc pNil))) (stepV_ok tt_ok rfl) rfl ?_
  refine k_val rfl rfl rfl (pSub (pApp Sel.ha (pCons Sel.hc pNil))) (stepV_ok tt_ok rfl) rfl ?_
  refine k_val (v := .pointer (some ⟨p0b, 2, none⟩)) rfl rfl rfl (pSub (pApp Sel.ha (pCons Sel.hc pNil))) (stepV_ok tt_ok rfl) rfl ?_
  refine k_chg0 rfl rfl rfl (chg_store tt_ok rfl (Upd.right Upd.here) rfl rfl rfl rfl rfl rfl) (.inl rfl) ?_
  rintro _ _ rfl
  refine k_end (by kernel_rfl) ?_
  refine wx_then (wc_seq (wc_seq (wc_region ?_)))
  iterate 2 refine wl_pure tt_ok rfl rfl ?_
  refine wl_pure (v := .pointer (some ⟨p0b, 2, none⟩)) tt_ok rfl rfl ?_
  refine wl_val (v := .bool false) (val_load tt_ok rfl (mR (List.Mem.head _)) rfl) rfl ?_
  refine wl_nil (wx_then ?_)
  replace h := cf rfl h
  refine wc_cond_false rfl ?_
  refine wc_skip (wx_then (wc_seq (wc_region ?_)))
  refine wl_pure tt_ok rfl rfl ?_
  refine wl_nil (wx_then (wc_ret ?_))
  simp only [Option.some.injEq, Prod.mk.injEq] at h
  obtain ⟨rfl, rfl⟩ := h
  exact wx_spD tt_ok (.inl rfl) Try.results10 (Res.tmp rfl Res.nil) ⟨v100033a0, v100033n0, v100033c0, v100033B0, v100033N0, v100033V0, rfl, rfl⟩ (fun F => by simp) (pSub (pCons (Sel.sa Sel.hc) (pApp Sel.ha pNil)))

end Go.Proofs.Ythlnellnlhkphaa
