/-
  Each function computes what its model says. Printed by a program of this claim's own.
-/
import Derived.Test.YthlnellnlhkphaaDoorTab
import Derived.Test.YthlnellnlhkphaaDoorMod
import Derived.Test.YthlnellnlhkphaaDoorIns
namespace Go.Proofs.YthlnellnlhkphaaDoor
open Go.Proofs.YthlnellnlhkphaaDoor.Eng
set_option linter.unusedVariables false
set_option linter.unusedSimpArgs false
set_option maxHeartbeats 4000000
set_option maxRecDepth 20000
set_option synthInstance.maxHeartbeats 400000
set_option synthInstance.maxSize 4000
variable {F p0b p0c0 p0n0 p0t p1b p1c0 p1c0b p1c0t p1n0 p1t p2b p2t : Nat}
variable {p0B0 : List Blk}
variable {p0a0 p1a0 : Option Addr}

theorem k_watch_New {p0 : Int} {r0 : T_watch_Watch} (h : m_watch_New F p0 = some (some r0)) :
    SpD Tryd.prog 6 [.int .i64 p0] [] (fun w => True) (fun v D => ∃ r0b r0a0 r0n0 r0c0 r0B0, r0n0 = r0.l.length ∧ Own 73 5 r0a0 r0n0 r0c0 (flat c_T_watch_entry r0.l) r0B0 ∧ v = .pointer (some ⟨r0b, 0, none⟩) ∧ D = fun F => (⟨r0b, [.int .u64 r0.rows, .slice r0a0 r0n0 r0c0, .bool r0.clashed], 56, (0, 0)⟩ :: (r0B0 ++ F))) := by
 unfold m_watch_New at h
 refine sp_of_wc Tryd.func6 rfl Tryd.ntmps6 rfl rfl (fun w0 hR => ?_)
 refine wSR (wM 1 rfl (wNT (wc_seq (wSR (wM 3 rfl ?_)))))
 obtain ⟨v8, h, hg8⟩ := bsome h
 refine wls 5 h rfl ?_ ?_ <;> clear h <;> intro h
 ·refine wM 2 rfl ?_
  simp only [Option.some.injEq, Prod.mk.injEq] at h
  obtain rfl := h
  have h := hg8; clear hg8
  refine wM 1 rfl (wNT ?_)
  replace h := ct rfl h
  refine wc_cond_true rfl ?_
  refine wSR (wM 1 rfl (wNT (wc_ret (wx_then_ret ?_))))
  first | (cases h; done) | simp at h
 refine wM 2 rfl ?_
 simp only [Option.some.injEq, Prod.mk.injEq] at h
 obtain rfl := h
 have h := hg8; clear hg8
 refine wM 1 rfl (wNT (wcc h rfl ?_ ?_)) <;> clear h <;> intro h
 ·refine wSR (wM 1 rfl (wNT (wc_ret (wx_then_ret ?_))))
  first | (cases h; done) | simp at h
 refine wc_skip (wx_then (wSR (wM 3 rfl (wl_box rfl rfl rfl (fun b12 => (wM 1 rfl (wNT (wc_ret ?_))))))))
 simp only [Option.some.injEq] at h
 obtain rfl := h
 exact wE Tryd.results6 (rs1 rfl) ⟨b12, none, 0, 0, [], rfl, Own.zero, rfl, rfl⟩ pI

theorem k_watch_New_none {p0 : Int} (h : m_watch_New F p0 = some none) :
    SpD Tryd.prog 6 [.int .i64 p0] [] (fun w => True) (fun v D => v = .pointer none ∧ D = fun F => F) := by
 unfold m_watch_New at h
 refine sp_of_wc Tryd.func6 rfl Tryd.ntmps6 rfl rfl (fun w0 hR => ?_)
 refine wSR (wM 1 rfl (wNT (wc_seq (wSR (wM 3 rfl ?_)))))
 obtain ⟨v8, h, hg8⟩ := bsome h
 refine wls 5 h rfl ?_ ?_ <;> clear h <;> intro h
 ·refine wM 2 rfl ?_
  simp only [Option.some.injEq, Prod.mk.injEq] at h
  obtain rfl := h
  have h := hg8; clear hg8
  refine wM 1 rfl (wNT ?_)
  replace h := ct rfl h
  refine wc_cond_true rfl ?_
  refine wSR (wM 1 rfl (wNT (wc_ret (wx_then_ret ?_))))
  simp only [Option.some.injEq] at h
  exact wE Tryd.results6 (rs1 rfl) ⟨rfl, rfl⟩ pI
 refine wM 2 rfl ?_
 simp only [Option.some.injEq, Prod.mk.injEq] at h
 obtain rfl := h
 have h := hg8; clear hg8
 refine wM 1 rfl (wNT (wcc h rfl ?_ ?_)) <;> clear h <;> intro h
 ·refine wSR (wM 1 rfl (wNT (wc_ret (wx_then_ret ?_))))
  simp only [Option.some.injEq] at h
  exact wE Tryd.results6 (rs1 rfl) ⟨rfl, rfl⟩ pI
 refine wc_skip (wx_then (wSR (wM 3 rfl (wl_box rfl rfl rfl (fun b12 => (wM 1 rfl (wNT (wc_ret ?_))))))))
 first | (cases h; done) | simp at h

theorem k_watch_Watch_is_nil0 {r0 : Bool} (h : m_watch_Watch_is_nil0 F = some r0) :
    Pf Tryd.prog 24 [.pointer none] (fun w => True) (.bool r0) := by
 unfold m_watch_Watch_is_nil0 at h
 refine pf_of_wc Tryd.func24 rfl Tryd.ntmps24 rfl rfl (fun w0 hR => ?_)
 refine wSR (wM 1 rfl (wNT (wSR (wM 10 rfl (wNT (wc_ret ?_))))))
 obtain rfl := sI h
 exact pE Tryd.results24 rfl

theorem k_watch_Watch_told_nil0_f3_watch_ownSide {p1 : Int} {p2 : Int} {r0 : Int} (h : m_watch_Watch_told_nil0_f3_watch_ownSide F p1 p2 = some r0) :
    Pf Tryd.prog 25 [.pointer none, .int .u64 p1, .int .u64 p2, .func (.func 26) #[] #[]] (fun w => True) (.int .i64 r0) := by
 unfold m_watch_Watch_told_nil0_f3_watch_ownSide at h
 refine pf_of_wc Tryd.func25 rfl Tryd.ntmps25 rfl rfl (fun w0 hR => ?_)
 refine wSR (wM 1 rfl (wNT (wc_seq (wc_block (wSR (wM 1 rfl ?_))))))
 obtain ⟨v13, x13, h⟩ := bsome h
 refine wl_cq Tryd.call24 rfl rfl rfl (q_pf (k_watch_Watch_is_nil0 x13) (fun _ _ => trivial)) rfl ?_
 refine wM 2 rfl (wNT (wcc h rfl ?_ ?_)) <;> clear h <;> intro h
 ·refine wSR (wM 1 rfl (wNT (wc_ret (wx_block_ret (wx_then_ret ?_)))))
  obtain rfl := sI h
  exact pE Tryd.results25 rfl
 refine wSR (wM 2 rfl ?_)
 cases h

theorem k_watch_Watch_Own_nil0 {p1 : Int} {p2 : Int} {r0 : Int} (h : m_watch_Watch_Own_nil0 F p1 p2 = some r0) :
    Pf Tryd.prog 16 [.pointer none, .int .u64 p1, .int .u64 p2] (fun w => True) (.int .i64 r0) := by
 unfold m_watch_Watch_Own_nil0 at h
 refine pf_of_wc Tryd.func16 rfl Tryd.ntmps16 rfl rfl (fun w0 hR => ?_)
 refine wSR (wM 1 rfl (wNT (wSR (wM 3 rfl ?_))))
 obtain ⟨v10, x10, h⟩ := bsome h
 refine wl_cq Tryd.call25 rfl rfl rfl (q_pf (k_watch_Watch_told_nil0_f3_watch_ownSide x10) (fun _ _ => trivial)) rfl ?_
 refine wM 1 rfl (wNT (wc_ret ?_))
 obtain rfl := sI h
 exact pE Tryd.results16 rfl

theorem k_watch_Watch_told_nil0_f3_watch_otherSide {p1 : Int} {p2 : Int} {r0 : Int} (h : m_watch_Watch_told_nil0_f3_watch_otherSide F p1 p2 = some r0) :
    Pf Tryd.prog 25 [.pointer none, .int .u64 p1, .int .u64 p2, .func (.func 27) #[] #[]] (fun w => True) (.int .i64 r0) := by
 unfold m_watch_Watch_told_nil0_f3_watch_otherSide at h
 refine pf_of_wc Tryd.func25 rfl Tryd.ntmps25 rfl rfl (fun w0 hR => ?_)
 refine wSR (wM 1 rfl (wNT (wc_seq (wc_block (wSR (wM 1 rfl ?_))))))
 obtain ⟨v13, x13, h⟩ := bsome h
 refine wl_cq Tryd.call24 rfl rfl rfl (q_pf (k_watch_Watch_is_nil0 x13) (fun _ _ => trivial)) rfl ?_
 refine wM 2 rfl (wNT (wcc h rfl ?_ ?_)) <;> clear h <;> intro h
 ·refine wSR (wM 1 rfl (wNT (wc_ret (wx_block_ret (wx_then_ret ?_)))))
  obtain rfl := sI h
  exact pE Tryd.results25 rfl
 refine wSR (wM 2 rfl ?_)
 cases h

theorem k_watch_Watch_Other_nil0 {p1 : Int} {p2 : Int} {r0 : Int} (h : m_watch_Watch_Other_nil0 F p1 p2 = some r0) :
    Pf Tryd.prog 17 [.pointer none, .int .u64 p1, .int .u64 p2] (fun w => True) (.int .i64 r0) := by
 unfold m_watch_Watch_Other_nil0 at h
 refine pf_of_wc Tryd.func17 rfl Tryd.ntmps17 rfl rfl (fun w0 hR => ?_)
 refine wSR (wM 1 rfl (wNT (wSR (wM 3 rfl ?_))))
 obtain ⟨v10, x10, h⟩ := bsome h
 refine wl_cq Tryd.call25 rfl rfl rfl (q_pf (k_watch_Watch_told_nil0_f3_watch_otherSide x10) (fun _ _ => trivial)) rfl ?_
 refine wM 1 rfl (wNT (wc_ret ?_))
 obtain rfl := sI h
 exact pE Tryd.results17 rfl

theorem k_watch_Watch_is {p0 : T_watch_Watch} {r0 : Bool} (p0N0 : p0n0 = p0.l.length) (p0V0 : Own 73 5 p0a0 p0n0 p0c0 (flat c_T_watch_entry p0.l) p0B0) (h : m_watch_Watch_is F p0 = some r0) :
    Rd2 Tryd.prog 24 [.pointer (some ⟨p0b, 0, none⟩)] (⟨p0b, [.int .u64 p0.rows, .slice p0a0 p0n0 p0c0, .bool p0.clashed], p0t, (0, 0)⟩ :: (p0B0 ++ [])) (fun w => True) (.bool r0) := by
 unfold m_watch_Watch_is at h
 refine sp_of_wc Tryd.func24 rfl Tryd.ntmps24 rfl rfl (fun w0 hR => ?_)
 refine wSR (wM 1 rfl (wNT (wSR (wM 6 rfl (wl_run rfl (wLd rfl mH rfl rfl (wM 3 rfl (wNT (wc_ret ?_)))))))))
 obtain rfl := sI h
 exact wx_rd tt_ok (.inl rfl) Tryd.results24 (rs1 rfl) pI rfl

theorem k_cmp_isNaN_uint64 {p0 : Int} {r0 : Bool} (h : m_cmp_isNaN_uint64 F p0 = some r0) :
    Pf Tryd.prog 88 [.int .u64 p0] (fun w => True) (.bool r0) := by
 unfold m_cmp_isNaN_uint64 at h
 refine pf_of_wc Tryd.func88 rfl Tryd.ntmps88 rfl rfl (fun w0 hR => ?_)
 refine wSR (wM 1 rfl (wNT (wSR (wM 4 rfl (wNT (wc_ret ?_))))))
 obtain rfl := sI h
 exact pE Tryd.results88 rfl

theorem k_cmp_Compare_uint64 {p0 : Int} {p1 : Int} {r0 : Int} (h : m_cmp_Compare_uint64 F p0 p1 = some r0) :
    Pf Tryd.prog 71 [.int .u64 p0, .int .u64 p1] (fun w => True) (.int .i64 r0) := by
 unfold m_cmp_Compare_uint64 at h
 refine pf_of_wc Tryd.func71 rfl Tryd.ntmps71 rfl rfl (fun w0 hR => ?_)
 refine wSR (wM 1 rfl (wNT (wSR (wM 1 rfl ?_))))
 obtain ⟨v8, x8, h⟩ := bsome h
 refine wl_cq Tryd.call88 rfl rfl rfl (q_pf (k_cmp_isNaN_uint64 x8) (fun _ _ => trivial)) rfl ?_
 refine wM 1 rfl (wNT (wSR (wM 1 rfl ?_)))
 obtain ⟨v10, x10, h⟩ := bsome h
 refine wl_cq Tryd.call88 rfl rfl rfl (q_pf (k_cmp_isNaN_uint64 x10) (fun _ _ => trivial)) rfl ?_
 refine wM 1 rfl (wNT (wc_seq (wSR (wM 1 rfl (wNT (wcc h rfl ?_ ?_)))))) <;> clear h <;> intro h
 ·refine wc_seq (wSR (wM 1 rfl (wNT (wcc h rfl ?_ ?_)))) <;> clear h <;> intro h
  ·refine wSR (wM 1 rfl (wNT (wc_ret (wx_then_ret (wx_then_ret ?_)))))
   obtain rfl := sI h
   exact pE Tryd.results71 rfl
  refine wc_skip (wx_then (wSR (wM 1 rfl (wNT (wc_ret (wx_then_ret ?_))))))
  obtain rfl := sI h
  exact pE Tryd.results71 rfl
 refine wc_skip (wx_then (wc_seq (wSR (wM 1 rfl (wNT (wcc h rfl ?_ ?_)))))) <;> clear h <;> intro h
 ·refine wSR (wM 1 rfl (wNT (wc_ret (wx_then_ret ?_))))
  obtain rfl := sI h
  exact pE Tryd.results71 rfl
 refine wc_skip (wx_then (wc_seq (wSR (wM 3 rfl (wNT (wcc h rfl ?_ ?_)))))) <;> clear h <;> intro h
 ·refine wSR (wM 1 rfl (wNT (wc_ret (wx_then_ret ?_))))
  obtain rfl := sI h
  exact pE Tryd.results71 rfl
 refine wc_skip (wx_then (wc_seq (wSR (wM 3 rfl (wNT (wcc h rfl ?_ ?_)))))) <;> clear h <;> intro h
 ·refine wSR (wM 1 rfl (wNT (wc_ret (wx_then_ret ?_))))
  obtain rfl := sI h
  exact pE Tryd.results71 rfl
 refine wc_skip (wx_then (wSR (wM 1 rfl (wNT (wc_ret ?_)))))
 obtain rfl := sI h
 exact pE Tryd.results71 rfl

theorem k_watch_Watch_at_1 {p0 : T_watch_entry} {p1 : Int} {r0 : Int} (h : m_watch_Watch_at_1 F p0 p1 = some r0) :
    Pf Tryd.prog 70 [.agg #[.int .u64 p0.f, .int .u64 p0.own.n, .bool p0.own.is_, .int .u64 p0.other.n, .bool p0.other.is_], .int .u64 p1] (fun w => True) (.int .i64 r0) := by
 unfold m_watch_Watch_at_1 at h
 refine pf_of_wc Tryd.func70 rfl Tryd.ntmps70 rfl rfl (fun w0 hR => ?_)
 refine wSR (wl_box rfl rfl rfl (fun b2 => (wM 1 rfl (wNT (wSR (wM 1 rfl (wLd rfl mH rfl rfl (wM 1 rfl ?_))))))))
 obtain ⟨v8, x8, h⟩ := bsome h
 refine wl_cq Tryd.call71 rfl rfl rfl (q_pf (k_cmp_Compare_uint64 x8) (fun _ _ => trivial)) rfl ?_
 refine wM 1 rfl (wNT (wc_ret ?_))
 obtain rfl := sI h
 exact pE Tryd.results70 rfl

theorem k_slices_BinarySearchFunc___watch_entry_watch_entry_uint64_f2_watch_Watch_at_1 {p0 : (List T_watch_entry)} {p1 : Int} {r0 : Int} {r1 : Bool} (p0N0 : p0n0 = p0.length) (p0H0 : p0n0 ≤ p0c0) (h : m_slices_BinarySearchFunc___watch_entry_watch_entry_uint64_f2_watch_Watch_at_1 F p0 p1 = some (r0, r1)) :
    Pf Tryd.prog 69 [.slice p0a0 p0n0 p0c0, .int .u64 p1, .func (.func 70) #[] #[]] (fun w => Rds w [] [] p0a0 (flat c_T_watch_entry p0)) (.tuple #[.int .i64 r0, .bool r1]) := by
 unfold m_slices_BinarySearchFunc___watch_entry_watch_entry_uint64_f2_watch_Watch_at_1 at h
 refine pf_of_wc Tryd.func69 rfl Tryd.ntmps69 rfl rfl (fun w0 hR => ?_)
 have p0S0 := hR
 refine wSR (wM 2 rfl (wNT (wSR (wM 1 rfl (wl_val (v := .int .i64 (p0.length : Int)) (val_len tt_ok rfl rfl p0N0) rfl (wM 1 rfl (wNT (wSR (wM 3 rfl (wNT (wc_seq (wc_block ?_))))))))))))
 obtain ⟨zc, h, hl9⟩ := bsome h
 refine wc_loop (fun m E L => ∃ zb za, m_slices_BinarySearchFunc___watch_entry_watch_entry_uint64_f2_watch_Watch_at_1_L8 F p0 p1 m zb za = some zc ∧ E = [(0, .slice p0a0 p0n0 p0c0), (1, .int .u64 p1), (2, .func (.func 70) #[] #[]), (6, .int .i64 0), (7, .bool false), (8, .int .i64 (p0.length : Int)), (9, .int .i64 zb), (10, .int .i64 za)] ∧ L = []) F ⟨(0 : Int), (p0.length : Int), h, rfl, rfl⟩ (ag8 rfl rfl rfl rfl rfl rfl rfl rfl) pI ?_
 clear h
 rintro m9 _ _ ⟨zb, za, h, rfl, rfl⟩
 rcases m9 with _ | m9
 ·rw [m_slices_BinarySearchFunc___watch_entry_watch_entry_uint64_f2_watch_Watch_at_1_L8.eq_1] at h; cases h
 rw [m_slices_BinarySearchFunc___watch_entry_watch_entry_uint64_f2_watch_Watch_at_1_L8.eq_2] at h
 refine wc_seq (wSR (wM 3 rfl (wNT (wcc h rfl ?_ ?_)))) <;> clear h <;> intro h
 ·refine wc_skip (wx_then (wc_block (wSR (wM 7 rfl (wNT (wSR (wM 3 rfl ?_)))))))
  obtain ⟨v27, x27, h⟩ := bsome h
  refine wl_val (v := .pointer (some ((adOf p0a0).add ((IntKind.wrap .i64 ((IntKind.wrap .u64 (IntKind.wrap .i64 (zb + za))) / 2 ^ (min 1 (IntKind.bits .u64)))).toNat * 5 + 0)))) (val_ix (enc := c_T_watch_entry) tt_ok rfl rfl rfl rfl p0N0 p0S0 c_T_watch_entry_len rfl x27) rfl ?_
  refine wl_val (v := .agg #[.int .u64 v27.f, .int .u64 v27.own.n, .bool v27.own.is_, .int .u64 v27.other.n, .bool v27.other.is_]) (val_le (enc := c_T_watch_entry) (xs := p0) tt_ok rfl p0S0 rsub_nil c_T_watch_entry_len x27 rfl) rfl ?_
  refine wM 1 rfl ?_
  obtain ⟨v30, x30, h⟩ := bsome h
  refine wl_cq Tryd.call70 rfl rfl rfl (q_pf (k_watch_Watch_at_1 x30) (fun _ _ => trivial)) rfl ?_
  refine wM 1 rfl (wNT (wcc h rfl ?_ ?_)) <;> clear h <;> intro h
  ·refine wc_region (wM 3 rfl (wl_nil (wx_block ?_)))
   exact wx_round m9 (Nat.lt_succ_self m9) ⟨(IntKind.wrap .i64 ((IntKind.wrap .i64 ((IntKind.wrap .u64 (IntKind.wrap .i64 (zb + za))) / 2 ^ (min 1 (IntKind.bits .u64)))) + (1 : Int))), za, h, rfl, rfl⟩ (ag8 rfl rfl rfl rfl rfl rfl rfl rfl) pI
  refine wc_region (wM 2 rfl (wl_nil (wx_block ?_)))
  exact wx_round m9 (Nat.lt_succ_self m9) ⟨zb, (IntKind.wrap .i64 ((IntKind.wrap .u64 (IntKind.wrap .i64 (zb + za))) / 2 ^ (min 1 (IntKind.bits .u64)))), h, rfl, rfl⟩ (ag8 rfl rfl rfl rfl rfl rfl rfl rfl) pI
 refine wc_exit (wx_then_exit ?_)
 obtain rfl := sI h
 have h := hl9; clear hl9; try dsimp only [orE_l, orE_r] at h
 refine wx_then_exit (wx_block_exit (wx_then (wSR ?_)))
 refine wM 5 rfl ?_
 obtain ⟨v48, h, hg48⟩ := bsome h
 refine wls 39 h rfl ?_ ?_ <;> clear h <;> intro h
 ·refine wM 3 rfl ?_
  obtain ⟨v43, x43, h⟩ := bsome h
  refine wl_run rfl (wl_val (v := .pointer (some ((adOf p0a0).add (zb.toNat * 5 + 0)))) (val_ix (enc := c_T_watch_entry) tt_ok rfl rfl rfl rfl p0N0 p0S0 c_T_watch_entry_len rfl x43) rfl (wl_run rfl (wl_val (v := .agg #[.int .u64 v43.f, .int .u64 v43.own.n, .bool v43.own.is_, .int .u64 v43.other.n, .bool v43.other.is_]) (val_le (enc := c_T_watch_entry) (xs := p0) tt_ok rfl p0S0 rsub_nil c_T_watch_entry_len x43 rfl) rfl (wM 1 rfl ?_))))
  obtain ⟨v46, x46, h⟩ := bsome h
  refine wl_run rfl (wl_cq Tryd.call70 rfl rfl rfl (q_pf (k_watch_Watch_at_1 x46) (fun _ _ => trivial)) rfl (wM 1 rfl ?_))
  obtain rfl := sI h
  have h := hg48; clear hg48
  refine wM 3 rfl (wNT (wc_ret ?_))
  obtain ⟨rfl, rfl⟩ := pJ2 h
  exact wx_pf tt_ok (.inl rfl) Tryd.results69 (rs2 rfl rfl) rfl
 refine wM 8 rfl ?_
 obtain rfl := sI h
 have h := hg48; clear hg48
 refine wM 3 rfl (wNT (wc_ret ?_))
 obtain ⟨rfl, rfl⟩ := pJ2 h
 exact wx_pf tt_ok (.inl rfl) Tryd.results69 (rs2 rfl rfl) rfl

theorem k_watch_Watch_at {p0 : T_watch_Watch} {p1 : Int} {r0 : T_watch_Watch} {r1 : Int} (p0N0 : p0n0 = p0.l.length) (p0V0 : Own 73 5 p0a0 p0n0 p0c0 (flat c_T_watch_entry p0.l) p0B0) (h : m_watch_Watch_at F p0 p1 = some (r0, (some r1))) :
    SpD Tryd.prog 44 [.pointer (some ⟨p0b, 0, none⟩), .int .u64 p1] (⟨p0b, [.int .u64 p0.rows, .slice p0a0 p0n0 p0c0, .bool p0.clashed], p0t, (0, 0)⟩ :: (p0B0 ++ [])) (fun w => True) (fun v D => ∃ r0a0 r0n0 r0c0 r0B0, r0n0 = r0.l.length ∧ Own 73 5 r0a0 r0n0 r0c0 (flat c_T_watch_entry r0.l) r0B0 ∧ v = .pointer (some ((adOf r0a0).add (r1.toNat * 5 + 0))) ∧ D = fun F => (⟨p0b, [.int .u64 r0.rows, .slice r0a0 r0n0 r0c0, .bool r0.clashed], p0t, (0, 0)⟩ :: (r0B0 ++ F))) := by
 unfold m_watch_Watch_at at h
 refine sp_of_wc Tryd.func44 rfl Tryd.ntmps44 rfl rfl (fun w0 hR => ?_)
 refine wSR (wM 1 rfl (wNT (wSR (wM 3 rfl (wLd rfl mH rfl rfl (wM 1 rfl ?_))))))
 replace h := bsome h; obtain ⟨⟨za, zb⟩, x13, h⟩ := h; try dsimp only at h
 refine wl_cq Tryd.call69 rfl rfl rfl (q_pf (k_slices_BinarySearchFunc___watch_entry_watch_entry_uint64_f2_watch_Watch_at_1 (p0 := p0.l) p0N0 (vec_cap p0V0) x13) (Rds.call (Rds.of_vec p0V0) pNil ⟨_, (sC hA')⟩)) rfl ?_
 refine wM 5 rfl (wNT (wc_seq (wc_block (wSR (wM 2 rfl (wNT (wcc h rfl ?_ ?_))))))) <;> clear h <;> intro h
 ·refine wc_skip (wx_block (wx_then (wSR (wM 3 rfl (wLd rfl mH rfl rfl (wM 1 rfl ?_))))))
  obtain ⟨v67, x67, h⟩ := bsome h
  refine wl_val (v := .pointer (some ((adOf p0a0).add (za.toNat * 5 + 0)))) (val_ix (enc := c_T_watch_entry) tt_ok rfl rfl rfl rfl p0N0 (Rds.of_vec p0V0) c_T_watch_entry_len rfl x67) rfl ?_
  refine wM 1 rfl (wNT (wc_ret ?_))
  simp only [Option.some.injEq, Prod.mk.injEq] at h
  obtain ⟨rfl, rfl⟩ := h
  exact wE Tryd.results44 (rs1 rfl) ⟨p0a0, p0n0, p0c0, p0B0, p0N0, p0V0, rfl, rfl⟩ pI
 refine wSR (wM 3 rfl (wLd rfl mH rfl rfl (wl_val (v := .int .i64 (p0.l.length : Int)) (val_len tt_ok rfl rfl p0N0) rfl (wM 2 rfl (wNT (wcc h rfl ?_ ?_)))))) <;> clear h <;> intro h
 ·refine wc_region (wM 4 rfl (wLd rfl mH rfl rfl (wM 3 rfl (wl_chg (chg_bsv (enc := c_T_watch_entry) (xs := ([(T_watch_entry.mk p1 (T_watch_sum.mk (0 : Int) false) (T_watch_sum.mk (0 : Int) false))] : List T_watch_entry)) tt_ok rfl rfl rfl rfl rfl rfl rfl rfl c_T_watch_entry_len) rfl ?_))))
  rintro _ _ ⟨a55, n55_, c55, B55, rfl, N55, V55, rfl⟩
  obtain ⟨v56, x56, h⟩ := bsome h
  refine wl_cs Tryd.call72 rfl rfl rfl (s_sp (k_slices_Insert (p0 := p0.l) (p2 := ([(T_watch_entry.mk p1 (T_watch_sum.mk (0 : Int) false) (T_watch_sum.mk (0 : Int) false))] : List T_watch_entry)) p0N0 p0V0 N55 V55 x56) pP (fun _ _ => trivial)) rfl ?_
  rintro _ _ ⟨_, ⟨v56a0, v56n0, v56c0, v56B0, v56N0, v56V0, rfl, rfl⟩, rfl⟩
  refine wM 2 rfl (lSt (Upd.right Upd.here) ?_)
  refine wl_nil (wx_block (wx_then (wSR (wM 3 rfl (wLd rfl (mR mH) rfl rfl (wM 1 rfl ?_))))))
  obtain ⟨v67, x67, h⟩ := bsome h
  refine wl_val (v := .pointer (some ((adOf v56a0).add (za.toNat * 5 + 0)))) (val_ix (enc := c_T_watch_entry) tt_ok rfl rfl rfl rfl v56N0 (Rds.of_vec v56V0) c_T_watch_entry_len rfl x67) rfl ?_
  refine wM 1 rfl (wNT (wc_ret ?_))
  simp only [Option.some.injEq, Prod.mk.injEq] at h
  obtain ⟨rfl, rfl⟩ := h
  exact wE Tryd.results44 (rs1 rfl) ⟨v56a0, v56n0, v56c0, v56B0, v56N0, v56V0, rfl, rfl⟩ pI
 refine wSR (wM 3 rfl (wNT (wcc h rfl ?_ ?_))) <;> clear h <;> intro h
 ·refine wSR (wM 1 rfl (wNT (wc_ret (wx_block_ret (wx_then_ret ?_)))))
  first | (cases h; done) | simp at h
 refine wSR (wM 4 rfl (wLd rfl mH rfl rfl (wM 3 rfl (wl_chg (chg_bsv (enc := c_T_watch_entry) (xs := ([(T_watch_entry.mk p1 (T_watch_sum.mk (0 : Int) false) (T_watch_sum.mk (0 : Int) false))] : List T_watch_entry)) tt_ok rfl rfl rfl rfl rfl rfl rfl rfl c_T_watch_entry_len) rfl ?_))))
 rintro _ _ ⟨a24, n24_, c24, B24, rfl, N24, V24, rfl⟩
 obtain ⟨v25, x25, h⟩ := bsome h
 refine wl_cs Tryd.call72 rfl rfl rfl (s_sp (k_slices_Insert (p0 := p0.l) (p2 := ([(T_watch_entry.mk p1 (T_watch_sum.mk (0 : Int) false) (T_watch_sum.mk (0 : Int) false))] : List T_watch_entry)) p0N0 p0V0 N24 V24 x25) pP (fun _ _ => trivial)) rfl ?_
 rintro _ _ ⟨_, ⟨v25a0, v25n0, v25c0, v25B0, v25N0, v25V0, rfl, rfl⟩, rfl⟩
 refine wM 2 rfl (lSt (Upd.right Upd.here) ?_)
 refine wNT (wSR (wM 4 rfl (wLd rfl (mR mH) rfl rfl ?_)))
 obtain ⟨v33, x33, h⟩ := bsome h
 refine wl_cs Tryd.call73 rfl rfl rfl (s_sp (k_slices_Delete (p0 := v25) v25N0 v25V0 x33) pP (fun _ _ => trivial)) rfl ?_
 rintro _ _ ⟨_, ⟨v33a0, v33n0, v33c0, v33B0, v33N0, v33V0, rfl, rfl⟩, rfl⟩
 refine wM 2 rfl (lSt (Upd.right Upd.here) ?_)
 refine wNT (wc_region (wM 3 rfl (wl_nil (wx_block (wx_then (wSR (wM 3 rfl (wLd rfl (mR mH) rfl rfl (wM 1 rfl ?_)))))))))
 obtain ⟨v67, x67, h⟩ := bsome h
 refine wl_val (v := .pointer (some ((adOf v33a0).add ((IntKind.wrap .i64 (za - (1 : Int))).toNat * 5 + 0)))) (val_ix (enc := c_T_watch_entry) tt_ok rfl rfl rfl rfl v33N0 (Rds.of_vec v33V0) c_T_watch_entry_len rfl x67) rfl ?_
 refine wM 1 rfl (wNT (wc_ret ?_))
 simp only [Option.some.injEq, Prod.mk.injEq] at h
 obtain ⟨rfl, rfl⟩ := h
 exact wE Tryd.results44 (rs1 rfl) ⟨v33a0, v33n0, v33c0, v33B0, v33N0, v33V0, rfl, rfl⟩ pI

theorem k_watch_Watch_at_none {p0 : T_watch_Watch} {p1 : Int} {r0 : T_watch_Watch} (p0N0 : p0n0 = p0.l.length) (p0V0 : Own 73 5 p0a0 p0n0 p0c0 (flat c_T_watch_entry p0.l) p0B0) (h : m_watch_Watch_at F p0 p1 = some (r0, none)) :
    SpD Tryd.prog 44 [.pointer (some ⟨p0b, 0, none⟩), .int .u64 p1] (⟨p0b, [.int .u64 p0.rows, .slice p0a0 p0n0 p0c0, .bool p0.clashed], p0t, (0, 0)⟩ :: (p0B0 ++ [])) (fun w => True) (fun v D => ∃ r0a0 r0n0 r0c0 r0B0, r0n0 = r0.l.length ∧ Own 73 5 r0a0 r0n0 r0c0 (flat c_T_watch_entry r0.l) r0B0 ∧ v = .pointer none ∧ D = fun F => (⟨p0b, [.int .u64 r0.rows, .slice r0a0 r0n0 r0c0, .bool r0.clashed], p0t, (0, 0)⟩ :: (r0B0 ++ F))) := by
 unfold m_watch_Watch_at at h
 refine sp_of_wc Tryd.func44 rfl Tryd.ntmps44 rfl rfl (fun w0 hR => ?_)
 refine wSR (wM 1 rfl (wNT (wSR (wM 3 rfl (wLd rfl mH rfl rfl (wM 1 rfl ?_))))))
 replace h := bsome h; obtain ⟨⟨za, zb⟩, x13, h⟩ := h; try dsimp only at h
 refine wl_cq Tryd.call69 rfl rfl rfl (q_pf (k_slices_BinarySearchFunc___watch_entry_watch_entry_uint64_f2_watch_Watch_at_1 (p0 := p0.l) p0N0 (vec_cap p0V0) x13) (Rds.call (Rds.of_vec p0V0) pNil ⟨_, (sC hA')⟩)) rfl ?_
 refine wM 5 rfl (wNT (wc_seq (wc_block (wSR (wM 2 rfl (wNT (wcc h rfl ?_ ?_))))))) <;> clear h <;> intro h
 ·refine wc_skip (wx_block (wx_then (wSR (wM 3 rfl (wLd rfl mH rfl rfl (wM 1 rfl ?_))))))
  obtain ⟨v67, x67, h⟩ := bsome h
  refine wl_val (v := .pointer (some ((adOf p0a0).add (za.toNat * 5 + 0)))) (val_ix (enc := c_T_watch_entry) tt_ok rfl rfl rfl rfl p0N0 (Rds.of_vec p0V0) c_T_watch_entry_len rfl x67) rfl ?_
  refine wM 1 rfl (wNT (wc_ret ?_))
  first | (cases h; done) | simp at h
 refine wSR (wM 3 rfl (wLd rfl mH rfl rfl (wl_val (v := .int .i64 (p0.l.length : Int)) (val_len tt_ok rfl rfl p0N0) rfl (wM 2 rfl (wNT (wcc h rfl ?_ ?_)))))) <;> clear h <;> intro h
 ·refine wc_region (wM 4 rfl (wLd rfl mH rfl rfl (wM 3 rfl (wl_chg (chg_bsv (enc := c_T_watch_entry) (xs := ([(T_watch_entry.mk p1 (T_watch_sum.mk (0 : Int) false) (T_watch_sum.mk (0 : Int) false))] : List T_watch_entry)) tt_ok rfl rfl rfl rfl rfl rfl rfl rfl c_T_watch_entry_len) rfl ?_))))
  rintro _ _ ⟨a55, n55_, c55, B55, rfl, N55, V55, rfl⟩
  obtain ⟨v56, x56, h⟩ := bsome h
  refine wl_cs Tryd.call72 rfl rfl rfl (s_sp (k_slices_Insert (p0 := p0.l) (p2 := ([(T_watch_entry.mk p1 (T_watch_sum.mk (0 : Int) false) (T_watch_sum.mk (0 : Int) false))] : List T_watch_entry)) p0N0 p0V0 N55 V55 x56) pP (fun _ _ => trivial)) rfl ?_
  rintro _ _ ⟨_, ⟨v56a0, v56n0, v56c0, v56B0, v56N0, v56V0, rfl, rfl⟩, rfl⟩
  refine wM 2 rfl (lSt (Upd.right Upd.here) ?_)
  refine wl_nil (wx_block (wx_then (wSR (wM 3 rfl (wLd rfl (mR mH) rfl rfl (wM 1 rfl ?_))))))
  obtain ⟨v67, x67, h⟩ := bsome h
  refine wl_val (v := .pointer (some ((adOf v56a0).add (za.toNat * 5 + 0)))) (val_ix (enc := c_T_watch_entry) tt_ok rfl rfl rfl rfl v56N0 (Rds.of_vec v56V0) c_T_watch_entry_len rfl x67) rfl ?_
  refine wM 1 rfl (wNT (wc_ret ?_))
  first | (cases h; done) | simp at h
 refine wSR (wM 3 rfl (wNT (wcc h rfl ?_ ?_))) <;> clear h <;> intro h
 ·refine wSR (wM 1 rfl (wNT (wc_ret (wx_block_ret (wx_then_ret ?_)))))
  simp only [Option.some.injEq, Prod.mk.injEq] at h
  obtain ⟨rfl, _⟩ := h
  exact wE Tryd.results44 (rs1 rfl) ⟨p0a0, p0n0, p0c0, p0B0, p0N0, p0V0, rfl, rfl⟩ pI
 refine wSR (wM 4 rfl (wLd rfl mH rfl rfl (wM 3 rfl (wl_chg (chg_bsv (enc := c_T_watch_entry) (xs := ([(T_watch_entry.mk p1 (T_watch_sum.mk (0 : Int) false) (T_watch_sum.mk (0 : Int) false))] : List T_watch_entry)) tt_ok rfl rfl rfl rfl rfl rfl rfl rfl c_T_watch_entry_len) rfl ?_))))
 rintro _ _ ⟨a24, n24_, c24, B24, rfl, N24, V24, rfl⟩
 obtain ⟨v25, x25, h⟩ := bsome h
 refine wl_cs Tryd.call72 rfl rfl rfl (s_sp (k_slices_Insert (p0 := p0.l) (p2 := ([(T_watch_entry.mk p1 (T_watch_sum.mk (0 : Int) false) (T_watch_sum.mk (0 : Int) false))] : List T_watch_entry)) p0N0 p0V0 N24 V24 x25) pP (fun _ _ => trivial)) rfl ?_
 rintro _ _ ⟨_, ⟨v25a0, v25n0, v25c0, v25B0, v25N0, v25V0, rfl, rfl⟩, rfl⟩
 refine wM 2 rfl (lSt (Upd.right Upd.here) ?_)
 refine wNT (wSR (wM 4 rfl (wLd rfl (mR mH) rfl rfl ?_)))
 obtain ⟨v33, x33, h⟩ := bsome h
 refine wl_cs Tryd.call73 rfl rfl rfl (s_sp (k_slices_Delete (p0 := v25) v25N0 v25V0 x33) pP (fun _ _ => trivial)) rfl ?_
 rintro _ _ ⟨_, ⟨v33a0, v33n0, v33c0, v33B0, v33N0, v33V0, rfl, rfl⟩, rfl⟩
 refine wM 2 rfl (lSt (Upd.right Upd.here) ?_)
 refine wNT (wc_region (wM 3 rfl (wl_nil (wx_block (wx_then (wSR (wM 3 rfl (wLd rfl (mR mH) rfl rfl (wM 1 rfl ?_)))))))))
 obtain ⟨v67, x67, h⟩ := bsome h
 refine wl_val (v := .pointer (some ((adOf v33a0).add ((IntKind.wrap .i64 (za - (1 : Int))).toNat * 5 + 0)))) (val_ix (enc := c_T_watch_entry) tt_ok rfl rfl rfl rfl v33N0 (Rds.of_vec v33V0) c_T_watch_entry_len rfl x67) rfl ?_
 refine wM 1 rfl (wNT (wc_ret ?_))
 first | (cases h; done) | simp at h

theorem k_watch_Watch_told_f3_watch_ownSide {p0 : T_watch_Watch} {p1 : Int} {p2 : Int} {r0 : T_watch_Watch} {r1 : Int} (p0N0 : p0n0 = p0.l.length) (p0V0 : Own 73 5 p0a0 p0n0 p0c0 (flat c_T_watch_entry p0.l) p0B0) (h : m_watch_Watch_told_f3_watch_ownSide F p0 p1 p2 = some (r0, r1)) :
    SpD Tryd.prog 25 [.pointer (some ⟨p0b, 0, none⟩), .int .u64 p1, .int .u64 p2, .func (.func 26) #[] #[]] (⟨p0b, [.int .u64 p0.rows, .slice p0a0 p0n0 p0c0, .bool p0.clashed], p0t, (0, 0)⟩ :: (p0B0 ++ [])) (fun w => True) (fun v D => ∃ r0a0 r0n0 r0c0 r0B0, r0n0 = r0.l.length ∧ Own 73 5 r0a0 r0n0 r0c0 (flat c_T_watch_entry r0.l) r0B0 ∧ v = .int .i64 r1 ∧ D = fun F => (⟨p0b, [.int .u64 r0.rows, .slice r0a0 r0n0 r0c0, .bool r0.clashed], p0t, (0, 0)⟩ :: (r0B0 ++ F))) := by
 unfold m_watch_Watch_told_f3_watch_ownSide at h
 refine sp_of_wc Tryd.func25 rfl Tryd.ntmps25 rfl rfl (fun w0 hR => ?_)
 refine wSR (wM 1 rfl (wNT (wc_seq (wc_block (wSR (wM 1 rfl ?_))))))
 obtain ⟨v13, x13, h⟩ := bsome h
 refine wl_cq Tryd.call24 rfl rfl rfl (q_rd (k_watch_Watch_is (p0 := p0) (p0t := p0t) p0N0 p0V0 x13) pP (fun _ _ => trivial)) rfl ?_
 refine wM 2 rfl (wNT (wcc h rfl ?_ ?_)) <;> clear h <;> intro h
 ·refine wSR (wM 1 rfl (wNT (wc_ret (wx_block_ret (wx_then_ret ?_)))))
  obtain ⟨rfl, rfl⟩ := pJ2 h
  exact wE Tryd.results25 (rs1 rfl) ⟨p0a0, p0n0, p0c0, p0B0, p0N0, p0V0, rfl, rfl⟩ pI
 refine wSR (wM 4 rfl (wLd rfl mH rfl rfl ?_))
 obtain ⟨v21, x21, h⟩ := bsome h
 refine wl_val (v := .int .u64 v21) (val_rem rfl rfl x21) rfl ?_
 refine wM 2 rfl (wNT (wcc h rfl ?_ ?_)) <;> clear h <;> intro h
 ·refine wSR (wM 1 rfl (wNT (wc_ret (wx_block_ret (wx_then_ret ?_)))))
  obtain ⟨rfl, rfl⟩ := pJ2 h
  exact wE Tryd.results25 (rs1 rfl) ⟨p0a0, p0n0, p0c0, p0B0, p0N0, p0V0, rfl, rfl⟩ pI
 refine wc_skip (wx_block (wx_then (wc_seq (wSR (wM 2 rfl ?_)))))
 replace h := bsome h; obtain ⟨⟨za, v25⟩, x25, h⟩ := h; try dsimp only at h
 rcases v25 with _ | v25s
 ·replace h := poN h
  refine wl_cs Tryd.call44 rfl rfl rfl (s_sp (k_watch_Watch_at_none (p0 := p0) (p0t := p0t) p0N0 p0V0 x25) pP (fun _ _ => trivial)) rfl ?_
  rintro _ _ ⟨_, ⟨zb, ze, zd, zf, zg, zc, rfl, rfl⟩, rfl⟩
  refine wM 1 rfl (wNT (wSR (wM 2 rfl (wNT (wc_cond_false rfl (wc_skip (wx_then (wc_seq (wSR (wM 3 rfl (wLd rfl mH rfl rfl (wNT (wcc h rfl ?_ ?_))))))))))))) <;> clear h <;> intro h
  ·refine wSR (wM 1 rfl (wNT (wc_ret (wx_then_ret ?_))))
   obtain ⟨rfl, rfl⟩ := pJ2 h
   exact wE Tryd.results25 (rs1 rfl) ⟨zb, ze, zd, zf, zg, zc, rfl, rfl⟩ pI
  refine wc_skip (wx_then (wSR (wM 1 rfl (wNT (wc_ret ?_)))))
  obtain ⟨rfl, rfl⟩ := pJ2 h
  exact wE Tryd.results25 (rs1 rfl) ⟨zb, ze, zd, zf, zg, zc, rfl, rfl⟩ pI
 replace h := poS h
 obtain ⟨v25x, xv25, h⟩ := bsome h
 refine wl_cs Tryd.call44 rfl rfl rfl (s_sp (k_watch_Watch_at (p0 := p0) (p0t := p0t) p0N0 p0V0 x25) pP (fun _ _ => trivial)) rfl ?_
 rintro _ _ ⟨_, ⟨zb, ze, zd, zf, zg, zc, rfl, rfl⟩, rfl⟩
 refine wM 1 rfl (wNT (wSR (wM 2 rfl (wNT (wc_cond_true rfl (wSR (wM 2 rfl (wl_inl Tryd.call26 rfl rfl rfl Tryd.func26 rfl Tryd.ntmps26 rfl rfl rfl (wSR (wM 1 rfl (wNT (wSR (wM 2 rfl (wl_val (v := .pointer (some ((adOf zb).add (v25s.toNat * 5 + 1)))) (val_fa (k := v25s.toNat * 5 + 0) (off := 1) tt_ok rfl rfl rfl rfl rfl) rfl (wM 1 rfl (wNT (wc_ret (wx_inl (v := .pointer (some ((adOf zb).add (v25s.toNat * 5 + 1)))) tt_ok (.inl rfl) Tryd.results26 (rs1 rfl) rfl (wM 1 rfl (wNT (wSR (wM 4 rfl (wLd rfl mH rfl rfl ?_)))))))))))))))))))))))
 refine wM 1 rfl ?_
 obtain ⟨v49, h, hg49⟩ := bsome h
 refine wls 36 h rfl ?_ ?_ <;> clear h <;> intro h
 ·refine wM 12 rfl ?_
  obtain rfl := sI h
  have h := hg49; clear hg49
  refine wM 3 rfl (lSt Upd.here ?_)
  refine wNT (wc_seq (wSR (wM 2 rfl (wl_val (v := .pointer (some ((adOf zb).add (v25s.toNat * 5 + 2)))) (val_fa (k := v25s.toNat * 5 + 1) (off := 1) tt_ok rfl rfl rfl rfl rfl) rfl (wl_val (v := .bool v25x.own.is_) (val_le (enc := c_T_watch_entry) (xs := za.l) tt_ok rfl (Rds.of_vec zc) ⟨_, (sC hA')⟩ c_T_watch_entry_len xv25 rfl) rfl (wM 1 rfl (wNT (wcc h rfl ?_ ?_)))))))) <;> clear h <;> intro h
  ·refine wc_region (wM 4 rfl (wl_chg0 (chg_ste (enc := c_T_watch_entry) (y' := (T_watch_entry.mk v25x.f (T_watch_sum.mk p2 true) v25x.other)) tt_ok rfl rfl rfl rfl rfl rfl zg zc (sC hA') c_T_watch_entry_len xv25 rfl (by intro h; cases h)) ?_))
   rintro _ _ ⟨Bs32_4, Ns32_4, Vs32_4, rfl⟩
   refine wNT (wc_k2 (Ls := (Bs32_4 ++ (⟨p0b, [.int .u64 za.rows, .slice zb ze zd, .bool true], p0t, (0, 0)⟩ :: []))) [34] [34] [0, 0, 2, 6, 14, 30, 62, 126, 254, 510, 1022, 2046, 4094, 8190, 16382, 32766, 65534, 131070, 262142, 524286, 1048574, 2097150, 4194302, 8388606, 524286, 17301502, 50855934, 117964798, 252182526, 536870910, 1073741822, 2147483646, 4294967295, 8589934591, 17179869183] [0, 1, 2, 3, 4, 5, 6, 7, 8, 9, 10, 11, 12, 13, 14, 15, 16, 17, 18, 19, 20, 21, 22, 23, 24, 25, 26, 27, 28, 29, 30, 31, 32, 33, 34] (by kernel_rfl) (by kernel_rfl) (by kernel_rfl) (kM pI 4 rfl (k_val (v := .bool true) rfl rfl rfl pI (val_load tt_ok rfl (mR mH) rfl) rfl ?_)))
   refine kM pI 1 rfl ?_
   obtain ⟨v92, h, hg92⟩ := bsome h
   replace h := ct rfl h
   refine kM pI 12 rfl (kM pI 12 rfl (kM pI 1 rfl ?_))
   obtain rfl := sI h
   have h := hg92; clear hg92
   refine kM pI 3 rfl (k_chg0 rfl rfl rfl (chg_store tt_ok rfl (Upd.right Upd.here) rfl rfl rfl rfl rfl rfl) (.inl rfl) ?_)
   rintro _ _ rfl
   refine k_end (by kernel_rfl) ?_
   refine wx_then (wc_seq (wSR (wM 3 rfl (wLd rfl (mR mH) rfl rfl (wNT ?_)))))
   replace h := ct rfl h
   refine wc_cond_true rfl ?_
   refine wSR (wM 1 rfl (wNT (wc_ret (wx_then_ret ?_))))
   obtain ⟨rfl, rfl⟩ := pJ2 h
   exact wE Tryd.results25 (rs1 rfl) ⟨zb, ze, zd, Bs32_4, Ns32_4, Vs32_4, rfl, rfl⟩ pI
  refine wc_skip (wx_then (wc_k2 (Ls := (⟨p0b, [.int .u64 za.rows, .slice zb ze zd, .bool true], p0t, (0, 0)⟩ :: (zf ++ []))) [34] [34] [0, 0, 2, 6, 14, 30, 62, 126, 254, 510, 1022, 2046, 4094, 8190, 16382, 32766, 65534, 131070, 262142, 524286, 1048574, 2097150, 4194302, 8388606, 524286, 17301502, 50855934, 117964798, 252182526, 536870910, 1073741822, 2147483646, 4294967295, 8589934591, 17179869183] [0, 1, 2, 3, 4, 5, 6, 7, 8, 9, 10, 11, 12, 13, 14, 15, 16, 17, 18, 19, 20, 21, 22, 23, 24, 25, 26, 27, 28, 29, 30, 31, 32, 33, 34] (by kernel_rfl) (by kernel_rfl) (by kernel_rfl) (kM pI 4 rfl (k_val (v := .bool true) rfl rfl rfl pI (val_load tt_ok rfl mH rfl) rfl ?_))))
  refine kM pI 1 rfl ?_
  obtain ⟨v92, h, hg92⟩ := bsome h
  replace h := ct rfl h
  refine kM pI 12 rfl (kM pI 12 rfl (kM pI 1 rfl ?_))
  obtain rfl := sI h
  have h := hg92; clear hg92
  refine kM pI 3 rfl (k_chg0 rfl rfl rfl (chg_store tt_ok rfl Upd.here rfl rfl rfl rfl rfl rfl) (.inl rfl) ?_)
  rintro _ _ rfl
  refine k_end (by kernel_rfl) ?_
  refine wx_then (wc_seq (wSR (wM 3 rfl (wLd rfl mH rfl rfl (wNT ?_)))))
  replace h := ct rfl h
  refine wc_cond_true rfl ?_
  refine wSR (wM 1 rfl (wNT (wc_ret (wx_then_ret ?_))))
  obtain ⟨rfl, rfl⟩ := pJ2 h
  exact wE Tryd.results25 (rs1 rfl) ⟨zb, ze, zd, zf, zg, zc, rfl, rfl⟩ pI
 refine wM 2 rfl (wl_run rfl (wl_val (v := .pointer (some ((adOf zb).add (v25s.toNat * 5 + 2)))) (val_fa (k := v25s.toNat * 5 + 1) (off := 1) tt_ok rfl rfl rfl rfl rfl) rfl (wl_run rfl (wl_val (v := .bool v25x.own.is_) (val_le (enc := c_T_watch_entry) (xs := za.l) tt_ok rfl (Rds.of_vec zc) ⟨_, (sC hA')⟩ c_T_watch_entry_len xv25 rfl) rfl (wM 1 rfl ?_)))))
 obtain ⟨v48, h, hg48⟩ := bsome h
 refine wls 41 h rfl ?_ ?_ <;> clear h <;> intro h
 ·refine wM 2 rfl (wl_run rfl (wl_val (v := .pointer (some ((adOf zb).add (v25s.toNat * 5 + 1)))) (val_fa (k := v25s.toNat * 5 + 1) (off := 0) tt_ok rfl rfl rfl rfl rfl) rfl (wl_run rfl (wl_val (v := .int .u64 v25x.own.n) (val_le (enc := c_T_watch_entry) (xs := za.l) tt_ok rfl (Rds.of_vec zc) ⟨_, (sC hA')⟩ c_T_watch_entry_len xv25 rfl) rfl (wM 2 rfl ?_)))))
  obtain rfl := sI h
  have h := hg48; clear hg48
  refine wM 1 rfl ?_
  obtain rfl := sI h
  have h := hg49; clear hg49
  refine wM 3 rfl (lSt Upd.here ?_)
  refine wNT (wc_seq (wSR (wM 2 rfl (wl_val (v := .pointer (some ((adOf zb).add (v25s.toNat * 5 + 2)))) (val_fa (k := v25s.toNat * 5 + 1) (off := 1) tt_ok rfl rfl rfl rfl rfl) rfl (wl_val (v := .bool v25x.own.is_) (val_le (enc := c_T_watch_entry) (xs := za.l) tt_ok rfl (Rds.of_vec zc) ⟨_, (sC hA')⟩ c_T_watch_entry_len xv25 rfl) rfl (wM 1 rfl (wNT (wcc h rfl ?_ ?_)))))))) <;> clear h <;> intro h
  ·refine wc_region (wM 4 rfl (wl_chg0 (chg_ste (enc := c_T_watch_entry) (y' := (T_watch_entry.mk v25x.f (T_watch_sum.mk p2 true) v25x.other)) tt_ok rfl rfl rfl rfl rfl rfl zg zc (sC hA') c_T_watch_entry_len xv25 rfl (by intro h; cases h)) ?_))
   rintro _ _ ⟨Bs32_4, Ns32_4, Vs32_4, rfl⟩
   refine wNT (wc_k2 (Ls := (Bs32_4 ++ (⟨p0b, [.int .u64 za.rows, .slice zb ze zd, .bool (v25x.own.n != p2)], p0t, (0, 0)⟩ :: []))) [34] [34] [0, 0, 2, 6, 14, 30, 62, 126, 254, 510, 1022, 2046, 4094, 8190, 16382, 32766, 65534, 131070, 262142, 524286, 1048574, 2097150, 4194302, 8388606, 524286, 17301502, 50855934, 117964798, 252182526, 536870910, 1073741822, 2147483646, 4294967295, 8589934591, 17179869183] [0, 1, 2, 3, 4, 5, 6, 7, 8, 9, 10, 11, 12, 13, 14, 15, 16, 17, 18, 19, 20, 21, 22, 23, 24, 25, 26, 27, 28, 29, 30, 31, 32, 33, 34] (by kernel_rfl) (by kernel_rfl) (by kernel_rfl) (kM pI 4 rfl (k_val (v := .bool (v25x.own.n != p2)) rfl rfl rfl pI (val_load tt_ok rfl (mR mH) rfl) rfl ?_)))
   refine kM pI 1 rfl ?_
   obtain ⟨v92, h, hg92⟩ := bsome h
   refine ks 66 h rfl ?_ ?_ <;> clear h <;> intro h
   ·refine kM pI 12 rfl (kM pI 12 rfl (kM pI 1 rfl ?_))
    obtain rfl := sI h
    have h := hg92; clear hg92
    refine kM pI 3 rfl (k_chg0 rfl rfl rfl (chg_store tt_ok rfl (Upd.right Upd.here) rfl rfl rfl rfl rfl rfl) (.inl rfl) ?_)
    rintro _ _ rfl
    refine k_end (by kernel_rfl) ?_
    refine wx_then (wc_seq (wSR (wM 3 rfl (wLd rfl (mR mH) rfl rfl (wNT ?_)))))
    replace h := ct rfl h
    refine wc_cond_true rfl ?_
    refine wSR (wM 1 rfl (wNT (wc_ret (wx_then_ret ?_))))
    obtain ⟨rfl, rfl⟩ := pJ2 h
    exact wE Tryd.results25 (rs1 rfl) ⟨zb, ze, zd, Bs32_4, Ns32_4, Vs32_4, rfl, rfl⟩ pI
   refine kM pI 2 rfl (k_val (v := .pointer (some ((adOf zb).add (v25s.toNat * 5 + 1)))) rfl rfl rfl pI (val_fa (k := v25s.toNat * 5 + 0) (off := 1) tt_ok rfl rfl rfl rfl rfl) rfl (k_val (v := .pointer (some ((adOf zb).add (v25s.toNat * 5 + 2)))) rfl rfl rfl pI (val_fa (k := v25s.toNat * 5 + 1) (off := 1) tt_ok rfl rfl rfl rfl rfl) rfl (k_val (v := .bool true) rfl rfl rfl pI (val_le (enc := c_T_watch_entry) (xs := (setI za.l v25s (T_watch_entry.mk v25x.f (T_watch_sum.mk p2 true) v25x.other))) tt_ok rfl (Rds.of_vec Vs32_4) ⟨_, hA'⟩ c_T_watch_entry_len (getI_set xv25) rfl) rfl ?_)))
   refine kM pI 3 rfl (k_val (v := .pointer (some ((adOf zb).add (v25s.toNat * 5 + 3)))) rfl rfl rfl pI (val_fa (k := v25s.toNat * 5 + 0) (off := 3) tt_ok rfl rfl rfl rfl rfl) rfl (k_val (v := .pointer (some ((adOf zb).add (v25s.toNat * 5 + 4)))) rfl rfl rfl pI (val_fa (k := v25s.toNat * 5 + 3) (off := 1) tt_ok rfl rfl rfl rfl rfl) rfl (k_val (v := .bool v25x.other.is_) rfl rfl rfl pI (val_le (enc := c_T_watch_entry) (xs := (setI za.l v25s (T_watch_entry.mk v25x.f (T_watch_sum.mk p2 true) v25x.other))) tt_ok rfl (Rds.of_vec Vs32_4) ⟨_, hA'⟩ c_T_watch_entry_len (getI_set xv25) rfl) rfl ?_)))
   refine kM pI 2 rfl ?_
   obtain ⟨v91, h, hg91⟩ := bsome h
   refine ks 79 h rfl ?_ ?_ <;> clear h <;> intro h
   ·refine kM pI 2 rfl (k_val (v := .pointer (some ((adOf zb).add (v25s.toNat * 5 + 1)))) rfl rfl rfl pI (val_fa (k := v25s.toNat * 5 + 0) (off := 1) tt_ok rfl rfl rfl rfl rfl) rfl (k_val (v := .pointer (some ((adOf zb).add (v25s.toNat * 5 + 1)))) rfl rfl rfl pI (val_fa (k := v25s.toNat * 5 + 1) (off := 0) tt_ok rfl rfl rfl rfl rfl) rfl (k_val (v := .int .u64 p2) rfl rfl rfl pI (val_le (enc := c_T_watch_entry) (xs := (setI za.l v25s (T_watch_entry.mk v25x.f (T_watch_sum.mk p2 true) v25x.other))) tt_ok rfl (Rds.of_vec Vs32_4) ⟨_, hA'⟩ c_T_watch_entry_len (getI_set xv25) rfl) rfl ?_)))
    refine kM pI 2 rfl (k_val (v := .pointer (some ((adOf zb).add (v25s.toNat * 5 + 3)))) rfl rfl rfl pI (val_fa (k := v25s.toNat * 5 + 0) (off := 3) tt_ok rfl rfl rfl rfl rfl) rfl (k_val (v := .pointer (some ((adOf zb).add (v25s.toNat * 5 + 3)))) rfl rfl rfl pI (val_fa (k := v25s.toNat * 5 + 3) (off := 0) tt_ok rfl rfl rfl rfl rfl) rfl (k_val (v := .int .u64 v25x.other.n) rfl rfl rfl pI (val_le (enc := c_T_watch_entry) (xs := (setI za.l v25s (T_watch_entry.mk v25x.f (T_watch_sum.mk p2 true) v25x.other))) tt_ok rfl (Rds.of_vec Vs32_4) ⟨_, hA'⟩ c_T_watch_entry_len (getI_set xv25) rfl) rfl ?_)))
    refine kM pI 1 rfl ?_
    obtain rfl := sI h
    have h := hg91; clear hg91
    refine kM pI 1 rfl ?_
    obtain rfl := sI h
    have h := hg92; clear hg92
    refine kM pI 3 rfl (k_chg0 rfl rfl rfl (chg_store tt_ok rfl (Upd.right Upd.here) rfl rfl rfl rfl rfl rfl) (.inl rfl) ?_)
    rintro _ _ rfl
    refine k_end (by kernel_rfl) ?_
    refine wx_then (wc_seq (wSR (wM 3 rfl (wLd rfl (mR mH) rfl rfl (wNT (wcc h rfl ?_ ?_)))))) <;> clear h <;> intro h
    ·refine wSR (wM 1 rfl (wNT (wc_ret (wx_then_ret ?_))))
     obtain ⟨rfl, rfl⟩ := pJ2 h
     exact wE Tryd.results25 (rs1 rfl) ⟨zb, ze, zd, Bs32_4, Ns32_4, Vs32_4, rfl, rfl⟩ pI
    refine wc_skip (wx_then (wSR (wM 1 rfl (wNT (wc_ret ?_)))))
    obtain ⟨rfl, rfl⟩ := pJ2 h
    exact wE Tryd.results25 (rs1 rfl) ⟨zb, ze, zd, Bs32_4, Ns32_4, Vs32_4, rfl, rfl⟩ pI
   refine kM pI 11 rfl ?_
   obtain rfl := sI h
   have h := hg91; clear hg91
   refine kM pI 1 rfl ?_
   obtain rfl := sI h
   have h := hg92; clear hg92
   refine kM pI 3 rfl (k_chg0 rfl rfl rfl (chg_store tt_ok rfl (Upd.right Upd.here) rfl rfl rfl rfl rfl rfl) (.inl rfl) ?_)
   rintro _ _ rfl
   refine k_end (by kernel_rfl) ?_
   refine wx_then (wc_seq (wSR (wM 3 rfl (wLd rfl (mR mH) rfl rfl (wNT ?_)))))
   replace h := cf rfl h
   refine wc_cond_false rfl ?_
   refine wc_skip (wx_then (wSR (wM 1 rfl (wNT (wc_ret ?_)))))
   obtain ⟨rfl, rfl⟩ := pJ2 h
   exact wE Tryd.results25 (rs1 rfl) ⟨zb, ze, zd, Bs32_4, Ns32_4, Vs32_4, rfl, rfl⟩ pI
  refine wc_skip (wx_then (wc_k2 (Ls := (⟨p0b, [.int .u64 za.rows, .slice zb ze zd, .bool (v25x.own.n != p2)], p0t, (0, 0)⟩ :: (zf ++ []))) [34] [34] [0, 0, 2, 6, 14, 30, 62, 126, 254, 510, 1022, 2046, 4094, 8190, 16382, 32766, 65534, 131070, 262142, 524286, 1048574, 2097150, 4194302, 8388606, 524286, 17301502, 50855934, 117964798, 252182526, 536870910, 1073741822, 2147483646, 4294967295, 8589934591, 17179869183] [0, 1, 2, 3, 4, 5, 6, 7, 8, 9, 10, 11, 12, 13, 14, 15, 16, 17, 18, 19, 20, 21, 22, 23, 24, 25, 26, 27, 28, 29, 30, 31, 32, 33, 34] (by kernel_rfl) (by kernel_rfl) (by kernel_rfl) (kM pI 4 rfl (k_val (v := .bool (v25x.own.n != p2)) rfl rfl rfl pI (val_load tt_ok rfl mH rfl) rfl ?_))))
  refine kM pI 1 rfl ?_
  obtain ⟨v92, h, hg92⟩ := bsome h
  refine ks 66 h rfl ?_ ?_ <;> clear h <;> intro h
  ·refine kM pI 12 rfl (kM pI 12 rfl (kM pI 1 rfl ?_))
   obtain rfl := sI h
   have h := hg92; clear hg92
   refine kM pI 3 rfl (k_chg0 rfl rfl rfl (chg_store tt_ok rfl Upd.here rfl rfl rfl rfl rfl rfl) (.inl rfl) ?_)
   rintro _ _ rfl
   refine k_end (by kernel_rfl) ?_
   refine wx_then (wc_seq (wSR (wM 3 rfl (wLd rfl mH rfl rfl (wNT ?_)))))
   replace h := ct rfl h
   refine wc_cond_true rfl ?_
   refine wSR (wM 1 rfl (wNT (wc_ret (wx_then_ret ?_))))
   obtain ⟨rfl, rfl⟩ := pJ2 h
   exact wE Tryd.results25 (rs1 rfl) ⟨zb, ze, zd, zf, zg, zc, rfl, rfl⟩ pI
  refine kM pI 2 rfl (k_val (v := .pointer (some ((adOf zb).add (v25s.toNat * 5 + 1)))) rfl rfl rfl pI (val_fa (k := v25s.toNat * 5 + 0) (off := 1) tt_ok rfl rfl rfl rfl rfl) rfl (k_val (v := .pointer (some ((adOf zb).add (v25s.toNat * 5 + 2)))) rfl rfl rfl pI (val_fa (k := v25s.toNat * 5 + 1) (off := 1) tt_ok rfl rfl rfl rfl rfl) rfl (k_val (v := .bool v25x.own.is_) rfl rfl rfl pI (val_le (enc := c_T_watch_entry) (xs := za.l) tt_ok rfl (Rds.of_vec zc) ⟨_, (sC hA')⟩ c_T_watch_entry_len xv25 rfl) rfl (kM pI 1 rfl ?_))))
  obtain ⟨v78, h, hg78⟩ := bsome h
  refine ks 72 h rfl ?_ ?_ <;> clear h <;> intro h
  ·refine kM pI 2 rfl (k_val (v := .pointer (some ((adOf zb).add (v25s.toNat * 5 + 3)))) rfl rfl rfl pI (val_fa (k := v25s.toNat * 5 + 0) (off := 3) tt_ok rfl rfl rfl rfl rfl) rfl (k_val (v := .pointer (some ((adOf zb).add (v25s.toNat * 5 + 4)))) rfl rfl rfl pI (val_fa (k := v25s.toNat * 5 + 3) (off := 1) tt_ok rfl rfl rfl rfl rfl) rfl (k_val (v := .bool v25x.other.is_) rfl rfl rfl pI (val_le (enc := c_T_watch_entry) (xs := za.l) tt_ok rfl (Rds.of_vec zc) ⟨_, (sC hA')⟩ c_T_watch_entry_len xv25 rfl) rfl ?_)))
   obtain rfl := sI h
   have h := hg78; clear hg78
   refine kM pI 2 rfl ?_
   obtain ⟨v91, h, hg91⟩ := bsome h
   refine ks 79 h rfl ?_ ?_ <;> clear h <;> intro h
   ·refine kM pI 2 rfl (k_val (v := .pointer (some ((adOf zb).add (v25s.toNat * 5 + 1)))) rfl rfl rfl pI (val_fa (k := v25s.toNat * 5 + 0) (off := 1) tt_ok rfl rfl rfl rfl rfl) rfl (k_val (v := .pointer (some ((adOf zb).add (v25s.toNat * 5 + 1)))) rfl rfl rfl pI (val_fa (k := v25s.toNat * 5 + 1) (off := 0) tt_ok rfl rfl rfl rfl rfl) rfl (k_val (v := .int .u64 v25x.own.n) rfl rfl rfl pI (val_le (enc := c_T_watch_entry) (xs := za.l) tt_ok rfl (Rds.of_vec zc) ⟨_, (sC hA')⟩ c_T_watch_entry_len xv25 rfl) rfl (kM pI 2 rfl ?_))))
    refine k_val (v := .pointer (some ((adOf zb).add (v25s.toNat * 5 + 3)))) rfl rfl rfl pI (val_fa (k := v25s.toNat * 5 + 0) (off := 3) tt_ok rfl rfl rfl rfl rfl) rfl (k_val (v := .pointer (some ((adOf zb).add (v25s.toNat * 5 + 3)))) rfl rfl rfl pI (val_fa (k := v25s.toNat * 5 + 3) (off := 0) tt_ok rfl rfl rfl rfl rfl) rfl (k_val (v := .int .u64 v25x.other.n) rfl rfl rfl pI (val_le (enc := c_T_watch_entry) (xs := za.l) tt_ok rfl (Rds.of_vec zc) ⟨_, (sC hA')⟩ c_T_watch_entry_len xv25 rfl) rfl (kM pI 1 rfl ?_)))
    obtain rfl := sI h
    have h := hg91; clear hg91
    refine kM pI 1 rfl ?_
    obtain rfl := sI h
    have h := hg92; clear hg92
    refine kM pI 3 rfl (k_chg0 rfl rfl rfl (chg_store tt_ok rfl Upd.here rfl rfl rfl rfl rfl rfl) (.inl rfl) ?_)
    rintro _ _ rfl
    refine k_end (by kernel_rfl) ?_
    refine wx_then (wc_seq (wSR (wM 3 rfl (wLd rfl mH rfl rfl (wNT (wcc h rfl ?_ ?_)))))) <;> clear h <;> intro h
    ·refine wSR (wM 1 rfl (wNT (wc_ret (wx_then_ret ?_))))
     obtain ⟨rfl, rfl⟩ := pJ2 h
     exact wE Tryd.results25 (rs1 rfl) ⟨zb, ze, zd, zf, zg, zc, rfl, rfl⟩ pI
    refine wc_skip (wx_then (wSR (wM 1 rfl (wNT (wc_ret ?_)))))
    obtain ⟨rfl, rfl⟩ := pJ2 h
    exact wE Tryd.results25 (rs1 rfl) ⟨zb, ze, zd, zf, zg, zc, rfl, rfl⟩ pI
   refine kM pI 11 rfl ?_
   obtain rfl := sI h
   have h := hg91; clear hg91
   refine kM pI 1 rfl ?_
   obtain rfl := sI h
   have h := hg92; clear hg92
   refine kM pI 3 rfl (k_chg0 rfl rfl rfl (chg_store tt_ok rfl Upd.here rfl rfl rfl rfl rfl rfl) (.inl rfl) ?_)
   rintro _ _ rfl
   refine k_end (by kernel_rfl) ?_
   refine wx_then (wc_seq (wSR (wM 3 rfl (wLd rfl mH rfl rfl (wNT ?_)))))
   replace h := cf rfl h
   refine wc_cond_false rfl ?_
   refine wc_skip (wx_then (wSR (wM 1 rfl (wNT (wc_ret ?_)))))
   obtain ⟨rfl, rfl⟩ := pJ2 h
   exact wE Tryd.results25 (rs1 rfl) ⟨zb, ze, zd, zf, zg, zc, rfl, rfl⟩ pI
  refine kM pI 5 rfl ?_
  obtain rfl := sI h
  have h := hg78; clear hg78
  refine kM pI 2 rfl ?_
  obtain ⟨v91, h, hg91⟩ := bsome h
  replace h := cf rfl h
  refine kM pI 11 rfl ?_
  obtain rfl := sI h
  have h := hg91; clear hg91
  refine kM pI 1 rfl ?_
  obtain rfl := sI h
  have h := hg92; clear hg92
  refine kM pI 3 rfl (k_chg0 rfl rfl rfl (chg_store tt_ok rfl Upd.here rfl rfl rfl rfl rfl rfl) (.inl rfl) ?_)
  rintro _ _ rfl
  refine k_end (by kernel_rfl) ?_
  refine wx_then (wc_seq (wSR (wM 3 rfl (wLd rfl mH rfl rfl (wNT ?_)))))
  replace h := cf rfl h
  refine wc_cond_false rfl ?_
  refine wc_skip (wx_then (wSR (wM 1 rfl (wNT (wc_ret ?_)))))
  obtain ⟨rfl, rfl⟩ := pJ2 h
  exact wE Tryd.results25 (rs1 rfl) ⟨zb, ze, zd, zf, zg, zc, rfl, rfl⟩ pI
 refine wM 6 rfl ?_
 obtain rfl := sI h
 have h := hg48; clear hg48
 refine wM 1 rfl ?_
 obtain rfl := sI h
 have h := hg49; clear hg49
 refine wM 3 rfl (lSt Upd.here ?_)
 refine wNT (wc_seq (wSR (wM 2 rfl (wl_val (v := .pointer (some ((adOf zb).add (v25s.toNat * 5 + 2)))) (val_fa (k := v25s.toNat * 5 + 1) (off := 1) tt_ok rfl rfl rfl rfl rfl) rfl (wl_val (v := .bool v25x.own.is_) (val_le (enc := c_T_watch_entry) (xs := za.l) tt_ok rfl (Rds.of_vec zc) ⟨_, (sC hA')⟩ c_T_watch_entry_len xv25 rfl) rfl (wM 1 rfl (wNT (wcc h rfl ?_ ?_)))))))) <;> clear h <;> intro h
 ·refine wc_region (wM 4 rfl (wl_chg0 (chg_ste (enc := c_T_watch_entry) (y' := (T_watch_entry.mk v25x.f (T_watch_sum.mk p2 true) v25x.other)) tt_ok rfl rfl rfl rfl rfl rfl zg zc (sC hA') c_T_watch_entry_len xv25 rfl (by intro h; cases h)) ?_))
  rintro _ _ ⟨Bs32_4, Ns32_4, Vs32_4, rfl⟩
  refine wNT (wc_k2 (Ls := (Bs32_4 ++ (⟨p0b, [.int .u64 za.rows, .slice zb ze zd, .bool false], p0t, (0, 0)⟩ :: []))) [34] [34] [0, 0, 2, 6, 14, 30, 62, 126, 254, 510, 1022, 2046, 4094, 8190, 16382, 32766, 65534, 131070, 262142, 524286, 1048574, 2097150, 4194302, 8388606, 524286, 17301502, 50855934, 117964798, 252182526, 536870910, 1073741822, 2147483646, 4294967295, 8589934591, 17179869183] [0, 1, 2, 3, 4, 5, 6, 7, 8, 9, 10, 11, 12, 13, 14, 15, 16, 17, 18, 19, 20, 21, 22, 23, 24, 25, 26, 27, 28, 29, 30, 31, 32, 33, 34] (by kernel_rfl) (by kernel_rfl) (by kernel_rfl) (kM pI 4 rfl (k_val (v := .bool false) rfl rfl rfl pI (val_load tt_ok rfl (mR mH) rfl) rfl ?_)))
  refine kM pI 1 rfl ?_
  obtain ⟨v92, h, hg92⟩ := bsome h
  replace h := cf rfl h
  refine kM pI 2 rfl (k_val (v := .pointer (some ((adOf zb).add (v25s.toNat * 5 + 1)))) rfl rfl rfl pI (val_fa (k := v25s.toNat * 5 + 0) (off := 1) tt_ok rfl rfl rfl rfl rfl) rfl (k_val (v := .pointer (some ((adOf zb).add (v25s.toNat * 5 + 2)))) rfl rfl rfl pI (val_fa (k := v25s.toNat * 5 + 1) (off := 1) tt_ok rfl rfl rfl rfl rfl) rfl (k_val (v := .bool true) rfl rfl rfl pI (val_le (enc := c_T_watch_entry) (xs := (setI za.l v25s (T_watch_entry.mk v25x.f (T_watch_sum.mk p2 true) v25x.other))) tt_ok rfl (Rds.of_vec Vs32_4) ⟨_, hA'⟩ c_T_watch_entry_len (getI_set xv25) rfl) rfl ?_)))
  refine kM pI 3 rfl (k_val (v := .pointer (some ((adOf zb).add (v25s.toNat * 5 + 3)))) rfl rfl rfl pI (val_fa (k := v25s.toNat * 5 + 0) (off := 3) tt_ok rfl rfl rfl rfl rfl) rfl (k_val (v := .pointer (some ((adOf zb).add (v25s.toNat * 5 + 4)))) rfl rfl rfl pI (val_fa (k := v25s.toNat * 5 + 3) (off := 1) tt_ok rfl rfl rfl rfl rfl) rfl (k_val (v := .bool v25x.other.is_) rfl rfl rfl pI (val_le (enc := c_T_watch_entry) (xs := (setI za.l v25s (T_watch_entry.mk v25x.f (T_watch_sum.mk p2 true) v25x.other))) tt_ok rfl (Rds.of_vec Vs32_4) ⟨_, hA'⟩ c_T_watch_entry_len (getI_set xv25) rfl) rfl ?_)))
  refine kM pI 2 rfl ?_
  obtain ⟨v91, h, hg91⟩ := bsome h
  refine ks 79 h rfl ?_ ?_ <;> clear h <;> intro h
  ·refine kM pI 2 rfl (k_val (v := .pointer (some ((adOf zb).add (v25s.toNat * 5 + 1)))) rfl rfl rfl pI (val_fa (k := v25s.toNat * 5 + 0) (off := 1) tt_ok rfl rfl rfl rfl rfl) rfl (k_val (v := .pointer (some ((adOf zb).add (v25s.toNat * 5 + 1)))) rfl rfl rfl pI (val_fa (k := v25s.toNat * 5 + 1) (off := 0) tt_ok rfl rfl rfl rfl rfl) rfl (k_val (v := .int .u64 p2) rfl rfl rfl pI (val_le (enc := c_T_watch_entry) (xs := (setI za.l v25s (T_watch_entry.mk v25x.f (T_watch_sum.mk p2 true) v25x.other))) tt_ok rfl (Rds.of_vec Vs32_4) ⟨_, hA'⟩ c_T_watch_entry_len (getI_set xv25) rfl) rfl ?_)))
   refine kM pI 2 rfl (k_val (v := .pointer (some ((adOf zb).add (v25s.toNat * 5 + 3)))) rfl rfl rfl pI (val_fa (k := v25s.toNat * 5 + 0) (off := 3) tt_ok rfl rfl rfl rfl rfl) rfl (k_val (v := .pointer (some ((adOf zb).add (v25s.toNat * 5 + 3)))) rfl rfl rfl pI (val_fa (k := v25s.toNat * 5 + 3) (off := 0) tt_ok rfl rfl rfl rfl rfl) rfl (k_val (v := .int .u64 v25x.other.n) rfl rfl rfl pI (val_le (enc := c_T_watch_entry) (xs := (setI za.l v25s (T_watch_entry.mk v25x.f (T_watch_sum.mk p2 true) v25x.other))) tt_ok rfl (Rds.of_vec Vs32_4) ⟨_, hA'⟩ c_T_watch_entry_len (getI_set xv25) rfl) rfl ?_)))
   refine kM pI 1 rfl ?_
   obtain rfl := sI h
   have h := hg91; clear hg91
   refine kM pI 1 rfl ?_
   obtain rfl := sI h
   have h := hg92; clear hg92
   refine kM pI 3 rfl (k_chg0 rfl rfl rfl (chg_store tt_ok rfl (Upd.right Upd.here) rfl rfl rfl rfl rfl rfl) (.inl rfl) ?_)
   rintro _ _ rfl
   refine k_end (by kernel_rfl) ?_
   refine wx_then (wc_seq (wSR (wM 3 rfl (wLd rfl (mR mH) rfl rfl (wNT (wcc h rfl ?_ ?_)))))) <;> clear h <;> intro h
   ·refine wSR (wM 1 rfl (wNT (wc_ret (wx_then_ret ?_))))
    obtain ⟨rfl, rfl⟩ := pJ2 h
    exact wE Tryd.results25 (rs1 rfl) ⟨zb, ze, zd, Bs32_4, Ns32_4, Vs32_4, rfl, rfl⟩ pI
   refine wc_skip (wx_then (wSR (wM 1 rfl (wNT (wc_ret ?_)))))
   obtain ⟨rfl, rfl⟩ := pJ2 h
   exact wE Tryd.results25 (rs1 rfl) ⟨zb, ze, zd, Bs32_4, Ns32_4, Vs32_4, rfl, rfl⟩ pI
  refine kM pI 11 rfl ?_
  obtain rfl := sI h
  have h := hg91; clear hg91
  refine kM pI 1 rfl ?_
  obtain rfl := sI h
  have h := hg92; clear hg92
  refine kM pI 3 rfl (k_chg0 rfl rfl rfl (chg_store tt_ok rfl (Upd.right Upd.here) rfl rfl rfl rfl rfl rfl) (.inl rfl) ?_)
  rintro _ _ rfl
  refine k_end (by kernel_rfl) ?_
  refine wx_then (wc_seq (wSR (wM 3 rfl (wLd rfl (mR mH) rfl rfl (wNT ?_)))))
  replace h := cf rfl h
  refine wc_cond_false rfl ?_
  refine wc_skip (wx_then (wSR (wM 1 rfl (wNT (wc_ret ?_)))))
  obtain ⟨rfl, rfl⟩ := pJ2 h
  exact wE Tryd.results25 (rs1 rfl) ⟨zb, ze, zd, Bs32_4, Ns32_4, Vs32_4, rfl, rfl⟩ pI
 refine wc_skip (wx_then (wc_k2 (Ls := (⟨p0b, [.int .u64 za.rows, .slice zb ze zd, .bool false], p0t, (0, 0)⟩ :: (zf ++ []))) [34] [34] [0, 0, 2, 6, 14, 30, 62, 126, 254, 510, 1022, 2046, 4094, 8190, 16382, 32766, 65534, 131070, 262142, 524286, 1048574, 2097150, 4194302, 8388606, 524286, 17301502, 50855934, 117964798, 252182526, 536870910, 1073741822, 2147483646, 4294967295, 8589934591, 17179869183] [0, 1, 2, 3, 4, 5, 6, 7, 8, 9, 10, 11, 12, 13, 14, 15, 16, 17, 18, 19, 20, 21, 22, 23, 24, 25, 26, 27, 28, 29, 30, 31, 32, 33, 34] (by kernel_rfl) (by kernel_rfl) (by kernel_rfl) (kM pI 4 rfl (k_val (v := .bool false) rfl rfl rfl pI (val_load tt_ok rfl mH rfl) rfl ?_))))
 refine kM pI 1 rfl ?_
 obtain ⟨v92, h, hg92⟩ := bsome h
 replace h := cf rfl h
 refine kM pI 2 rfl (k_val (v := .pointer (some ((adOf zb).add (v25s.toNat * 5 + 1)))) rfl rfl rfl pI (val_fa (k := v25s.toNat * 5 + 0) (off := 1) tt_ok rfl rfl rfl rfl rfl) rfl (k_val (v := .pointer (some ((adOf zb).add (v25s.toNat * 5 + 2)))) rfl rfl rfl pI (val_fa (k := v25s.toNat * 5 + 1) (off := 1) tt_ok rfl rfl rfl rfl rfl) rfl (k_val (v := .bool v25x.own.is_) rfl rfl rfl pI (val_le (enc := c_T_watch_entry) (xs := za.l) tt_ok rfl (Rds.of_vec zc) ⟨_, (sC hA')⟩ c_T_watch_entry_len xv25 rfl) rfl (kM pI 1 rfl ?_))))
 obtain ⟨v78, h, hg78⟩ := bsome h
 refine ks 72 h rfl ?_ ?_ <;> clear h <;> intro h
 ·refine kM pI 2 rfl (k_val (v := .pointer (some ((adOf zb).add (v25s.toNat * 5 + 3)))) rfl rfl rfl pI (val_fa (k := v25s.toNat * 5 + 0) (off := 3) tt_ok rfl rfl rfl rfl rfl) rfl (k_val (v := .pointer (some ((adOf zb).add (v25s.toNat * 5 + 4)))) rfl rfl rfl pI (val_fa (k := v25s.toNat * 5 + 3) (off := 1) tt_ok rfl rfl rfl rfl rfl) rfl (k_val (v := .bool v25x.other.is_) rfl rfl rfl pI (val_le (enc := c_T_watch_entry) (xs := za.l) tt_ok rfl (Rds.of_vec zc) ⟨_, (sC hA')⟩ c_T_watch_entry_len xv25 rfl) rfl ?_)))
  obtain rfl := sI h
  have h := hg78; clear hg78
  refine kM pI 2 rfl ?_
  obtain ⟨v91, h, hg91⟩ := bsome h
  refine ks 79 h rfl ?_ ?_ <;> clear h <;> intro h
  ·refine kM pI 2 rfl (k_val (v := .pointer (some ((adOf zb).add (v25s.toNat * 5 + 1)))) rfl rfl rfl pI (val_fa (k := v25s.toNat * 5 + 0) (off := 1) tt_ok rfl rfl rfl rfl rfl) rfl (k_val (v := .pointer (some ((adOf zb).add (v25s.toNat * 5 + 1)))) rfl rfl rfl pI (val_fa (k := v25s.toNat * 5 + 1) (off := 0) tt_ok rfl rfl rfl rfl rfl) rfl (k_val (v := .int .u64 v25x.own.n) rfl rfl rfl pI (val_le (enc := c_T_watch_entry) (xs := za.l) tt_ok rfl (Rds.of_vec zc) ⟨_, (sC hA')⟩ c_T_watch_entry_len xv25 rfl) rfl (kM pI 2 rfl ?_))))
   refine k_val (v := .pointer (some ((adOf zb).add (v25s.toNat * 5 + 3)))) rfl rfl rfl pI (val_fa (k := v25s.toNat * 5 + 0) (off := 3) tt_ok rfl rfl rfl rfl rfl) rfl (k_val (v := .pointer (some ((adOf zb).add (v25s.toNat * 5 + 3)))) rfl rfl rfl pI (val_fa (k := v25s.toNat * 5 + 3) (off := 0) tt_ok rfl rfl rfl rfl rfl) rfl (k_val (v := .int .u64 v25x.other.n) rfl rfl rfl pI (val_le (enc := c_T_watch_entry) (xs := za.l) tt_ok rfl (Rds.of_vec zc) ⟨_, (sC hA')⟩ c_T_watch_entry_len xv25 rfl) rfl (kM pI 1 rfl ?_)))
   obtain rfl := sI h
   have h := hg91; clear hg91
   refine kM pI 1 rfl ?_
   obtain rfl := sI h
   have h := hg92; clear hg92
   refine kM pI 3 rfl (k_chg0 rfl rfl rfl (chg_store tt_ok rfl Upd.here rfl rfl rfl rfl rfl rfl) (.inl rfl) ?_)
   rintro _ _ rfl
   refine k_end (by kernel_rfl) ?_
   refine wx_then (wc_seq (wSR (wM 3 rfl (wLd rfl mH rfl rfl (wNT (wcc h rfl ?_ ?_)))))) <;> clear h <;> intro h
   ·refine wSR (wM 1 rfl (wNT (wc_ret (wx_then_ret ?_))))
    obtain ⟨rfl, rfl⟩ := pJ2 h
    exact wE Tryd.results25 (rs1 rfl) ⟨zb, ze, zd, zf, zg, zc, rfl, rfl⟩ pI
   refine wc_skip (wx_then (wSR (wM 1 rfl (wNT (wc_ret ?_)))))
   obtain ⟨rfl, rfl⟩ := pJ2 h
   exact wE Tryd.results25 (rs1 rfl) ⟨zb, ze, zd, zf, zg, zc, rfl, rfl⟩ pI
  refine kM pI 11 rfl ?_
  obtain rfl := sI h
  have h := hg91; clear hg91
  refine kM pI 1 rfl ?_
  obtain rfl := sI h
  have h := hg92; clear hg92
  refine kM pI 3 rfl (k_chg0 rfl rfl rfl (chg_store tt_ok rfl Upd.here rfl rfl rfl rfl rfl rfl) (.inl rfl) ?_)
  rintro _ _ rfl
  refine k_end (by kernel_rfl) ?_
  refine wx_then (wc_seq (wSR (wM 3 rfl (wLd rfl mH rfl rfl (wNT ?_)))))
  replace h := cf rfl h
  refine wc_cond_false rfl ?_
  refine wc_skip (wx_then (wSR (wM 1 rfl (wNT (wc_ret ?_)))))
  obtain ⟨rfl, rfl⟩ := pJ2 h
  exact wE Tryd.results25 (rs1 rfl) ⟨zb, ze, zd, zf, zg, zc, rfl, rfl⟩ pI
 refine kM pI 5 rfl ?_
 obtain rfl := sI h
 have h := hg78; clear hg78
 refine kM pI 2 rfl ?_
 obtain ⟨v91, h, hg91⟩ := bsome h
 replace h := cf rfl h
 refine kM pI 11 rfl ?_
 obtain rfl := sI h
 have h := hg91; clear hg91
 refine kM pI 1 rfl ?_
 obtain rfl := sI h
 have h := hg92; clear hg92
 refine kM pI 3 rfl (k_chg0 rfl rfl rfl (chg_store tt_ok rfl Upd.here rfl rfl rfl rfl rfl rfl) (.inl rfl) ?_)
 rintro _ _ rfl
 refine k_end (by kernel_rfl) ?_
 refine wx_then (wc_seq (wSR (wM 3 rfl (wLd rfl mH rfl rfl (wNT ?_)))))
 replace h := cf rfl h
 refine wc_cond_false rfl ?_
 refine wc_skip (wx_then (wSR (wM 1 rfl (wNT (wc_ret ?_)))))
 obtain ⟨rfl, rfl⟩ := pJ2 h
 exact wE Tryd.results25 (rs1 rfl) ⟨zb, ze, zd, zf, zg, zc, rfl, rfl⟩ pI

theorem k_watch_Watch_Own {p0 : T_watch_Watch} {p1 : Int} {p2 : Int} {r0 : T_watch_Watch} {r1 : Int} (p0N0 : p0n0 = p0.l.length) (p0V0 : Own 73 5 p0a0 p0n0 p0c0 (flat c_T_watch_entry p0.l) p0B0) (h : m_watch_Watch_Own F p0 p1 p2 = some (r0, r1)) :
    SpD Tryd.prog 16 [.pointer (some ⟨p0b, 0, none⟩), .int .u64 p1, .int .u64 p2] (⟨p0b, [.int .u64 p0.rows, .slice p0a0 p0n0 p0c0, .bool p0.clashed], p0t, (0, 0)⟩ :: (p0B0 ++ [])) (fun w => True) (fun v D => ∃ r0a0 r0n0 r0c0 r0B0, r0n0 = r0.l.length ∧ Own 73 5 r0a0 r0n0 r0c0 (flat c_T_watch_entry r0.l) r0B0 ∧ v = .int .i64 r1 ∧ D = fun F => (⟨p0b, [.int .u64 r0.rows, .slice r0a0 r0n0 r0c0, .bool r0.clashed], p0t, (0, 0)⟩ :: (r0B0 ++ F))) := by
 unfold m_watch_Watch_Own at h
 refine sp_of_wc Tryd.func16 rfl Tryd.ntmps16 rfl rfl (fun w0 hR => ?_)
 refine wSR (wM 1 rfl (wNT (wSR (wM 3 rfl ?_))))
 replace h := bsome h; obtain ⟨⟨za, v10⟩, x10, h⟩ := h; try dsimp only at h
 refine wl_cs Tryd.call25 rfl rfl rfl (s_sp (k_watch_Watch_told_f3_watch_ownSide (p0 := p0) (p0t := p0t) p0N0 p0V0 x10) pP (fun _ _ => trivial)) rfl ?_
 rintro _ _ ⟨_, ⟨ze, zg, zf, zb, zc, zd, rfl, rfl⟩, rfl⟩
 refine wM 1 rfl (wNT (wc_ret ?_))
 obtain ⟨rfl, rfl⟩ := pJ2 h
 exact wE Tryd.results16 (rs1 rfl) ⟨ze, zg, zf, zb, zc, zd, rfl, rfl⟩ pI

theorem k_watch_Watch_told_f3_watch_otherSide {p0 : T_watch_Watch} {p1 : Int} {p2 : Int} {r0 : T_watch_Watch} {r1 : Int} (p0N0 : p0n0 = p0.l.length) (p0V0 : Own 73 5 p0a0 p0n0 p0c0 (flat c_T_watch_entry p0.l) p0B0) (h : m_watch_Watch_told_f3_watch_otherSide F p0 p1 p2 = some (r0, r1)) :
    SpD Tryd.prog 25 [.pointer (some ⟨p0b, 0, none⟩), .int .u64 p1, .int .u64 p2, .func (.func 27) #[] #[]] (⟨p0b, [.int .u64 p0.rows, .slice p0a0 p0n0 p0c0, .bool p0.clashed], p0t, (0, 0)⟩ :: (p0B0 ++ [])) (fun w => True) (fun v D => ∃ r0a0 r0n0 r0c0 r0B0, r0n0 = r0.l.length ∧ Own 73 5 r0a0 r0n0 r0c0 (flat c_T_watch_entry r0.l) r0B0 ∧ v = .int .i64 r1 ∧ D = fun F => (⟨p0b, [.int .u64 r0.rows, .slice r0a0 r0n0 r0c0, .bool r0.clashed], p0t, (0, 0)⟩ :: (r0B0 ++ F))) := by
 unfold m_watch_Watch_told_f3_watch_otherSide at h
 refine sp_of_wc Tryd.func25 rfl Tryd.ntmps25 rfl rfl (fun w0 hR => ?_)
 refine wSR (wM 1 rfl (wNT (wc_seq (wc_block (wSR (wM 1 rfl ?_))))))
 obtain ⟨v13, x13, h⟩ := bsome h
 refine wl_cq Tryd.call24 rfl rfl rfl (q_rd (k_watch_Watch_is (p0 := p0) (p0t := p0t) p0N0 p0V0 x13) pP (fun _ _ => trivial)) rfl ?_
 refine wM 2 rfl (wNT (wcc h rfl ?_ ?_)) <;> clear h <;> intro h
 ·refine wSR (wM 1 rfl (wNT (wc_ret (wx_block_ret (wx_then_ret ?_)))))
  obtain ⟨rfl, rfl⟩ := pJ2 h
  exact wE Tryd.results25 (rs1 rfl) ⟨p0a0, p0n0, p0c0, p0B0, p0N0, p0V0, rfl, rfl⟩ pI
 refine wSR (wM 4 rfl (wLd rfl mH rfl rfl ?_))
 obtain ⟨v21, x21, h⟩ := bsome h
 refine wl_val (v := .int .u64 v21) (val_rem rfl rfl x21) rfl ?_
 refine wM 2 rfl (wNT (wcc h rfl ?_ ?_)) <;> clear h <;> intro h
 ·refine wSR (wM 1 rfl (wNT (wc_ret (wx_block_ret (wx_then_ret ?_)))))
  obtain ⟨rfl, rfl⟩ := pJ2 h
  exact wE Tryd.results25 (rs1 rfl) ⟨p0a0, p0n0, p0c0, p0B0, p0N0, p0V0, rfl, rfl⟩ pI
 refine wc_skip (wx_block (wx_then (wc_seq (wSR (wM 2 rfl ?_)))))
 replace h := bsome h; obtain ⟨⟨za, v25⟩, x25, h⟩ := h; try dsimp only at h
 rcases v25 with _ | v25s
 ·replace h := poN h
  refine wl_cs Tryd.call44 rfl rfl rfl (s_sp (k_watch_Watch_at_none (p0 := p0) (p0t := p0t) p0N0 p0V0 x25) pP (fun _ _ => trivial)) rfl ?_
  rintro _ _ ⟨_, ⟨zb, ze, zd, zf, zg, zc, rfl, rfl⟩, rfl⟩
  refine wM 1 rfl (wNT (wSR (wM 2 rfl (wNT (wc_cond_false rfl (wc_skip (wx_then (wc_seq (wSR (wM 3 rfl (wLd rfl mH rfl rfl (wNT (wcc h rfl ?_ ?_))))))))))))) <;> clear h <;> intro h
  ·refine wSR (wM 1 rfl (wNT (wc_ret (wx_then_ret ?_))))
   obtain ⟨rfl, rfl⟩ := pJ2 h
   exact wE Tryd.results25 (rs1 rfl) ⟨zb, ze, zd, zf, zg, zc, rfl, rfl⟩ pI
  refine wc_skip (wx_then (wSR (wM 1 rfl (wNT (wc_ret ?_)))))
  obtain ⟨rfl, rfl⟩ := pJ2 h
  exact wE Tryd.results25 (rs1 rfl) ⟨zb, ze, zd, zf, zg, zc, rfl, rfl⟩ pI
 replace h := poS h
 obtain ⟨v25x, xv25, h⟩ := bsome h
 refine wl_cs Tryd.call44 rfl rfl rfl (s_sp (k_watch_Watch_at (p0 := p0) (p0t := p0t) p0N0 p0V0 x25) pP (fun _ _ => trivial)) rfl ?_
 rintro _ _ ⟨_, ⟨zb, ze, zd, zf, zg, zc, rfl, rfl⟩, rfl⟩
 refine wM 1 rfl (wNT (wSR (wM 2 rfl (wNT (wc_cond_true rfl (wSR (wM 2 rfl (wl_inl Tryd.call27 rfl rfl rfl Tryd.func27 rfl Tryd.ntmps27 rfl rfl rfl (wSR (wM 1 rfl (wNT (wSR (wM 2 rfl (wl_val (v := .pointer (some ((adOf zb).add (v25s.toNat * 5 + 3)))) (val_fa (k := v25s.toNat * 5 + 0) (off := 3) tt_ok rfl rfl rfl rfl rfl) rfl (wM 1 rfl (wNT (wc_ret (wx_inl (v := .pointer (some ((adOf zb).add (v25s.toNat * 5 + 3)))) tt_ok (.inl rfl) Tryd.results27 (rs1 rfl) rfl (wM 1 rfl (wNT (wSR (wM 4 rfl (wLd rfl mH rfl rfl ?_)))))))))))))))))))))))
 refine wM 1 rfl ?_
 obtain ⟨v49, h, hg49⟩ := bsome h
 refine wls 36 h rfl ?_ ?_ <;> clear h <;> intro h
 ·refine wM 12 rfl ?_
  obtain rfl := sI h
  have h := hg49; clear hg49
  refine wM 3 rfl (lSt Upd.here ?_)
  refine wNT (wc_seq (wSR (wM 2 rfl (wl_val (v := .pointer (some ((adOf zb).add (v25s.toNat * 5 + 4)))) (val_fa (k := v25s.toNat * 5 + 3) (off := 1) tt_ok rfl rfl rfl rfl rfl) rfl (wl_val (v := .bool v25x.other.is_) (val_le (enc := c_T_watch_entry) (xs := za.l) tt_ok rfl (Rds.of_vec zc) ⟨_, (sC hA')⟩ c_T_watch_entry_len xv25 rfl) rfl (wM 1 rfl (wNT (wcc h rfl ?_ ?_)))))))) <;> clear h <;> intro h
  ·refine wc_region (wM 4 rfl (wl_chg0 (chg_ste (enc := c_T_watch_entry) (y' := (T_watch_entry.mk v25x.f v25x.own (T_watch_sum.mk p2 true))) tt_ok rfl rfl rfl rfl rfl rfl zg zc (sC hA') c_T_watch_entry_len xv25 rfl (by intro h; cases h)) ?_))
   rintro _ _ ⟨Bs32_4, Ns32_4, Vs32_4, rfl⟩
   refine wNT (wc_k2 (Ls := (Bs32_4 ++ (⟨p0b, [.int .u64 za.rows, .slice zb ze zd, .bool true], p0t, (0, 0)⟩ :: []))) [34] [34] [0, 0, 2, 6, 14, 30, 62, 126, 254, 510, 1022, 2046, 4094, 8190, 16382, 32766, 65534, 131070, 262142, 524286, 1048574, 2097150, 4194302, 8388606, 524286, 17301502, 50855934, 117964798, 252182526, 536870910, 1073741822, 2147483646, 4294967295, 8589934591, 17179869183] [0, 1, 2, 3, 4, 5, 6, 7, 8, 9, 10, 11, 12, 13, 14, 15, 16, 17, 18, 19, 20, 21, 22, 23, 24, 25, 26, 27, 28, 29, 30, 31, 32, 33, 34] (by kernel_rfl) (by kernel_rfl) (by kernel_rfl) (kM pI 4 rfl (k_val (v := .bool true) rfl rfl rfl pI (val_load tt_ok rfl (mR mH) rfl) rfl ?_)))
   refine kM pI 1 rfl ?_
   obtain ⟨v92, h, hg92⟩ := bsome h
   replace h := ct rfl h
   refine kM pI 12 rfl (kM pI 12 rfl (kM pI 1 rfl ?_))
   obtain rfl := sI h
   have h := hg92; clear hg92
   refine kM pI 3 rfl (k_chg0 rfl rfl rfl (chg_store tt_ok rfl (Upd.right Upd.here) rfl rfl rfl rfl rfl rfl) (.inl rfl) ?_)
   rintro _ _ rfl
   refine k_end (by kernel_rfl) ?_
   refine wx_then (wc_seq (wSR (wM 3 rfl (wLd rfl (mR mH) rfl rfl (wNT ?_)))))
   replace h := ct rfl h
   refine wc_cond_true rfl ?_
   refine wSR (wM 1 rfl (wNT (wc_ret (wx_then_ret ?_))))
   obtain ⟨rfl, rfl⟩ := pJ2 h
   exact wE Tryd.results25 (rs1 rfl) ⟨zb, ze, zd, Bs32_4, Ns32_4, Vs32_4, rfl, rfl⟩ pI
  refine wc_skip (wx_then (wc_k2 (Ls := (⟨p0b, [.int .u64 za.rows, .slice zb ze zd, .bool true], p0t, (0, 0)⟩ :: (zf ++ []))) [34] [34] [0, 0, 2, 6, 14, 30, 62, 126, 254, 510, 1022, 2046, 4094, 8190, 16382, 32766, 65534, 131070, 262142, 524286, 1048574, 2097150, 4194302, 8388606, 524286, 17301502, 50855934, 117964798, 252182526, 536870910, 1073741822, 2147483646, 4294967295, 8589934591, 17179869183] [0, 1, 2, 3, 4, 5, 6, 7, 8, 9, 10, 11, 12, 13, 14, 15, 16, 17, 18, 19, 20, 21, 22, 23, 24, 25, 26, 27, 28, 29, 30, 31, 32, 33, 34] (by kernel_rfl) (by kernel_rfl) (by kernel_rfl) (kM pI 4 rfl (k_val (v := .bool true) rfl rfl rfl pI (val_load tt_ok rfl mH rfl) rfl ?_))))
  refine kM pI 1 rfl ?_
  obtain ⟨v92, h, hg92⟩ := bsome h
  replace h := ct rfl h
  refine kM pI 12 rfl (kM pI 12 rfl (kM pI 1 rfl ?_))
  obtain rfl := sI h
  have h := hg92; clear hg92
  refine kM pI 3 rfl (k_chg0 rfl rfl rfl (chg_store tt_ok rfl Upd.here rfl rfl rfl rfl rfl rfl) (.inl rfl) ?_)
  rintro _ _ rfl
  refine k_end (by kernel_rfl) ?_
  refine wx_then (wc_seq (wSR (wM 3 rfl (wLd rfl mH rfl rfl (wNT ?_)))))
  replace h := ct rfl h
  refine wc_cond_true rfl ?_
  refine wSR (wM 1 rfl (wNT (wc_ret (wx_then_ret ?_))))
  obtain ⟨rfl, rfl⟩ := pJ2 h
  exact wE Tryd.results25 (rs1 rfl) ⟨zb, ze, zd, zf, zg, zc, rfl, rfl⟩ pI
 refine wM 2 rfl (wl_run rfl (wl_val (v := .pointer (some ((adOf zb).add (v25s.toNat * 5 + 4)))) (val_fa (k := v25s.toNat * 5 + 3) (off := 1) tt_ok rfl rfl rfl rfl rfl) rfl (wl_run rfl (wl_val (v := .bool v25x.other.is_) (val_le (enc := c_T_watch_entry) (xs := za.l) tt_ok rfl (Rds.of_vec zc) ⟨_, (sC hA')⟩ c_T_watch_entry_len xv25 rfl) rfl (wM 1 rfl ?_)))))
 obtain ⟨v48, h, hg48⟩ := bsome h
 refine wls 41 h rfl ?_ ?_ <;> clear h <;> intro h
 ·refine wM 2 rfl (wl_run rfl (wl_val (v := .pointer (some ((adOf zb).add (v25s.toNat * 5 + 3)))) (val_fa (k := v25s.toNat * 5 + 3) (off := 0) tt_ok rfl rfl rfl rfl rfl) rfl (wl_run rfl (wl_val (v := .int .u64 v25x.other.n) (val_le (enc := c_T_watch_entry) (xs := za.l) tt_ok rfl (Rds.of_vec zc) ⟨_, (sC hA')⟩ c_T_watch_entry_len xv25 rfl) rfl (wM 2 rfl ?_)))))
  obtain rfl := sI h
  have h := hg48; clear hg48
  refine wM 1 rfl ?_
  obtain rfl := sI h
  have h := hg49; clear hg49
  refine wM 3 rfl (lSt Upd.here ?_)
  refine wNT (wc_seq (wSR (wM 2 rfl (wl_val (v := .pointer (some ((adOf zb).add (v25s.toNat * 5 + 4)))) (val_fa (k := v25s.toNat * 5 + 3) (off := 1) tt_ok rfl rfl rfl rfl rfl) rfl (wl_val (v := .bool v25x.other.is_) (val_le (enc := c_T_watch_entry) (xs := za.l) tt_ok rfl (Rds.of_vec zc) ⟨_, (sC hA')⟩ c_T_watch_entry_len xv25 rfl) rfl (wM 1 rfl (wNT (wcc h rfl ?_ ?_)))))))) <;> clear h <;> intro h
  ·refine wc_region (wM 4 rfl (wl_chg0 (chg_ste (enc := c_T_watch_entry) (y' := (T_watch_entry.mk v25x.f v25x.own (T_watch_sum.mk p2 true))) tt_ok rfl rfl rfl rfl rfl rfl zg zc (sC hA') c_T_watch_entry_len xv25 rfl (by intro h; cases h)) ?_))
   rintro _ _ ⟨Bs32_4, Ns32_4, Vs32_4, rfl⟩
   refine wNT (wc_k2 (Ls := (Bs32_4 ++ (⟨p0b, [.int .u64 za.rows, .slice zb ze zd, .bool (v25x.other.n != p2)], p0t, (0, 0)⟩ :: []))) [34] [34] [0, 0, 2, 6, 14, 30, 62, 126, 254, 510, 1022, 2046, 4094, 8190, 16382, 32766, 65534, 131070, 262142, 524286, 1048574, 2097150, 4194302, 8388606, 524286, 17301502, 50855934, 117964798, 252182526, 536870910, 1073741822, 2147483646, 4294967295, 8589934591, 17179869183] [0, 1, 2, 3, 4, 5, 6, 7, 8, 9, 10, 11, 12, 13, 14, 15, 16, 17, 18, 19, 20, 21, 22, 23, 24, 25, 26, 27, 28, 29, 30, 31, 32, 33, 34] (by kernel_rfl) (by kernel_rfl) (by kernel_rfl) (kM pI 4 rfl (k_val (v := .bool (v25x.other.n != p2)) rfl rfl rfl pI (val_load tt_ok rfl (mR mH) rfl) rfl ?_)))
   refine kM pI 1 rfl ?_
   obtain ⟨v92, h, hg92⟩ := bsome h
   refine ks 66 h rfl ?_ ?_ <;> clear h <;> intro h
   ·refine kM pI 12 rfl (kM pI 12 rfl (kM pI 1 rfl ?_))
    obtain rfl := sI h
    have h := hg92; clear hg92
    refine kM pI 3 rfl (k_chg0 rfl rfl rfl (chg_store tt_ok rfl (Upd.right Upd.here) rfl rfl rfl rfl rfl rfl) (.inl rfl) ?_)
    rintro _ _ rfl
    refine k_end (by kernel_rfl) ?_
    refine wx_then (wc_seq (wSR (wM 3 rfl (wLd rfl (mR mH) rfl rfl (wNT ?_)))))
    replace h := ct rfl h
    refine wc_cond_true rfl ?_
    refine wSR (wM 1 rfl (wNT (wc_ret (wx_then_ret ?_))))
    obtain ⟨rfl, rfl⟩ := pJ2 h
    exact wE Tryd.results25 (rs1 rfl) ⟨zb, ze, zd, Bs32_4, Ns32_4, Vs32_4, rfl, rfl⟩ pI
   refine kM pI 2 rfl (k_val (v := .pointer (some ((adOf zb).add (v25s.toNat * 5 + 1)))) rfl rfl rfl pI (val_fa (k := v25s.toNat * 5 + 0) (off := 1) tt_ok rfl rfl rfl rfl rfl) rfl (k_val (v := .pointer (some ((adOf zb).add (v25s.toNat * 5 + 2)))) rfl rfl rfl pI (val_fa (k := v25s.toNat * 5 + 1) (off := 1) tt_ok rfl rfl rfl rfl rfl) rfl (k_val (v := .bool v25x.own.is_) rfl rfl rfl pI (val_le (enc := c_T_watch_entry) (xs := (setI za.l v25s (T_watch_entry.mk v25x.f v25x.own (T_watch_sum.mk p2 true)))) tt_ok rfl (Rds.of_vec Vs32_4) ⟨_, hA'⟩ c_T_watch_entry_len (getI_set xv25) rfl) rfl ?_)))
   refine kM pI 1 rfl ?_
   obtain ⟨v78, h, hg78⟩ := bsome h
   refine ks 72 h rfl ?_ ?_ <;> clear h <;> intro h
   ·refine kM pI 2 rfl (k_val (v := .pointer (some ((adOf zb).add (v25s.toNat * 5 + 3)))) rfl rfl rfl pI (val_fa (k := v25s.toNat * 5 + 0) (off := 3) tt_ok rfl rfl rfl rfl rfl) rfl (k_val (v := .pointer (some ((adOf zb).add (v25s.toNat * 5 + 4)))) rfl rfl rfl pI (val_fa (k := v25s.toNat * 5 + 3) (off := 1) tt_ok rfl rfl rfl rfl rfl) rfl (k_val (v := .bool true) rfl rfl rfl pI (val_le (enc := c_T_watch_entry) (xs := (setI za.l v25s (T_watch_entry.mk v25x.f v25x.own (T_watch_sum.mk p2 true)))) tt_ok rfl (Rds.of_vec Vs32_4) ⟨_, hA'⟩ c_T_watch_entry_len (getI_set xv25) rfl) rfl ?_)))
    obtain rfl := sI h
    have h := hg78; clear hg78
    refine kM pI 2 rfl ?_
    obtain ⟨v91, h, hg91⟩ := bsome h
    replace h := ct rfl h
    refine kM pI 2 rfl (k_val (v := .pointer (some ((adOf zb).add (v25s.toNat * 5 + 1)))) rfl rfl rfl pI (val_fa (k := v25s.toNat * 5 + 0) (off := 1) tt_ok rfl rfl rfl rfl rfl) rfl (k_val (v := .pointer (some ((adOf zb).add (v25s.toNat * 5 + 1)))) rfl rfl rfl pI (val_fa (k := v25s.toNat * 5 + 1) (off := 0) tt_ok rfl rfl rfl rfl rfl) rfl (k_val (v := .int .u64 v25x.own.n) rfl rfl rfl pI (val_le (enc := c_T_watch_entry) (xs := (setI za.l v25s (T_watch_entry.mk v25x.f v25x.own (T_watch_sum.mk p2 true)))) tt_ok rfl (Rds.of_vec Vs32_4) ⟨_, hA'⟩ c_T_watch_entry_len (getI_set xv25) rfl) rfl ?_)))
    refine kM pI 2 rfl (k_val (v := .pointer (some ((adOf zb).add (v25s.toNat * 5 + 3)))) rfl rfl rfl pI (val_fa (k := v25s.toNat * 5 + 0) (off := 3) tt_ok rfl rfl rfl rfl rfl) rfl (k_val (v := .pointer (some ((adOf zb).add (v25s.toNat * 5 + 3)))) rfl rfl rfl pI (val_fa (k := v25s.toNat * 5 + 3) (off := 0) tt_ok rfl rfl rfl rfl rfl) rfl (k_val (v := .int .u64 p2) rfl rfl rfl pI (val_le (enc := c_T_watch_entry) (xs := (setI za.l v25s (T_watch_entry.mk v25x.f v25x.own (T_watch_sum.mk p2 true)))) tt_ok rfl (Rds.of_vec Vs32_4) ⟨_, hA'⟩ c_T_watch_entry_len (getI_set xv25) rfl) rfl ?_)))
    refine kM pI 1 rfl ?_
    obtain rfl := sI h
    have h := hg91; clear hg91
    refine kM pI 1 rfl ?_
    obtain rfl := sI h
    have h := hg92; clear hg92
    refine kM pI 3 rfl (k_chg0 rfl rfl rfl (chg_store tt_ok rfl (Upd.right Upd.here) rfl rfl rfl rfl rfl rfl) (.inl rfl) ?_)
    rintro _ _ rfl
    refine k_end (by kernel_rfl) ?_
    refine wx_then (wc_seq (wSR (wM 3 rfl (wLd rfl (mR mH) rfl rfl (wNT (wcc h rfl ?_ ?_)))))) <;> clear h <;> intro h
    ·refine wSR (wM 1 rfl (wNT (wc_ret (wx_then_ret ?_))))
     obtain ⟨rfl, rfl⟩ := pJ2 h
     exact wE Tryd.results25 (rs1 rfl) ⟨zb, ze, zd, Bs32_4, Ns32_4, Vs32_4, rfl, rfl⟩ pI
    refine wc_skip (wx_then (wSR (wM 1 rfl (wNT (wc_ret ?_)))))
    obtain ⟨rfl, rfl⟩ := pJ2 h
    exact wE Tryd.results25 (rs1 rfl) ⟨zb, ze, zd, Bs32_4, Ns32_4, Vs32_4, rfl, rfl⟩ pI
   refine kM pI 5 rfl ?_
   obtain rfl := sI h
   have h := hg78; clear hg78
   refine kM pI 2 rfl ?_
   obtain ⟨v91, h, hg91⟩ := bsome h
   replace h := cf rfl h
   refine kM pI 11 rfl ?_
   obtain rfl := sI h
   have h := hg91; clear hg91
   refine kM pI 1 rfl ?_
   obtain rfl := sI h
   have h := hg92; clear hg92
   refine kM pI 3 rfl (k_chg0 rfl rfl rfl (chg_store tt_ok rfl (Upd.right Upd.here) rfl rfl rfl rfl rfl rfl) (.inl rfl) ?_)
   rintro _ _ rfl
   refine k_end (by kernel_rfl) ?_
   refine wx_then (wc_seq (wSR (wM 3 rfl (wLd rfl (mR mH) rfl rfl (wNT ?_)))))
   replace h := cf rfl h
   refine wc_cond_false rfl ?_
   refine wc_skip (wx_then (wSR (wM 1 rfl (wNT (wc_ret ?_)))))
   obtain ⟨rfl, rfl⟩ := pJ2 h
   exact wE Tryd.results25 (rs1 rfl) ⟨zb, ze, zd, Bs32_4, Ns32_4, Vs32_4, rfl, rfl⟩ pI
  refine wc_skip (wx_then (wc_k2 (Ls := (⟨p0b, [.int .u64 za.rows, .slice zb ze zd, .bool (v25x.other.n != p2)], p0t, (0, 0)⟩ :: (zf ++ []))) [34] [34] [0, 0, 2, 6, 14, 30, 62, 126, 254, 510, 1022, 2046, 4094, 8190, 16382, 32766, 65534, 131070, 262142, 524286, 1048574, 2097150, 4194302, 8388606, 524286, 17301502, 50855934, 117964798, 252182526, 536870910, 1073741822, 2147483646, 4294967295, 8589934591, 17179869183] [0, 1, 2, 3, 4, 5, 6, 7, 8, 9, 10, 11, 12, 13, 14, 15, 16, 17, 18, 19, 20, 21, 22, 23, 24, 25, 26, 27, 28, 29, 30, 31, 32, 33, 34] (by kernel_rfl) (by kernel_rfl) (by kernel_rfl) (kM pI 4 rfl (k_val (v := .bool (v25x.other.n != p2)) rfl rfl rfl pI (val_load tt_ok rfl mH rfl) rfl ?_))))
  refine kM pI 1 rfl ?_
  obtain ⟨v92, h, hg92⟩ := bsome h
  refine ks 66 h rfl ?_ ?_ <;> clear h <;> intro h
  ·refine kM pI 12 rfl (kM pI 12 rfl (kM pI 1 rfl ?_))
   obtain rfl := sI h
   have h := hg92; clear hg92
   refine kM pI 3 rfl (k_chg0 rfl rfl rfl (chg_store tt_ok rfl Upd.here rfl rfl rfl rfl rfl rfl) (.inl rfl) ?_)
   rintro _ _ rfl
   refine k_end (by kernel_rfl) ?_
   refine wx_then (wc_seq (wSR (wM 3 rfl (wLd rfl mH rfl rfl (wNT ?_)))))
   replace h := ct rfl h
   refine wc_cond_true rfl ?_
   refine wSR (wM 1 rfl (wNT (wc_ret (wx_then_ret ?_))))
   obtain ⟨rfl, rfl⟩ := pJ2 h
   exact wE Tryd.results25 (rs1 rfl) ⟨zb, ze, zd, zf, zg, zc, rfl, rfl⟩ pI
  refine kM pI 2 rfl (k_val (v := .pointer (some ((adOf zb).add (v25s.toNat * 5 + 1)))) rfl rfl rfl pI (val_fa (k := v25s.toNat * 5 + 0) (off := 1) tt_ok rfl rfl rfl rfl rfl) rfl (k_val (v := .pointer (some ((adOf zb).add (v25s.toNat * 5 + 2)))) rfl rfl rfl pI (val_fa (k := v25s.toNat * 5 + 1) (off := 1) tt_ok rfl rfl rfl rfl rfl) rfl (k_val (v := .bool v25x.own.is_) rfl rfl rfl pI (val_le (enc := c_T_watch_entry) (xs := za.l) tt_ok rfl (Rds.of_vec zc) ⟨_, (sC hA')⟩ c_T_watch_entry_len xv25 rfl) rfl (kM pI 1 rfl ?_))))
  obtain ⟨v78, h, hg78⟩ := bsome h
  refine ks 72 h rfl ?_ ?_ <;> clear h <;> intro h
  ·refine kM pI 2 rfl (k_val (v := .pointer (some ((adOf zb).add (v25s.toNat * 5 + 3)))) rfl rfl rfl pI (val_fa (k := v25s.toNat * 5 + 0) (off := 3) tt_ok rfl rfl rfl rfl rfl) rfl (k_val (v := .pointer (some ((adOf zb).add (v25s.toNat * 5 + 4)))) rfl rfl rfl pI (val_fa (k := v25s.toNat * 5 + 3) (off := 1) tt_ok rfl rfl rfl rfl rfl) rfl (k_val (v := .bool v25x.other.is_) rfl rfl rfl pI (val_le (enc := c_T_watch_entry) (xs := za.l) tt_ok rfl (Rds.of_vec zc) ⟨_, (sC hA')⟩ c_T_watch_entry_len xv25 rfl) rfl ?_)))
   obtain rfl := sI h
   have h := hg78; clear hg78
   refine kM pI 2 rfl ?_
   obtain ⟨v91, h, hg91⟩ := bsome h
   refine ks 79 h rfl ?_ ?_ <;> clear h <;> intro h
   ·refine kM pI 2 rfl (k_val (v := .pointer (some ((adOf zb).add (v25s.toNat * 5 + 1)))) rfl rfl rfl pI (val_fa (k := v25s.toNat * 5 + 0) (off := 1) tt_ok rfl rfl rfl rfl rfl) rfl (k_val (v := .pointer (some ((adOf zb).add (v25s.toNat * 5 + 1)))) rfl rfl rfl pI (val_fa (k := v25s.toNat * 5 + 1) (off := 0) tt_ok rfl rfl rfl rfl rfl) rfl (k_val (v := .int .u64 v25x.own.n) rfl rfl rfl pI (val_le (enc := c_T_watch_entry) (xs := za.l) tt_ok rfl (Rds.of_vec zc) ⟨_, (sC hA')⟩ c_T_watch_entry_len xv25 rfl) rfl (kM pI 2 rfl ?_))))
    refine k_val (v := .pointer (some ((adOf zb).add (v25s.toNat * 5 + 3)))) rfl rfl rfl pI (val_fa (k := v25s.toNat * 5 + 0) (off := 3) tt_ok rfl rfl rfl rfl rfl) rfl (k_val (v := .pointer (some ((adOf zb).add (v25s.toNat * 5 + 3)))) rfl rfl rfl pI (val_fa (k := v25s.toNat * 5 + 3) (off := 0) tt_ok rfl rfl rfl rfl rfl) rfl (k_val (v := .int .u64 v25x.other.n) rfl rfl rfl pI (val_le (enc := c_T_watch_entry) (xs := za.l) tt_ok rfl (Rds.of_vec zc) ⟨_, (sC hA')⟩ c_T_watch_entry_len xv25 rfl) rfl (kM pI 1 rfl ?_)))
    obtain rfl := sI h
    have h := hg91; clear hg91
    refine kM pI 1 rfl ?_
    obtain rfl := sI h
    have h := hg92; clear hg92
    refine kM pI 3 rfl (k_chg0 rfl rfl rfl (chg_store tt_ok rfl Upd.here rfl rfl rfl rfl rfl rfl) (.inl rfl) ?_)
    rintro _ _ rfl
    refine k_end (by kernel_rfl) ?_
    refine wx_then (wc_seq (wSR (wM 3 rfl (wLd rfl mH rfl rfl (wNT (wcc h rfl ?_ ?_)))))) <;> clear h <;> intro h
    ·refine wSR (wM 1 rfl (wNT (wc_ret (wx_then_ret ?_))))
     obtain ⟨rfl, rfl⟩ := pJ2 h
     exact wE Tryd.results25 (rs1 rfl) ⟨zb, ze, zd, zf, zg, zc, rfl, rfl⟩ pI
    refine wc_skip (wx_then (wSR (wM 1 rfl (wNT (wc_ret ?_)))))
    obtain ⟨rfl, rfl⟩ := pJ2 h
    exact wE Tryd.results25 (rs1 rfl) ⟨zb, ze, zd, zf, zg, zc, rfl, rfl⟩ pI
   refine kM pI 11 rfl ?_
   obtain rfl := sI h
   have h := hg91; clear hg91
   refine kM pI 1 rfl ?_
   obtain rfl := sI h
   have h := hg92; clear hg92
   refine kM pI 3 rfl (k_chg0 rfl rfl rfl (chg_store tt_ok rfl Upd.here rfl rfl rfl rfl rfl rfl) (.inl rfl) ?_)
   rintro _ _ rfl
   refine k_end (by kernel_rfl) ?_
   refine wx_then (wc_seq (wSR (wM 3 rfl (wLd rfl mH rfl rfl (wNT ?_)))))
   replace h := cf rfl h
   refine wc_cond_false rfl ?_
   refine wc_skip (wx_then (wSR (wM 1 rfl (wNT (wc_ret ?_)))))
   obtain ⟨rfl, rfl⟩ := pJ2 h
   exact wE Tryd.results25 (rs1 rfl) ⟨zb, ze, zd, zf, zg, zc, rfl, rfl⟩ pI
  refine kM pI 5 rfl ?_
  obtain rfl := sI h
  have h := hg78; clear hg78
  refine kM pI 2 rfl ?_
  obtain ⟨v91, h, hg91⟩ := bsome h
  replace h := cf rfl h
  refine kM pI 11 rfl ?_
  obtain rfl := sI h
  have h := hg91; clear hg91
  refine kM pI 1 rfl ?_
  obtain rfl := sI h
  have h := hg92; clear hg92
  refine kM pI 3 rfl (k_chg0 rfl rfl rfl (chg_store tt_ok rfl Upd.here rfl rfl rfl rfl rfl rfl) (.inl rfl) ?_)
  rintro _ _ rfl
  refine k_end (by kernel_rfl) ?_
  refine wx_then (wc_seq (wSR (wM 3 rfl (wLd rfl mH rfl rfl (wNT ?_)))))
  replace h := cf rfl h
  refine wc_cond_false rfl ?_
  refine wc_skip (wx_then (wSR (wM 1 rfl (wNT (wc_ret ?_)))))
  obtain ⟨rfl, rfl⟩ := pJ2 h
  exact wE Tryd.results25 (rs1 rfl) ⟨zb, ze, zd, zf, zg, zc, rfl, rfl⟩ pI
 refine wM 6 rfl ?_
 obtain rfl := sI h
 have h := hg48; clear hg48
 refine wM 1 rfl ?_
 obtain rfl := sI h
 have h := hg49; clear hg49
 refine wM 3 rfl (lSt Upd.here ?_)
 refine wNT (wc_seq (wSR (wM 2 rfl (wl_val (v := .pointer (some ((adOf zb).add (v25s.toNat * 5 + 4)))) (val_fa (k := v25s.toNat * 5 + 3) (off := 1) tt_ok rfl rfl rfl rfl rfl) rfl (wl_val (v := .bool v25x.other.is_) (val_le (enc := c_T_watch_entry) (xs := za.l) tt_ok rfl (Rds.of_vec zc) ⟨_, (sC hA')⟩ c_T_watch_entry_len xv25 rfl) rfl (wM 1 rfl (wNT (wcc h rfl ?_ ?_)))))))) <;> clear h <;> intro h
 ·refine wc_region (wM 4 rfl (wl_chg0 (chg_ste (enc := c_T_watch_entry) (y' := (T_watch_entry.mk v25x.f v25x.own (T_watch_sum.mk p2 true))) tt_ok rfl rfl rfl rfl rfl rfl zg zc (sC hA') c_T_watch_entry_len xv25 rfl (by intro h; cases h)) ?_))
  rintro _ _ ⟨Bs32_4, Ns32_4, Vs32_4, rfl⟩
  refine wNT (wc_k2 (Ls := (Bs32_4 ++ (⟨p0b, [.int .u64 za.rows, .slice zb ze zd, .bool false], p0t, (0, 0)⟩ :: []))) [34] [34] [0, 0, 2, 6, 14, 30, 62, 126, 254, 510, 1022, 2046, 4094, 8190, 16382, 32766, 65534, 131070, 262142, 524286, 1048574, 2097150, 4194302, 8388606, 524286, 17301502, 50855934, 117964798, 252182526, 536870910, 1073741822, 2147483646, 4294967295, 8589934591, 17179869183] [0, 1, 2, 3, 4, 5, 6, 7, 8, 9, 10, 11, 12, 13, 14, 15, 16, 17, 18, 19, 20, 21, 22, 23, 24, 25, 26, 27, 28, 29, 30, 31, 32, 33, 34] (by kernel_rfl) (by kernel_rfl) (by kernel_rfl) (kM pI 4 rfl (k_val (v := .bool false) rfl rfl rfl pI (val_load tt_ok rfl (mR mH) rfl) rfl ?_)))
  refine kM pI 1 rfl ?_
  obtain ⟨v92, h, hg92⟩ := bsome h
  replace h := cf rfl h
  refine kM pI 2 rfl (k_val (v := .pointer (some ((adOf zb).add (v25s.toNat * 5 + 1)))) rfl rfl rfl pI (val_fa (k := v25s.toNat * 5 + 0) (off := 1) tt_ok rfl rfl rfl rfl rfl) rfl (k_val (v := .pointer (some ((adOf zb).add (v25s.toNat * 5 + 2)))) rfl rfl rfl pI (val_fa (k := v25s.toNat * 5 + 1) (off := 1) tt_ok rfl rfl rfl rfl rfl) rfl (k_val (v := .bool v25x.own.is_) rfl rfl rfl pI (val_le (enc := c_T_watch_entry) (xs := (setI za.l v25s (T_watch_entry.mk v25x.f v25x.own (T_watch_sum.mk p2 true)))) tt_ok rfl (Rds.of_vec Vs32_4) ⟨_, hA'⟩ c_T_watch_entry_len (getI_set xv25) rfl) rfl ?_)))
  refine kM pI 1 rfl ?_
  obtain ⟨v78, h, hg78⟩ := bsome h
  refine ks 72 h rfl ?_ ?_ <;> clear h <;> intro h
  ·refine kM pI 2 rfl (k_val (v := .pointer (some ((adOf zb).add (v25s.toNat * 5 + 3)))) rfl rfl rfl pI (val_fa (k := v25s.toNat * 5 + 0) (off := 3) tt_ok rfl rfl rfl rfl rfl) rfl (k_val (v := .pointer (some ((adOf zb).add (v25s.toNat * 5 + 4)))) rfl rfl rfl pI (val_fa (k := v25s.toNat * 5 + 3) (off := 1) tt_ok rfl rfl rfl rfl rfl) rfl (k_val (v := .bool true) rfl rfl rfl pI (val_le (enc := c_T_watch_entry) (xs := (setI za.l v25s (T_watch_entry.mk v25x.f v25x.own (T_watch_sum.mk p2 true)))) tt_ok rfl (Rds.of_vec Vs32_4) ⟨_, hA'⟩ c_T_watch_entry_len (getI_set xv25) rfl) rfl ?_)))
   obtain rfl := sI h
   have h := hg78; clear hg78
   refine kM pI 2 rfl ?_
   obtain ⟨v91, h, hg91⟩ := bsome h
   replace h := ct rfl h
   refine kM pI 2 rfl (k_val (v := .pointer (some ((adOf zb).add (v25s.toNat * 5 + 1)))) rfl rfl rfl pI (val_fa (k := v25s.toNat * 5 + 0) (off := 1) tt_ok rfl rfl rfl rfl rfl) rfl (k_val (v := .pointer (some ((adOf zb).add (v25s.toNat * 5 + 1)))) rfl rfl rfl pI (val_fa (k := v25s.toNat * 5 + 1) (off := 0) tt_ok rfl rfl rfl rfl rfl) rfl (k_val (v := .int .u64 v25x.own.n) rfl rfl rfl pI (val_le (enc := c_T_watch_entry) (xs := (setI za.l v25s (T_watch_entry.mk v25x.f v25x.own (T_watch_sum.mk p2 true)))) tt_ok rfl (Rds.of_vec Vs32_4) ⟨_, hA'⟩ c_T_watch_entry_len (getI_set xv25) rfl) rfl ?_)))
   refine kM pI 2 rfl (k_val (v := .pointer (some ((adOf zb).add (v25s.toNat * 5 + 3)))) rfl rfl rfl pI (val_fa (k := v25s.toNat * 5 + 0) (off := 3) tt_ok rfl rfl rfl rfl rfl) rfl (k_val (v := .pointer (some ((adOf zb).add (v25s.toNat * 5 + 3)))) rfl rfl rfl pI (val_fa (k := v25s.toNat * 5 + 3) (off := 0) tt_ok rfl rfl rfl rfl rfl) rfl (k_val (v := .int .u64 p2) rfl rfl rfl pI (val_le (enc := c_T_watch_entry) (xs := (setI za.l v25s (T_watch_entry.mk v25x.f v25x.own (T_watch_sum.mk p2 true)))) tt_ok rfl (Rds.of_vec Vs32_4) ⟨_, hA'⟩ c_T_watch_entry_len (getI_set xv25) rfl) rfl ?_)))
   refine kM pI 1 rfl ?_
   obtain rfl := sI h
   have h := hg91; clear hg91
   refine kM pI 1 rfl ?_
   obtain rfl := sI h
   have h := hg92; clear hg92
   refine kM pI 3 rfl (k_chg0 rfl rfl rfl (chg_store tt_ok rfl (Upd.right Upd.here) rfl rfl rfl rfl rfl rfl) (.inl rfl) ?_)
   rintro _ _ rfl
   refine k_end (by kernel_rfl) ?_
   refine wx_then (wc_seq (wSR (wM 3 rfl (wLd rfl (mR mH) rfl rfl (wNT (wcc h rfl ?_ ?_)))))) <;> clear h <;> intro h
   ·refine wSR (wM 1 rfl (wNT (wc_ret (wx_then_ret ?_))))
    obtain ⟨rfl, rfl⟩ := pJ2 h
    exact wE Tryd.results25 (rs1 rfl) ⟨zb, ze, zd, Bs32_4, Ns32_4, Vs32_4, rfl, rfl⟩ pI
   refine wc_skip (wx_then (wSR (wM 1 rfl (wNT (wc_ret ?_)))))
   obtain ⟨rfl, rfl⟩ := pJ2 h
   exact wE Tryd.results25 (rs1 rfl) ⟨zb, ze, zd, Bs32_4, Ns32_4, Vs32_4, rfl, rfl⟩ pI
  refine kM pI 5 rfl ?_
  obtain rfl := sI h
  have h := hg78; clear hg78
  refine kM pI 2 rfl ?_
  obtain ⟨v91, h, hg91⟩ := bsome h
  replace h := cf rfl h
  refine kM pI 11 rfl ?_
  obtain rfl := sI h
  have h := hg91; clear hg91
  refine kM pI 1 rfl ?_
  obtain rfl := sI h
  have h := hg92; clear hg92
  refine kM pI 3 rfl (k_chg0 rfl rfl rfl (chg_store tt_ok rfl (Upd.right Upd.here) rfl rfl rfl rfl rfl rfl) (.inl rfl) ?_)
  rintro _ _ rfl
  refine k_end (by kernel_rfl) ?_
  refine wx_then (wc_seq (wSR (wM 3 rfl (wLd rfl (mR mH) rfl rfl (wNT ?_)))))
  replace h := cf rfl h
  refine wc_cond_false rfl ?_
  refine wc_skip (wx_then (wSR (wM 1 rfl (wNT (wc_ret ?_)))))
  obtain ⟨rfl, rfl⟩ := pJ2 h
  exact wE Tryd.results25 (rs1 rfl) ⟨zb, ze, zd, Bs32_4, Ns32_4, Vs32_4, rfl, rfl⟩ pI
 refine wc_skip (wx_then (wc_k2 (Ls := (⟨p0b, [.int .u64 za.rows, .slice zb ze zd, .bool false], p0t, (0, 0)⟩ :: (zf ++ []))) [34] [34] [0, 0, 2, 6, 14, 30, 62, 126, 254, 510, 1022, 2046, 4094, 8190, 16382, 32766, 65534, 131070, 262142, 524286, 1048574, 2097150, 4194302, 8388606, 524286, 17301502, 50855934, 117964798, 252182526, 536870910, 1073741822, 2147483646, 4294967295, 8589934591, 17179869183] [0, 1, 2, 3, 4, 5, 6, 7, 8, 9, 10, 11, 12, 13, 14, 15, 16, 17, 18, 19, 20, 21, 22, 23, 24, 25, 26, 27, 28, 29, 30, 31, 32, 33, 34] (by kernel_rfl) (by kernel_rfl) (by kernel_rfl) (kM pI 4 rfl (k_val (v := .bool false) rfl rfl rfl pI (val_load tt_ok rfl mH rfl) rfl ?_))))
 refine kM pI 1 rfl ?_
 obtain ⟨v92, h, hg92⟩ := bsome h
 replace h := cf rfl h
 refine kM pI 2 rfl (k_val (v := .pointer (some ((adOf zb).add (v25s.toNat * 5 + 1)))) rfl rfl rfl pI (val_fa (k := v25s.toNat * 5 + 0) (off := 1) tt_ok rfl rfl rfl rfl rfl) rfl (k_val (v := .pointer (some ((adOf zb).add (v25s.toNat * 5 + 2)))) rfl rfl rfl pI (val_fa (k := v25s.toNat * 5 + 1) (off := 1) tt_ok rfl rfl rfl rfl rfl) rfl (k_val (v := .bool v25x.own.is_) rfl rfl rfl pI (val_le (enc := c_T_watch_entry) (xs := za.l) tt_ok rfl (Rds.of_vec zc) ⟨_, (sC hA')⟩ c_T_watch_entry_len xv25 rfl) rfl (kM pI 1 rfl ?_))))
 obtain ⟨v78, h, hg78⟩ := bsome h
 refine ks 72 h rfl ?_ ?_ <;> clear h <;> intro h
 ·refine kM pI 2 rfl (k_val (v := .pointer (some ((adOf zb).add (v25s.toNat * 5 + 3)))) rfl rfl rfl pI (val_fa (k := v25s.toNat * 5 + 0) (off := 3) tt_ok rfl rfl rfl rfl rfl) rfl (k_val (v := .pointer (some ((adOf zb).add (v25s.toNat * 5 + 4)))) rfl rfl rfl pI (val_fa (k := v25s.toNat * 5 + 3) (off := 1) tt_ok rfl rfl rfl rfl rfl) rfl (k_val (v := .bool v25x.other.is_) rfl rfl rfl pI (val_le (enc := c_T_watch_entry) (xs := za.l) tt_ok rfl (Rds.of_vec zc) ⟨_, (sC hA')⟩ c_T_watch_entry_len xv25 rfl) rfl ?_)))
  obtain rfl := sI h
  have h := hg78; clear hg78
  refine kM pI 2 rfl ?_
  obtain ⟨v91, h, hg91⟩ := bsome h
  refine ks 79 h rfl ?_ ?_ <;> clear h <;> intro h
  ·refine kM pI 2 rfl (k_val (v := .pointer (some ((adOf zb).add (v25s.toNat * 5 + 1)))) rfl rfl rfl pI (val_fa (k := v25s.toNat * 5 + 0) (off := 1) tt_ok rfl rfl rfl rfl rfl) rfl (k_val (v := .pointer (some ((adOf zb).add (v25s.toNat * 5 + 1)))) rfl rfl rfl pI (val_fa (k := v25s.toNat * 5 + 1) (off := 0) tt_ok rfl rfl rfl rfl rfl) rfl (k_val (v := .int .u64 v25x.own.n) rfl rfl rfl pI (val_le (enc := c_T_watch_entry) (xs := za.l) tt_ok rfl (Rds.of_vec zc) ⟨_, (sC hA')⟩ c_T_watch_entry_len xv25 rfl) rfl (kM pI 2 rfl ?_))))
   refine k_val (v := .pointer (some ((adOf zb).add (v25s.toNat * 5 + 3)))) rfl rfl rfl pI (val_fa (k := v25s.toNat * 5 + 0) (off := 3) tt_ok rfl rfl rfl rfl rfl) rfl (k_val (v := .pointer (some ((adOf zb).add (v25s.toNat * 5 + 3)))) rfl rfl rfl pI (val_fa (k := v25s.toNat * 5 + 3) (off := 0) tt_ok rfl rfl rfl rfl rfl) rfl (k_val (v := .int .u64 v25x.other.n) rfl rfl rfl pI (val_le (enc := c_T_watch_entry) (xs := za.l) tt_ok rfl (Rds.of_vec zc) ⟨_, (sC hA')⟩ c_T_watch_entry_len xv25 rfl) rfl (kM pI 1 rfl ?_)))
   obtain rfl := sI h
   have h := hg91; clear hg91
   refine kM pI 1 rfl ?_
   obtain rfl := sI h
   have h := hg92; clear hg92
   refine kM pI 3 rfl (k_chg0 rfl rfl rfl (chg_store tt_ok rfl Upd.here rfl rfl rfl rfl rfl rfl) (.inl rfl) ?_)
   rintro _ _ rfl
   refine k_end (by kernel_rfl) ?_
   refine wx_then (wc_seq (wSR (wM 3 rfl (wLd rfl mH rfl rfl (wNT (wcc h rfl ?_ ?_)))))) <;> clear h <;> intro h
   ·refine wSR (wM 1 rfl (wNT (wc_ret (wx_then_ret ?_))))
    obtain ⟨rfl, rfl⟩ := pJ2 h
    exact wE Tryd.results25 (rs1 rfl) ⟨zb, ze, zd, zf, zg, zc, rfl, rfl⟩ pI
   refine wc_skip (wx_then (wSR (wM 1 rfl (wNT (wc_ret ?_)))))
   obtain ⟨rfl, rfl⟩ := pJ2 h
   exact wE Tryd.results25 (rs1 rfl) ⟨zb, ze, zd, zf, zg, zc, rfl, rfl⟩ pI
  refine kM pI 11 rfl ?_
  obtain rfl := sI h
  have h := hg91; clear hg91
  refine kM pI 1 rfl ?_
  obtain rfl := sI h
  have h := hg92; clear hg92
  refine kM pI 3 rfl (k_chg0 rfl rfl rfl (chg_store tt_ok rfl Upd.here rfl rfl rfl rfl rfl rfl) (.inl rfl) ?_)
  rintro _ _ rfl
  refine k_end (by kernel_rfl) ?_
  refine wx_then (wc_seq (wSR (wM 3 rfl (wLd rfl mH rfl rfl (wNT ?_)))))
  replace h := cf rfl h
  refine wc_cond_false rfl ?_
  refine wc_skip (wx_then (wSR (wM 1 rfl (wNT (wc_ret ?_)))))
  obtain ⟨rfl, rfl⟩ := pJ2 h
  exact wE Tryd.results25 (rs1 rfl) ⟨zb, ze, zd, zf, zg, zc, rfl, rfl⟩ pI
 refine kM pI 5 rfl ?_
 obtain rfl := sI h
 have h := hg78; clear hg78
 refine kM pI 2 rfl ?_
 obtain ⟨v91, h, hg91⟩ := bsome h
 replace h := cf rfl h
 refine kM pI 11 rfl ?_
 obtain rfl := sI h
 have h := hg91; clear hg91
 refine kM pI 1 rfl ?_
 obtain rfl := sI h
 have h := hg92; clear hg92
 refine kM pI 3 rfl (k_chg0 rfl rfl rfl (chg_store tt_ok rfl Upd.here rfl rfl rfl rfl rfl rfl) (.inl rfl) ?_)
 rintro _ _ rfl
 refine k_end (by kernel_rfl) ?_
 refine wx_then (wc_seq (wSR (wM 3 rfl (wLd rfl mH rfl rfl (wNT ?_)))))
 replace h := cf rfl h
 refine wc_cond_false rfl ?_
 refine wc_skip (wx_then (wSR (wM 1 rfl (wNT (wc_ret ?_)))))
 obtain ⟨rfl, rfl⟩ := pJ2 h
 exact wE Tryd.results25 (rs1 rfl) ⟨zb, ze, zd, zf, zg, zc, rfl, rfl⟩ pI

theorem k_watch_Watch_Other {p0 : T_watch_Watch} {p1 : Int} {p2 : Int} {r0 : T_watch_Watch} {r1 : Int} (p0N0 : p0n0 = p0.l.length) (p0V0 : Own 73 5 p0a0 p0n0 p0c0 (flat c_T_watch_entry p0.l) p0B0) (h : m_watch_Watch_Other F p0 p1 p2 = some (r0, r1)) :
    SpD Tryd.prog 17 [.pointer (some ⟨p0b, 0, none⟩), .int .u64 p1, .int .u64 p2] (⟨p0b, [.int .u64 p0.rows, .slice p0a0 p0n0 p0c0, .bool p0.clashed], p0t, (0, 0)⟩ :: (p0B0 ++ [])) (fun w => True) (fun v D => ∃ r0a0 r0n0 r0c0 r0B0, r0n0 = r0.l.length ∧ Own 73 5 r0a0 r0n0 r0c0 (flat c_T_watch_entry r0.l) r0B0 ∧ v = .int .i64 r1 ∧ D = fun F => (⟨p0b, [.int .u64 r0.rows, .slice r0a0 r0n0 r0c0, .bool r0.clashed], p0t, (0, 0)⟩ :: (r0B0 ++ F))) := by
 unfold m_watch_Watch_Other at h
 refine sp_of_wc Tryd.func17 rfl Tryd.ntmps17 rfl rfl (fun w0 hR => ?_)
 refine wSR (wM 1 rfl (wNT (wSR (wM 3 rfl ?_))))
 replace h := bsome h; obtain ⟨⟨za, v10⟩, x10, h⟩ := h; try dsimp only at h
 refine wl_cs Tryd.call25 rfl rfl rfl (s_sp (k_watch_Watch_told_f3_watch_otherSide (p0 := p0) (p0t := p0t) p0N0 p0V0 x10) pP (fun _ _ => trivial)) rfl ?_
 rintro _ _ ⟨_, ⟨ze, zg, zf, zb, zc, zd, rfl, rfl⟩, rfl⟩
 refine wM 1 rfl (wNT (wc_ret ?_))
 obtain ⟨rfl, rfl⟩ := pJ2 h
 exact wE Tryd.results17 (rs1 rfl) ⟨ze, zg, zf, zb, zc, zd, rfl, rfl⟩ pI

theorem k_watch_Watch_Agreed {p0 : T_watch_Watch} {r0 : Int} {r1 : Bool} (p0N0 : p0n0 = p0.l.length) (p0V0 : Own 73 5 p0a0 p0n0 p0c0 (flat c_T_watch_entry p0.l) p0B0) (h : m_watch_Watch_Agreed F p0 = some (r0, r1)) :
    Rd2 Tryd.prog 14 [.pointer (some ⟨p0b, 0, none⟩)] (⟨p0b, [.int .u64 p0.rows, .slice p0a0 p0n0 p0c0, .bool p0.clashed], p0t, (0, 0)⟩ :: (p0B0 ++ [])) (fun w => True) (.tuple #[.int .u64 r0, .bool r1]) := by
 unfold m_watch_Watch_Agreed at h
 refine sp_of_wc Tryd.func14 rfl Tryd.ntmps14 rfl rfl (fun w0 hR => ?_)
 refine wSR (wM 2 rfl (wNT (wc_seq (wSR (wM 1 rfl ?_)))))
 obtain ⟨v7, x7, h⟩ := bsome h
 refine wl_cq Tryd.call24 rfl rfl rfl (q_rd (k_watch_Watch_is (p0 := p0) (p0t := p0t) p0N0 p0V0 x7) pP (fun _ _ => trivial)) rfl ?_
 refine wM 1 rfl (wNT (wcc h rfl ?_ ?_)) <;> clear h <;> intro h
 ·refine wSR (wM 2 rfl (wNT (wc_ret (wx_then_ret ?_))))
  obtain ⟨rfl, rfl⟩ := pJ2 h
  exact wx_rd tt_ok (.inl rfl) Tryd.results14 (rs2 rfl rfl) pI rfl
 refine wc_skip (wx_then (wc_seq (wSR (wM 3 rfl (wLd rfl mH rfl rfl (wl_val (v := .int .i64 (p0.l.length : Int)) (val_len tt_ok rfl rfl p0N0) rfl (wM 1 rfl (wNT (wc_block ?_)))))))))
 replace h := bsome h; obtain ⟨⟨zd, ze⟩, h, hl15⟩ := h; try dsimp only at hl15
 refine wc_loop (fun m E L => ∃ zb zc za, m_watch_Watch_Agreed_L14 F p0 m zb zc za = some (zd, ze) ∧ E = [(2, .int .u64 zb), (3, .bool zc), (12, .slice p0a0 p0n0 p0c0), (13, .int .i64 (p0.l.length : Int)), (14, .int .i64 za)] ∧ L = (⟨p0b, [.int .u64 p0.rows, .slice p0a0 p0n0 p0c0, .bool p0.clashed], p0t, (0, 0)⟩ :: (p0B0 ++ []))) F ⟨(0 : Int), false, (0 : Int), h, rfl, rfl⟩ (ag5 rfl rfl rfl rfl rfl) pI ?_
 clear h
 rintro m15 _ _ ⟨zb, zc, za, h, rfl, rfl⟩
 rcases m15 with _ | m15
 ·rw [m_watch_Watch_Agreed_L14.eq_1] at h; cases h
 rw [m_watch_Watch_Agreed_L14.eq_2] at h
 refine wSR (wM 1 rfl (wNT (wc_seq (wcc h rfl ?_ ?_)))) <;> clear h <;> intro h
 ·refine wc_skip (wx_then (wc_seq (wc_block (wSR ?_))))
  obtain ⟨v16, x16, h⟩ := bsome h
  refine wl_val (v := .pointer (some ((adOf p0a0).add (za.toNat * 5 + 0)))) (val_ix (enc := c_T_watch_entry) tt_ok rfl rfl rfl rfl p0N0 (Rds.of_vec p0V0) c_T_watch_entry_len rfl x16) rfl ?_
  refine wl_val (v := .agg #[.int .u64 v16.f, .int .u64 v16.own.n, .bool v16.own.is_, .int .u64 v16.other.n, .bool v16.other.is_]) (val_le (enc := c_T_watch_entry) (xs := p0.l) tt_ok rfl (Rds.of_vec p0V0) ⟨_, (sC hA')⟩ c_T_watch_entry_len x16 rfl) rfl ?_
  refine wl_alloc tt_ok rfl rfl (fun b5 => ?_)
  refine lSt Upd.here ?_
  refine wNT (wSR (wM 2 rfl (wLd rfl mH rfl rfl (wM 1 rfl ?_))))
  obtain ⟨v27, h, hg27⟩ := bsome h
  refine wls 21 h rfl ?_ ?_ <;> clear h <;> intro h
  ·refine wM 1 rfl (wl_run rfl (wLd (v := .agg #[.int .u64 v16.own.n, .bool v16.own.is_]) rfl mH rfl rfl (wM 1 rfl (wl_run rfl (wLd (v := .agg #[.int .u64 v16.other.n, .bool v16.other.is_]) rfl mH rfl rfl (wl_run rfl (wl_val (v := .bool ((v16.own.n == v16.other.n) && (v16.own.is_ == v16.other.is_))) (val_eqs tt_ok tt_eq tt_one Tryd.eqGuardType71 rfl rfl rfl rfl rfl) rfl ?_)))))))
   obtain rfl := sI h
   have h := hg27; clear hg27
   refine wM 1 rfl (wNT (wcc h rfl ?_ ?_)) <;> clear h <;> intro h
   ·refine wc_region (wM 1 rfl (wLd rfl mH rfl rfl (wM 2 rfl (wl_nil (wx_block (wx_then (wc_region (wM 2 rfl (wl_nil ?_)))))))))
    exact wx_round m15 (Nat.lt_succ_self m15) ⟨v16.f, true, (IntKind.wrap .i64 (za + (1 : Int))), h, rfl, rfl⟩ (ag5 rfl rfl rfl rfl rfl) pI
   refine wc_skip (wx_block (wx_then (wc_region (wM 2 rfl (wl_nil ?_)))))
   exact wx_round m15 (Nat.lt_succ_self m15) ⟨zb, zc, (IntKind.wrap .i64 (za + (1 : Int))), h, rfl, rfl⟩ (ag5 rfl rfl rfl rfl rfl) pI
  refine wM 5 rfl ?_
  obtain rfl := sI h
  have h := hg27; clear hg27
  refine wM 1 rfl (wNT ?_)
  replace h := cf rfl h
  refine wc_cond_false rfl ?_
  refine wc_skip (wx_block (wx_then (wc_region (wM 2 rfl (wl_nil ?_)))))
  exact wx_round m15 (Nat.lt_succ_self m15) ⟨zb, zc, (IntKind.wrap .i64 (za + (1 : Int))), h, rfl, rfl⟩ (ag5 rfl rfl rfl rfl rfl) pI
 refine wc_exit (wx_then_exit ?_)
 obtain ⟨rfl, rfl⟩ := pJ2 h
 have h := hl15; clear hl15; try dsimp only [orE_l, orE_r] at h
 refine wx_then_exit (wx_block_exit (wx_then (wSR ?_)))
 refine wM 4 rfl (wNT (wc_ret ?_))
 obtain ⟨rfl, rfl⟩ := pJ2 h
 exact wx_rd tt_ok (.inl rfl) Tryd.results14 (rs2 rfl rfl) pI rfl

theorem k_watch_Watch_Clashed {p0 : T_watch_Watch} {r0 : Bool} (p0N0 : p0n0 = p0.l.length) (p0V0 : Own 73 5 p0a0 p0n0 p0c0 (flat c_T_watch_entry p0.l) p0B0) (h : m_watch_Watch_Clashed F p0 = some r0) :
    Rd2 Tryd.prog 11 [.pointer (some ⟨p0b, 0, none⟩)] (⟨p0b, [.int .u64 p0.rows, .slice p0a0 p0n0 p0c0, .bool p0.clashed], p0t, (0, 0)⟩ :: (p0B0 ++ [])) (fun w => True) (.bool r0) := by
 unfold m_watch_Watch_Clashed at h
 refine sp_of_wc Tryd.func11 rfl Tryd.ntmps11 rfl rfl (fun w0 hR => ?_)
 refine wSR (wM 1 rfl (wNT (wSR (wM 1 rfl ?_))))
 obtain ⟨v4, x4, h⟩ := bsome h
 refine wl_cq Tryd.call24 rfl rfl rfl (q_rd (k_watch_Watch_is (p0 := p0) (p0t := p0t) p0N0 p0V0 x4) pP (fun _ _ => trivial)) rfl ?_
 refine wM 1 rfl ?_
 obtain ⟨v10, h, hg10⟩ := bsome h
 refine wls 5 h rfl ?_ ?_ <;> clear h <;> intro h
 ·refine wM 3 rfl (wl_run rfl (wLd rfl mH rfl rfl ?_))
  obtain rfl := sI h
  have h := hg10; clear hg10
  refine wM 2 rfl (wNT (wc_ret ?_))
  obtain rfl := sI h
  exact wx_rd tt_ok (.inl rfl) Tryd.results11 (rs1 rfl) pI rfl
 refine wM 4 rfl ?_
 obtain rfl := sI h
 have h := hg10; clear hg10
 refine wM 2 rfl (wNT (wc_ret ?_))
 obtain rfl := sI h
 exact wx_rd tt_ok (.inl rfl) Tryd.results11 (rs1 rfl) pI rfl

theorem k_hindcastlaw29_awake {r0 : Bool} (h : m_hindcastlaw29_awake F = some r0) :
    Pf Tryd.prog 8 [] (fun w => True) (.bool r0) := by
 unfold m_hindcastlaw29_awake at h
 refine pf_of_wc Tryd.func8 rfl Tryd.ntmps8 rfl rfl (fun w0 hR => ?_)
 refine wSR (wM 1 rfl (wNT (wSR ?_)))
 obtain ⟨v4, x4, h⟩ := bsome h
 rcases v4 with _ | v4s
 ·replace h := poN h
  refine wl_cs Tryd.call6 rfl rfl rfl (s_sp (k_watch_New_none x4) pNil (fun _ _ => trivial)) rfl ?_
  rintro _ _ ⟨_, ⟨rfl, rfl⟩, rfl⟩
  refine wM 1 rfl (wNT (wc_seq (wSR (wM 12 rfl (wM 5 rfl (wNT (wc_cond_true rfl (wSR (wM 1 rfl (wNT (wc_ret (wx_then_ret ?_))))))))))))
  obtain rfl := sI h
  exact pE Tryd.results8 rfl
 replace h := poS h
 refine wl_cs Tryd.call6 rfl rfl rfl (s_sp (k_watch_New x4) pNil (fun _ _ => trivial)) rfl ?_
 rintro _ _ ⟨_, ⟨zax, v4sa0, v4sn0, v4sc0, v4sB0, v4sN0, v4sV0, rfl, rfl⟩, rfl⟩
 refine wM 1 rfl (wNT (wc_seq (wSR (wM 4 rfl ?_))))
 replace h := bsome h; obtain ⟨⟨ze, v9⟩, x9, h⟩ := h; try dsimp only at h
 refine wl_run rfl (wl_cs Tryd.call16 rfl rfl rfl (s_sp (k_watch_Watch_Own (p0 := v4s) (p0t := 56) v4sN0 v4sV0 x9) pP (fun _ _ => trivial)) rfl ?_)
 rintro _ _ ⟨_, ⟨zas, zau, zat, zar, zw, zx, rfl, rfl⟩, rfl⟩
 refine wM 3 rfl ?_
 replace h := bsome h; obtain ⟨⟨v16, zy, zz, zaa⟩, h, hg16⟩ := h
 refine wls 12 h rfl ?_ ?_ <;> clear h <;> intro h
 ·refine wM 3 rfl ?_
  obtain ⟨rfl, rfl, rfl, rfl⟩ := pJ4 h
  have h := hg16; clear hg16; try dsimp only at h
  refine wM 2 rfl ?_
  replace h := bsome h; obtain ⟨⟨v21, zi, zj, zk⟩, h, hg21⟩ := h
  replace h := ct rfl h
  refine wM 3 rfl ?_
  obtain ⟨rfl, rfl, rfl, rfl⟩ := pJ4 h
  have h := hg21; clear hg21; try dsimp only at h
  refine wM 1 rfl (wNT ?_)
  replace h := ct rfl h
  refine wc_cond_true rfl ?_
  refine wSR (wM 1 rfl (wNT (wc_ret (wx_then_ret ?_))))
  obtain rfl := sI h
  exact pE Tryd.results8 rfl
 refine wM 1 rfl ?_
 replace h := bsome h; obtain ⟨⟨zb, v14⟩, x14, h⟩ := h; try dsimp only at h
 refine wl_run rfl (wl_cs Tryd.call17 rfl rfl rfl (s_sp (k_watch_Watch_Other (p0 := ze) (p0t := 56) zw zx x14) pP (fun _ _ => trivial)) rfl ?_)
 rintro _ _ ⟨_, ⟨zac, zae, zad, zab, zq, zr, rfl, rfl⟩, rfl⟩
 refine wM 1 rfl ?_
 obtain ⟨rfl, rfl, rfl, rfl⟩ := pJ4 h
 have h := hg16; clear hg16; try dsimp only at h
 refine wM 2 rfl ?_
 replace h := bsome h; obtain ⟨⟨v21, zi, zj, zk⟩, h, hg21⟩ := h
 refine wls 17 h rfl ?_ ?_ <;> clear h <;> intro h
 ·refine wM 3 rfl ?_
  obtain ⟨rfl, rfl, rfl, rfl⟩ := pJ4 h
  have h := hg21; clear hg21; try dsimp only at h
  refine wM 1 rfl (wNT ?_)
  replace h := ct rfl h
  refine wc_cond_true rfl ?_
  refine wSR (wM 1 rfl (wNT (wc_ret (wx_then_ret ?_))))
  obtain rfl := sI h
  exact pE Tryd.results8 rfl
 refine wM 1 rfl ?_
 replace h := bsome h; obtain ⟨⟨za, v19⟩, x19, h⟩ := h; try dsimp only at h
 refine wl_run rfl (wl_cs Tryd.call17 rfl rfl rfl (s_sp (k_watch_Watch_Other (p0 := zb) (p0t := 56) zq zr x19) pP (fun _ _ => trivial)) rfl ?_)
 rintro _ _ ⟨_, ⟨zag, zai, zah, zaf, zo, zp, rfl, rfl⟩, rfl⟩
 refine wM 1 rfl ?_
 obtain ⟨rfl, rfl, rfl, rfl⟩ := pJ4 h
 have h := hg21; clear hg21; try dsimp only at h
 refine wM 1 rfl (wNT (wcc h rfl ?_ ?_)) <;> clear h <;> intro h
 ·refine wSR (wM 1 rfl (wNT (wc_ret (wx_then_ret ?_))))
  obtain rfl := sI h
  exact pE Tryd.results8 rfl
 refine wc_skip (wx_then (wSR (wM 1 rfl ?_)))
 replace h := bsome h; obtain ⟨⟨zav, zaw⟩, x24, h⟩ := h; try dsimp only at h
 refine wl_cq Tryd.call14 rfl rfl rfl (q_rd (k_watch_Watch_Agreed (p0 := za) (p0t := 56) zo zp x24) pP (fun _ _ => trivial)) rfl ?_
 refine wM 5 rfl (wNT (wSR (wM 3 rfl ?_)))
 obtain ⟨v31, h, hg31⟩ := bsome h
 refine wls 29 h rfl ?_ ?_ <;> clear h <;> intro h
 ·refine wM 1 rfl ?_
  obtain rfl := sI h
  have h := hg31; clear hg31
  refine wM 2 rfl ?_
  replace h := bsome h; obtain ⟨⟨v36, zl, zm, zn⟩, h, hg36⟩ := h
  refine wls 32 h rfl ?_ ?_ <;> clear h <;> intro h
  ·refine wM 1 rfl ?_
   replace h := bsome h; obtain ⟨⟨zc, v34⟩, x34, h⟩ := h; try dsimp only at h
   refine wl_run rfl (wl_cs Tryd.call17 rfl rfl rfl (s_sp (k_watch_Watch_Other (p0 := za) (p0t := 56) zo zp x34) pP (fun _ _ => trivial)) rfl ?_)
   rintro _ _ ⟨_, ⟨zak, zam, zal, zaj, zs, zt, rfl, rfl⟩, rfl⟩
   refine wM 1 rfl ?_
   obtain ⟨rfl, rfl, rfl, rfl⟩ := pJ4 h
   have h := hg36; clear hg36; try dsimp only at h
   refine wM 2 rfl ?_
   replace h := bsome h; obtain ⟨⟨v41, zf, zg, zh⟩, h, hg41⟩ := h
   refine wls 37 h rfl ?_ ?_ <;> clear h <;> intro h
   ·refine wM 1 rfl ?_
    replace h := bsome h; obtain ⟨⟨zd, v39⟩, x39, h⟩ := h; try dsimp only at h
    refine wl_run rfl (wl_cs Tryd.call16 rfl rfl rfl (s_sp (k_watch_Watch_Own (p0 := zc) (p0t := 56) zs zt x39) pP (fun _ _ => trivial)) rfl ?_)
    rintro _ _ ⟨_, ⟨zao, zaq, zap, zan, zu, zv, rfl, rfl⟩, rfl⟩
    refine wM 1 rfl ?_
    obtain ⟨rfl, rfl, rfl, rfl⟩ := pJ4 h
    have h := hg41; clear hg41; try dsimp only at h
    refine wM 2 rfl ?_
    obtain ⟨v45, h, hg45⟩ := bsome h
    refine wls 42 h rfl ?_ ?_ <;> clear h <;> intro h
    ·refine wM 1 rfl ?_
     obtain ⟨v44, x44, h⟩ := bsome h
     refine wl_run rfl (wl_cq Tryd.call11 rfl rfl rfl (q_rd (k_watch_Watch_Clashed (p0 := zd) (p0t := 56) zu zv x44) pP (fun _ _ => trivial)) rfl ?_)
     obtain rfl := sI h
     have h := hg45; clear hg45
     refine wM 2 rfl (wNT (wc_ret ?_))
     obtain rfl := sI h
     exact pE Tryd.results8 rfl
    refine wM 2 rfl ?_
    obtain rfl := sI h
    have h := hg45; clear hg45
    refine wM 2 rfl (wNT (wc_ret ?_))
    obtain rfl := sI h
    exact pE Tryd.results8 rfl
   refine wM 3 rfl ?_
   obtain ⟨rfl, rfl, rfl, rfl⟩ := pJ4 h
   have h := hg41; clear hg41; try dsimp only at h
   refine wM 2 rfl ?_
   obtain ⟨v45, h, hg45⟩ := bsome h
   replace h := cf rfl h
   refine wM 2 rfl ?_
   obtain rfl := sI h
   have h := hg45; clear hg45
   refine wM 2 rfl (wNT (wc_ret ?_))
   obtain rfl := sI h
   exact pE Tryd.results8 rfl
  refine wM 3 rfl ?_
  obtain ⟨rfl, rfl, rfl, rfl⟩ := pJ4 h
  have h := hg36; clear hg36; try dsimp only at h
  refine wM 2 rfl ?_
  replace h := bsome h; obtain ⟨⟨v41, zf, zg, zh⟩, h, hg41⟩ := h
  replace h := cf rfl h
  refine wM 3 rfl ?_
  obtain ⟨rfl, rfl, rfl, rfl⟩ := pJ4 h
  have h := hg41; clear hg41; try dsimp only at h
  refine wM 2 rfl ?_
  obtain ⟨v45, h, hg45⟩ := bsome h
  replace h := cf rfl h
  refine wM 2 rfl ?_
  obtain rfl := sI h
  have h := hg45; clear hg45
  refine wM 2 rfl (wNT (wc_ret ?_))
  obtain rfl := sI h
  exact pE Tryd.results8 rfl
 refine wM 1 rfl ?_
 obtain rfl := sI h
 have h := hg31; clear hg31
 refine wM 2 rfl ?_
 replace h := bsome h; obtain ⟨⟨v36, zl, zm, zn⟩, h, hg36⟩ := h
 replace h := cf rfl h
 refine wM 3 rfl ?_
 obtain ⟨rfl, rfl, rfl, rfl⟩ := pJ4 h
 have h := hg36; clear hg36; try dsimp only at h
 refine wM 2 rfl ?_
 replace h := bsome h; obtain ⟨⟨v41, zf, zg, zh⟩, h, hg41⟩ := h
 replace h := cf rfl h
 refine wM 3 rfl ?_
 obtain ⟨rfl, rfl, rfl, rfl⟩ := pJ4 h
 have h := hg41; clear hg41; try dsimp only at h
 refine wM 2 rfl ?_
 obtain ⟨v45, h, hg45⟩ := bsome h
 replace h := cf rfl h
 refine wM 2 rfl ?_
 obtain rfl := sI h
 have h := hg45; clear hg45
 refine wM 2 rfl (wNT (wc_ret ?_))
 obtain rfl := sI h
 exact pE Tryd.results8 rfl

theorem k_state_Start {p0 : Int} {r0 : T_api_State} (h : m_state_Start F p0 = some r0) :
    SpD Tryd.prog 19 [.int .u64 p0] [] (fun w => True) (fun v D => ∃ r0a0 r0n0 r0c0 r0B0, r0n0 = r0.Shots.length ∧ Own 87 6 r0a0 r0n0 r0c0 (flat c_T_api_Shot r0.Shots) r0B0 ∧ v = agS r0 r0a0 r0n0 r0c0 ∧ D = fun F => (r0B0 ++ F)) := by
 unfold m_state_Start at h
 refine sp_of_wc Tryd.func19 rfl Tryd.ntmps19 rfl rfl (fun w0 hR => ?_)
 refine wSR (wl_alloc tt_ok rfl rfl (fun b2 => (wNT (wSR (wM 2 rfl (wl_alloc tt_ok rfl rfl (fun b3 => (lSt Upd.here ?_))))))))
 refine wNT (wc_seq (wSR (wM 1 rfl (wNT (wc_block ?_)))))
 obtain ⟨zc, h, hl9⟩ := bsome h
 refine wc_loop (fun m E L => ∃ zb za, m_state_Start_L8 F m zb za = some zc ∧ E = [(2, .pointer (some ⟨b2, 0, none⟩)), (3, .pointer (some ⟨b3, 0, none⟩)), (7, .int .i64 zb)] ∧ L = (⟨b2, [.int .u64 0, .int .u64 0, .int .i32 0, .int .i32 0, .int .i32 0, .int .i32 0, .int .u8 0, .int .u8 0, .int .u8 0, .int .i32 0, .int .i32 0, .int .i32 0, .int .i32 0, .int .u8 0, .int .u8 0, .int .u8 0, .slice none 0 0, .int .u16 0, .int .u16 0], 41, (0, 0)⟩ :: (⟨b3, (.int .u64 0 :: .int .u64 p0 :: pl14 za [.slice none 0 0, .int .u16 0, .int .u16 0]), 41, (0, 0)⟩ :: []))) F ⟨(0 : Int), ((T_api_Player.mk (0 : Int) (0 : Int) (0 : Int) (0 : Int) (0 : Int) (0 : Int) (0 : Int)), (T_api_Player.mk (0 : Int) (0 : Int) (0 : Int) (0 : Int) (0 : Int) (0 : Int) (0 : Int))), h, rfl, rfl⟩ (ag3 rfl rfl rfl) pI ?_
 clear h
 rintro m9 _ _ ⟨zb, za, h, rfl, rfl⟩
 rcases m9 with _ | m9
 ·rw [m_state_Start_L8.eq_1] at h; cases h
 rw [m_state_Start_L8.eq_2] at h
 refine wSR (wM 1 rfl (wNT (wc_seq (wcc h rfl ?_ ?_)))) <;> clear h <;> intro h
 ·refine wc_skip (wx_then (wc_seq (wc_block (wSR (wM 2 rfl (wNT (wc_region (wM 9 rfl ?_))))))))
  rcases Bool.eq_false_or_eq_true (zb == (0 : Int)) with hx190 | hx190
  ·replace h := ct hx190 h
   refine wl_val (v := .pointer (some ⟨b3, 2, none⟩)) (val_ia (j := 0) tt_ok rfl rfl rfl rfl (by simpa using hx190) rfl rfl) rfl ?_
   refine lSt (Upd.there Upd.here) ?_
   refine wl_nil (wx_block (wx_then (wc_region (wM 2 rfl (wl_nil ?_)))))
   exact wx_round m9 (Nat.lt_succ_self m9) ⟨(IntKind.wrap .i64 (zb + (1 : Int))), ((T_api_Player.mk (IntKind.wrap .i32 ((8192 : Int) + (IntKind.wrap .i32 ((IntKind.wrap .i32 zb) * (45056 : Int))))) (14336 : Int) (0 : Int) (0 : Int) (100 : Int) (0 : Int) (IntKind.wrap .u8 zb)), za.2), h, rfl, rfl⟩ (ag3 rfl rfl rfl) pI
  replace h := cf hx190 h
  rcases Bool.eq_false_or_eq_true (zb == (1 : Int)) with hx191 | hx191
  ·replace h := ct hx191 h
   refine wl_val (v := .pointer (some ⟨b3, 9, none⟩)) (val_ia (j := 1) tt_ok rfl rfl rfl rfl (by simpa using hx191) rfl rfl) rfl ?_
   refine lSt (Upd.there Upd.here) ?_
   refine wl_nil (wx_block (wx_then (wc_region (wM 2 rfl (wl_nil ?_)))))
   exact wx_round m9 (Nat.lt_succ_self m9) ⟨(IntKind.wrap .i64 (zb + (1 : Int))), (za.1, (T_api_Player.mk (IntKind.wrap .i32 ((8192 : Int) + (IntKind.wrap .i32 ((IntKind.wrap .i32 zb) * (45056 : Int))))) (14336 : Int) (0 : Int) (0 : Int) (100 : Int) (0 : Int) (IntKind.wrap .u8 zb))), h, rfl, rfl⟩ (ag3 rfl rfl rfl) pI
  replace h := cf hx191 h
  cases h
 refine wc_exit (wx_then_exit ?_)
 obtain rfl := sI h
 have h := hl9; clear hl9; try dsimp only [orE_l, orE_r] at h
 refine wx_then_exit (wx_block_exit (wx_then (wSR ?_)))
 refine wLd (v := .agg #[.int .u64 0, .int .u64 p0, .int .i32 za.1.X, .int .i32 za.1.Y, .int .i32 za.1.VX, .int .i32 za.1.VY, .int .u8 za.1.Health, .int .u8 za.1.Cool, .int .u8 za.1.Face, .int .i32 za.2.X, .int .i32 za.2.Y, .int .i32 za.2.VX, .int .i32 za.2.VY, .int .u8 za.2.Health, .int .u8 za.2.Cool, .int .u8 za.2.Face, .slice none 0 0, .int .u16 0, .int .u16 0]) rfl (mT mH) rfl rfl (lSt Upd.here ?_)
 refine wNT (wc_ret ?_)
 obtain rfl := sI h
 exact wE Tryd.results19 (Res.cell rfl mH rfl Res.nil) ⟨none, 0, 0, [], rfl, Own.zero, rfl, rfl⟩ pI

theorem k_slices_Clone___api_Shot_api_Shot {p0 : (List T_api_Shot)} {r0 : (List T_api_Shot)} (p0N0 : p0n0 = p0.length) (p0H0 : p0n0 ≤ p0c0) (h : m_slices_Clone___api_Shot_api_Shot F p0 = some r0) :
    SpD Tryd.prog 52 [.slice p0a0 p0n0 p0c0] [] (fun w => Rds w (ids []) [] p0a0 (flat c_T_api_Shot p0)) (fun v D => ∃ r0a0 r0n0 r0c0 r0B0, r0n0 = r0.length ∧ Own 87 6 r0a0 r0n0 r0c0 (flat c_T_api_Shot r0) r0B0 ∧ v = .slice r0a0 r0n0 r0c0 ∧ D = fun F => (r0B0 ++ F)) := by
 unfold m_slices_Clone___api_Shot_api_Shot at h
 refine sp_of_wc Tryd.func52 rfl Tryd.ntmps52 rfl rfl (fun w0 hR => ?_)
 have p0S0 := hR
 refine wSR (wM 1 rfl (wNT (wc_seq (wSR (wM 1 rfl ?_)))))
 rcases p0a0 with _ | dp0a0
 ·obtain rfl : p0 = [] := rds_none p0S0 c_T_api_Shot_len (by decide)
  refine wM 1 rfl (wNT (wc_cond_true rfl (wSR (wM 1 rfl (wNT (wc_ret (wx_then_ret ?_)))))))
  simp [appI] at h
  obtain rfl := h
  exact wE Tryd.results52 (rs1 rfl) ⟨none, 0, 0, [], rfl, Own.zero, rfl, rfl⟩ pI
 refine wM 1 rfl (wNT (wc_cond_false rfl (wc_skip (wx_then (wSR (wl_chg (chg_bsv (enc := c_T_api_Shot) (xs := ([] : List T_api_Shot)) tt_ok rfl rfl rfl rfl rfl rfl rfl rfl c_T_api_Shot_len) rfl ?_))))))
 rintro _ _ ⟨a5, n5_, c5, B5, rfl, N5, V5, rfl⟩
 refine wM 1 rfl ?_
 obtain ⟨v7, x7, h⟩ := bsome h
 refine wl_chg (chg_app (enc := c_T_api_Shot) (ys := p0) tt_ok rfl rfl rfl rfl rfl rfl N5 p0N0 V5 hA' p0S0 rsub_nil c_T_api_Shot_len (fun _ => rfl) rfl x7) rfl ?_
 rintro _ _ ⟨a7, n7_, c7, B7, rfl, N7, V7, rfl⟩
 refine wM 1 rfl (wNT (wc_ret ?_))
 obtain rfl := sI h
 exact wE Tryd.results52 (rs1 rfl) ⟨a7, n7_, c7, B7, N7, V7, rfl, rfl⟩ pI

theorem k_state_Copy {p0 : T_api_State} {r0 : T_api_State} (p0N0 : p0n0 = p0.Shots.length) (p0H0 : p0n0 ≤ p0c0) (h : m_state_Copy F p0 = some r0) :
    SpD Tryd.prog 30 [agS p0 p0a0 p0n0 p0c0] [] (fun w => Rds w (ids []) [] p0a0 (flat c_T_api_Shot p0.Shots)) (fun v D => ∃ r0a0 r0n0 r0c0 r0B0, r0n0 = r0.Shots.length ∧ Own 87 6 r0a0 r0n0 r0c0 (flat c_T_api_Shot r0.Shots) r0B0 ∧ v = agS r0 r0a0 r0n0 r0c0 ∧ D = fun F => (r0B0 ++ F)) := by
 unfold m_state_Copy at h
 refine sp_of_wc Tryd.func30 rfl Tryd.ntmps30 rfl rfl (fun w0 hR => ?_)
 have p0S0 := hR
 refine wSR (wl_box rfl rfl rfl (fun b1 => (wl_alloc tt_ok rfl rfl (fun b2 => (wNT (wSR (wM 1 rfl (wLd rfl (mT mH) rfl rfl ?_))))))))
 obtain ⟨v5, x5, h⟩ := bsome h
 refine wl_cs Tryd.call52 rfl rfl rfl (s_sp (k_slices_Clone___api_Shot_api_Shot (p0 := p0.Shots) p0N0 p0H0 x5) pNil (Rds.call p0S0 pNil rsub_nil)) rfl ?_
 rintro _ _ ⟨_, ⟨v5a0, v5n0, v5c0, v5B0, v5N0, v5V0, rfl, rfl⟩, rfl⟩
 refine wM 1 rfl (lSt (Upd.right (Upd.there Upd.here)) ?_)
 refine wNT (wSR (wLd (v := agS p0 v5a0 v5n0 v5c0) rfl (mR (mT mH)) rfl rfl (lSt (Upd.right Upd.here) ?_)))
 refine wNT (wc_ret ?_)
 obtain rfl := sI h
 exact wE Tryd.results30 (Res.cell rfl (mR mH) rfl Res.nil) ⟨v5a0, v5n0, v5c0, v5B0, v5N0, v5V0, rfl, rfl⟩ pI

theorem k_state_ofPlayer {p0 : T_api_Player} {r0 : (List Int)} (h : m_state_ofPlayer F p0 = some r0) :
    SpD Tryd.prog 47 [agP p0] [] (fun w => True) (fun v D => ∃ r0a0 r0n0 r0c0 r0B0, r0n0 = r0.length ∧ Own 21 1 r0a0 r0n0 r0c0 (flat (e1 .i32) r0) r0B0 ∧ v = .slice r0a0 r0n0 r0c0 ∧ D = fun F => (r0B0 ++ F)) := by
 unfold m_state_ofPlayer at h
 refine sp_of_wc Tryd.func47 rfl Tryd.ntmps47 rfl rfl (fun w0 hR => ?_)
 refine wSR (wl_box rfl rfl rfl (fun b1 => (wM 1 rfl (wNT (wSR (wM 1 rfl (wLd rfl mH rfl rfl (wM 1 rfl (wLd rfl mH rfl rfl (wM 1 rfl (wLd rfl mH rfl rfl (wM 1 rfl (wLd rfl mH rfl rfl (wM 1 rfl (wLd rfl mH rfl rfl (wM 2 rfl (wLd rfl mH rfl rfl (wM 2 rfl (wLd rfl mH rfl rfl (wM 1 rfl (wl_chg (chg_bsv (enc := (e1 .i32)) (xs := ([p0.X, p0.Y, p0.VX, p0.VY, (IntKind.wrap .i32 p0.Health), (IntKind.wrap .i32 p0.Cool), (IntKind.wrap .i32 p0.Face)] : List Int)) tt_ok rfl rfl rfl rfl rfl rfl rfl rfl (e1_len _)) rfl ?_)))))))))))))))))))))
 rintro _ _ ⟨a20, n20_, c20, B20, rfl, N20, V20, rfl⟩
 refine wM 1 rfl (wNT (wc_ret ?_))
 obtain rfl := sI h
 exact wE Tryd.results47 (rs1 rfl) ⟨a20, n20_, c20, B20, N20, V20, rfl, rfl⟩ pI

theorem k_state_within {p0 : (List Int)} {p1 : (List (Int × Int))} {r0 : Bool} (p0N0 : p0n0 = p0.length) (p0H0 : p0n0 ≤ p0c0) (p1N0 : p1n0 = p1.length) (p1H0 : p1n0 ≤ p1c0) (h : m_state_within F p0 p1 = some r0) :
    Pf Tryd.prog 53 [.slice p0a0 p0n0 p0c0, .slice p1a0 p1n0 p1c0] (fun w => Rds w [] [] p0a0 (flat (e1 .i32) p0) ∧ Rds w [] [] p1a0 (flat (e2 .i32) p1)) (.bool r0) := by
 unfold m_state_within at h
 refine pf_of_wc Tryd.func53 rfl Tryd.ntmps53 rfl rfl (fun w0 hR => ?_)
 obtain ⟨p0S0, p1S0⟩ := hR
 refine wSR (wM 1 rfl (wNT (wc_seq (wSR (wM 1 rfl (wl_val (v := .int .i64 (p0.length : Int)) (val_len tt_ok rfl rfl p0N0) rfl (wM 1 rfl (wNT (wc_block ?_)))))))))
 obtain ⟨o7, h, hl7⟩ := bsome h
 refine wc_loop (fun m E L => ∃ za, m_state_within_L6 F p0 p1 m za = some o7 ∧ E = [(0, .slice p0a0 p0n0 p0c0), (1, .slice p1a0 p1n0 p1c0), (4, .bool false), (7, .int .i64 (p0.length : Int)), (8, .int .i64 za)] ∧ L = []) F ⟨(0 : Int), h, rfl, rfl⟩ (ag5 rfl rfl rfl rfl rfl) pI ?_
 clear h
 rintro m7 _ _ ⟨za, h, rfl, rfl⟩
 rcases m7 with _ | m7
 ·rw [m_state_within_L6.eq_1] at h; cases h
 rw [m_state_within_L6.eq_2] at h
 refine wSR (wM 1 rfl (wNT (wc_seq (wcc h rfl ?_ ?_)))) <;> clear h <;> intro h
 ·refine wc_skip (wx_then (wc_seq (wc_block (wSR (wM 2 rfl (wNT (wc_seq (wc_quiet (by kernel_rfl) (by kernel_rfl) (qM 2 rfl ?_)))))))))
  obtain ⟨v13, x13, h⟩ := bsome h
  refine wq_val (v := .pointer (some ((adOf p0a0).add (za.toNat * 1 + 0)))) (val_ix (enc := (e1 .i32)) tt_ok rfl rfl rfl rfl p0N0 p0S0 (e1_len _) rfl x13) rfl ?_
  refine wq_val (v := .int .i32 v13) (val_le (enc := (e1 .i32)) (xs := p0) tt_ok rfl p0S0 rsub_nil (e1_len _) x13 rfl) rfl ?_
  refine qM 2 rfl ?_
  obtain ⟨v17, x17, h⟩ := bsome h
  refine wq_val (v := .pointer (some ((adOf p1a0).add (za.toNat * 2 + 0)))) (val_ix (enc := (e2 .i32)) tt_ok rfl rfl rfl rfl p1N0 p1S0 (e2_len _) rfl x17) rfl ?_
  refine wq_val (v := .pointer (some ((adOf p1a0).add (za.toNat * 2 + 0)))) (val_fia (j := 0) tt_ok rfl rfl rfl rfl rfl rfl rfl) rfl ?_
  refine wq_val (v := .int .i32 v17.1) (val_le (enc := (e2 .i32)) (xs := p1) tt_ok rfl p1S0 rsub_nil (e2_len _) x17 rfl) rfl ?_
  refine qM 2 rfl ?_
  obtain ⟨v32, h, hg32⟩ := bsome h
  refine wqs 21 h rfl ?_ ?_ <;> clear h <;> intro h
  ·refine qM 10 rfl ?_
   obtain rfl := sI h
   have h := hg32; clear hg32
   refine qM 1 rfl (wq_nil (wx_then ?_))
   replace h := ct rfl h
   refine wc_cond_true rfl ?_
   refine wSR (wM 1 rfl (wNT (wc_ret (wx_block_ret (wx_then_ret ?_)))))
   obtain rfl := Option.some.inj h
   have h := hl7; clear hl7; try dsimp only [orE_l, orE_r] at h
   refine wx_then_ret (wx_block_ret (wx_then_ret ?_))
   obtain rfl := sI h
   exact pE Tryd.results53 rfl
  refine qM 2 rfl ?_
  obtain ⟨v24, x24, h⟩ := bsome h
  refine wq_run rfl (wq_val (v := .pointer (some ((adOf p0a0).add (za.toNat * 1 + 0)))) (val_ix (enc := (e1 .i32)) tt_ok rfl rfl rfl rfl p0N0 p0S0 (e1_len _) rfl x24) rfl (wq_run rfl (wq_val (v := .int .i32 v24) (val_le (enc := (e1 .i32)) (xs := p0) tt_ok rfl p0S0 rsub_nil (e1_len _) x24 rfl) rfl (qM 2 rfl ?_))))
  obtain ⟨v28, x28, h⟩ := bsome h
  refine wq_run rfl (wq_val (v := .pointer (some ((adOf p1a0).add (za.toNat * 2 + 0)))) (val_ix (enc := (e2 .i32)) tt_ok rfl rfl rfl rfl p1N0 p1S0 (e2_len _) rfl x28) rfl (wq_run rfl (wq_val (v := .pointer (some ((adOf p1a0).add (za.toNat * 2 + 1)))) (val_fia (j := 1) tt_ok rfl rfl rfl rfl rfl rfl rfl) rfl (wq_run rfl (wq_val (v := .int .i32 v28.2) (val_le (enc := (e2 .i32)) (xs := p1) tt_ok rfl p1S0 rsub_nil (e2_len _) x28 rfl) rfl (qM 1 rfl ?_))))))
  obtain rfl := sI h
  have h := hg32; clear hg32
  refine qM 1 rfl (wq_nil (wx_then (wcc h rfl ?_ ?_))) <;> clear h <;> intro h
  ·refine wSR (wM 1 rfl (wNT (wc_ret (wx_block_ret (wx_then_ret ?_)))))
   obtain rfl := Option.some.inj h
   have h := hl7; clear hl7; try dsimp only [orE_l, orE_r] at h
   refine wx_then_ret (wx_block_ret (wx_then_ret ?_))
   obtain rfl := sI h
   exact pE Tryd.results53 rfl
  refine wc_skip (wx_block (wx_then (wc_region (wM 2 rfl (wl_nil ?_)))))
  exact wx_round m7 (Nat.lt_succ_self m7) ⟨(IntKind.wrap .i64 (za + (1 : Int))), h, rfl, rfl⟩ (ag5 rfl rfl rfl rfl rfl) pI
 refine wc_exit (wx_then_exit ?_)
 obtain rfl := Option.some.inj h
 have h := hl7; clear hl7; try dsimp only [orE_l, orE_r] at h
 refine wx_then_exit (wx_block_exit (wx_then (wSR ?_)))
 refine wM 1 rfl (wNT (wc_ret ?_))
 obtain rfl := sI h
 exact pE Tryd.results53 rfl

theorem k_state_ofShot {p0 : T_api_Shot} {r0 : (List Int)} (h : m_state_ofShot F p0 = some r0) :
    SpD Tryd.prog 49 [.agg #[.int .i32 p0.X, .int .i32 p0.Y, .int .i32 p0.VX, .int .i32 p0.VY, .int .u8 p0.Owner, .int .u8 p0.Life]] [] (fun w => True) (fun v D => ∃ r0a0 r0n0 r0c0 r0B0, r0n0 = r0.length ∧ Own 21 1 r0a0 r0n0 r0c0 (flat (e1 .i32) r0) r0B0 ∧ v = .slice r0a0 r0n0 r0c0 ∧ D = fun F => (r0B0 ++ F)) := by
 unfold m_state_ofShot at h
 refine sp_of_wc Tryd.func49 rfl Tryd.ntmps49 rfl rfl (fun w0 hR => ?_)
 refine wSR (wl_box rfl rfl rfl (fun b1 => (wM 1 rfl (wNT (wSR (wM 1 rfl (wLd rfl mH rfl rfl (wM 1 rfl (wLd rfl mH rfl rfl (wM 1 rfl (wLd rfl mH rfl rfl (wM 1 rfl (wLd rfl mH rfl rfl (wM 1 rfl (wLd rfl mH rfl rfl (wM 2 rfl (wLd rfl mH rfl rfl (wM 1 rfl (wl_chg (chg_bsv (enc := (e1 .i32)) (xs := ([p0.X, p0.Y, p0.VX, p0.VY, (IntKind.wrap .i32 p0.Owner), (IntKind.wrap .i32 p0.Life)] : List Int)) tt_ok rfl rfl rfl rfl rfl rfl rfl rfl (e1_len _)) rfl ?_)))))))))))))))))))
 rintro _ _ ⟨a17, n17_, c17, B17, rfl, N17, V17, rfl⟩
 refine wM 1 rfl (wNT (wc_ret ?_))
 obtain rfl := sI h
 exact wE Tryd.results49 (rs1 rfl) ⟨a17, n17_, c17, B17, N17, V17, rfl, rfl⟩ pI

theorem k_state_Check_1 {p0 : T_api_Shot} {p1 : (Arr (Int × Int) 6)} {r0 : Bool} (h : m_state_Check_1 F p0 p1 = some r0) :
    Rd2 Tryd.prog 55 [.agg #[.int .i32 p0.X, .int .i32 p0.Y, .int .i32 p0.VX, .int .i32 p0.VY, .int .u8 p0.Owner, .int .u8 p0.Life], .pointer (some ⟨p1b, 0, none⟩)] (⟨p1b, flat (e2 .i32) p1.1, p1t, (0, 0)⟩ :: []) (fun w => True) (.bool r0) := by
 unfold m_state_Check_1 at h
 refine sp_of_wc Tryd.func55 rfl Tryd.ntmps55 rfl rfl (fun w0 hR => ?_)
 refine wSR (wl_box rfl rfl rfl (fun b2 => (wM 1 rfl (wNT (wc_seq (wc_k2 (Ls := (⟨b2, [.int .i32 p0.X, .int .i32 p0.Y, .int .i32 p0.VX, .int .i32 p0.VY, .int .u8 p0.Owner, .int .u8 p0.Life], 87, (0, 0)⟩ :: (⟨p1b, flat (e2 .i32) p1.1, p1t, (0, 0)⟩ :: []))) [1, 3, 4, 5] [3, 4, 5] [0, 1, 0, 7, 15, 31] [0, 2, 1, 3, 4, 5] (by kernel_rfl) (by kernel_rfl) (by kernel_rfl) (k_val (v := .agg #[.int .i32 p0.X, .int .i32 p0.Y, .int .i32 p0.VX, .int .i32 p0.VY, .int .u8 p0.Owner, .int .u8 p0.Life]) rfl rfl rfl pI (val_load tt_ok rfl mH rfl) rfl (k_val (v := .slice (some ⟨p1b, 0, none⟩) 6 6) rfl rfl rfl pI (val_sla tt_ok rfl rfl rfl rfl) rfl ?_))))))))
 obtain ⟨v5, x5, h⟩ := bsome h
 refine k_cs rfl rfl rfl Tryd.call49 rfl rfl rfl (s_sp (k_state_ofShot x5) pNil (fun _ _ => trivial)) rfl (.inr (by rintro _ _ ⟨_, ⟨_, _, _, _, _, _, rfl, rfl⟩, rfl⟩; exact ⟨_, pP⟩)) ?_
 rintro _ _ ⟨_, ⟨v5a0, v5n0, v5c0, v5B0, v5N0, v5V0, rfl, rfl⟩, rfl⟩
 obtain ⟨v7, x7, h⟩ := bsome h
 refine k_cq rfl rfl rfl Tryd.call53 rfl rfl rfl (q_pf (k_state_within (p0 := v5) (p1 := p1.1) v5N0 (vec_cap v5V0) (p1.2).symm (Nat.le_refl _) x7) (fun w hI => ⟨(Rds.call (Rds.of_vec v5V0) pNil ⟨_, hA'⟩) w hI, (Rds.call (Rds.of_blk (t := p1t) (fz := (0, 0))) pNil ⟨_, (sAC hC)⟩) w hI⟩)) rfl pI ?_
 refine k_chg rfl rfl rfl (Chg.of_val (v := .bool (!v7)) (sV rfl)) rfl (.inl rfl) ?_
 rintro _ _ ⟨rfl, rfl⟩
 refine k_chg rfl rfl rfl (Chg.of_val (sV rfl)) rfl (.inl rfl) ?_
 rintro _ _ ⟨rfl, rfl⟩
 refine k_end (by kernel_rfl) ?_
 refine wx_then (wc_ret ?_)
 obtain rfl := sI h
 exact wx_rd tt_ok (.inl rfl) Tryd.results55 (rs1 rfl) pI rfl

theorem k_slices_IndexFunc___api_Shot_api_Shot_f1_state_Check_1 {p0 : (List T_api_Shot)} {p1c0 : (Arr (Int × Int) 6)} {r0 : Int} (p0N0 : p0n0 = p0.length) (p0H0 : p0n0 ≤ p0c0) (h : m_slices_IndexFunc___api_Shot_api_Shot_f1_state_Check_1 F p0 p1c0 = some r0) :
    Rd2 Tryd.prog 78 [.slice p0a0 p0n0 p0c0, .func (.func 55) #[] #[.pointer (some ⟨p1c0b, 0, none⟩)]] (⟨p1c0b, flat (e2 .i32) p1c0.1, p1c0t, (0, 0)⟩ :: []) (fun w => Rds w (ids (⟨p1c0b, flat (e2 .i32) p1c0.1, p1c0t, (0, 0)⟩ :: [])) [] p0a0 (flat c_T_api_Shot p0)) (.int .i64 r0) := by
 unfold m_slices_IndexFunc___api_Shot_api_Shot_f1_state_Check_1 at h
 refine sp_of_wc Tryd.func78 rfl Tryd.ntmps78 rfl rfl (fun w0 hR => ?_)
 have p0S0 := hR
 refine wSR (wM 1 rfl (wNT (wc_seq (wSR (wM 1 rfl (wl_val (v := .int .i64 (p0.length : Int)) (val_len tt_ok rfl rfl p0N0) rfl (wM 1 rfl (wNT (wc_block ?_)))))))))
 obtain ⟨o7, h, hl7⟩ := bsome h
 refine wc_loop (fun m E L => ∃ za, m_slices_IndexFunc___api_Shot_api_Shot_f1_state_Check_1_L6 F p0 p1c0 m za = some o7 ∧ E = [(0, .slice p0a0 p0n0 p0c0), (1, .func (.func 55) #[] #[.pointer (some ⟨p1c0b, 0, none⟩)]), (4, .int .i64 0), (7, .int .i64 (p0.length : Int)), (8, .int .i64 za)] ∧ L = (⟨p1c0b, flat (e2 .i32) p1c0.1, p1c0t, (0, 0)⟩ :: [])) F ⟨(0 : Int), h, rfl, rfl⟩ (ag5 rfl rfl rfl rfl rfl) pI ?_
 clear h
 rintro m7 _ _ ⟨za, h, rfl, rfl⟩
 rcases m7 with _ | m7
 ·rw [m_slices_IndexFunc___api_Shot_api_Shot_f1_state_Check_1_L6.eq_1] at h; cases h
 rw [m_slices_IndexFunc___api_Shot_api_Shot_f1_state_Check_1_L6.eq_2] at h
 refine wSR (wM 1 rfl (wNT (wc_seq (wcc h rfl ?_ ?_)))) <;> clear h <;> intro h
 ·refine wc_skip (wx_then (wc_seq (wc_block (wSR (wM 2 rfl (wNT (wSR (wM 3 rfl ?_))))))))
  obtain ⟨v14, x14, h⟩ := bsome h
  refine wl_val (v := .pointer (some ((adOf p0a0).add (za.toNat * 6 + 0)))) (val_ix (enc := c_T_api_Shot) tt_ok rfl rfl rfl rfl p0N0 p0S0 c_T_api_Shot_len rfl x14) rfl ?_
  refine wl_val (v := .agg #[.int .i32 v14.X, .int .i32 v14.Y, .int .i32 v14.VX, .int .i32 v14.VY, .int .u8 v14.Owner, .int .u8 v14.Life]) (val_le (enc := c_T_api_Shot) (xs := p0) tt_ok rfl p0S0 rsub_nil c_T_api_Shot_len x14 rfl) rfl ?_
  obtain ⟨v16, x16, h⟩ := bsome h
  refine wl_cq Tryd.call55 rfl rfl rfl (q_rd (k_state_Check_1 (p1t := p1c0t) x16) pP (fun _ _ => trivial)) rfl ?_
  refine wNT (wcc h rfl ?_ ?_) <;> clear h <;> intro h
  ·refine wSR (wM 2 rfl (wNT (wc_ret (wx_block_ret (wx_then_ret ?_)))))
   obtain rfl := Option.some.inj h
   have h := hl7; clear hl7; try dsimp only [orE_l, orE_r] at h
   refine wx_then_ret (wx_block_ret (wx_then_ret ?_))
   obtain rfl := sI h
   exact wx_rd tt_ok (.inl rfl) Tryd.results78 (rs1 rfl) pI rfl
  refine wc_skip (wx_block (wx_then (wc_region (wM 2 rfl (wl_nil ?_)))))
  exact wx_round m7 (Nat.lt_succ_self m7) ⟨(IntKind.wrap .i64 (za + (1 : Int))), h, rfl, rfl⟩ (ag5 rfl rfl rfl rfl rfl) pI
 refine wc_exit (wx_then_exit ?_)
 obtain rfl := Option.some.inj h
 have h := hl7; clear hl7; try dsimp only [orE_l, orE_r] at h
 refine wx_then_exit (wx_block_exit (wx_then (wSR ?_)))
 refine wM 1 rfl (wNT (wc_ret ?_))
 obtain rfl := sI h
 exact wx_rd tt_ok (.inl rfl) Tryd.results78 (rs1 rfl) pI rfl

theorem k_slices_ContainsFunc___api_Shot_api_Shot_f1_state_Check_1 {p0 : (List T_api_Shot)} {p1c0 : (Arr (Int × Int) 6)} {r0 : Bool} (p0N0 : p0n0 = p0.length) (p0H0 : p0n0 ≤ p0c0) (h : m_slices_ContainsFunc___api_Shot_api_Shot_f1_state_Check_1 F p0 p1c0 = some r0) :
    Rd2 Tryd.prog 54 [.slice p0a0 p0n0 p0c0, .func (.func 55) #[] #[.pointer (some ⟨p1c0b, 0, none⟩)]] (⟨p1c0b, flat (e2 .i32) p1c0.1, p1c0t, (0, 0)⟩ :: []) (fun w => Rds w (ids (⟨p1c0b, flat (e2 .i32) p1c0.1, p1c0t, (0, 0)⟩ :: [])) [] p0a0 (flat c_T_api_Shot p0)) (.bool r0) := by
 unfold m_slices_ContainsFunc___api_Shot_api_Shot_f1_state_Check_1 at h
 refine sp_of_wc Tryd.func54 rfl Tryd.ntmps54 rfl rfl (fun w0 hR => ?_)
 have p0S0 := hR
 refine wSR (wM 1 rfl (wNT (wSR (wM 2 rfl ?_))))
 obtain ⟨v7, x7, h⟩ := bsome h
 refine wl_cq Tryd.call78 rfl rfl rfl (q_rd (k_slices_IndexFunc___api_Shot_api_Shot_f1_state_Check_1 (p0 := p0) (p1c0t := p1c0t) p0N0 p0H0 x7) pP (Rds.call p0S0 pP rsub_nil)) rfl ?_
 refine wM 2 rfl (wNT (wc_ret ?_))
 obtain rfl := sI h
 exact wx_rd tt_ok (.inl rfl) Tryd.results54 (rs1 rfl) pI rfl

theorem k_state_Check {p0 : T_api_State} {r0 : Int} (p0N0 : p0n0 = p0.Shots.length) (p0H0 : p0n0 ≤ p0c0) (h : m_state_Check F p0 = some r0) :
    Pf Tryd.prog 31 [agS p0 p0a0 p0n0 p0c0] (fun w => Rds w [] [] p0a0 (flat c_T_api_Shot p0.Shots) ∧ Rds w [] [] (some ⟨0, 0, none⟩) (flat (fun _ : Unit => gl_state_playerBounds) [()]) ∧ Rds w [] [] (some ⟨1, 0, none⟩) (flat (fun _ : Unit => gl_state_shotBounds) [()])) (.int .i64 r0) := by
 unfold m_state_Check at h
 refine pf_of_wc Tryd.func31 rfl Tryd.ntmps31 rfl rfl (fun w0 hR => ?_)
 obtain ⟨p0S0, G0S, G1S⟩ := hR
 refine wSR (wl_box rfl rfl rfl (fun b1 => (wM 1 rfl (wNT (wSR (wl_val (v := .agg #[.int .i32 0, .int .i32 61440, .int .i32 0, .int .i32 28672, .int .i32 ((-1024) : Int), .int .i32 1024, .int .i32 ((-1024) : Int), .int .i32 1024, .int .i32 1, .int .i32 100, .int .i32 0, .int .i32 30, .int .i32 0, .int .i32 3]) (val_le (enc := fun _ : Unit => gl_state_playerBounds) (xs := [()]) (v := 0) (o := 0) (size := 14) tt_ok rfl G0S rsub_nil (fun _ => rfl) rfl rfl) rfl (wl_val (v := .agg #[.int .i32 0, .int .i32 65024, .int .i32 0, .int .i32 32256, .int .i32 ((-2048) : Int), .int .i32 2048, .int .i32 ((-2048) : Int), .int .i32 2048, .int .i32 0, .int .i32 1, .int .i32 1, .int .i32 40]) (val_le (enc := fun _ : Unit => gl_state_shotBounds) (xs := [()]) (v := 0) (o := 0) (size := 12) tt_ok rfl G1S rsub_nil (fun _ => rfl) rfl rfl) rfl ?_)))))))
 refine wl_alloc tt_ok rfl rfl (fun b3 => ?_)
 refine wl_alloc tt_ok rfl rfl (fun b4 => ?_)
 refine lSt (Upd.there Upd.here) ?_
 refine lSt Upd.here ?_
 refine wNT (wSR (wM 1 rfl (wLd rfl (mTT mH) rfl rfl (wl_val (v := .int .i64 (p0.Shots.length : Int)) (val_len tt_ok rfl rfl p0N0) rfl (wM 2 rfl (wNT (wc_seq (wSR (wM 1 rfl (wLd (v := .agg #[.int .i32 p0.Players.1.X, .int .i32 p0.Players.1.Y, .int .i32 p0.Players.1.VX, .int .i32 p0.Players.1.VY, .int .u8 p0.Players.1.Health, .int .u8 p0.Players.1.Cool, .int .u8 p0.Players.1.Face, .int .i32 p0.Players.2.X, .int .i32 p0.Players.2.Y, .int .i32 p0.Players.2.VX, .int .i32 p0.Players.2.VY, .int .u8 p0.Players.2.Health, .int .u8 p0.Players.2.Cool, .int .u8 p0.Players.2.Face]) rfl (mTT mH) rfl rfl ?_))))))))))
 refine wM 1 rfl (wNT (wc_block ?_))
 obtain ⟨zc, h, hl11⟩ := bsome h
 refine wc_loop (fun m E L => ∃ zb za, m_state_Check_L10 F p0 m zb za = some zc ∧ E = [(1, .pointer (some ⟨b1, 0, none⟩)), (2, .int .i64 0), (3, .pointer (some ⟨b3, 0, none⟩)), (4, .pointer (some ⟨b4, 0, none⟩)), (5, .bool zb), (15, .agg #[.int .i32 p0.Players.1.X, .int .i32 p0.Players.1.Y, .int .i32 p0.Players.1.VX, .int .i32 p0.Players.1.VY, .int .u8 p0.Players.1.Health, .int .u8 p0.Players.1.Cool, .int .u8 p0.Players.1.Face, .int .i32 p0.Players.2.X, .int .i32 p0.Players.2.Y, .int .i32 p0.Players.2.VX, .int .i32 p0.Players.2.VY, .int .u8 p0.Players.2.Health, .int .u8 p0.Players.2.Cool, .int .u8 p0.Players.2.Face]), (16, .int .i64 za)] ∧ L = (⟨b1, (st19 p0 p0a0 p0n0 p0c0 []), 41, (0, 0)⟩ :: (⟨b3, [.int .i32 0, .int .i32 61440, .int .i32 0, .int .i32 28672, .int .i32 ((-1024) : Int), .int .i32 1024, .int .i32 ((-1024) : Int), .int .i32 1024, .int .i32 1, .int .i32 100, .int .i32 0, .int .i32 30, .int .i32 0, .int .i32 3], 114, (0, 0)⟩ :: (⟨b4, [.int .i32 0, .int .i32 65024, .int .i32 0, .int .i32 32256, .int .i32 ((-2048) : Int), .int .i32 2048, .int .i32 ((-2048) : Int), .int .i32 2048, .int .i32 0, .int .i32 1, .int .i32 1, .int .i32 40], 115, (0, 0)⟩ :: [])))) F ⟨(decide ((p0.Shots.length : Int) ≤ (8 : Int))), (0 : Int), h, rfl, rfl⟩ (ag7 rfl rfl rfl rfl rfl rfl rfl) pI ?_
 clear h
 rintro m11 _ _ ⟨zb, za, h, rfl, rfl⟩
 rcases m11 with _ | m11
 ·rw [m_state_Check_L10.eq_1] at h; cases h
 rw [m_state_Check_L10.eq_2] at h
 refine wSR (wM 1 rfl (wNT (wc_seq (wcc h rfl ?_ ?_)))) <;> clear h <;> intro h
 ·refine wc_skip (wx_then (wc_seq (wc_block (wSR ?_))))
  rcases Bool.eq_false_or_eq_true (za == (0 : Int)) with hx180 | hx180
  ·replace h := ct hx180 h
   refine wl_val (v := agP p0.Players.1) (val_iv (j := 0) tt_ok rfl rfl rfl rfl (by simpa using hx180) rfl rfl) rfl ?_
   refine wl_alloc tt_ok rfl rfl (fun b7 => ?_)
   refine lSt Upd.here ?_
   refine wNT (wc_k2 (Ls := (⟨b7, (pl7 p0.Players.1 []), 35, (0, 0)⟩ :: (⟨b1, (st19 p0 p0a0 p0n0 p0c0 []), 41, (0, 0)⟩ :: (⟨b3, [.int .i32 0, .int .i32 61440, .int .i32 0, .int .i32 28672, .int .i32 ((-1024) : Int), .int .i32 1024, .int .i32 ((-1024) : Int), .int .i32 1024, .int .i32 1, .int .i32 100, .int .i32 0, .int .i32 30, .int .i32 0, .int .i32 3], 114, (0, 0)⟩ :: (⟨b4, [.int .i32 0, .int .i32 65024, .int .i32 0, .int .i32 32256, .int .i32 ((-2048) : Int), .int .i32 2048, .int .i32 ((-2048) : Int), .int .i32 2048, .int .i32 0, .int .i32 1, .int .i32 1, .int .i32 40], 115, (0, 0)⟩ :: []))))) [3, 5] [] [0, 1, 3, 7, 3, 31, 63, 127] [0, 1, 2, 4, 3, 5, 6, 7] (by kernel_rfl) (by kernel_rfl) (by kernel_rfl) ?_)
   refine kM pI 2 rfl ?_
   obtain ⟨v25, h, hg25⟩ := bsome h
   refine ks 20 h rfl ?_ ?_ <;> clear h <;> intro h
   ·refine k_val (v := agP p0.Players.1) rfl rfl rfl pI (val_load tt_ok rfl mH rfl) rfl (k_val (v := .slice (some ⟨b3, 0, none⟩) 7 7) rfl rfl rfl pI (val_sla tt_ok rfl rfl rfl rfl) rfl ?_)
    obtain ⟨v22, x22, h⟩ := bsome h
    refine k_cs rfl rfl rfl Tryd.call47 rfl rfl rfl (s_sp (k_state_ofPlayer x22) pNil (fun _ _ => trivial)) rfl (.inr (by rintro _ _ ⟨_, ⟨_, _, _, _, _, _, rfl, rfl⟩, rfl⟩; exact ⟨_, pP⟩)) ?_
    rintro _ _ ⟨_, ⟨v22a0, v22n0, v22c0, v22B0, v22N0, v22V0, rfl, rfl⟩, rfl⟩
    obtain ⟨v24, x24, h⟩ := bsome h
    refine k_cq rfl rfl rfl Tryd.call53 rfl rfl rfl (q_pf (k_state_within (p0 := v22) (p1 := ([((0 : Int), (61440 : Int)), ((0 : Int), (28672 : Int)), (((-1024) : Int), (1024 : Int)), (((-1024) : Int), (1024 : Int)), ((1 : Int), (100 : Int)), ((0 : Int), (30 : Int)), ((0 : Int), (3 : Int))] : List (Int × Int))) v22N0 (vec_cap v22V0) rfl (Nat.le_refl _) x24) (fun w hI => ⟨(Rds.call (Rds.of_vec v22V0) pNil ⟨_, hA'⟩) w hI, (Rds.call (Rds.of_blk (t := 114) (fz := (0, 0))) pNil ⟨_, (sA (sCC hC))⟩) w hI⟩)) rfl pI ?_
    obtain rfl := sI h
    have h := hg25; clear hg25
    refine kM pI 2 rfl (k_end (by kernel_rfl) (wx_block (wx_then (wc_region (wM 2 rfl (wl_nil ?_))))))
    exact wx_round m11 (Nat.lt_succ_self m11) ⟨v24, (IntKind.wrap .i64 (za + (1 : Int))), h, rfl, rfl⟩ (ag7 rfl rfl rfl rfl rfl rfl rfl) pI
   refine kM pI 4 rfl ?_
   obtain rfl := sI h
   have h := hg25; clear hg25
   refine kM pI 2 rfl (k_end (by kernel_rfl) (wx_block (wx_then (wc_region (wM 2 rfl (wl_nil ?_))))))
   exact wx_round m11 (Nat.lt_succ_self m11) ⟨false, (IntKind.wrap .i64 (za + (1 : Int))), h, rfl, rfl⟩ (ag7 rfl rfl rfl rfl rfl rfl rfl) pI
  replace h := cf hx180 h
  rcases Bool.eq_false_or_eq_true (za == (1 : Int)) with hx181 | hx181
  ·replace h := ct hx181 h
   refine wl_val (v := agP p0.Players.2) (val_iv (j := 1) tt_ok rfl rfl rfl rfl (by simpa using hx181) rfl rfl) rfl ?_
   refine wl_alloc tt_ok rfl rfl (fun b7 => ?_)
   refine lSt Upd.here ?_
   refine wNT (wc_k2 (Ls := (⟨b7, (pl7 p0.Players.2 []), 35, (0, 0)⟩ :: (⟨b1, (st19 p0 p0a0 p0n0 p0c0 []), 41, (0, 0)⟩ :: (⟨b3, [.int .i32 0, .int .i32 61440, .int .i32 0, .int .i32 28672, .int .i32 ((-1024) : Int), .int .i32 1024, .int .i32 ((-1024) : Int), .int .i32 1024, .int .i32 1, .int .i32 100, .int .i32 0, .int .i32 30, .int .i32 0, .int .i32 3], 114, (0, 0)⟩ :: (⟨b4, [.int .i32 0, .int .i32 65024, .int .i32 0, .int .i32 32256, .int .i32 ((-2048) : Int), .int .i32 2048, .int .i32 ((-2048) : Int), .int .i32 2048, .int .i32 0, .int .i32 1, .int .i32 1, .int .i32 40], 115, (0, 0)⟩ :: []))))) [3, 5] [] [0, 1, 3, 7, 3, 31, 63, 127] [0, 1, 2, 4, 3, 5, 6, 7] (by kernel_rfl) (by kernel_rfl) (by kernel_rfl) ?_)
   refine kM pI 2 rfl ?_
   obtain ⟨v25, h, hg25⟩ := bsome h
   refine ks 20 h rfl ?_ ?_ <;> clear h <;> intro h
   ·refine k_val (v := agP p0.Players.2) rfl rfl rfl pI (val_load tt_ok rfl mH rfl) rfl (k_val (v := .slice (some ⟨b3, 0, none⟩) 7 7) rfl rfl rfl pI (val_sla tt_ok rfl rfl rfl rfl) rfl ?_)
    obtain ⟨v22, x22, h⟩ := bsome h
    refine k_cs rfl rfl rfl Tryd.call47 rfl rfl rfl (s_sp (k_state_ofPlayer x22) pNil (fun _ _ => trivial)) rfl (.inr (by rintro _ _ ⟨_, ⟨_, _, _, _, _, _, rfl, rfl⟩, rfl⟩; exact ⟨_, pP⟩)) ?_
    rintro _ _ ⟨_, ⟨v22a0, v22n0, v22c0, v22B0, v22N0, v22V0, rfl, rfl⟩, rfl⟩
    obtain ⟨v24, x24, h⟩ := bsome h
    refine k_cq rfl rfl rfl Tryd.call53 rfl rfl rfl (q_pf (k_state_within (p0 := v22) (p1 := ([((0 : Int), (61440 : Int)), ((0 : Int), (28672 : Int)), (((-1024) : Int), (1024 : Int)), (((-1024) : Int), (1024 : Int)), ((1 : Int), (100 : Int)), ((0 : Int), (30 : Int)), ((0 : Int), (3 : Int))] : List (Int × Int))) v22N0 (vec_cap v22V0) rfl (Nat.le_refl _) x24) (fun w hI => ⟨(Rds.call (Rds.of_vec v22V0) pNil ⟨_, hA'⟩) w hI, (Rds.call (Rds.of_blk (t := 114) (fz := (0, 0))) pNil ⟨_, (sA (sCC hC))⟩) w hI⟩)) rfl pI ?_
    obtain rfl := sI h
    have h := hg25; clear hg25
    refine kM pI 2 rfl (k_end (by kernel_rfl) (wx_block (wx_then (wc_region (wM 2 rfl (wl_nil ?_))))))
    exact wx_round m11 (Nat.lt_succ_self m11) ⟨v24, (IntKind.wrap .i64 (za + (1 : Int))), h, rfl, rfl⟩ (ag7 rfl rfl rfl rfl rfl rfl rfl) pI
   refine kM pI 4 rfl ?_
   obtain rfl := sI h
   have h := hg25; clear hg25
   refine kM pI 2 rfl (k_end (by kernel_rfl) (wx_block (wx_then (wc_region (wM 2 rfl (wl_nil ?_))))))
   exact wx_round m11 (Nat.lt_succ_self m11) ⟨false, (IntKind.wrap .i64 (za + (1 : Int))), h, rfl, rfl⟩ (ag7 rfl rfl rfl rfl rfl rfl rfl) pI
  replace h := cf hx181 h
  cases h
 refine wc_exit (wx_then_exit ?_)
 obtain rfl := sI h
 have h := hl11; clear hl11; try dsimp only [orE_l, orE_r] at h
 refine wx_then_exit (wx_block_exit (wx_then (wc_seq (wSR ?_))))
 refine wM 3 rfl ?_
 obtain ⟨v34, h, hg34⟩ := bsome h
 refine wls 29 h rfl ?_ ?_ <;> clear h <;> intro h
 ·refine wM 4 rfl ?_
  obtain rfl := sI h
  have h := hg34; clear hg34
  refine wM 1 rfl (wNT ?_)
  replace h := ct rfl h
  refine wc_cond_true rfl ?_
  refine wSR (wM 1 rfl (wNT (wc_ret (wx_then_ret ?_))))
  obtain rfl := sI h
  exact pE Tryd.results31 rfl
 refine wM 1 rfl (wl_run rfl (wLd rfl mH rfl rfl (wM 1 rfl ?_)))
 obtain ⟨v33, x33, h⟩ := bsome h
 refine wl_run rfl (wl_cq Tryd.call54 rfl rfl rfl (q_rd (k_slices_ContainsFunc___api_Shot_api_Shot_f1_state_Check_1 (p0 := p0.Shots) (p1c0t := 115) p0N0 p0H0 x33) (pCons (sCC hC) pNil) (Rds.call p0S0 (pCons (sCC hC) pNil) rsub_nil)) rfl ?_)
 obtain rfl := sI h
 have h := hg34; clear hg34
 refine wM 1 rfl (wNT (wcc h rfl ?_ ?_)) <;> clear h <;> intro h
 ·refine wSR (wM 1 rfl (wNT (wc_ret (wx_then_ret ?_))))
  obtain rfl := sI h
  exact pE Tryd.results31 rfl
 refine wc_skip (wx_then (wSR (wM 1 rfl (wNT (wc_ret ?_)))))
 obtain rfl := sI h
 exact pE Tryd.results31 rfl

theorem k_input_Legal {p0 : Int} {r0 : Bool} (h : m_input_Legal F p0 = some r0) :
    Pf Tryd.prog 32 [.int .u8 p0] (fun w => True) (.bool r0) := by
 unfold m_input_Legal at h
 refine pf_of_wc Tryd.func32 rfl Tryd.ntmps32 rfl rfl (fun w0 hR => ?_)
 refine wSR (wM 1 rfl (wNT (wSR (wM 3 rfl (wNT (wc_ret ?_))))))
 obtain rfl := sI h
 exact pE Tryd.results32 rfl

theorem k_input_way {p0 : Int} {p1 : Int} {p2 : Int} {r0 : Int} (h : m_input_way F p0 p1 p2 = some r0) :
    Pf Tryd.prog 79 [.int .u8 p0, .int .u8 p1, .int .u8 p2] (fun w => True) (.int .i32 r0) := by
 unfold m_input_way at h
 refine pf_of_wc Tryd.func79 rfl Tryd.ntmps79 rfl rfl (fun w0 hR => ?_)
 refine wSR (wM 1 rfl (wNT (wc_seq (wSR (wM 5 rfl (wNT (wc_block (wSR (wM 3 rfl (wNT (wcc h rfl ?_ ?_))))))))))) <;> clear h <;> intro h
 ·refine wSR (wM 1 rfl (wNT (wc_ret (wx_block_ret (wx_then_ret ?_)))))
  obtain rfl := sI h
  exact pE Tryd.results79 rfl
 refine wSR (wM 3 rfl (wNT (wcc h rfl ?_ ?_))) <;> clear h <;> intro h
 ·refine wSR (wM 1 rfl (wNT (wc_ret (wx_block_ret (wx_then_ret ?_)))))
  obtain rfl := sI h
  exact pE Tryd.results79 rfl
 refine wc_skip (wx_block (wx_then (wSR (wM 1 rfl (wNT (wc_ret ?_))))))
 obtain rfl := sI h
 exact pE Tryd.results79 rfl

theorem k_input_Dir {p0 : Int} {r0 : Int} {r1 : Int} (h : m_input_Dir F p0 = some (r0, r1)) :
    Pf Tryd.prog 56 [.int .u8 p0] (fun w => True) (.tuple #[.int .i32 r0, .int .i32 r1]) := by
 unfold m_input_Dir at h
 refine pf_of_wc Tryd.func56 rfl Tryd.ntmps56 rfl rfl (fun w0 hR => ?_)
 refine wSR (wM 2 rfl (wNT (wSR (wM 1 rfl ?_))))
 obtain ⟨v5, x5, h⟩ := bsome h
 refine wl_cq Tryd.call79 rfl rfl rfl (q_pf (k_input_way x5) (fun _ _ => trivial)) rfl ?_
 refine wM 1 rfl ?_
 obtain ⟨v7, x7, h⟩ := bsome h
 refine wl_cq Tryd.call79 rfl rfl rfl (q_pf (k_input_way x7) (fun _ _ => trivial)) rfl ?_
 refine wM 2 rfl (wNT (wc_ret ?_))
 obtain ⟨rfl, rfl⟩ := pJ2 h
 exact wx_pf tt_ok (.inl rfl) Tryd.results56 (rs2 rfl rfl) rfl

theorem k_step_turn {p0 : Int} {p1 : Int} {p2 : Int} {r0 : Int} (h : m_step_turn F p0 p1 p2 = some r0) :
    Pf Tryd.prog 57 [.int .u8 p0, .int .i32 p1, .int .i32 p2] (fun w => True) (.int .u8 r0) := by
 unfold m_step_turn at h
 refine pf_of_wc Tryd.func57 rfl Tryd.ntmps57 rfl rfl (fun w0 hR => ?_)
 refine wSR (wM 1 rfl (wNT (wc_seq (wc_block (wSR (wM 3 rfl (wNT (wcc h rfl ?_ ?_)))))))) <;> clear h <;> intro h
 ·refine wSR (wM 1 rfl (wNT (wc_ret (wx_block_ret (wx_then_ret ?_)))))
  obtain rfl := sI h
  exact pE Tryd.results57 rfl
 refine wSR (wM 3 rfl (wNT (wcc h rfl ?_ ?_))) <;> clear h <;> intro h
 ·refine wSR (wM 1 rfl (wNT (wc_ret (wx_block_ret (wx_then_ret ?_)))))
  obtain rfl := sI h
  exact pE Tryd.results57 rfl
 refine wSR (wM 3 rfl (wNT (wcc h rfl ?_ ?_))) <;> clear h <;> intro h
 ·refine wSR (wM 1 rfl (wNT (wc_ret (wx_block_ret (wx_then_ret ?_)))))
  obtain rfl := sI h
  exact pE Tryd.results57 rfl
 refine wSR (wM 3 rfl (wNT (wcc h rfl ?_ ?_))) <;> clear h <;> intro h
 ·refine wSR (wM 1 rfl (wNT (wc_ret (wx_block_ret (wx_then_ret ?_)))))
  obtain rfl := sI h
  exact pE Tryd.results57 rfl
 refine wc_skip (wx_block (wx_then (wSR (wM 2 rfl (wNT (wc_ret ?_))))))
 obtain rfl := sI h
 exact pE Tryd.results57 rfl

theorem k_input_Dash {p0 : Int} {r0 : Bool} (h : m_input_Dash F p0 = some r0) :
    Pf Tryd.prog 58 [.int .u8 p0] (fun w => True) (.bool r0) := by
 unfold m_input_Dash at h
 refine pf_of_wc Tryd.func58 rfl Tryd.ntmps58 rfl rfl (fun w0 hR => ?_)
 refine wSR (wM 1 rfl (wNT (wSR (wM 4 rfl (wNT (wc_ret ?_))))))
 obtain rfl := sI h
 exact pE Tryd.results58 rfl

theorem k_step_steer_1 {p0 : Int} {p1 : Int} {p2 : Bool} {r0 : Int} (h : m_step_steer_1 F p0 p1 p2 = some r0) :
    Rd2 Tryd.prog 59 [.int .i32 p0, .int .i32 p1, .pointer (some ⟨p2b, 0, none⟩)] (⟨p2b, [.bool p2], p2t, (0, 0)⟩ :: []) (fun w => True) (.int .i32 r0) := by
 unfold m_step_steer_1 at h
 refine sp_of_wc Tryd.func59 rfl Tryd.ntmps59 rfl rfl (fun w0 hR => ?_)
 refine wSR (wM 1 rfl (wNT (wc_seq (wSR (wM 2 rfl (wNT ?_))))))
 obtain ⟨zb, h, hj6⟩ := bsome h
 refine wc_join2 (fun E L => E = [(0, .int .i32 zb), (2, .pointer (some ⟨p2b, 0, none⟩)), (5, .int .i32 0)] ∧ L = (⟨p2b, [.bool p2], p2t, (0, 0)⟩ :: [])) ?_ ?_
 ·refine wcc h rfl ?_ ?_ <;> clear h <;> intro h
  ·refine wc_region (wM 5 rfl (wl_nil ?_))
   obtain rfl := sI h
   exact wx_join ⟨rfl, rfl⟩ (ag3 rfl rfl rfl) pI
  refine wSR (wM 5 rfl (wNT (wSR (wM 3 rfl ?_))))
  obtain ⟨v21, h, hg21⟩ := bsome h
  refine wls 18 h rfl ?_ ?_ <;> clear h <;> intro h
  ·refine wM 2 rfl ?_
   obtain rfl := sI h
   have h := hg21; clear hg21
   refine wM 1 rfl (wNT (wcc h rfl ?_ ?_)) <;> clear h <;> intro h
   ·refine wc_region (wM 1 rfl (wl_nil ?_))
    obtain rfl := sI h
    exact wx_join ⟨rfl, rfl⟩ (ag3 rfl rfl rfl) pI
   refine wc_skip ?_
   obtain rfl := sI h
   exact wx_join ⟨rfl, rfl⟩ (ag3 rfl rfl rfl) pI
  refine wM 2 rfl ?_
  obtain rfl := sI h
  have h := hg21; clear hg21
  refine wM 1 rfl (wNT ?_)
  replace h := cf rfl h
  refine wc_cond_false rfl ?_
  refine wc_skip ?_
  obtain rfl := sI h
  exact wx_join ⟨rfl, rfl⟩ (ag3 rfl rfl rfl) pI
 rintro _ _ ⟨rfl, rfl⟩
 have h := hj6; clear hj6
 refine wc_seq (wSR (wLd rfl mH rfl rfl (wNT ?_)))
 obtain ⟨za, h, hj18⟩ := bsome h
 refine wc_join2 (fun E L => E = [(0, .int .i32 za), (5, .int .i32 0)] ∧ L = (⟨p2b, [.bool p2], p2t, (0, 0)⟩ :: [])) ?_ ?_
 ·refine wcc h rfl ?_ ?_ <;> clear h <;> intro h
  ·refine wc_region (wM 3 rfl (wl_nil ?_))
   obtain rfl := sI h
   exact wx_join ⟨rfl, rfl⟩ (ag2 rfl rfl) pI
  refine wc_skip ?_
  obtain rfl := sI h
  exact wx_join ⟨rfl, rfl⟩ (ag2 rfl rfl) pI
 rintro _ _ ⟨rfl, rfl⟩
 have h := hj18; clear hj18
 refine wSR (wM 4 rfl (wNT (wc_ret ?_)))
 obtain rfl := sI h
 exact wx_rd tt_ok (.inl rfl) Tryd.results59 (rs1 rfl) pI rfl

theorem k_step_steer {p0 : T_api_Player} {p1 : Int} {r0 : T_api_Player} (h : m_step_steer F p0 p1 = some r0) :
    Pf Tryd.prog 33 [agP p0, .int .u8 p1] (fun w => True) (agP r0) := by
 unfold m_step_steer at h
 refine pf_of_wc Tryd.func33 rfl Tryd.ntmps33 rfl rfl (fun w0 hR => ?_)
 refine wSR (wl_box rfl rfl rfl (fun b2 => (wl_alloc tt_ok rfl rfl (fun b4 => (wNT (wSR (wM 1 rfl ?_)))))))
 replace h := bsome h; obtain ⟨⟨zb, zc⟩, x11, h⟩ := h; try dsimp only at h
 refine wl_cq Tryd.call56 rfl rfl rfl (q_pf (k_input_Dir x11) (fun _ _ => trivial)) rfl ?_
 refine wM 5 rfl (wNT (wSR (wM 1 rfl (wLd rfl (mT mH) rfl rfl (wM 1 rfl (wLd rfl (mT mH) rfl rfl (wM 3 rfl (lSt (Upd.there Upd.here) ?_))))))))
 refine wNT (wSR (wM 1 rfl (wLd rfl (mT mH) rfl rfl (wM 2 rfl ?_))))
 obtain ⟨v25, x25, h⟩ := bsome h
 refine wl_cq Tryd.call57 rfl rfl rfl (q_pf (k_step_turn x25) (fun _ _ => trivial)) rfl ?_
 refine wM 1 rfl (lSt (Upd.there Upd.here) ?_)
 refine wNT (wSR (wM 1 rfl ?_))
 obtain ⟨v28, x28, h⟩ := bsome h
 refine wl_cq Tryd.call58 rfl rfl rfl (q_pf (k_input_Dash x28) (fun _ _ => trivial)) rfl ?_
 refine wM 1 rfl ?_
 obtain ⟨v33, h, hg33⟩ := bsome h
 refine wls 29 h rfl ?_ ?_ <;> clear h <;> intro h
 ·refine wM 1 rfl (wl_run rfl (wLd rfl (mT mH) rfl rfl (wM 1 rfl ?_)))
  obtain rfl := sI h
  have h := hg33; clear hg33
  refine wM 1 rfl (wl_alloc tt_ok rfl rfl (fun b7 => (lSt Upd.here ?_)))
  refine wNT (wSR (wM 2 rfl (wNT (wc_seq (wc_k2 (Ls := (⟨b7, [.bool ((IntKind.wrap .u8 (p0.Cool - (min p0.Cool (1 : Int)))) == (0 : Int))], 4, (0, 0)⟩ :: (⟨b4, [.int .i32 0, .int .i32 0, .int .i32 0, .int .i32 0, .int .u8 0, .int .u8 0, .int .u8 0], 35, (0, 0)⟩ :: (⟨b2, [.int .i32 p0.X, .int .i32 p0.Y, .int .i32 p0.VX, .int .i32 p0.VY, .int .u8 p0.Health, .int .u8 (IntKind.wrap .u8 (p0.Cool - (min p0.Cool (1 : Int)))), .int .u8 v25], 35, (0, 0)⟩ :: [])))) [4, 9, 11, 12, 13] [11, 12, 13] [0, 0, 2, 0, 15, 0, 0, 64, 0, 511, 223, 2047, 4095, 8191] [0, 1, 2, 3, 5, 6, 7, 8, 4, 10, 9, 11, 12, 13] (by kernel_rfl) (by kernel_rfl) (by kernel_rfl) ?_)))))
  refine kM pI 2 rfl (k_val (v := .int .i32 p0.VX) rfl rfl rfl pI (val_load tt_ok rfl (mTT mH) rfl) rfl (kM pI 3 rfl (k_val (v := .int .i32 p0.VY) rfl rfl rfl pI (val_load tt_ok rfl (mTT mH) rfl) rfl (kM pI 1 rfl ?_))))
  obtain ⟨v39, x39, h⟩ := bsome h
  refine k_cq rfl rfl rfl Tryd.call59 rfl rfl rfl (q_rd (k_step_steer_1 (p2t := 4) x39) pP (fun _ _ => trivial)) rfl pI ?_
  refine kM pI 1 rfl ?_
  obtain ⟨v44, x44, h⟩ := bsome h
  refine k_cq rfl rfl rfl Tryd.call59 rfl rfl rfl (q_rd (k_step_steer_1 (p2t := 4) x44) pP (fun _ _ => trivial)) rfl pI ?_
  refine k_chg0 rfl rfl rfl (chg_store tt_ok rfl (Upd.there (Upd.there Upd.here)) rfl rfl rfl rfl rfl rfl) (.inl rfl) ?_
  rintro _ _ rfl
  refine k_chg rfl rfl rfl (Chg.of_val (v := .pointer (some ⟨b2, 3, none⟩)) (sV rfl)) rfl (.inl rfl) ?_
  rintro _ _ ⟨rfl, rfl⟩
  refine k_chg0 rfl rfl rfl (chg_store tt_ok rfl (Upd.there (Upd.there Upd.here)) rfl rfl rfl rfl rfl rfl) (.inl rfl) ?_
  rintro _ _ rfl
  refine k_end (by kernel_rfl) ?_
  refine wx_then (wc_seq (wSR (wLd rfl mH rfl rfl (wNT ?_))))
  obtain ⟨za, h, hj18⟩ := bsome h
  refine wc_join2 (fun E L => E = [(2, .pointer (some ⟨b2, 0, none⟩)), (4, .pointer (some ⟨b4, 0, none⟩))] ∧ L = (⟨b2, (pl7 za []), 35, (0, 0)⟩ :: (⟨b4, [.int .i32 0, .int .i32 0, .int .i32 0, .int .i32 0, .int .u8 0, .int .u8 0, .int .u8 0], 35, (0, 0)⟩ :: []))) ?_ ?_
  ·refine wcc h rfl ?_ ?_ <;> clear h <;> intro h
   ·refine wc_region (wM 1 rfl (lSt (Upd.there (Upd.there Upd.here)) ?_))
    refine wl_nil ?_
    obtain rfl := sI h
    exact wx_join ⟨rfl, rfl⟩ (ag2 rfl rfl) pI
   refine wc_skip ?_
   obtain rfl := sI h
   exact wx_join ⟨rfl, rfl⟩ (ag2 rfl rfl) pI
  rintro _ _ ⟨rfl, rfl⟩
  have h := hj18; clear hj18
  refine wSR (wLd (v := agP za) rfl mH rfl rfl (lSt (Upd.there Upd.here) ?_))
  refine wNT (wc_ret ?_)
  obtain rfl := sI h
  exact wx_pf tt_ok (.inl rfl) Tryd.results33 (Res.cell rfl (mT mH) rfl Res.nil) rfl
 refine wM 3 rfl ?_
 obtain rfl := sI h
 have h := hg33; clear hg33
 refine wM 1 rfl (wl_alloc tt_ok rfl rfl (fun b7 => (lSt Upd.here ?_)))
 refine wNT (wSR (wM 2 rfl (wNT (wc_seq (wc_k2 (Ls := (⟨b7, [.bool false], 4, (0, 0)⟩ :: (⟨b4, [.int .i32 0, .int .i32 0, .int .i32 0, .int .i32 0, .int .u8 0, .int .u8 0, .int .u8 0], 35, (0, 0)⟩ :: (⟨b2, [.int .i32 p0.X, .int .i32 p0.Y, .int .i32 p0.VX, .int .i32 p0.VY, .int .u8 p0.Health, .int .u8 (IntKind.wrap .u8 (p0.Cool - (min p0.Cool (1 : Int)))), .int .u8 v25], 35, (0, 0)⟩ :: [])))) [4, 9, 11, 12, 13] [11, 12, 13] [0, 0, 2, 0, 15, 0, 0, 64, 0, 511, 223, 2047, 4095, 8191] [0, 1, 2, 3, 5, 6, 7, 8, 4, 10, 9, 11, 12, 13] (by kernel_rfl) (by kernel_rfl) (by kernel_rfl) (kM pI 2 rfl ?_))))))
 refine k_val (v := .int .i32 p0.VX) rfl rfl rfl pI (val_load tt_ok rfl (mTT mH) rfl) rfl (kM pI 3 rfl (k_val (v := .int .i32 p0.VY) rfl rfl rfl pI (val_load tt_ok rfl (mTT mH) rfl) rfl (kM pI 1 rfl ?_)))
 obtain ⟨v39, x39, h⟩ := bsome h
 refine k_cq rfl rfl rfl Tryd.call59 rfl rfl rfl (q_rd (k_step_steer_1 (p2t := 4) x39) pP (fun _ _ => trivial)) rfl pI ?_
 refine kM pI 1 rfl ?_
 obtain ⟨v44, x44, h⟩ := bsome h
 refine k_cq rfl rfl rfl Tryd.call59 rfl rfl rfl (q_rd (k_step_steer_1 (p2t := 4) x44) pP (fun _ _ => trivial)) rfl pI ?_
 refine k_chg0 rfl rfl rfl (chg_store tt_ok rfl (Upd.there (Upd.there Upd.here)) rfl rfl rfl rfl rfl rfl) (.inl rfl) ?_
 rintro _ _ rfl
 refine k_chg rfl rfl rfl (Chg.of_val (v := .pointer (some ⟨b2, 3, none⟩)) (sV rfl)) rfl (.inl rfl) ?_
 rintro _ _ ⟨rfl, rfl⟩
 refine k_chg0 rfl rfl rfl (chg_store tt_ok rfl (Upd.there (Upd.there Upd.here)) rfl rfl rfl rfl rfl rfl) (.inl rfl) ?_
 rintro _ _ rfl
 refine k_end (by kernel_rfl) ?_
 refine wx_then (wc_seq (wSR (wLd rfl mH rfl rfl (wNT ?_))))
 obtain ⟨za, h, hj18⟩ := bsome h
 refine wc_join2 (fun E L => E = [(2, .pointer (some ⟨b2, 0, none⟩)), (4, .pointer (some ⟨b4, 0, none⟩))] ∧ L = (⟨b2, (pl7 za []), 35, (0, 0)⟩ :: (⟨b4, [.int .i32 0, .int .i32 0, .int .i32 0, .int .i32 0, .int .u8 0, .int .u8 0, .int .u8 0], 35, (0, 0)⟩ :: []))) ?_ ?_
 ·replace h := cf rfl h
  refine wc_cond_false rfl ?_
  refine wc_skip ?_
  obtain rfl := sI h
  exact wx_join ⟨rfl, rfl⟩ (ag2 rfl rfl) pI
 rintro _ _ ⟨rfl, rfl⟩
 have h := hj18; clear hj18
 refine wSR (wLd (v := agP za) rfl mH rfl rfl (lSt (Upd.there Upd.here) ?_))
 refine wNT (wc_ret ?_)
 obtain rfl := sI h
 exact wx_pf tt_ok (.inl rfl) Tryd.results33 (Res.cell rfl (mT mH) rfl Res.nil) rfl

theorem k_input_Fire {p0 : Int} {r0 : Bool} (h : m_input_Fire F p0 = some r0) :
    Pf Tryd.prog 34 [.int .u8 p0] (fun w => True) (.bool r0) := by
 unfold m_input_Fire at h
 refine pf_of_wc Tryd.func34 rfl Tryd.ntmps34 rfl rfl (fun w0 hR => ?_)
 refine wSR (wM 1 rfl (wNT (wSR (wM 4 rfl (wNT (wc_ret ?_))))))
 obtain rfl := sI h
 exact pE Tryd.results34 rfl

theorem k_step_shoot {p0 : T_api_Player} {p1 : Int} {r0 : T_api_Shot} (h : m_step_shoot F p0 p1 = some r0) :
    Pf Tryd.prog 35 [agP p0, .int .u8 p1] (fun w => True) (.agg #[.int .i32 r0.X, .int .i32 r0.Y, .int .i32 r0.VX, .int .i32 r0.VY, .int .u8 r0.Owner, .int .u8 r0.Life]) := by
 unfold m_step_shoot at h
 refine pf_of_wc Tryd.func35 rfl Tryd.ntmps35 rfl rfl (fun w0 hR => ?_)
 refine wSR (wl_box rfl rfl rfl (fun b2 => (wl_alloc tt_ok rfl rfl (fun b4 => (wNT (wSR (wM 1 rfl (wLd rfl (mT mH) rfl rfl (wM 2 rfl (wLd rfl (mT mH) rfl rfl (wM 3 rfl (wl_alloc tt_ok rfl rfl (fun b5 => (lSt Upd.here ?_))))))))))))))
 refine wNT (wc_seq (wSR (wM 1 rfl (wLd rfl (mTT mH) rfl rfl (wNT ?_)))))
 obtain ⟨za, h, hj8⟩ := bsome h
 refine wc_join2 (fun E L => E = [(4, .pointer (some ⟨b4, 0, none⟩)), (5, .pointer (some ⟨b5, 0, none⟩))] ∧ L = (⟨b4, [.int .i32 0, .int .i32 0, .int .i32 0, .int .i32 0, .int .u8 0, .int .u8 0], 87, (0, 0)⟩ :: (⟨b5, [.int .i32 za.X, .int .i32 za.Y, .int .i32 za.VX, .int .i32 za.VY, .int .u8 za.Owner, .int .u8 za.Life], 87, (0, 0)⟩ :: []))) ?_ ?_
 ·refine wc_block (wSR ?_)
  refine wM 2 rfl (wNT (wcc h rfl ?_ ?_)) <;> clear h <;> intro h
  ·refine wc_region (wM 1 rfl (lSt Upd.here ?_))
   refine wl_nil (wx_block ?_)
   obtain rfl := sI h
   exact wx_join ⟨rfl, rfl⟩ (ag2 rfl rfl) pI
  refine wSR (wM 2 rfl (wNT (wcc h rfl ?_ ?_))) <;> clear h <;> intro h
  ·refine wc_region (wM 1 rfl (lSt Upd.here ?_))
   refine wl_nil (wx_block ?_)
   obtain rfl := sI h
   exact wx_join ⟨rfl, rfl⟩ (ag2 rfl rfl) pI
  refine wSR (wM 2 rfl (wNT (wcc h rfl ?_ ?_))) <;> clear h <;> intro h
  ·refine wc_region (wM 1 rfl (lSt Upd.here ?_))
   refine wl_nil (wx_block ?_)
   obtain rfl := sI h
   exact wx_join ⟨rfl, rfl⟩ (ag2 rfl rfl) pI
  refine wc_region (wM 1 rfl (lSt Upd.here ?_))
  refine wl_nil (wx_block ?_)
  obtain rfl := sI h
  exact wx_join ⟨rfl, rfl⟩ (ag2 rfl rfl) pI
 rintro _ _ ⟨rfl, rfl⟩
 have h := hj8; clear hj8
 refine wSR (wLd (v := .agg #[.int .i32 za.X, .int .i32 za.Y, .int .i32 za.VX, .int .i32 za.VY, .int .u8 za.Owner, .int .u8 za.Life]) rfl (mT mH) rfl rfl (lSt Upd.here ?_))
 refine wNT (wc_ret ?_)
 obtain rfl := sI h
 exact wx_pf tt_ok (.inl rfl) Tryd.results35 (Res.cell rfl mH rfl Res.nil) rfl

theorem k_geom_Move {p0 : Int} {p1 : Int} {p2 : Int} {p3 : Int} {r0 : Int} {r1 : Int} (h : m_geom_Move F p0 p1 p2 p3 = some (r0, r1)) :
    Pf Tryd.prog 60 [.int .i32 p0, .int .i32 p1, .int .i32 p2, .int .i32 p3] (fun w => True) (.tuple #[.int .i32 r0, .int .i32 r1]) := by
 unfold m_geom_Move at h
 refine pf_of_wc Tryd.func60 rfl Tryd.ntmps60 rfl rfl (fun w0 hR => ?_)
 refine wSR (wM 2 rfl (wNT (wSR (wM 6 rfl (wNT (wc_seq (wSR (wM 4 rfl ?_))))))))
 obtain ⟨v24, h, hg24⟩ := bsome h
 refine wls 19 h rfl ?_ ?_ <;> clear h <;> intro h
 ·refine wM 4 rfl ?_
  obtain rfl := sI h
  have h := hg24; clear hg24
  refine wM 1 rfl (wNT ?_)
  replace h := ct rfl h
  refine wc_cond_true rfl ?_
  refine wSR (wM 3 rfl (wNT (wc_ret (wx_then_ret ?_))))
  obtain ⟨rfl, rfl⟩ := pJ2 h
  exact wx_pf tt_ok (.inl rfl) Tryd.results60 (rs2 rfl rfl) rfl
 refine wM 4 rfl ?_
 obtain rfl := sI h
 have h := hg24; clear hg24
 refine wM 1 rfl (wNT (wcc h rfl ?_ ?_)) <;> clear h <;> intro h
 ·refine wSR (wM 3 rfl (wNT (wc_ret (wx_then_ret ?_))))
  obtain ⟨rfl, rfl⟩ := pJ2 h
  exact wx_pf tt_ok (.inl rfl) Tryd.results60 (rs2 rfl rfl) rfl
 refine wc_skip (wx_then (wc_seq (wSR (wM 4 rfl (wNT (wcc h rfl ?_ ?_)))))) <;> clear h <;> intro h
 ·refine wSR (wM 3 rfl (wNT (wc_ret (wx_then_ret ?_))))
  obtain ⟨rfl, rfl⟩ := pJ2 h
  exact wx_pf tt_ok (.inl rfl) Tryd.results60 (rs2 rfl rfl) rfl
 refine wc_skip (wx_then (wSR (wM 5 rfl (wNT (wc_ret ?_)))))
 obtain ⟨rfl, rfl⟩ := pJ2 h
 exact wx_pf tt_ok (.inl rfl) Tryd.results60 (rs2 rfl rfl) rfl

theorem k_step_moved {p0 : T_api_Player} {r0 : T_api_Player} (h : m_step_moved F p0 = some r0) :
    Pf Tryd.prog 36 [agP p0] (fun w => True) (agP r0) := by
 unfold m_step_moved at h
 refine pf_of_wc Tryd.func36 rfl Tryd.ntmps36 rfl rfl (fun w0 hR => ?_)
 refine wSR (wl_box rfl rfl rfl (fun b1 => (wl_alloc tt_ok rfl rfl (fun b2 => (wNT (wSR (wM 1 rfl (wLd rfl (mT mH) rfl rfl (wM 1 rfl (wLd rfl (mT mH) rfl rfl ?_))))))))))
 replace h := bsome h; obtain ⟨⟨zc, zd⟩, x8, h⟩ := h; try dsimp only at h
 refine wl_cq Tryd.call60 rfl rfl rfl (q_pf (k_geom_Move x8) (fun _ _ => trivial)) rfl ?_
 refine wM 4 rfl (lSt (Upd.there Upd.here) ?_)
 refine wM 1 rfl (lSt (Upd.there Upd.here) ?_)
 refine wNT (wSR (wM 1 rfl (wLd rfl (mT mH) rfl rfl (wM 1 rfl (wLd rfl (mT mH) rfl rfl ?_)))))
 replace h := bsome h; obtain ⟨⟨za, zb⟩, x18, h⟩ := h; try dsimp only at h
 refine wl_cq Tryd.call60 rfl rfl rfl (q_pf (k_geom_Move x18) (fun _ _ => trivial)) rfl ?_
 refine wM 4 rfl (lSt (Upd.there Upd.here) ?_)
 refine wM 1 rfl (lSt (Upd.there Upd.here) ?_)
 refine wNT (wSR (wLd (v := .agg #[.int .i32 zc, .int .i32 za, .int .i32 zd, .int .i32 zb, .int .u8 p0.Health, .int .u8 p0.Cool, .int .u8 p0.Face]) rfl (mT mH) rfl rfl (lSt Upd.here ?_)))
 refine wNT (wc_ret ?_)
 obtain rfl := sI h
 exact wx_pf tt_ok (.inl rfl) Tryd.results36 (Res.cell rfl mH rfl Res.nil) rfl

theorem k_step_box {p0 : T_api_Player} {r0 : T_api_Box} (h : m_step_box F p0 = some r0) :
    Pf Tryd.prog 38 [agP p0] (fun w => True) (.agg #[.int .i32 r0.X, .int .i32 r0.Y, .int .i32 r0.W, .int .i32 r0.H]) := by
 unfold m_step_box at h
 refine pf_of_wc Tryd.func38 rfl Tryd.ntmps38 rfl rfl (fun w0 hR => ?_)
 refine wSR (wl_box rfl rfl rfl (fun b1 => (wl_alloc tt_ok rfl rfl (fun b2 => (wNT (wSR (wM 1 rfl (wLd rfl (mT mH) rfl rfl (wM 1 rfl (wLd rfl (mT mH) rfl rfl (wM 1 rfl (lSt Upd.here ?_))))))))))))
 refine wNT (wc_ret ?_)
 obtain rfl := sI h
 exact wx_pf tt_ok (.inl rfl) Tryd.results38 (Res.cell rfl mH rfl Res.nil) rfl

theorem k_geom_of {p0 : Int} {p1 : Int} {r0 : T_geom_row} (h : m_geom_of F p0 p1 = some r0) :
    Pf Tryd.prog 93 [.int .i32 p0, .int .i32 p1] (fun w => True) (.agg #[.int .i64 r0.from_, .int .i64 r0.to_]) := by
 unfold m_geom_of at h
 refine pf_of_wc Tryd.func93 rfl Tryd.ntmps93 rfl rfl (fun w0 hR => ?_)
 refine wSR (wl_alloc tt_ok rfl rfl (fun b4 => (wNT (wSR (wM 9 rfl (lSt Upd.here ?_))))))
 refine wNT (wc_ret ?_)
 obtain rfl := sI h
 exact wx_pf tt_ok (.inl rfl) Tryd.results93 (Res.cell rfl mH rfl Res.nil) rfl

theorem k_geom_rows {p0 : T_api_Box} {r0 : T_geom_row} {r1 : T_geom_row} (h : m_geom_rows F p0 = some (r0, r1)) :
    Pf Tryd.prog 80 [.agg #[.int .i32 p0.X, .int .i32 p0.Y, .int .i32 p0.W, .int .i32 p0.H]] (fun w => True) (.tuple #[.agg #[.int .i64 r0.from_, .int .i64 r0.to_], .agg #[.int .i64 r1.from_, .int .i64 r1.to_]]) := by
 unfold m_geom_rows at h
 refine pf_of_wc Tryd.func80 rfl Tryd.ntmps80 rfl rfl (fun w0 hR => ?_)
 refine wSR (wl_box rfl rfl rfl (fun b1 => (wl_alloc tt_ok rfl rfl (fun b2 => (wl_alloc tt_ok rfl rfl (fun b3 => (wNT (wc_seq (wc_k2 (Ls := (⟨b3, [.int .i64 0, .int .i64 0], 129, (0, 0)⟩ :: (⟨b2, [.int .i64 0, .int .i64 0], 129, (0, 0)⟩ :: (⟨b1, [.int .i32 p0.X, .int .i32 p0.Y, .int .i32 p0.W, .int .i32 p0.H], 92, (0, 0)⟩ :: [])))) [4, 9, 10, 11] [9, 10, 11] [0, 1, 0, 4, 15, 0, 32, 0, 128, 511, 1023, 2047] [0, 1, 2, 3, 5, 6, 7, 8, 4, 9, 10, 11] (by kernel_rfl) (by kernel_rfl) (by kernel_rfl) (kM pI 1 rfl (k_val (v := .int .i32 p0.X) rfl rfl rfl pI (val_load tt_ok rfl (mTT mH) rfl) rfl ?_)))))))))))
 refine kM pI 1 rfl (k_val (v := .int .i32 p0.W) rfl rfl rfl pI (val_load tt_ok rfl (mTT mH) rfl) rfl (kM pI 1 rfl (k_val (v := .int .i32 p0.Y) rfl rfl rfl pI (val_load tt_ok rfl (mTT mH) rfl) rfl (kM pI 1 rfl (k_val (v := .int .i32 p0.H) rfl rfl rfl pI (val_load tt_ok rfl (mTT mH) rfl) rfl ?_)))))
 obtain ⟨v8, x8, h⟩ := bsome h
 refine k_cq rfl rfl rfl Tryd.call93 rfl rfl rfl (q_pf (k_geom_of x8) (fun _ _ => trivial)) rfl pI ?_
 obtain ⟨v13, x13, h⟩ := bsome h
 refine k_cq rfl rfl rfl Tryd.call93 rfl rfl rfl (q_pf (k_geom_of x13) (fun _ _ => trivial)) rfl pI ?_
 refine k_chg0 rfl rfl rfl (chg_store tt_ok rfl (Upd.there Upd.here) rfl rfl rfl rfl rfl rfl) (.inl rfl) ?_
 rintro _ _ rfl
 refine k_chg0 rfl rfl rfl (chg_store tt_ok rfl Upd.here rfl rfl rfl rfl rfl rfl) (.inl rfl) ?_
 rintro _ _ rfl
 refine k_end (by kernel_rfl) ?_
 refine wx_then (wc_ret ?_)
 obtain ⟨rfl, rfl⟩ := pJ2 h
 exact wx_pf tt_ok (.inl rfl) Tryd.results80 (Res.cell rfl (mT mH) rfl (Res.cell rfl mH rfl Res.nil)) rfl

theorem k_geom_row_over {p0 : T_geom_row} {p1 : T_geom_row} {r0 : Bool} (h : m_geom_row_over F p0 p1 = some r0) :
    Pf Tryd.prog 62 [.agg #[.int .i64 p0.from_, .int .i64 p0.to_], .agg #[.int .i64 p1.from_, .int .i64 p1.to_]] (fun w => True) (.bool r0) := by
 unfold m_geom_row_over at h
 refine pf_of_wc Tryd.func62 rfl Tryd.ntmps62 rfl rfl (fun w0 hR => ?_)
 refine wSR (wl_box rfl rfl rfl (fun b2 => (wl_box rfl rfl rfl (fun b3 => (wM 1 rfl (wNT (wSR (wM 1 rfl (wLd rfl (mT mH) rfl rfl (wM 1 rfl (wLd rfl mH rfl rfl (wM 2 rfl (wLd rfl (mT mH) rfl rfl (wM 1 rfl (wLd rfl mH rfl rfl (wM 3 rfl (wNT (wc_ret ?_))))))))))))))))))
 obtain rfl := sI h
 exact pE Tryd.results62 rfl

theorem k_geom_both_f2_geom_row_over {p0 : T_api_Box} {p1 : T_api_Box} {r0 : Bool} (h : m_geom_both_f2_geom_row_over F p0 p1 = some r0) :
    Pf Tryd.prog 61 [.agg #[.int .i32 p0.X, .int .i32 p0.Y, .int .i32 p0.W, .int .i32 p0.H], .agg #[.int .i32 p1.X, .int .i32 p1.Y, .int .i32 p1.W, .int .i32 p1.H], .func (.func 62) #[] #[]] (fun w => True) (.bool r0) := by
 unfold m_geom_both_f2_geom_row_over at h
 refine pf_of_wc Tryd.func61 rfl Tryd.ntmps61 rfl rfl (fun w0 hR => ?_)
 refine wSR (wl_box rfl rfl rfl (fun b3 => (wl_box rfl rfl rfl (fun b4 => (wM 1 rfl (wNT (wSR (wLd (v := .agg #[.int .i32 p0.X, .int .i32 p0.Y, .int .i32 p0.W, .int .i32 p0.H]) rfl (mT mH) rfl rfl ?_))))))))
 replace h := bsome h; obtain ⟨⟨za, zb⟩, x13, h⟩ := h; try dsimp only at h
 refine wl_cq Tryd.call80 rfl rfl rfl (q_pf (k_geom_rows x13) (fun _ _ => trivial)) rfl ?_
 refine wM 3 rfl (wl_alloc tt_ok rfl rfl (fun b7 => (wl_alloc tt_ok rfl rfl (fun b8 => (lSt (Upd.there Upd.here) ?_)))))
 refine lSt Upd.here ?_
 refine wNT (wSR (wLd (v := .agg #[.int .i32 p1.X, .int .i32 p1.Y, .int .i32 p1.W, .int .i32 p1.H]) rfl (mTT mH) rfl rfl ?_))
 replace h := bsome h; obtain ⟨⟨zc, zd⟩, x18, h⟩ := h; try dsimp only at h
 refine wl_cq Tryd.call80 rfl rfl rfl (q_pf (k_geom_rows x18) (fun _ _ => trivial)) rfl ?_
 refine wM 3 rfl (wl_alloc tt_ok rfl rfl (fun b9 => (wl_alloc tt_ok rfl rfl (fun b10 => (lSt (Upd.there Upd.here) ?_)))))
 refine lSt Upd.here ?_
 refine wNT (wSR (wM 1 rfl (wLd (v := .agg #[.int .i64 za.from_, .int .i64 za.to_]) rfl (mTT (mT mH)) rfl rfl (wLd (v := .agg #[.int .i64 zc.from_, .int .i64 zc.to_]) rfl (mT mH) rfl rfl ?_))))
 obtain ⟨v24, x24, h⟩ := bsome h
 refine wl_cq Tryd.call62 rfl rfl rfl (q_pf (k_geom_row_over x24) (fun _ _ => trivial)) rfl ?_
 refine wM 1 rfl ?_
 obtain ⟨v30, h, hg30⟩ := bsome h
 refine wls 25 h rfl ?_ ?_ <;> clear h <;> intro h
 ·refine wM 1 rfl (wl_run rfl (wLd (v := .agg #[.int .i64 zb.from_, .int .i64 zb.to_]) rfl (mTT mH) rfl rfl (wl_run rfl (wLd (v := .agg #[.int .i64 zd.from_, .int .i64 zd.to_]) rfl mH rfl rfl ?_))))
  obtain ⟨v29, x29, h⟩ := bsome h
  refine wl_run rfl (wl_cq Tryd.call62 rfl rfl rfl (q_pf (k_geom_row_over x29) (fun _ _ => trivial)) rfl ?_)
  obtain rfl := sI h
  have h := hg30; clear hg30
  refine wM 2 rfl (wNT (wc_ret ?_))
  obtain rfl := sI h
  exact pE Tryd.results61 rfl
 refine wM 4 rfl ?_
 obtain rfl := sI h
 have h := hg30; clear hg30
 refine wM 2 rfl (wNT (wc_ret ?_))
 obtain rfl := sI h
 exact pE Tryd.results61 rfl

theorem k_geom_Over {p0 : T_api_Box} {p1 : T_api_Box} {r0 : Bool} (h : m_geom_Over F p0 p1 = some r0) :
    Pf Tryd.prog 37 [.agg #[.int .i32 p0.X, .int .i32 p0.Y, .int .i32 p0.W, .int .i32 p0.H], .agg #[.int .i32 p1.X, .int .i32 p1.Y, .int .i32 p1.W, .int .i32 p1.H]] (fun w => True) (.bool r0) := by
 unfold m_geom_Over at h
 refine pf_of_wc Tryd.func37 rfl Tryd.ntmps37 rfl rfl (fun w0 hR => ?_)
 refine wSR (wl_box rfl rfl rfl (fun b2 => (wl_box rfl rfl rfl (fun b3 => (wM 1 rfl (wNT (wSR (wLd (v := .agg #[.int .i32 p0.X, .int .i32 p0.Y, .int .i32 p0.W, .int .i32 p0.H]) rfl (mT mH) rfl rfl (wLd (v := .agg #[.int .i32 p1.X, .int .i32 p1.Y, .int .i32 p1.W, .int .i32 p1.H]) rfl mH rfl rfl ?_)))))))))
 obtain ⟨v7, x7, h⟩ := bsome h
 refine wl_cq Tryd.call61 rfl rfl rfl (q_pf (k_geom_both_f2_geom_row_over x7) (fun _ _ => trivial)) rfl ?_
 refine wM 1 rfl (wNT (wc_ret ?_))
 obtain rfl := sI h
 exact pE Tryd.results37 rfl

theorem k_step_stopped {p0 : T_api_Player} {r0 : T_api_Player} (h : m_step_stopped F p0 = some r0) :
    Pf Tryd.prog 39 [agP p0] (fun w => True) (agP r0) := by
 unfold m_step_stopped at h
 refine pf_of_wc Tryd.func39 rfl Tryd.ntmps39 rfl rfl (fun w0 hR => ?_)
 refine wSR (wl_box rfl rfl rfl (fun b1 => (wl_alloc tt_ok rfl rfl (fun b2 => (wNT (wSR (wM 1 rfl (lSt (Upd.there Upd.here) ?_))))))))
 refine wM 1 rfl (lSt (Upd.there Upd.here) ?_)
 refine wNT (wSR (wLd (v := .agg #[.int .i32 p0.X, .int .i32 p0.Y, .int .i32 0, .int .i32 0, .int .u8 p0.Health, .int .u8 p0.Cool, .int .u8 p0.Face]) rfl (mT mH) rfl rfl (lSt Upd.here ?_)))
 refine wNT (wc_ret ?_)
 obtain rfl := sI h
 exact wx_pf tt_ok (.inl rfl) Tryd.results39 (Res.cell rfl mH rfl Res.nil) rfl

theorem k_geom_row_inside {p0 : T_geom_row} {p1 : T_geom_row} {r0 : Bool} (h : m_geom_row_inside F p0 p1 = some r0) :
    Pf Tryd.prog 81 [.agg #[.int .i64 p0.from_, .int .i64 p0.to_], .agg #[.int .i64 p1.from_, .int .i64 p1.to_]] (fun w => True) (.bool r0) := by
 unfold m_geom_row_inside at h
 refine pf_of_wc Tryd.func81 rfl Tryd.ntmps81 rfl rfl (fun w0 hR => ?_)
 refine wSR (wl_box rfl rfl rfl (fun b2 => (wl_box rfl rfl rfl (fun b3 => (wM 1 rfl (wNT (wSR (wM 1 rfl (wLd rfl (mT mH) rfl rfl (wM 1 rfl (wLd rfl (mT mH) rfl rfl (wM 2 rfl ?_))))))))))))
 obtain ⟨v16, h, hg16⟩ := bsome h
 refine wls 10 h rfl ?_ ?_ <;> clear h <;> intro h
 ·refine wM 1 rfl (wl_run rfl (wLd rfl (mT mH) rfl rfl (wM 1 rfl (wl_run rfl (wLd rfl mH rfl rfl (wM 1 rfl ?_))))))
  obtain rfl := sI h
  have h := hg16; clear hg16
  refine wM 2 rfl ?_
  obtain ⟨v23, h, hg23⟩ := bsome h
  refine wls 17 h rfl ?_ ?_ <;> clear h <;> intro h
  ·refine wM 1 rfl (wl_run rfl (wLd rfl (mT mH) rfl rfl (wM 1 rfl (wl_run rfl (wLd rfl mH rfl rfl (wM 1 rfl ?_))))))
   obtain rfl := sI h
   have h := hg23; clear hg23
   refine wM 2 rfl (wNT (wc_ret ?_))
   obtain rfl := sI h
   exact pE Tryd.results81 rfl
  refine wM 5 rfl ?_
  obtain rfl := sI h
  have h := hg23; clear hg23
  refine wM 2 rfl (wNT (wc_ret ?_))
  obtain rfl := sI h
  exact pE Tryd.results81 rfl
 refine wM 5 rfl ?_
 obtain rfl := sI h
 have h := hg16; clear hg16
 refine wM 2 rfl ?_
 obtain ⟨v23, h, hg23⟩ := bsome h
 replace h := cf rfl h
 refine wM 5 rfl ?_
 obtain rfl := sI h
 have h := hg23; clear hg23
 refine wM 2 rfl (wNT (wc_ret ?_))
 obtain rfl := sI h
 exact pE Tryd.results81 rfl

theorem k_geom_both_f2_geom_row_inside {p0 : T_api_Box} {p1 : T_api_Box} {r0 : Bool} (h : m_geom_both_f2_geom_row_inside F p0 p1 = some r0) :
    Pf Tryd.prog 61 [.agg #[.int .i32 p0.X, .int .i32 p0.Y, .int .i32 p0.W, .int .i32 p0.H], .agg #[.int .i32 p1.X, .int .i32 p1.Y, .int .i32 p1.W, .int .i32 p1.H], .func (.func 81) #[] #[]] (fun w => True) (.bool r0) := by
 unfold m_geom_both_f2_geom_row_inside at h
 refine pf_of_wc Tryd.func61 rfl Tryd.ntmps61 rfl rfl (fun w0 hR => ?_)
 refine wSR (wl_box rfl rfl rfl (fun b3 => (wl_box rfl rfl rfl (fun b4 => (wM 1 rfl (wNT (wSR (wLd (v := .agg #[.int .i32 p0.X, .int .i32 p0.Y, .int .i32 p0.W, .int .i32 p0.H]) rfl (mT mH) rfl rfl ?_))))))))
 replace h := bsome h; obtain ⟨⟨za, zb⟩, x13, h⟩ := h; try dsimp only at h
 refine wl_cq Tryd.call80 rfl rfl rfl (q_pf (k_geom_rows x13) (fun _ _ => trivial)) rfl ?_
 refine wM 3 rfl (wl_alloc tt_ok rfl rfl (fun b7 => (wl_alloc tt_ok rfl rfl (fun b8 => (lSt (Upd.there Upd.here) ?_)))))
 refine lSt Upd.here ?_
 refine wNT (wSR (wLd (v := .agg #[.int .i32 p1.X, .int .i32 p1.Y, .int .i32 p1.W, .int .i32 p1.H]) rfl (mTT mH) rfl rfl ?_))
 replace h := bsome h; obtain ⟨⟨zc, zd⟩, x18, h⟩ := h; try dsimp only at h
 refine wl_cq Tryd.call80 rfl rfl rfl (q_pf (k_geom_rows x18) (fun _ _ => trivial)) rfl ?_
 refine wM 3 rfl (wl_alloc tt_ok rfl rfl (fun b9 => (wl_alloc tt_ok rfl rfl (fun b10 => (lSt (Upd.there Upd.here) ?_)))))
 refine lSt Upd.here ?_
 refine wNT (wSR (wM 1 rfl (wLd (v := .agg #[.int .i64 za.from_, .int .i64 za.to_]) rfl (mTT (mT mH)) rfl rfl (wLd (v := .agg #[.int .i64 zc.from_, .int .i64 zc.to_]) rfl (mT mH) rfl rfl ?_))))
 obtain ⟨v24, x24, h⟩ := bsome h
 refine wl_cq Tryd.call81 rfl rfl rfl (q_pf (k_geom_row_inside x24) (fun _ _ => trivial)) rfl ?_
 refine wM 1 rfl ?_
 obtain ⟨v30, h, hg30⟩ := bsome h
 refine wls 25 h rfl ?_ ?_ <;> clear h <;> intro h
 ·refine wM 1 rfl (wl_run rfl (wLd (v := .agg #[.int .i64 zb.from_, .int .i64 zb.to_]) rfl (mTT mH) rfl rfl (wl_run rfl (wLd (v := .agg #[.int .i64 zd.from_, .int .i64 zd.to_]) rfl mH rfl rfl ?_))))
  obtain ⟨v29, x29, h⟩ := bsome h
  refine wl_run rfl (wl_cq Tryd.call81 rfl rfl rfl (q_pf (k_geom_row_inside x29) (fun _ _ => trivial)) rfl ?_)
  obtain rfl := sI h
  have h := hg30; clear hg30
  refine wM 2 rfl (wNT (wc_ret ?_))
  obtain rfl := sI h
  exact pE Tryd.results61 rfl
 refine wM 4 rfl ?_
 obtain rfl := sI h
 have h := hg30; clear hg30
 refine wM 2 rfl (wNT (wc_ret ?_))
 obtain rfl := sI h
 exact pE Tryd.results61 rfl

theorem k_geom_Inside {p0 : T_api_Box} {p1 : T_api_Box} {r0 : Bool} (h : m_geom_Inside F p0 p1 = some r0) :
    Pf Tryd.prog 63 [.agg #[.int .i32 p0.X, .int .i32 p0.Y, .int .i32 p0.W, .int .i32 p0.H], .agg #[.int .i32 p1.X, .int .i32 p1.Y, .int .i32 p1.W, .int .i32 p1.H]] (fun w => True) (.bool r0) := by
 unfold m_geom_Inside at h
 refine pf_of_wc Tryd.func63 rfl Tryd.ntmps63 rfl rfl (fun w0 hR => ?_)
 refine wSR (wl_box rfl rfl rfl (fun b2 => (wl_box rfl rfl rfl (fun b3 => (wM 1 rfl (wNT (wSR (wLd (v := .agg #[.int .i32 p0.X, .int .i32 p0.Y, .int .i32 p0.W, .int .i32 p0.H]) rfl (mT mH) rfl rfl (wLd (v := .agg #[.int .i32 p1.X, .int .i32 p1.Y, .int .i32 p1.W, .int .i32 p1.H]) rfl mH rfl rfl ?_)))))))))
 obtain ⟨v7, x7, h⟩ := bsome h
 refine wl_cq Tryd.call61 rfl rfl rfl (q_pf (k_geom_both_f2_geom_row_inside x7) (fun _ _ => trivial)) rfl ?_
 refine wM 1 rfl (wNT (wc_ret ?_))
 obtain rfl := sI h
 exact pE Tryd.results63 rfl

theorem k_step_fly {p0 : T_api_State} {r0 : T_api_State} (p0N0 : p0n0 = p0.Shots.length) (p0V0 : Own 87 6 p0a0 p0n0 p0c0 (flat c_T_api_Shot p0.Shots) p0B0) (h : m_step_fly F p0 = some r0) :
    SpD Tryd.prog 40 [.pointer (some ⟨p0b, 0, none⟩)] (⟨p0b, (st19 p0 p0a0 p0n0 p0c0 []), p0t, (0, 0)⟩ :: (p0B0 ++ [])) (fun w => True) (fun v D => ∃ r0a0 r0n0 r0c0 r0B0, r0n0 = r0.Shots.length ∧ Own 87 6 r0a0 r0n0 r0c0 (flat c_T_api_Shot r0.Shots) r0B0 ∧ v = .tuple #[] ∧ D = fun F => (⟨p0b, (st19 r0 r0a0 r0n0 r0c0 []), p0t, (0, 0)⟩ :: (r0B0 ++ F))) := by
 unfold m_step_fly at h
 refine sp_of_wc Tryd.func40 rfl Tryd.ntmps40 rfl rfl (fun w0 hR => ?_)
 refine wSR (wM 1 rfl (wl_alloc tt_ok rfl rfl (fun b2 => (lSt Upd.here ?_))))
 refine wNT (wSR (wM 1 rfl (wNT (wc_seq (wSR (wM 3 rfl (wLd rfl (mT mH) rfl rfl (wl_val (v := .int .i64 (p0.Shots.length : Int)) (val_len tt_ok rfl rfl p0N0) rfl (wM 1 rfl (wNT (wc_block ?_)))))))))))
 replace h := bsome h; obtain ⟨⟨zm, zk, zl⟩, h, hl9⟩ := h; try dsimp only at hl9
 refine wc_loop (fun m E L => ∃ zb zh za zc zf ze zg zd, m_step_fly_L8 F p0 m zb zh za zc = some (zm, zk, zl) ∧ ze = zb.length ∧ Own 87 6 zf ze zg (flat c_T_api_Shot zb) zd ∧ E = [(0, .pointer (some ⟨p0b, 0, none⟩)), (2, .pointer (some ⟨b2, 0, none⟩)), (3, .slice zf ze zg), (12, .slice p0a0 p0n0 p0c0), (13, .int .i64 (p0.Shots.length : Int)), (14, .int .i64 zh)] ∧ L = (⟨p0b, (.int .u64 p0.Frame :: .int .u64 p0.Seed :: pl14 za [.slice p0a0 p0n0 p0c0, .int .u16 zc.1, .int .u16 zc.2]), p0t, (0, 0)⟩ :: (⟨b2, [.int .i32 0, .int .i32 0, .int .i32 65536, .int .i32 32768], 92, (0, 0)⟩ :: (p0B0 ++ (zd ++ []))))) F ⟨([] : List T_api_Shot), (0 : Int), p0.Players, p0.Score, none, 0, 0, [], h, rfl, Own.zero, rfl, rfl⟩ (ag6 rfl rfl rfl rfl rfl rfl) pI ?_
 clear h
 rintro m9 _ _ ⟨zb, zh, za, zc, zf, ze, zg, zd, h, zi, zj, rfl, rfl⟩
 rcases m9 with _ | m9
 ·rw [m_step_fly_L8.eq_1] at h; cases h
 rw [m_step_fly_L8.eq_2] at h
 refine wSR (wM 1 rfl (wNT (wc_seq (wcc h rfl ?_ ?_)))) <;> clear h <;> intro h
 ·refine wc_skip (wx_then (wc_seq (wc_block (wSR ?_))))
  obtain ⟨v16, x16, h⟩ := bsome h
  refine wl_val (v := .pointer (some ((adOf p0a0).add (zh.toNat * 6 + 0)))) (val_ix (enc := c_T_api_Shot) tt_ok rfl rfl rfl rfl p0N0 (Rds.of_vec p0V0) c_T_api_Shot_len rfl x16) rfl ?_
  refine wl_val (v := .agg #[.int .i32 v16.X, .int .i32 v16.Y, .int .i32 v16.VX, .int .i32 v16.VY, .int .u8 v16.Owner, .int .u8 v16.Life]) (val_le (enc := c_T_api_Shot) (xs := p0.Shots) tt_ok rfl (Rds.of_vec p0V0) ⟨_, (sCC hA')⟩ c_T_api_Shot_len x16 rfl) rfl ?_
  refine wl_alloc tt_ok rfl rfl (fun b5 => ?_)
  refine lSt Upd.here ?_
  refine wNT (wSR (wM 1 rfl (wLd rfl mH rfl rfl (wM 1 rfl (wLd rfl mH rfl rfl (wM 2 rfl (wLd rfl mH rfl rfl (wM 1 rfl (wLd rfl mH rfl rfl (wM 2 rfl (lSt Upd.here ?_)))))))))))
  refine wM 1 rfl (lSt Upd.here ?_)
  refine wNT (wSR (wM 1 rfl (wLd rfl mH rfl rfl (wM 2 rfl (lSt Upd.here ?_)))))
  refine wNT (wSR (wM 1 rfl (wLd rfl mH rfl rfl (wM 1 rfl (wLd rfl mH rfl rfl (wM 1 rfl (wl_alloc tt_ok rfl rfl (fun b6 => (lSt Upd.here ?_)))))))))
  refine wNT (wc_seq (wc_quiet (by kernel_rfl) (by kernel_rfl) (qM 2 rfl (qLd rfl (mT mH) rfl rfl (qM 3 rfl ?_)))))
  rcases Bool.eq_false_or_eq_true ((IntKind.wrap .u8 ((1 : Int) - v16.Owner)) == (0 : Int)) with hx450 | hx450
  ·replace h := ct hx450 h
   refine wq_val (v := .pointer (some ⟨p0b, 2, none⟩)) (val_ia (j := 0) tt_ok rfl rfl rfl rfl (by simpa using hx450) rfl rfl) rfl ?_
   refine qM 1 rfl (wq_nil (wx_then (wc_block (wSR (wLd (v := .agg #[.int .i32 (IntKind.wrap .i32 (v16.X + v16.VX)), .int .i32 (IntKind.wrap .i32 (v16.Y + v16.VY)), .int .i32 512, .int .i32 512]) rfl mH rfl rfl (wLd (v := .agg #[.int .i32 0, .int .i32 0, .int .i32 65536, .int .i32 32768]) rfl (mTT (mT mH)) rfl rfl ?_))))))
   obtain ⟨v49, x49, h⟩ := bsome h
   refine wl_cq Tryd.call63 rfl rfl rfl (q_pf (k_geom_Inside x49) (fun _ _ => trivial)) rfl ?_
   refine wM 2 rfl (wNT (wcc h rfl ?_ ?_)) <;> clear h <;> intro h
   ·refine wc_skip (wx_block (wx_block (wx_then (wc_region (wM 2 rfl (wl_nil ?_))))))
    exact wx_round m9 (Nat.lt_succ_self m9) ⟨zb, (IntKind.wrap .i64 (zh + (1 : Int))), za, zc, zf, ze, zg, zd, h, zi, zj, rfl, rfl⟩ (ag6 rfl rfl rfl rfl rfl rfl) pI
   refine wc_seq (wc_quiet (by kernel_rfl) (by kernel_rfl) (qLd (v := .agg #[.int .i32 (IntKind.wrap .i32 (v16.X + v16.VX)), .int .i32 (IntKind.wrap .i32 (v16.Y + v16.VY)), .int .i32 512, .int .i32 512]) rfl mH rfl rfl (qM 2 rfl (qLd (v := agP za.1) rfl (mTT mH) rfl rfl ?_))))
   obtain ⟨v56, x56, h⟩ := bsome h
   refine wq_cq Tryd.call38 rfl rfl rfl (q_pf (k_step_box x56) (fun _ _ => trivial)) rfl ?_
   obtain ⟨v57, x57, h⟩ := bsome h
   refine wq_cq Tryd.call37 rfl rfl rfl (q_pf (k_geom_Over x57) (fun _ _ => trivial)) rfl ?_
   refine qM 1 rfl (wq_nil (wx_then (wcc h rfl ?_ ?_))) <;> clear h <;> intro h
   ·refine wc_seq (wc_k2 (Ls := (⟨b6, [.int .i32 (IntKind.wrap .i32 (v16.X + v16.VX)), .int .i32 (IntKind.wrap .i32 (v16.Y + v16.VY)), .int .i32 512, .int .i32 512], 92, (0, 0)⟩ :: (⟨b5, [.int .i32 (IntKind.wrap .i32 (v16.X + v16.VX)), .int .i32 (IntKind.wrap .i32 (v16.Y + v16.VY)), .int .i32 v16.VX, .int .i32 v16.VY, .int .u8 v16.Owner, .int .u8 (IntKind.wrap .u8 (v16.Life - (1 : Int)))], 87, (0, 0)⟩ :: (⟨p0b, (.int .u64 p0.Frame :: .int .u64 p0.Seed :: pl14 za [.slice p0a0 p0n0 p0c0, .int .u16 zc.1, .int .u16 zc.2]), p0t, (0, 0)⟩ :: (⟨b2, [.int .i32 0, .int .i32 0, .int .i32 65536, .int .i32 32768], 92, (0, 0)⟩ :: (p0B0 ++ (zd ++ []))))))) [12] [12] [0, 1, 3, 7, 0, 16, 48, 112, 240, 511, 1023, 2047, 4095] [0, 1, 2, 3, 4, 5, 6, 7, 8, 9, 10, 11, 12] (by kernel_rfl) (by kernel_rfl) (by kernel_rfl) ?_)
    refine kM pI 3 rfl (k_val (v := .int .u8 za.1.Health) rfl rfl rfl pI (val_load tt_ok rfl (mTT mH) rfl) rfl (kM pI 3 rfl (k_val (v := .int .u8 za.1.Health) rfl rfl rfl pI (val_load tt_ok rfl (mTT mH) rfl) rfl ?_)))
    refine kM pI 4 rfl (k_chg0 rfl rfl rfl (chg_store tt_ok rfl (Upd.there (Upd.there Upd.here)) rfl rfl rfl rfl rfl rfl) (.inl rfl) ?_)
    rintro _ _ rfl
    refine k_end (by kernel_rfl) ?_
    refine wx_then (wc_k2 (Ls := (⟨b6, [.int .i32 (IntKind.wrap .i32 (v16.X + v16.VX)), .int .i32 (IntKind.wrap .i32 (v16.Y + v16.VY)), .int .i32 512, .int .i32 512], 92, (0, 0)⟩ :: (⟨b5, [.int .i32 (IntKind.wrap .i32 (v16.X + v16.VX)), .int .i32 (IntKind.wrap .i32 (v16.Y + v16.VY)), .int .i32 v16.VX, .int .i32 v16.VY, .int .u8 v16.Owner, .int .u8 (IntKind.wrap .u8 (v16.Life - (1 : Int)))], 87, (0, 0)⟩ :: (⟨p0b, (.int .u64 p0.Frame :: .int .u64 p0.Seed :: .int .i32 za.1.X :: .int .i32 za.1.Y :: .int .i32 za.1.VX :: .int .i32 za.1.VY :: .int .u8 (IntKind.wrap .u8 (za.1.Health - (min za.1.Health (10 : Int)))) :: .int .u8 za.1.Cool :: .int .u8 za.1.Face :: pl7 za.2 [.slice p0a0 p0n0 p0c0, .int .u16 zc.1, .int .u16 zc.2]), p0t, (0, 0)⟩ :: (⟨b2, [.int .i32 0, .int .i32 0, .int .i32 65536, .int .i32 32768], 92, (0, 0)⟩ :: (p0B0 ++ (zd ++ []))))))) [15] [15] [0, 0, 2, 0, 0, 16, 8, 72, 248, 504, 1016, 2040, 1, 4097, 16383, 32767] [0, 1, 2, 3, 4, 5, 6, 7, 8, 9, 10, 11, 12, 13, 14, 15] (by kernel_rfl) (by kernel_rfl) (by kernel_rfl) ?_)
    refine kM pI 2 rfl (k_val (v := .int .u8 v16.Owner) rfl rfl rfl pI (val_load tt_ok rfl (mT mH) rfl) rfl (kM pI 2 rfl (k_val (v := .int .u8 v16.Owner) rfl rfl rfl pI (val_load tt_ok rfl (mT mH) rfl) rfl (kM pI 2 rfl ?_))))
    rcases Bool.eq_false_or_eq_true (v16.Owner == (0 : Int)) with hx780 | hx780
    ·replace h := ct hx780 h
     refine k_val (v := .pointer (some ⟨p0b, 17, none⟩)) rfl rfl rfl pI (val_ia (j := 0) tt_ok rfl rfl rfl rfl (by simpa using hx780) rfl rfl) rfl (k_val (v := .int .u16 zc.1) rfl rfl rfl pI (val_load tt_ok rfl (mTT mH) rfl) rfl (kM pI 4 rfl (k_val (v := .pointer (some ⟨p0b, 17, none⟩)) rfl rfl rfl pI (val_ia (j := 0) tt_ok rfl rfl rfl rfl (by simpa using hx780) rfl rfl) rfl ?_)))
     refine k_chg0 rfl rfl rfl (chg_store tt_ok rfl (Upd.there (Upd.there Upd.here)) rfl rfl rfl rfl rfl rfl) (.inl rfl) ?_
     rintro _ _ rfl
     refine k_end (by kernel_rfl) ?_
     refine wx_block (wx_block (wx_then (wc_region (wM 2 rfl (wl_nil ?_)))))
     exact wx_round m9 (Nat.lt_succ_self m9) ⟨zb, (IntKind.wrap .i64 (zh + (1 : Int))), ((T_api_Player.mk za.1.X za.1.Y za.1.VX za.1.VY (IntKind.wrap .u8 (za.1.Health - (min za.1.Health (10 : Int)))) za.1.Cool za.1.Face), za.2), ((IntKind.wrap .u16 ((min zc.1 (65534 : Int)) + (1 : Int))), zc.2), zf, ze, zg, zd, h, zi, zj, rfl, rfl⟩ (ag6 rfl rfl rfl rfl rfl rfl) pI
    replace h := cf hx780 h
    rcases Bool.eq_false_or_eq_true (v16.Owner == (1 : Int)) with hx781 | hx781
    ·replace h := ct hx781 h
     refine k_val (v := .pointer (some ⟨p0b, 18, none⟩)) rfl rfl rfl pI (val_ia (j := 1) tt_ok rfl rfl rfl rfl (by simpa using hx781) rfl rfl) rfl (k_val (v := .int .u16 zc.2) rfl rfl rfl pI (val_load tt_ok rfl (mTT mH) rfl) rfl (kM pI 4 rfl (k_val (v := .pointer (some ⟨p0b, 18, none⟩)) rfl rfl rfl pI (val_ia (j := 1) tt_ok rfl rfl rfl rfl (by simpa using hx781) rfl rfl) rfl ?_)))
     refine k_chg0 rfl rfl rfl (chg_store tt_ok rfl (Upd.there (Upd.there Upd.here)) rfl rfl rfl rfl rfl rfl) (.inl rfl) ?_
     rintro _ _ rfl
     refine k_end (by kernel_rfl) ?_
     refine wx_block (wx_block (wx_then (wc_region (wM 2 rfl (wl_nil ?_)))))
     exact wx_round m9 (Nat.lt_succ_self m9) ⟨zb, (IntKind.wrap .i64 (zh + (1 : Int))), ((T_api_Player.mk za.1.X za.1.Y za.1.VX za.1.VY (IntKind.wrap .u8 (za.1.Health - (min za.1.Health (10 : Int)))) za.1.Cool za.1.Face), za.2), (zc.1, (IntKind.wrap .u16 ((min zc.2 (65534 : Int)) + (1 : Int)))), zf, ze, zg, zd, h, zi, zj, rfl, rfl⟩ (ag6 rfl rfl rfl rfl rfl rfl) pI
    replace h := cf hx781 h
    cases h
   refine wSR (wM 1 rfl (wLd rfl (mT mH) rfl rfl (wM 2 rfl (wNT (wcc h rfl ?_ ?_))))) <;> clear h <;> intro h
   ·refine wc_region (wM 1 rfl (wLd (v := .agg #[.int .i32 (IntKind.wrap .i32 (v16.X + v16.VX)), .int .i32 (IntKind.wrap .i32 (v16.Y + v16.VY)), .int .i32 v16.VX, .int .i32 v16.VY, .int .u8 v16.Owner, .int .u8 (IntKind.wrap .u8 (v16.Life - (1 : Int)))]) rfl (mT mH) rfl rfl (wl_chg (chg_bsv (enc := c_T_api_Shot) (xs := ([(T_api_Shot.mk (IntKind.wrap .i32 (v16.X + v16.VX)) (IntKind.wrap .i32 (v16.Y + v16.VY)) v16.VX v16.VY v16.Owner (IntKind.wrap .u8 (v16.Life - (1 : Int))))] : List T_api_Shot)) tt_ok rfl rfl rfl rfl rfl rfl rfl rfl c_T_api_Shot_len) rfl ?_)))
    rintro _ _ ⟨a91, n91_, c91, B91, rfl, N91, V91, rfl⟩
    obtain ⟨v92, x92, h⟩ := bsome h
    refine wl_chg (chg_app (enc := c_T_api_Shot) (ys := ([(T_api_Shot.mk (IntKind.wrap .i32 (v16.X + v16.VX)) (IntKind.wrap .i32 (v16.Y + v16.VY)) v16.VX v16.VY v16.Owner (IntKind.wrap .u8 (v16.Life - (1 : Int))))] : List T_api_Shot)) tt_ok rfl rfl rfl rfl rfl rfl zi N91 zj (sA (sCC (sCC (sA hA')))) (Rds.of_vec V91) ⟨_, hA'⟩ c_T_api_Shot_len (fun _ => rfl) rfl x92) rfl ?_
    rintro _ _ ⟨a92, n92_, c92, B92, rfl, N92, V92, rfl⟩
    refine wM 1 rfl (wl_nil (wx_block (wx_block (wx_then (wc_region (wM 2 rfl (wl_nil ?_)))))))
    exact wx_round m9 (Nat.lt_succ_self m9) ⟨v92, (IntKind.wrap .i64 (zh + (1 : Int))), za, zc, a92, n92_, c92, B92, h, N92, V92, rfl, rfl⟩ (ag6 rfl rfl rfl rfl rfl rfl) pI
   refine wc_skip (wx_block (wx_block (wx_then (wc_region (wM 2 rfl (wl_nil ?_))))))
   exact wx_round m9 (Nat.lt_succ_self m9) ⟨zb, (IntKind.wrap .i64 (zh + (1 : Int))), za, zc, zf, ze, zg, zd, h, zi, zj, rfl, rfl⟩ (ag6 rfl rfl rfl rfl rfl rfl) pI
  replace h := cf hx450 h
  rcases Bool.eq_false_or_eq_true ((IntKind.wrap .u8 ((1 : Int) - v16.Owner)) == (1 : Int)) with hx451 | hx451
  ·replace h := ct hx451 h
   refine wq_val (v := .pointer (some ⟨p0b, 9, none⟩)) (val_ia (j := 1) tt_ok rfl rfl rfl rfl (by simpa using hx451) rfl rfl) rfl ?_
   refine qM 1 rfl (wq_nil (wx_then (wc_block (wSR (wLd (v := .agg #[.int .i32 (IntKind.wrap .i32 (v16.X + v16.VX)), .int .i32 (IntKind.wrap .i32 (v16.Y + v16.VY)), .int .i32 512, .int .i32 512]) rfl mH rfl rfl (wLd (v := .agg #[.int .i32 0, .int .i32 0, .int .i32 65536, .int .i32 32768]) rfl (mTT (mT mH)) rfl rfl ?_))))))
   obtain ⟨v49, x49, h⟩ := bsome h
   refine wl_cq Tryd.call63 rfl rfl rfl (q_pf (k_geom_Inside x49) (fun _ _ => trivial)) rfl ?_
   refine wM 2 rfl (wNT (wcc h rfl ?_ ?_)) <;> clear h <;> intro h
   ·refine wc_skip (wx_block (wx_block (wx_then (wc_region (wM 2 rfl (wl_nil ?_))))))
    exact wx_round m9 (Nat.lt_succ_self m9) ⟨zb, (IntKind.wrap .i64 (zh + (1 : Int))), za, zc, zf, ze, zg, zd, h, zi, zj, rfl, rfl⟩ (ag6 rfl rfl rfl rfl rfl rfl) pI
   refine wc_seq (wc_quiet (by kernel_rfl) (by kernel_rfl) (qLd (v := .agg #[.int .i32 (IntKind.wrap .i32 (v16.X + v16.VX)), .int .i32 (IntKind.wrap .i32 (v16.Y + v16.VY)), .int .i32 512, .int .i32 512]) rfl mH rfl rfl (qM 2 rfl (qLd (v := agP za.2) rfl (mTT mH) rfl rfl ?_))))
   obtain ⟨v56, x56, h⟩ := bsome h
   refine wq_cq Tryd.call38 rfl rfl rfl (q_pf (k_step_box x56) (fun _ _ => trivial)) rfl ?_
   obtain ⟨v57, x57, h⟩ := bsome h
   refine wq_cq Tryd.call37 rfl rfl rfl (q_pf (k_geom_Over x57) (fun _ _ => trivial)) rfl ?_
   refine qM 1 rfl (wq_nil (wx_then (wcc h rfl ?_ ?_))) <;> clear h <;> intro h
   ·refine wc_seq (wc_k2 (Ls := (⟨b6, [.int .i32 (IntKind.wrap .i32 (v16.X + v16.VX)), .int .i32 (IntKind.wrap .i32 (v16.Y + v16.VY)), .int .i32 512, .int .i32 512], 92, (0, 0)⟩ :: (⟨b5, [.int .i32 (IntKind.wrap .i32 (v16.X + v16.VX)), .int .i32 (IntKind.wrap .i32 (v16.Y + v16.VY)), .int .i32 v16.VX, .int .i32 v16.VY, .int .u8 v16.Owner, .int .u8 (IntKind.wrap .u8 (v16.Life - (1 : Int)))], 87, (0, 0)⟩ :: (⟨p0b, (.int .u64 p0.Frame :: .int .u64 p0.Seed :: pl14 za [.slice p0a0 p0n0 p0c0, .int .u16 zc.1, .int .u16 zc.2]), p0t, (0, 0)⟩ :: (⟨b2, [.int .i32 0, .int .i32 0, .int .i32 65536, .int .i32 32768], 92, (0, 0)⟩ :: (p0B0 ++ (zd ++ []))))))) [12] [12] [0, 1, 3, 7, 0, 16, 48, 112, 240, 511, 1023, 2047, 4095] [0, 1, 2, 3, 4, 5, 6, 7, 8, 9, 10, 11, 12] (by kernel_rfl) (by kernel_rfl) (by kernel_rfl) ?_)
    refine kM pI 3 rfl (k_val (v := .int .u8 za.2.Health) rfl rfl rfl pI (val_load tt_ok rfl (mTT mH) rfl) rfl (kM pI 3 rfl (k_val (v := .int .u8 za.2.Health) rfl rfl rfl pI (val_load tt_ok rfl (mTT mH) rfl) rfl ?_)))
    refine kM pI 4 rfl (k_chg0 rfl rfl rfl (chg_store tt_ok rfl (Upd.there (Upd.there Upd.here)) rfl rfl rfl rfl rfl rfl) (.inl rfl) ?_)
    rintro _ _ rfl
    refine k_end (by kernel_rfl) ?_
    refine wx_then (wc_k2 (Ls := (⟨b6, [.int .i32 (IntKind.wrap .i32 (v16.X + v16.VX)), .int .i32 (IntKind.wrap .i32 (v16.Y + v16.VY)), .int .i32 512, .int .i32 512], 92, (0, 0)⟩ :: (⟨b5, [.int .i32 (IntKind.wrap .i32 (v16.X + v16.VX)), .int .i32 (IntKind.wrap .i32 (v16.Y + v16.VY)), .int .i32 v16.VX, .int .i32 v16.VY, .int .u8 v16.Owner, .int .u8 (IntKind.wrap .u8 (v16.Life - (1 : Int)))], 87, (0, 0)⟩ :: (⟨p0b, (.int .u64 p0.Frame :: .int .u64 p0.Seed :: pl7 za.1 [.int .i32 za.2.X, .int .i32 za.2.Y, .int .i32 za.2.VX, .int .i32 za.2.VY, .int .u8 (IntKind.wrap .u8 (za.2.Health - (min za.2.Health (10 : Int)))), .int .u8 za.2.Cool, .int .u8 za.2.Face, .slice p0a0 p0n0 p0c0, .int .u16 zc.1, .int .u16 zc.2]), p0t, (0, 0)⟩ :: (⟨b2, [.int .i32 0, .int .i32 0, .int .i32 65536, .int .i32 32768], 92, (0, 0)⟩ :: (p0B0 ++ (zd ++ []))))))) [15] [15] [0, 0, 2, 0, 0, 16, 8, 72, 248, 504, 1016, 2040, 1, 4097, 16383, 32767] [0, 1, 2, 3, 4, 5, 6, 7, 8, 9, 10, 11, 12, 13, 14, 15] (by kernel_rfl) (by kernel_rfl) (by kernel_rfl) ?_)
    refine kM pI 2 rfl (k_val (v := .int .u8 v16.Owner) rfl rfl rfl pI (val_load tt_ok rfl (mT mH) rfl) rfl (kM pI 2 rfl (k_val (v := .int .u8 v16.Owner) rfl rfl rfl pI (val_load tt_ok rfl (mT mH) rfl) rfl (kM pI 2 rfl ?_))))
    rcases Bool.eq_false_or_eq_true (v16.Owner == (0 : Int)) with hx780 | hx780
    ·replace h := ct hx780 h
     refine k_val (v := .pointer (some ⟨p0b, 17, none⟩)) rfl rfl rfl pI (val_ia (j := 0) tt_ok rfl rfl rfl rfl (by simpa using hx780) rfl rfl) rfl (k_val (v := .int .u16 zc.1) rfl rfl rfl pI (val_load tt_ok rfl (mTT mH) rfl) rfl (kM pI 4 rfl (k_val (v := .pointer (some ⟨p0b, 17, none⟩)) rfl rfl rfl pI (val_ia (j := 0) tt_ok rfl rfl rfl rfl (by simpa using hx780) rfl rfl) rfl ?_)))
     refine k_chg0 rfl rfl rfl (chg_store tt_ok rfl (Upd.there (Upd.there Upd.here)) rfl rfl rfl rfl rfl rfl) (.inl rfl) ?_
     rintro _ _ rfl
     refine k_end (by kernel_rfl) ?_
     refine wx_block (wx_block (wx_then (wc_region (wM 2 rfl (wl_nil ?_)))))
     exact wx_round m9 (Nat.lt_succ_self m9) ⟨zb, (IntKind.wrap .i64 (zh + (1 : Int))), (za.1, (T_api_Player.mk za.2.X za.2.Y za.2.VX za.2.VY (IntKind.wrap .u8 (za.2.Health - (min za.2.Health (10 : Int)))) za.2.Cool za.2.Face)), ((IntKind.wrap .u16 ((min zc.1 (65534 : Int)) + (1 : Int))), zc.2), zf, ze, zg, zd, h, zi, zj, rfl, rfl⟩ (ag6 rfl rfl rfl rfl rfl rfl) pI
    replace h := cf hx780 h
    rcases Bool.eq_false_or_eq_true (v16.Owner == (1 : Int)) with hx781 | hx781
    ·replace h := ct hx781 h
     refine k_val (v := .pointer (some ⟨p0b, 18, none⟩)) rfl rfl rfl pI (val_ia (j := 1) tt_ok rfl rfl rfl rfl (by simpa using hx781) rfl rfl) rfl (k_val (v := .int .u16 zc.2) rfl rfl rfl pI (val_load tt_ok rfl (mTT mH) rfl) rfl (kM pI 4 rfl (k_val (v := .pointer (some ⟨p0b, 18, none⟩)) rfl rfl rfl pI (val_ia (j := 1) tt_ok rfl rfl rfl rfl (by simpa using hx781) rfl rfl) rfl ?_)))
     refine k_chg0 rfl rfl rfl (chg_store tt_ok rfl (Upd.there (Upd.there Upd.here)) rfl rfl rfl rfl rfl rfl) (.inl rfl) ?_
     rintro _ _ rfl
     refine k_end (by kernel_rfl) ?_
     refine wx_block (wx_block (wx_then (wc_region (wM 2 rfl (wl_nil ?_)))))
     exact wx_round m9 (Nat.lt_succ_self m9) ⟨zb, (IntKind.wrap .i64 (zh + (1 : Int))), (za.1, (T_api_Player.mk za.2.X za.2.Y za.2.VX za.2.VY (IntKind.wrap .u8 (za.2.Health - (min za.2.Health (10 : Int)))) za.2.Cool za.2.Face)), (zc.1, (IntKind.wrap .u16 ((min zc.2 (65534 : Int)) + (1 : Int)))), zf, ze, zg, zd, h, zi, zj, rfl, rfl⟩ (ag6 rfl rfl rfl rfl rfl rfl) pI
    replace h := cf hx781 h
    cases h
   refine wSR (wM 1 rfl (wLd rfl (mT mH) rfl rfl (wM 2 rfl (wNT (wcc h rfl ?_ ?_))))) <;> clear h <;> intro h
   ·refine wc_region (wM 1 rfl (wLd (v := .agg #[.int .i32 (IntKind.wrap .i32 (v16.X + v16.VX)), .int .i32 (IntKind.wrap .i32 (v16.Y + v16.VY)), .int .i32 v16.VX, .int .i32 v16.VY, .int .u8 v16.Owner, .int .u8 (IntKind.wrap .u8 (v16.Life - (1 : Int)))]) rfl (mT mH) rfl rfl (wl_chg (chg_bsv (enc := c_T_api_Shot) (xs := ([(T_api_Shot.mk (IntKind.wrap .i32 (v16.X + v16.VX)) (IntKind.wrap .i32 (v16.Y + v16.VY)) v16.VX v16.VY v16.Owner (IntKind.wrap .u8 (v16.Life - (1 : Int))))] : List T_api_Shot)) tt_ok rfl rfl rfl rfl rfl rfl rfl rfl c_T_api_Shot_len) rfl ?_)))
    rintro _ _ ⟨a91, n91_, c91, B91, rfl, N91, V91, rfl⟩
    obtain ⟨v92, x92, h⟩ := bsome h
    refine wl_chg (chg_app (enc := c_T_api_Shot) (ys := ([(T_api_Shot.mk (IntKind.wrap .i32 (v16.X + v16.VX)) (IntKind.wrap .i32 (v16.Y + v16.VY)) v16.VX v16.VY v16.Owner (IntKind.wrap .u8 (v16.Life - (1 : Int))))] : List T_api_Shot)) tt_ok rfl rfl rfl rfl rfl rfl zi N91 zj (sA (sCC (sCC (sA hA')))) (Rds.of_vec V91) ⟨_, hA'⟩ c_T_api_Shot_len (fun _ => rfl) rfl x92) rfl ?_
    rintro _ _ ⟨a92, n92_, c92, B92, rfl, N92, V92, rfl⟩
    refine wM 1 rfl (wl_nil (wx_block (wx_block (wx_then (wc_region (wM 2 rfl (wl_nil ?_)))))))
    exact wx_round m9 (Nat.lt_succ_self m9) ⟨v92, (IntKind.wrap .i64 (zh + (1 : Int))), za, zc, a92, n92_, c92, B92, h, N92, V92, rfl, rfl⟩ (ag6 rfl rfl rfl rfl rfl rfl) pI
   refine wc_skip (wx_block (wx_block (wx_then (wc_region (wM 2 rfl (wl_nil ?_))))))
   exact wx_round m9 (Nat.lt_succ_self m9) ⟨zb, (IntKind.wrap .i64 (zh + (1 : Int))), za, zc, zf, ze, zg, zd, h, zi, zj, rfl, rfl⟩ (ag6 rfl rfl rfl rfl rfl rfl) pI
  replace h := cf hx451 h
  cases h
 refine wc_exit (wx_then_exit ?_)
 obtain ⟨rfl, rfl, rfl⟩ := pJ3 h
 have h := hl9; clear hl9; try dsimp only [orE_l, orE_r] at h
 refine wx_then_exit (wx_block_exit (wx_then (wc_region ?_)))
 refine wM 4 rfl (lSt Upd.here ?_)
 refine wl_nil ?_
 obtain rfl := sI h
 exact wx_spD tt_ok (.inr rfl) Tryd.results40 Res.nil ⟨zf, ze, zg, zd, zi, zj, rfl, rfl⟩ (fun F => by simp) pI

theorem k_rng_Source_Skip {p0 : T_rng_Source} {p1 : Int} {r0 : T_rng_Source} (h : m_rng_Source_Skip F p0 p1 = some r0) :
    Pf Tryd.prog 94 [.agg #[.int .u64 p0.S], .int .u64 p1] (fun w => True) (.agg #[.int .u64 r0.S]) := by
 unfold m_rng_Source_Skip at h
 refine pf_of_wc Tryd.func94 rfl Tryd.ntmps94 rfl rfl (fun w0 hR => ?_)
 refine wSR (wl_box rfl rfl rfl (fun b2 => (wl_alloc tt_ok rfl rfl (fun b4 => (wNT (wSR (wM 1 rfl (wLd rfl (mT mH) rfl rfl (wM 4 rfl (lSt Upd.here ?_))))))))))
 refine wNT (wc_ret ?_)
 obtain rfl := sI h
 exact wx_pf tt_ok (.inl rfl) Tryd.results94 (Res.cell rfl mH rfl Res.nil) rfl

theorem k_rng_Mix {p0 : Int} {r0 : Int} (h : m_rng_Mix F p0 = some r0) :
    Pf Tryd.prog 95 [.int .u64 p0] (fun w => True) (.int .u64 r0) := by
 unfold m_rng_Mix at h
 refine pf_of_wc Tryd.func95 rfl Tryd.ntmps95 rfl rfl (fun w0 hR => ?_)
 refine wSR (wM 1 rfl (wNT (wSR (wM 6 rfl (wNT (wSR (wM 6 rfl (wNT (wSR (wM 5 rfl (wNT (wc_ret ?_))))))))))))
 obtain rfl := sI h
 exact pE Tryd.results95 rfl

theorem k_rng_Source_Next {p0 : T_rng_Source} {r0 : Int} {r1 : T_rng_Source} (h : m_rng_Source_Next F p0 = some (r0, r1)) :
    Pf Tryd.prog 82 [.agg #[.int .u64 p0.S]] (fun w => True) (.tuple #[.int .u64 r0, .agg #[.int .u64 r1.S]]) := by
 unfold m_rng_Source_Next at h
 refine pf_of_wc Tryd.func82 rfl Tryd.ntmps82 rfl rfl (fun w0 hR => ?_)
 refine wSR (wl_box rfl rfl rfl (fun b1 => (wM 1 rfl (wl_alloc tt_ok rfl rfl (fun b3 => (wNT (wSR (wLd (v := .agg #[.int .u64 p0.S]) rfl (mT mH) rfl rfl ?_))))))))
 obtain ⟨v5, x5, h⟩ := bsome h
 refine wl_cq Tryd.call94 rfl rfl rfl (q_pf (k_rng_Source_Skip x5) (fun _ _ => trivial)) rfl ?_
 refine lSt (Upd.there Upd.here) ?_
 refine wNT (wc_seq (wc_k2 (Ls := (⟨b3, [.int .u64 0], 131, (0, 0)⟩ :: (⟨b1, [.int .u64 v5.S], 131, (0, 0)⟩ :: []))) [2, 4, 5] [5] [0, 1, 3, 0, 7, 31] [0, 1, 3, 2, 4, 5] (by kernel_rfl) (by kernel_rfl) (by kernel_rfl) (kM pI 1 rfl (k_val (v := .int .u64 v5.S) rfl rfl rfl pI (val_load tt_ok rfl (mT mH) rfl) rfl (k_val (v := .agg #[.int .u64 v5.S]) rfl rfl rfl pI (val_load tt_ok rfl (mT mH) rfl) rfl ?_)))))
 obtain ⟨v8, x8, h⟩ := bsome h
 refine k_cq rfl rfl rfl Tryd.call95 rfl rfl rfl (q_pf (k_rng_Mix x8) (fun _ _ => trivial)) rfl pI ?_
 refine k_chg rfl rfl rfl (Chg.of_val (sV rfl)) rfl (.inr (by rintro _ _ ⟨rfl, rfl⟩; exact pI)) ?_
 rintro _ _ ⟨rfl, rfl⟩
 refine k_chg0 rfl rfl rfl (chg_store tt_ok rfl Upd.here rfl rfl rfl rfl rfl rfl) (.inl rfl) ?_
 rintro _ _ rfl
 refine k_end (by kernel_rfl) ?_
 refine wx_then (wc_ret ?_)
 obtain ⟨rfl, rfl⟩ := pJ2 h
 exact wx_pf tt_ok (.inl rfl) Tryd.results82 (Res.tmp rfl (Res.cell rfl mH rfl Res.nil)) rfl

theorem k_rng_Source_Below {p0 : T_rng_Source} {p1 : Int} {r0 : Int} {r1 : T_rng_Source} (h : m_rng_Source_Below F p0 p1 = some (r0, r1)) :
    Pf Tryd.prog 64 [.agg #[.int .u64 p0.S], .int .i64 p1] (fun w => True) (.tuple #[.int .i64 r0, .agg #[.int .u64 r1.S]]) := by
 unfold m_rng_Source_Below at h
 refine pf_of_wc Tryd.func64 rfl Tryd.ntmps64 rfl rfl (fun w0 hR => ?_)
 refine wSR (wl_box rfl rfl rfl (fun b2 => (wM 1 rfl (wl_alloc tt_ok rfl rfl (fun b5 => (wNT (wc_seq (wSR (wM 2 rfl (wNT (wcc h rfl ?_ ?_))))))))))) <;> clear h <;> intro h
 ·refine wc_seq (wc_k2 (Ls := (⟨b5, [.int .u64 0], 131, (0, 0)⟩ :: (⟨b2, [.int .u64 p0.S], 131, (0, 0)⟩ :: []))) [2] [2] [0, 0, 3] [0, 1, 2] (by kernel_rfl) (by kernel_rfl) (by kernel_rfl) (k_val (v := .agg #[.int .u64 p0.S]) rfl rfl rfl pI (val_load tt_ok rfl (mT mH) rfl) rfl (kM pI 1 rfl (k_chg0 rfl rfl rfl (chg_store tt_ok rfl Upd.here rfl rfl rfl rfl rfl rfl) (.inl rfl) ?_))))
  rintro _ _ rfl
  refine k_end (by kernel_rfl) ?_
  refine wx_then (wc_ret (wx_then_ret ?_))
  obtain ⟨rfl, rfl⟩ := pJ2 h
  exact wx_pf tt_ok (.inl rfl) Tryd.results64 (Res.tmp rfl (Res.cell rfl mH rfl Res.nil)) rfl
 refine wc_skip (wx_then (wSR (wLd (v := .agg #[.int .u64 p0.S]) rfl (mT mH) rfl rfl ?_)))
 replace h := bsome h; obtain ⟨⟨zb, za⟩, x13, h⟩ := h; try dsimp only at h
 refine wl_cq Tryd.call82 rfl rfl rfl (q_pf (k_rng_Source_Next x13) (fun _ _ => trivial)) rfl ?_
 refine wM 3 rfl (wl_alloc tt_ok rfl rfl (fun b7 => (wM 1 rfl (lSt Upd.here ?_))))
 refine wNT (wc_seq (wc_k2 (Ls := (⟨b7, [.int .u64 za.S], 131, (0, 0)⟩ :: (⟨b5, [.int .u64 0], 131, (0, 0)⟩ :: (⟨b2, [.int .u64 p0.S], 131, (0, 0)⟩ :: [])))) [10] [10] [0, 1, 0, 4, 12, 31, 63, 127, 0, 255, 1023] [0, 1, 2, 3, 4, 5, 6, 7, 8, 9, 10] (by kernel_rfl) (by kernel_rfl) (by kernel_rfl) (kM pI 8 rfl (k_val (v := .agg #[.int .u64 za.S]) rfl rfl rfl pI (val_load tt_ok rfl mH rfl) rfl (kM pI 1 rfl (k_chg0 rfl rfl rfl (chg_store tt_ok rfl (Upd.there Upd.here) rfl rfl rfl rfl rfl rfl) (.inl rfl) ?_))))))
 rintro _ _ rfl
 refine k_end (by kernel_rfl) ?_
 refine wx_then (wc_ret ?_)
 obtain ⟨rfl, rfl⟩ := pJ2 h
 exact wx_pf tt_ok (.inl rfl) Tryd.results64 (Res.tmp rfl (Res.cell rfl (mT mH) rfl Res.nil)) rfl

theorem k_step_revive {p0 : T_api_State} {p1 : Int} {r0 : T_api_State} (p0N0 : p0n0 = p0.Shots.length) (p0V0 : Own 87 6 p0a0 p0n0 p0c0 (flat c_T_api_Shot p0.Shots) p0B0) (h : m_step_revive F p0 p1 = some r0) :
    SpD Tryd.prog 41 [.pointer (some ⟨p0b, 0, none⟩), .int .i64 p1] (⟨p0b, (st19 p0 p0a0 p0n0 p0c0 []), p0t, (0, 0)⟩ :: (p0B0 ++ [])) (fun w => True) (fun v D => ∃ r0a0 r0n0 r0c0 r0B0, r0n0 = r0.Shots.length ∧ Own 87 6 r0a0 r0n0 r0c0 (flat c_T_api_Shot r0.Shots) r0B0 ∧ v = .tuple #[] ∧ D = fun F => (⟨p0b, (st19 r0 r0a0 r0n0 r0c0 []), p0t, (0, 0)⟩ :: (r0B0 ++ F))) := by
 unfold m_step_revive at h
 refine sp_of_wc Tryd.func41 rfl Tryd.ntmps41 rfl rfl (fun w0 hR => ?_)
 refine wSR (wM 4 rfl ?_)
 rcases Bool.eq_false_or_eq_true (p1 == (0 : Int)) with hx130 | hx130
 ·replace h := ct hx130 h
  refine wl_val (v := .pointer (some ⟨p0b, 2, none⟩)) (val_ia (j := 0) tt_ok rfl rfl rfl rfl (by simpa using hx130) rfl rfl) rfl ?_
  refine wLd (v := agP p0.Players.1) rfl mH rfl rfl ?_
  obtain ⟨v15, x15, h⟩ := bsome h
  refine wl_cq Tryd.call39 rfl rfl rfl (q_pf (k_step_stopped x15) (fun _ _ => trivial)) rfl ?_
  refine wl_alloc tt_ok rfl rfl (fun b4 => ?_)
  refine lSt Upd.here ?_
  refine wNT (wSR (wM 1 rfl (lSt Upd.here ?_)))
  refine wNT (wSR (wM 3 rfl (wLd rfl (mT mH) rfl rfl (wM 1 rfl (wl_alloc tt_ok rfl rfl (fun b5 => (lSt Upd.here ?_)))))))
  refine wNT (wSR (wLd (v := .agg #[.int .u64 p0.Seed]) rfl mH rfl rfl ?_))
  replace h := bsome h; obtain ⟨⟨zc, ze⟩, x24, h⟩ := h; try dsimp only at h
  refine wl_cq Tryd.call64 rfl rfl rfl (q_pf (k_rng_Source_Below x24) (fun _ _ => trivial)) rfl ?_
  refine wM 4 rfl (lSt Upd.here ?_)
  refine wNT (wSR (wLd (v := .agg #[.int .u64 ze.S]) rfl mH rfl rfl ?_))
  replace h := bsome h; obtain ⟨⟨zd, zb⟩, x29, h⟩ := h; try dsimp only at h
  refine wl_cq Tryd.call64 rfl rfl rfl (q_pf (k_rng_Source_Below x29) (fun _ _ => trivial)) rfl ?_
  refine wM 4 rfl (lSt Upd.here ?_)
  refine wNT (wSR (wM 2 rfl (wLd rfl mH rfl rfl (wM 2 rfl (lSt (Upd.there (Upd.there Upd.here)) ?_)))))
  refine wNT (wSR (wLd (v := .agg #[.int .i32 v15.X, .int .i32 v15.Y, .int .i32 v15.VX, .int .i32 v15.VY, .int .u8 100, .int .u8 v15.Cool, .int .u8 v15.Face]) rfl (mT mH) rfl rfl (wl_alloc tt_ok rfl rfl (fun b8 => (lSt Upd.here ?_)))))
  refine wNT (wSR (wM 5 rfl (lSt Upd.here ?_)))
  refine wM 1 rfl (lSt Upd.here ?_)
  refine wNT (wc_seq (wc_seq (wc_quiet (by kernel_rfl) (by kernel_rfl) (qLd (v := .agg #[.int .i32 (IntKind.wrap .i32 zc), .int .i32 (IntKind.wrap .i32 zd), .int .i32 v15.VX, .int .i32 v15.VY, .int .u8 100, .int .u8 v15.Cool, .int .u8 v15.Face]) rfl mH rfl rfl ?_))))
  obtain ⟨v45, x45, h⟩ := bsome h
  refine wq_cq Tryd.call38 rfl rfl rfl (q_pf (k_step_box x45) (fun _ _ => trivial)) rfl ?_
  refine qM 5 rfl ?_
  rcases Bool.eq_false_or_eq_true ((IntKind.wrap .i64 ((1 : Int) - p1)) == (0 : Int)) with hx510 | hx510
  ·replace h := ct hx510 h
   refine wq_val (v := .pointer (some ⟨p0b, 2, none⟩)) (val_ia (j := 0) tt_ok rfl rfl rfl rfl (by simpa using hx510) rfl rfl) rfl ?_
   refine qLd (v := agP p0.Players.1) rfl (mTT (mT mH)) rfl rfl ?_
   obtain ⟨v53, x53, h⟩ := bsome h
   refine wq_cq Tryd.call38 rfl rfl rfl (q_pf (k_step_box x53) (fun _ _ => trivial)) rfl ?_
   obtain ⟨v54, x54, h⟩ := bsome h
   refine wq_cq Tryd.call37 rfl rfl rfl (q_pf (k_geom_Over x54) (fun _ _ => trivial)) rfl ?_
   refine qM 1 rfl (wq_nil (wx_then ?_))
   obtain ⟨za, h, hj20⟩ := bsome h
   refine wc_join2 (fun E L => E = [(0, .pointer (some ⟨p0b, 0, none⟩)), (1, .int .i64 p1), (4, .pointer (some ⟨b4, 0, none⟩))] ∧ L = (⟨p0b, (.int .u64 p0.Frame :: .int .u64 zb.S :: pl14 p0.Players [.slice p0a0 p0n0 p0c0, .int .u16 p0.Score.1, .int .u16 p0.Score.2]), p0t, (0, 0)⟩ :: (⟨b4, (pl7 za []), 35, (0, 0)⟩ :: (p0B0 ++ [])))) ?_ ?_
   ·refine wcc h rfl ?_ ?_ <;> clear h <;> intro h
    ·refine wc_region (wLd (v := .agg #[.int .i32 (IntKind.wrap .i32 zc), .int .i32 (IntKind.wrap .i32 zd), .int .i32 v15.VX, .int .i32 v15.VY, .int .u8 100, .int .u8 v15.Cool, .int .u8 v15.Face]) rfl mH rfl rfl (lSt (Upd.there (Upd.there Upd.here)) ?_))
     refine wl_nil ?_
     obtain rfl := sI h
     exact wx_join ⟨rfl, rfl⟩ (ag3 rfl rfl rfl) pI
    refine wc_skip ?_
    obtain rfl := sI h
    exact wx_join ⟨rfl, rfl⟩ (ag3 rfl rfl rfl) pI
   rintro _ _ ⟨rfl, rfl⟩
   have h := hj20; clear hj20
   refine wc_k2 (Ls := (⟨p0b, (.int .u64 p0.Frame :: .int .u64 zb.S :: pl14 p0.Players [.slice p0a0 p0n0 p0c0, .int .u16 p0.Score.1, .int .u16 p0.Score.2]), p0t, (0, 0)⟩ :: (⟨b4, (pl7 za []), 35, (0, 0)⟩ :: (p0B0 ++ [])))) [6] [6] [0, 0, 0, 1, 9, 31, 63] [0, 1, 2, 3, 4, 5, 6] (by kernel_rfl) (by kernel_rfl) (by kernel_rfl) ?_
   refine kM pI 2 rfl (k_val (v := agP za) rfl rfl rfl pI (val_load tt_ok rfl (mT mH) rfl) rfl (kM pI 2 rfl (k_val (v := .pointer (some ⟨p0b, 2, none⟩)) rfl rfl rfl pI (val_ia (j := 0) tt_ok rfl rfl rfl rfl (by simpa using hx130) rfl rfl) rfl (k_chg0 rfl rfl rfl (chg_store tt_ok rfl Upd.here rfl rfl rfl rfl rfl rfl) (.inl rfl) ?_))))
   rintro _ _ rfl
   refine k_end (by kernel_rfl) ?_
   obtain rfl := sI h
   exact wx_spD tt_ok (.inr rfl) Tryd.results41 Res.nil ⟨p0a0, p0n0, p0c0, p0B0, p0N0, p0V0, rfl, rfl⟩ (fun F => by simp) pI
  replace h := cf hx510 h
  rcases Bool.eq_false_or_eq_true ((IntKind.wrap .i64 ((1 : Int) - p1)) == (1 : Int)) with hx511 | hx511
  ·replace h := ct hx511 h
   refine wq_val (v := .pointer (some ⟨p0b, 9, none⟩)) (val_ia (j := 1) tt_ok rfl rfl rfl rfl (by simpa using hx511) rfl rfl) rfl ?_
   refine qLd (v := agP p0.Players.2) rfl (mTT (mT mH)) rfl rfl ?_
   obtain ⟨v53, x53, h⟩ := bsome h
   refine wq_cq Tryd.call38 rfl rfl rfl (q_pf (k_step_box x53) (fun _ _ => trivial)) rfl ?_
   obtain ⟨v54, x54, h⟩ := bsome h
   refine wq_cq Tryd.call37 rfl rfl rfl (q_pf (k_geom_Over x54) (fun _ _ => trivial)) rfl ?_
   refine qM 1 rfl (wq_nil (wx_then ?_))
   obtain ⟨za, h, hj20⟩ := bsome h
   refine wc_join2 (fun E L => E = [(0, .pointer (some ⟨p0b, 0, none⟩)), (1, .int .i64 p1), (4, .pointer (some ⟨b4, 0, none⟩))] ∧ L = (⟨p0b, (.int .u64 p0.Frame :: .int .u64 zb.S :: pl14 p0.Players [.slice p0a0 p0n0 p0c0, .int .u16 p0.Score.1, .int .u16 p0.Score.2]), p0t, (0, 0)⟩ :: (⟨b4, (pl7 za []), 35, (0, 0)⟩ :: (p0B0 ++ [])))) ?_ ?_
   ·refine wcc h rfl ?_ ?_ <;> clear h <;> intro h
    ·refine wc_region (wLd (v := .agg #[.int .i32 (IntKind.wrap .i32 zc), .int .i32 (IntKind.wrap .i32 zd), .int .i32 v15.VX, .int .i32 v15.VY, .int .u8 100, .int .u8 v15.Cool, .int .u8 v15.Face]) rfl mH rfl rfl (lSt (Upd.there (Upd.there Upd.here)) ?_))
     refine wl_nil ?_
     obtain rfl := sI h
     exact wx_join ⟨rfl, rfl⟩ (ag3 rfl rfl rfl) pI
    refine wc_skip ?_
    obtain rfl := sI h
    exact wx_join ⟨rfl, rfl⟩ (ag3 rfl rfl rfl) pI
   rintro _ _ ⟨rfl, rfl⟩
   have h := hj20; clear hj20
   refine wc_k2 (Ls := (⟨p0b, (.int .u64 p0.Frame :: .int .u64 zb.S :: pl14 p0.Players [.slice p0a0 p0n0 p0c0, .int .u16 p0.Score.1, .int .u16 p0.Score.2]), p0t, (0, 0)⟩ :: (⟨b4, (pl7 za []), 35, (0, 0)⟩ :: (p0B0 ++ [])))) [6] [6] [0, 0, 0, 1, 9, 31, 63] [0, 1, 2, 3, 4, 5, 6] (by kernel_rfl) (by kernel_rfl) (by kernel_rfl) ?_
   refine kM pI 2 rfl (k_val (v := agP za) rfl rfl rfl pI (val_load tt_ok rfl (mT mH) rfl) rfl (kM pI 2 rfl (k_val (v := .pointer (some ⟨p0b, 2, none⟩)) rfl rfl rfl pI (val_ia (j := 0) tt_ok rfl rfl rfl rfl (by simpa using hx130) rfl rfl) rfl (k_chg0 rfl rfl rfl (chg_store tt_ok rfl Upd.here rfl rfl rfl rfl rfl rfl) (.inl rfl) ?_))))
   rintro _ _ rfl
   refine k_end (by kernel_rfl) ?_
   obtain rfl := sI h
   exact wx_spD tt_ok (.inr rfl) Tryd.results41 Res.nil ⟨p0a0, p0n0, p0c0, p0B0, p0N0, p0V0, rfl, rfl⟩ (fun F => by simp) pI
  replace h := cf hx511 h
  cases h
 replace h := cf hx130 h
 rcases Bool.eq_false_or_eq_true (p1 == (1 : Int)) with hx131 | hx131
 ·replace h := ct hx131 h
  refine wl_val (v := .pointer (some ⟨p0b, 9, none⟩)) (val_ia (j := 1) tt_ok rfl rfl rfl rfl (by simpa using hx131) rfl rfl) rfl ?_
  refine wLd (v := agP p0.Players.2) rfl mH rfl rfl ?_
  obtain ⟨v15, x15, h⟩ := bsome h
  refine wl_cq Tryd.call39 rfl rfl rfl (q_pf (k_step_stopped x15) (fun _ _ => trivial)) rfl ?_
  refine wl_alloc tt_ok rfl rfl (fun b4 => ?_)
  refine lSt Upd.here ?_
  refine wNT (wSR (wM 1 rfl (lSt Upd.here ?_)))
  refine wNT (wSR (wM 3 rfl (wLd rfl (mT mH) rfl rfl (wM 1 rfl (wl_alloc tt_ok rfl rfl (fun b5 => (lSt Upd.here ?_)))))))
  refine wNT (wSR (wLd (v := .agg #[.int .u64 p0.Seed]) rfl mH rfl rfl ?_))
  replace h := bsome h; obtain ⟨⟨zc, ze⟩, x24, h⟩ := h; try dsimp only at h
  refine wl_cq Tryd.call64 rfl rfl rfl (q_pf (k_rng_Source_Below x24) (fun _ _ => trivial)) rfl ?_
  refine wM 4 rfl (lSt Upd.here ?_)
  refine wNT (wSR (wLd (v := .agg #[.int .u64 ze.S]) rfl mH rfl rfl ?_))
  replace h := bsome h; obtain ⟨⟨zd, zb⟩, x29, h⟩ := h; try dsimp only at h
  refine wl_cq Tryd.call64 rfl rfl rfl (q_pf (k_rng_Source_Below x29) (fun _ _ => trivial)) rfl ?_
  refine wM 4 rfl (lSt Upd.here ?_)
  refine wNT (wSR (wM 2 rfl (wLd rfl mH rfl rfl (wM 2 rfl (lSt (Upd.there (Upd.there Upd.here)) ?_)))))
  refine wNT (wSR (wLd (v := .agg #[.int .i32 v15.X, .int .i32 v15.Y, .int .i32 v15.VX, .int .i32 v15.VY, .int .u8 100, .int .u8 v15.Cool, .int .u8 v15.Face]) rfl (mT mH) rfl rfl (wl_alloc tt_ok rfl rfl (fun b8 => (lSt Upd.here ?_)))))
  refine wNT (wSR (wM 5 rfl (lSt Upd.here ?_)))
  refine wM 1 rfl (lSt Upd.here ?_)
  refine wNT (wc_seq (wc_seq (wc_quiet (by kernel_rfl) (by kernel_rfl) (qLd (v := .agg #[.int .i32 (IntKind.wrap .i32 zc), .int .i32 (IntKind.wrap .i32 zd), .int .i32 v15.VX, .int .i32 v15.VY, .int .u8 100, .int .u8 v15.Cool, .int .u8 v15.Face]) rfl mH rfl rfl ?_))))
  obtain ⟨v45, x45, h⟩ := bsome h
  refine wq_cq Tryd.call38 rfl rfl rfl (q_pf (k_step_box x45) (fun _ _ => trivial)) rfl ?_
  refine qM 5 rfl ?_
  rcases Bool.eq_false_or_eq_true ((IntKind.wrap .i64 ((1 : Int) - p1)) == (0 : Int)) with hx510 | hx510
  ·replace h := ct hx510 h
   refine wq_val (v := .pointer (some ⟨p0b, 2, none⟩)) (val_ia (j := 0) tt_ok rfl rfl rfl rfl (by simpa using hx510) rfl rfl) rfl ?_
   refine qLd (v := agP p0.Players.1) rfl (mTT (mT mH)) rfl rfl ?_
   obtain ⟨v53, x53, h⟩ := bsome h
   refine wq_cq Tryd.call38 rfl rfl rfl (q_pf (k_step_box x53) (fun _ _ => trivial)) rfl ?_
   obtain ⟨v54, x54, h⟩ := bsome h
   refine wq_cq Tryd.call37 rfl rfl rfl (q_pf (k_geom_Over x54) (fun _ _ => trivial)) rfl ?_
   refine qM 1 rfl (wq_nil (wx_then ?_))
   obtain ⟨za, h, hj20⟩ := bsome h
   refine wc_join2 (fun E L => E = [(0, .pointer (some ⟨p0b, 0, none⟩)), (1, .int .i64 p1), (4, .pointer (some ⟨b4, 0, none⟩))] ∧ L = (⟨p0b, (.int .u64 p0.Frame :: .int .u64 zb.S :: pl14 p0.Players [.slice p0a0 p0n0 p0c0, .int .u16 p0.Score.1, .int .u16 p0.Score.2]), p0t, (0, 0)⟩ :: (⟨b4, (pl7 za []), 35, (0, 0)⟩ :: (p0B0 ++ [])))) ?_ ?_
   ·refine wcc h rfl ?_ ?_ <;> clear h <;> intro h
    ·refine wc_region (wLd (v := .agg #[.int .i32 (IntKind.wrap .i32 zc), .int .i32 (IntKind.wrap .i32 zd), .int .i32 v15.VX, .int .i32 v15.VY, .int .u8 100, .int .u8 v15.Cool, .int .u8 v15.Face]) rfl mH rfl rfl (lSt (Upd.there (Upd.there Upd.here)) ?_))
     refine wl_nil ?_
     obtain rfl := sI h
     exact wx_join ⟨rfl, rfl⟩ (ag3 rfl rfl rfl) pI
    refine wc_skip ?_
    obtain rfl := sI h
    exact wx_join ⟨rfl, rfl⟩ (ag3 rfl rfl rfl) pI
   rintro _ _ ⟨rfl, rfl⟩
   have h := hj20; clear hj20
   refine wc_k2 (Ls := (⟨p0b, (.int .u64 p0.Frame :: .int .u64 zb.S :: pl14 p0.Players [.slice p0a0 p0n0 p0c0, .int .u16 p0.Score.1, .int .u16 p0.Score.2]), p0t, (0, 0)⟩ :: (⟨b4, (pl7 za []), 35, (0, 0)⟩ :: (p0B0 ++ [])))) [6] [6] [0, 0, 0, 1, 9, 31, 63] [0, 1, 2, 3, 4, 5, 6] (by kernel_rfl) (by kernel_rfl) (by kernel_rfl) ?_
   refine kM pI 2 rfl (k_val (v := agP za) rfl rfl rfl pI (val_load tt_ok rfl (mT mH) rfl) rfl (kM pI 2 rfl (k_val (v := .pointer (some ⟨p0b, 9, none⟩)) rfl rfl rfl pI (val_ia (j := 1) tt_ok rfl rfl rfl rfl (by simpa using hx131) rfl rfl) rfl (k_chg0 rfl rfl rfl (chg_store tt_ok rfl Upd.here rfl rfl rfl rfl rfl rfl) (.inl rfl) ?_))))
   rintro _ _ rfl
   refine k_end (by kernel_rfl) ?_
   obtain rfl := sI h
   exact wx_spD tt_ok (.inr rfl) Tryd.results41 Res.nil ⟨p0a0, p0n0, p0c0, p0B0, p0N0, p0V0, rfl, rfl⟩ (fun F => by simp) pI
  replace h := cf hx510 h
  rcases Bool.eq_false_or_eq_true ((IntKind.wrap .i64 ((1 : Int) - p1)) == (1 : Int)) with hx511 | hx511
  ·replace h := ct hx511 h
   refine wq_val (v := .pointer (some ⟨p0b, 9, none⟩)) (val_ia (j := 1) tt_ok rfl rfl rfl rfl (by simpa using hx511) rfl rfl) rfl ?_
   refine qLd (v := agP p0.Players.2) rfl (mTT (mT mH)) rfl rfl ?_
   obtain ⟨v53, x53, h⟩ := bsome h
   refine wq_cq Tryd.call38 rfl rfl rfl (q_pf (k_step_box x53) (fun _ _ => trivial)) rfl ?_
   obtain ⟨v54, x54, h⟩ := bsome h
   refine wq_cq Tryd.call37 rfl rfl rfl (q_pf (k_geom_Over x54) (fun _ _ => trivial)) rfl ?_
   refine qM 1 rfl (wq_nil (wx_then ?_))
   obtain ⟨za, h, hj20⟩ := bsome h
   refine wc_join2 (fun E L => E = [(0, .pointer (some ⟨p0b, 0, none⟩)), (1, .int .i64 p1), (4, .pointer (some ⟨b4, 0, none⟩))] ∧ L = (⟨p0b, (.int .u64 p0.Frame :: .int .u64 zb.S :: pl14 p0.Players [.slice p0a0 p0n0 p0c0, .int .u16 p0.Score.1, .int .u16 p0.Score.2]), p0t, (0, 0)⟩ :: (⟨b4, (pl7 za []), 35, (0, 0)⟩ :: (p0B0 ++ [])))) ?_ ?_
   ·refine wcc h rfl ?_ ?_ <;> clear h <;> intro h
    ·refine wc_region (wLd (v := .agg #[.int .i32 (IntKind.wrap .i32 zc), .int .i32 (IntKind.wrap .i32 zd), .int .i32 v15.VX, .int .i32 v15.VY, .int .u8 100, .int .u8 v15.Cool, .int .u8 v15.Face]) rfl mH rfl rfl (lSt (Upd.there (Upd.there Upd.here)) ?_))
     refine wl_nil ?_
     obtain rfl := sI h
     exact wx_join ⟨rfl, rfl⟩ (ag3 rfl rfl rfl) pI
    refine wc_skip ?_
    obtain rfl := sI h
    exact wx_join ⟨rfl, rfl⟩ (ag3 rfl rfl rfl) pI
   rintro _ _ ⟨rfl, rfl⟩
   have h := hj20; clear hj20
   refine wc_k2 (Ls := (⟨p0b, (.int .u64 p0.Frame :: .int .u64 zb.S :: pl14 p0.Players [.slice p0a0 p0n0 p0c0, .int .u16 p0.Score.1, .int .u16 p0.Score.2]), p0t, (0, 0)⟩ :: (⟨b4, (pl7 za []), 35, (0, 0)⟩ :: (p0B0 ++ [])))) [6] [6] [0, 0, 0, 1, 9, 31, 63] [0, 1, 2, 3, 4, 5, 6] (by kernel_rfl) (by kernel_rfl) (by kernel_rfl) ?_
   refine kM pI 2 rfl (k_val (v := agP za) rfl rfl rfl pI (val_load tt_ok rfl (mT mH) rfl) rfl (kM pI 2 rfl (k_val (v := .pointer (some ⟨p0b, 9, none⟩)) rfl rfl rfl pI (val_ia (j := 1) tt_ok rfl rfl rfl rfl (by simpa using hx131) rfl rfl) rfl (k_chg0 rfl rfl rfl (chg_store tt_ok rfl Upd.here rfl rfl rfl rfl rfl rfl) (.inl rfl) ?_))))
   rintro _ _ rfl
   refine k_end (by kernel_rfl) ?_
   obtain rfl := sI h
   exact wx_spD tt_ok (.inr rfl) Tryd.results41 Res.nil ⟨p0a0, p0n0, p0c0, p0B0, p0N0, p0V0, rfl, rfl⟩ (fun F => by simp) pI
  replace h := cf hx511 h
  cases h
 replace h := cf hx131 h
 cases h

end Go.Proofs.YthlnellnlhkphaaDoor
