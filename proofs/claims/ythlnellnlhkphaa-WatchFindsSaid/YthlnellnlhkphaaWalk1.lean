/-
  Each function computes what its model says. Printed by a program of this claim's own.
-/
import Derived.Test.YthlnellnlhkphaaTab
import Derived.Test.YthlnellnlhkphaaMod
import Derived.Test.YthlnellnlhkphaaIns
namespace Go.Proofs.Ythlnellnlhkphaa
open Go.Proofs.Ythlnellnlhkphaa.Eng
set_option linter.unusedVariables false
set_option linter.unusedSimpArgs false
set_option maxHeartbeats 4000000
set_option maxRecDepth 20000

theorem k_watch_New {F : Nat} {p0 : Int} {r0 : T_watch_Watch} (h : m_watch_New F p0 = some (some r0)) :
    SpD Try.prog 4 [.int .i64 p0] [] (fun w => True) (fun v D => ∃ (r0b : Nat) (r0a0 : Option Addr) (r0n0 : Nat) (r0c0 : Nat) (r0B0 : List Blk), r0n0 = r0.l.length ∧ Own 41 5 r0a0 r0n0 r0c0 (flat c_T_watch_entry r0.l) r0B0 ∧ v = .pointer (some ⟨r0b, 0, none⟩) ∧ D = fun F => (⟨r0b, [.int .u64 r0.rows, .slice r0a0 r0n0 r0c0, .bool r0.clashed], 33, (0, 0)⟩ :: (r0B0 ++ F))) := by
  unfold m_watch_New at h
  refine sp_of_wc Try.func4 rfl Try.ntmps4 rfl rfl (fun w0 hR => ?_)
  refine wc_seq (wc_region ?_)
  refine wl_pure tt_ok rfl rfl ?_
  refine wl_nil (wx_then (wc_seq (wc_seq (wc_region ?_))))
  refine wl_pure tt_ok rfl rfl ?_
  refine wl_pure (v := .bool (decide (p0 < (1 : Int)))) tt_ok rfl rfl ?_
  refine wl_pure tt_ok rfl rfl ?_
  replace h := bsome h; obtain ⟨v8, h, hg8⟩ := h
  refine wl_split (t := 5) rfl (fun hc => ?_) (fun hc => ?_)
  · replace h := ct hc h
    refine wl_skip rfl rfl ?_
    refine wl_skip rfl rfl ?_
    simp only [Option.some.injEq, Prod.mk.injEq] at h
    obtain rfl := h
    have h := hg8; clear hg8
    refine wl_pure (v := .bool true) tt_ok rfl rfl ?_
    refine wl_nil (wx_then ?_)
    replace h := ct rfl h
    refine wc_cond_true rfl ?_
    refine wc_seq (wc_region ?_)
    refine wl_pure tt_ok rfl rfl ?_
    refine wl_nil (wx_then (wc_ret (wx_then_ret ?_)))
    first | (cases h; done) | simp at h
  replace h := cf hc h
  refine wl_run rfl ?_
  refine wl_pure tt_ok rfl rfl ?_
  refine wl_run rfl ?_
  refine wl_pure (v := .bool (decide ((256 : Int) < p0))) tt_ok rfl rfl ?_
  simp only [Option.some.injEq, Prod.mk.injEq] at h
  obtain rfl := h
  have h := hg8; clear hg8
  refine wl_pure (v := .bool (decide ((256 : Int) < p0))) tt_ok rfl rfl ?_
  refine wl_nil (wx_then ?_)
  refine wc_cond rfl (fun hc => ?_) (fun hc => ?_)
  · replace h := ct hc h
    refine wc_seq (wc_region ?_)
    refine wl_pure tt_ok rfl rfl ?_
    refine wl_nil (wx_then (wc_ret (wx_then_ret ?_)))
    first | (cases h; done) | simp at h
  replace h := cf hc h
  refine wc_skip (wx_then (wc_seq (wc_region ?_)))
  refine wl_pure tt_ok rfl rfl ?_
  refine wl_pure (v := .int .u64 (IntKind.wrap .u64 p0)) tt_ok rfl rfl ?_
  refine wl_pure (v := .agg #[.int .u64 (IntKind.wrap .u64 p0), .slice none 0 0, .bool false]) tt_ok rfl rfl ?_
  refine wl_box rfl rfl rfl (fun b12 => ?_)
  refine wl_pure tt_ok rfl rfl ?_
  refine wl_nil (wx_then (wc_ret ?_))
  simp only [Option.some.injEq] at h
  obtain rfl := h
  exact wx_spD tt_ok (.inl rfl) Try.results4 (Res.tmp rfl Res.nil) ⟨b12, none, 0, 0, [], rfl, Own.zero, rfl, rfl⟩ (fun F => by simp) (pSub (pCons Sel.hc (pNo pNil)))

theorem k_watch_New_none {F : Nat} {p0 : Int} (h : m_watch_New F p0 = some none) :
    SpD Try.prog 4 [.int .i64 p0] [] (fun w => True) (fun v D => v = .pointer none ∧ D = fun F => F) := by
  unfold m_watch_New at h
  refine sp_of_wc Try.func4 rfl Try.ntmps4 rfl rfl (fun w0 hR => ?_)
  refine wc_seq (wc_region ?_)
  refine wl_pure tt_ok rfl rfl ?_
  refine wl_nil (wx_then (wc_seq (wc_seq (wc_region ?_))))
  refine wl_pure tt_ok rfl rfl ?_
  refine wl_pure (v := .bool (decide (p0 < (1 : Int)))) tt_ok rfl rfl ?_
  refine wl_pure tt_ok rfl rfl ?_
  replace h := bsome h; obtain ⟨v8, h, hg8⟩ := h
  refine wl_split (t := 5) rfl (fun hc => ?_) (fun hc => ?_)
  · replace h := ct hc h
    refine wl_skip rfl rfl ?_
    refine wl_skip rfl rfl ?_
    simp only [Option.some.injEq, Prod.mk.injEq] at h
    obtain rfl := h
    have h := hg8; clear hg8
    refine wl_pure (v := .bool true) tt_ok rfl rfl ?_
    refine wl_nil (wx_then ?_)
    replace h := ct rfl h
    refine wc_cond_true rfl ?_
    refine wc_seq (wc_region ?_)
    refine wl_pure tt_ok rfl rfl ?_
    refine wl_nil (wx_then (wc_ret (wx_then_ret ?_)))
    simp only [Option.some.injEq] at h
    exact wx_spD tt_ok (.inl rfl) Try.results4 (Res.tmp rfl Res.nil) ⟨rfl, rfl⟩ (fun F => by simp) (pSub pNil)
  replace h := cf hc h
  refine wl_run rfl ?_
  refine wl_pure tt_ok rfl rfl ?_
  refine wl_run rfl ?_
  refine wl_pure (v := .bool (decide ((256 : Int) < p0))) tt_ok rfl rfl ?_
  simp only [Option.some.injEq, Prod.mk.injEq] at h
  obtain rfl := h
  have h := hg8; clear hg8
  refine wl_pure (v := .bool (decide ((256 : Int) < p0))) tt_ok rfl rfl ?_
  refine wl_nil (wx_then ?_)
  refine wc_cond rfl (fun hc => ?_) (fun hc => ?_)
  · replace h := ct hc h
    refine wc_seq (wc_region ?_)
    refine wl_pure tt_ok rfl rfl ?_
    refine wl_nil (wx_then (wc_ret (wx_then_ret ?_)))
    simp only [Option.some.injEq] at h
    exact wx_spD tt_ok (.inl rfl) Try.results4 (Res.tmp rfl Res.nil) ⟨rfl, rfl⟩ (fun F => by simp) (pSub pNil)
  replace h := cf hc h
  refine wc_skip (wx_then (wc_seq (wc_region ?_)))
  refine wl_pure tt_ok rfl rfl ?_
  refine wl_pure (v := .int .u64 (IntKind.wrap .u64 p0)) tt_ok rfl rfl ?_
  refine wl_pure (v := .agg #[.int .u64 (IntKind.wrap .u64 p0), .slice none 0 0, .bool false]) tt_ok rfl rfl ?_
  refine wl_box rfl rfl rfl (fun b12 => ?_)
  refine wl_pure tt_ok rfl rfl ?_
  refine wl_nil (wx_then (wc_ret ?_))
  first | (cases h; done) | simp at h

theorem k_watch_Watch_is_nil0 {F : Nat} {r0 : Bool} (h : m_watch_Watch_is_nil0 F = some r0) :
    Pf Try.prog 13 [.pointer none] (fun w => True) (.bool r0) := by
  unfold m_watch_Watch_is_nil0 at h
  refine pf_of_wc Try.func13 rfl Try.ntmps13 rfl rfl (fun w0 hR => ?_)
  refine wc_seq (wc_region ?_)
  refine wl_pure tt_ok rfl rfl ?_
  refine wl_nil (wx_then (wc_seq (wc_region ?_)))
  refine wl_pure tt_ok rfl rfl ?_
  refine wl_pure (v := .bool false) tt_ok rfl rfl ?_
  refine wl_pure tt_ok rfl rfl ?_
  refine wl_skip rfl rfl ?_
  refine wl_skip rfl rfl ?_
  refine wl_skip rfl rfl ?_
  refine wl_skip rfl rfl ?_
  refine wl_skip rfl rfl ?_
  refine wl_pure (v := .bool false) tt_ok rfl rfl ?_
  refine wl_pure tt_ok rfl rfl ?_
  refine wl_nil (wx_then (wc_ret ?_))
  simp only [Option.some.injEq] at h
  obtain rfl := h
  exact wx_pf tt_ok (.inl rfl) Try.results13 (Res.tmp rfl Res.nil) rfl

theorem k_watch_Watch_told_nil0_f3_watch_ownSide {F : Nat} {p1 : Int} {p2 : Int} {r0 : Int} (h : m_watch_Watch_told_nil0_f3_watch_ownSide F p1 p2 = some r0) :
    Pf Try.prog 10 [.pointer none, .int .u64 p1, .int .u64 p2, .func (.func 11) #[] #[]] (fun w => True) (.int .i64 r0) := by
  unfold m_watch_Watch_told_nil0_f3_watch_ownSide at h
  refine pf_of_wc Try.func10 rfl Try.ntmps10 rfl rfl (fun w0 hR => ?_)
  refine wc_seq (wc_region ?_)
  refine wl_pure tt_ok rfl rfl ?_
  refine wl_nil (wx_then (wc_seq (wc_block (wc_seq (wc_region ?_)))))
  refine wl_pure tt_ok rfl rfl ?_
  replace h := bsome h; obtain ⟨v13, x13, h⟩ := h
  refine wl_cq Try.call13 rfl rfl rfl (q_pf (k_watch_Watch_is_nil0 x13) (fun _ _ => trivial)) rfl ?_
  refine wl_pure (v := .bool (!v13)) tt_ok rfl rfl ?_
  refine wl_pure tt_ok rfl rfl ?_
  refine wl_nil (wx_then ?_)
  refine wc_cond rfl (fun hc => ?_) (fun hc => ?_)
  · replace h := ct hc h
    refine wc_seq (wc_region ?_)
    refine wl_pure tt_ok rfl rfl ?_
    refine wl_nil (wx_then (wc_ret (wx_block_ret (wx_then_ret ?_))))
    simp only [Option.some.injEq] at h
    obtain rfl := h
    exact wx_pf tt_ok (.inl rfl) Try.results10 (Res.tmp rfl Res.nil) rfl
  replace h := cf hc h
  refine wc_seq (wc_region ?_)
  iterate 2 refine wl_pure tt_ok rfl rfl ?_
  cases h

theorem k_watch_Watch_Own_nil0 {F : Nat} {p1 : Int} {p2 : Int} {r0 : Int} (h : m_watch_Watch_Own_nil0 F p1 p2 = some r0) :
    Pf Try.prog 6 [.pointer none, .int .u64 p1, .int .u64 p2] (fun w => True) (.int .i64 r0) := by
  unfold m_watch_Watch_Own_nil0 at h
  refine pf_of_wc Try.func6 rfl Try.ntmps6 rfl rfl (fun w0 hR => ?_)
  refine wc_seq (wc_region ?_)
  refine wl_pure tt_ok rfl rfl ?_
  refine wl_nil (wx_then (wc_seq (wc_region ?_)))
  iterate 3 refine wl_pure tt_ok rfl rfl ?_
  replace h := bsome h; obtain ⟨v10, x10, h⟩ := h
  refine wl_cq Try.call10 rfl rfl rfl (q_pf (k_watch_Watch_told_nil0_f3_watch_ownSide x10) (fun _ _ => trivial)) rfl ?_
  refine wl_pure tt_ok rfl rfl ?_
  refine wl_nil (wx_then (wc_ret ?_))
  simp only [Option.some.injEq] at h
  obtain rfl := h
  exact wx_pf tt_ok (.inl rfl) Try.results6 (Res.tmp rfl Res.nil) rfl

theorem k_watch_Watch_told_nil0_f3_watch_otherSide {F : Nat} {p1 : Int} {p2 : Int} {r0 : Int} (h : m_watch_Watch_told_nil0_f3_watch_otherSide F p1 p2 = some r0) :
    Pf Try.prog 10 [.pointer none, .int .u64 p1, .int .u64 p2, .func (.func 12) #[] #[]] (fun w => True) (.int .i64 r0) := by
  unfold m_watch_Watch_told_nil0_f3_watch_otherSide at h
  refine pf_of_wc Try.func10 rfl Try.ntmps10 rfl rfl (fun w0 hR => ?_)
  refine wc_seq (wc_region ?_)
  refine wl_pure tt_ok rfl rfl ?_
  refine wl_nil (wx_then (wc_seq (wc_block (wc_seq (wc_region ?_)))))
  refine wl_pure tt_ok rfl rfl ?_
  replace h := bsome h; obtain ⟨v13, x13, h⟩ := h
  refine wl_cq Try.call13 rfl rfl rfl (q_pf (k_watch_Watch_is_nil0 x13) (fun _ _ => trivial)) rfl ?_
  refine wl_pure (v := .bool (!v13)) tt_ok rfl rfl ?_
  refine wl_pure tt_ok rfl rfl ?_
  refine wl_nil (wx_then ?_)
  refine wc_cond rfl (fun hc => ?_) (fun hc => ?_)
  · replace h := ct hc h
    refine wc_seq (wc_region ?_)
    refine wl_pure tt_ok rfl rfl ?_
    refine wl_nil (wx_then (wc_ret (wx_block_ret (wx_then_ret ?_))))
    simp only [Option.some.injEq] at h
    obtain rfl := h
    exact wx_pf tt_ok (.inl rfl) Try.results10 (Res.tmp rfl Res.nil) rfl
  replace h := cf hc h
  refine wc_seq (wc_region ?_)
  iterate 2 refine wl_pure tt_ok rfl rfl ?_
  cases h

theorem k_watch_Watch_Other_nil0 {F : Nat} {p1 : Int} {p2 : Int} {r0 : Int} (h : m_watch_Watch_Other_nil0 F p1 p2 = some r0) :
    Pf Try.prog 7 [.pointer none, .int .u64 p1, .int .u64 p2] (fun w => True) (.int .i64 r0) := by
  unfold m_watch_Watch_Other_nil0 at h
  refine pf_of_wc Try.func7 rfl Try.ntmps7 rfl rfl (fun w0 hR => ?_)
  refine wc_seq (wc_region ?_)
  refine wl_pure tt_ok rfl rfl ?_
  refine wl_nil (wx_then (wc_seq (wc_region ?_)))
  iterate 3 refine wl_pure tt_ok rfl rfl ?_
  replace h := bsome h; obtain ⟨v10, x10, h⟩ := h
  refine wl_cq Try.call10 rfl rfl rfl (q_pf (k_watch_Watch_told_nil0_f3_watch_otherSide x10) (fun _ _ => trivial)) rfl ?_
  refine wl_pure tt_ok rfl rfl ?_
  refine wl_nil (wx_then (wc_ret ?_))
  simp only [Option.some.injEq] at h
  obtain rfl := h
  exact wx_pf tt_ok (.inl rfl) Try.results7 (Res.tmp rfl Res.nil) rfl

theorem k_watch_Watch_is {F : Nat} {p0 : T_watch_Watch} {p0b p0t : Nat} {p0a0 : Option Addr} {p0n0 : Nat} {p0c0 : Nat} {p0B0 : List Blk} {r0 : Bool} (p0N0 : p0n0 = p0.l.length) (p0V0 : Own 41 5 p0a0 p0n0 p0c0 (flat c_T_watch_entry p0.l) p0B0) (h : m_watch_Watch_is F p0 = some r0) :
    Rd2 Try.prog 13 [.pointer (some ⟨p0b, 0, none⟩)] (⟨p0b, [.int .u64 p0.rows, .slice p0a0 p0n0 p0c0, .bool p0.clashed], p0t, (0, 0)⟩ :: (p0B0 ++ [])) (fun w => True) (.bool r0) := by
  unfold m_watch_Watch_is at h
  refine sp_of_wc Try.func13 rfl Try.ntmps13 rfl rfl (fun w0 hR => ?_)
  refine wc_seq (wc_region ?_)
  refine wl_pure tt_ok rfl rfl ?_
  refine wl_nil (wx_then (wc_seq (wc_region ?_)))
  refine wl_pure tt_ok rfl rfl ?_
  refine wl_pure (v := .bool true) tt_ok rfl rfl ?_
  refine wl_pure tt_ok rfl rfl ?_
  refine wl_run rfl ?_
  refine wl_pure tt_ok rfl rfl ?_
  refine wl_run rfl ?_
  refine wl_pure tt_ok rfl rfl ?_
  refine wl_run rfl ?_
  refine wl_pure (v := .pointer (some ⟨p0b, 0, none⟩)) tt_ok rfl rfl ?_
  refine wl_run rfl ?_
  refine wl_val (v := .int .u64 p0.rows) (val_load tt_ok rfl (List.Mem.head _) rfl) rfl ?_
  refine wl_run rfl ?_
  refine wl_pure (v := .bool (decide ((0 : Int) < p0.rows))) tt_ok rfl rfl ?_
  refine wl_pure (v := .bool (decide ((0 : Int) < p0.rows))) tt_ok rfl rfl ?_
  refine wl_pure tt_ok rfl rfl ?_
  refine wl_nil (wx_then (wc_ret ?_))
  simp only [Option.some.injEq] at h
  obtain rfl := h
  exact wx_rd tt_ok (.inl rfl) Try.results13 (Res.tmp rfl Res.nil) (pSub (pCons Sel.hc (pApp Sel.ha pNil))) rfl

theorem k_cmp_isNaN_uint64 {F : Nat} {p0 : Int} {r0 : Bool} (h : m_cmp_isNaN_uint64 F p0 = some r0) :
    Pf Try.prog 20 [.int .u64 p0] (fun w => True) (.bool r0) := by
  unfold m_cmp_isNaN_uint64 at h
  refine pf_of_wc Try.func20 rfl Try.ntmps20 rfl rfl (fun w0 hR => ?_)
  refine wc_seq (wc_region ?_)
  refine wl_pure tt_ok rfl rfl ?_
  refine wl_nil (wx_then (wc_seq (wc_region ?_)))
  iterate 2 refine wl_pure tt_ok rfl rfl ?_
  refine wl_pure (v := .bool (p0 != p0)) tt_ok rfl rfl ?_
  refine wl_pure tt_ok rfl rfl ?_
  refine wl_nil (wx_then (wc_ret ?_))
  simp only [Option.some.injEq] at h
  obtain rfl := h
  exact wx_pf tt_ok (.inl rfl) Try.results20 (Res.tmp rfl Res.nil) rfl

theorem k_cmp_Compare_uint64 {F : Nat} {p0 : Int} {p1 : Int} {r0 : Int} (h : m_cmp_Compare_uint64 F p0 p1 = some r0) :
    Pf Try.prog 17 [.int .u64 p0, .int .u64 p1] (fun w => True) (.int .i64 r0) := by
  unfold m_cmp_Compare_uint64 at h
  refine pf_of_wc Try.func17 rfl Try.ntmps17 rfl rfl (fun w0 hR => ?_)
  refine wc_seq (wc_region ?_)
  refine wl_pure tt_ok rfl rfl ?_
  refine wl_nil (wx_then (wc_seq (wc_region ?_)))
  refine wl_pure tt_ok rfl rfl ?_
  replace h := bsome h; obtain ⟨v8, x8, h⟩ := h
  refine wl_cq Try.call20 rfl rfl rfl (q_pf (k_cmp_isNaN_uint64 x8) (fun _ _ => trivial)) rfl ?_
  refine wl_pure tt_ok rfl rfl ?_
  refine wl_nil (wx_then (wc_seq (wc_region ?_)))
  refine wl_pure tt_ok rfl rfl ?_
  replace h := bsome h; obtain ⟨v10, x10, h⟩ := h
  refine wl_cq Try.call20 rfl rfl rfl (q_pf (k_cmp_isNaN_uint64 x10) (fun _ _ => trivial)) rfl ?_
  refine wl_pure tt_ok rfl rfl ?_
  refine wl_nil (wx_then (wc_seq (wc_seq (wc_region ?_))))
  refine wl_pure tt_ok rfl rfl ?_
  refine wl_nil (wx_then ?_)
  refine wc_cond rfl (fun hc => ?_) (fun hc => ?_)
  · replace h := ct hc h
    refine wc_seq (wc_seq (wc_region ?_))
    refine wl_pure tt_ok rfl rfl ?_
    refine wl_nil (wx_then ?_)
    refine wc_cond rfl (fun hc => ?_) (fun hc => ?_)
    · replace h := ct hc h
      refine wc_seq (wc_region ?_)
      refine wl_pure tt_ok rfl rfl ?_
      refine wl_nil (wx_then (wc_ret (wx_then_ret (wx_then_ret ?_))))
      simp only [Option.some.injEq] at h
      obtain rfl := h
      exact wx_pf tt_ok (.inl rfl) Try.results17 (Res.tmp rfl Res.nil) rfl
    replace h := cf hc h
    refine wc_skip (wx_then (wc_seq (wc_region ?_)))
    refine wl_pure tt_ok rfl rfl ?_
    refine wl_nil (wx_then (wc_ret (wx_then_ret ?_)))
    simp only [Option.some.injEq] at h
    obtain rfl := h
    exact wx_pf tt_ok (.inl rfl) Try.results17 (Res.tmp rfl Res.nil) rfl
  replace h := cf hc h
  refine wc_skip (wx_then (wc_seq (wc_seq (wc_region ?_))))
  refine wl_pure tt_ok rfl rfl ?_
  refine wl_nil (wx_then ?_)
  refine wc_cond rfl (fun hc => ?_) (fun hc => ?_)
  · replace h := ct hc h
    refine wc_seq (wc_region ?_)
    refine wl_pure tt_ok rfl rfl ?_
    refine wl_nil (wx_then (wc_ret (wx_then_ret ?_)))
    simp only [Option.some.injEq] at h
    obtain rfl := h
    exact wx_pf tt_ok (.inl rfl) Try.results17 (Res.tmp rfl Res.nil) rfl
  replace h := cf hc h
  refine wc_skip (wx_then (wc_seq (wc_seq (wc_region ?_))))
  iterate 2 refine wl_pure tt_ok rfl rfl ?_
  refine wl_pure (v := .bool (decide (p0 < p1))) tt_ok rfl rfl ?_
  refine wl_nil (wx_then ?_)
  refine wc_cond rfl (fun hc => ?_) (fun hc => ?_)
  · replace h := ct hc h
    refine wc_seq (wc_region ?_)
    refine wl_pure tt_ok rfl rfl ?_
    refine wl_nil (wx_then (wc_ret (wx_then_ret ?_)))
    simp only [Option.some.injEq] at h
    obtain rfl := h
    exact wx_pf tt_ok (.inl rfl) Try.results17 (Res.tmp rfl Res.nil) rfl
  replace h := cf hc h
  refine wc_skip (wx_then (wc_seq (wc_seq (wc_region ?_))))
  iterate 2 refine wl_pure tt_ok rfl rfl ?_
  refine wl_pure (v := .bool (decide (p1 < p0))) tt_ok rfl rfl ?_
  refine wl_nil (wx_then ?_)
  refine wc_cond rfl (fun hc => ?_) (fun hc => ?_)
  · replace h := ct hc h
    refine wc_seq (wc_region ?_)
    refine wl_pure tt_ok rfl rfl ?_
    refine wl_nil (wx_then (wc_ret (wx_then_ret ?_)))
    simp only [Option.some.injEq] at h
    obtain rfl := h
    exact wx_pf tt_ok (.inl rfl) Try.results17 (Res.tmp rfl Res.nil) rfl
  replace h := cf hc h
  refine wc_skip (wx_then (wc_seq (wc_region ?_)))
  refine wl_pure tt_ok rfl rfl ?_
  refine wl_nil (wx_then (wc_ret ?_))
  simp only [Option.some.injEq] at h
  obtain rfl := h
  exact wx_pf tt_ok (.inl rfl) Try.results17 (Res.tmp rfl Res.nil) rfl

theorem k_watch_Watch_at_1 {F : Nat} {p0 : T_watch_entry} {p1 : Int} {r0 : Int} (h : m_watch_Watch_at_1 F p0 p1 = some r0) :
    Pf Try.prog 16 [.agg #[.int .u64 p0.f, .int .u64 p0.own.n, .bool p0.own.is_, .int .u64 p0.other.n, .bool p0.other.is_], .int .u64 p1] (fun w => True) (.int .i64 r0) := by
  unfold m_watch_Watch_at_1 at h
  refine pf_of_wc Try.func16 rfl Try.ntmps16 rfl rfl (fun w0 hR => ?_)
  refine wc_seq (wc_region ?_)
  refine wl_box rfl rfl rfl (fun b2 => ?_)
  refine wl_pure tt_ok rfl rfl ?_
  refine wl_nil (wx_then (wc_seq (wc_region ?_)))
  refine wl_pure (v := .pointer (some ⟨b2, 0, none⟩)) tt_ok rfl rfl ?_
  refine wl_val (v := .int .u64 p0.f) (val_load tt_ok rfl (List.Mem.head _) rfl) rfl ?_
  refine wl_pure tt_ok rfl rfl ?_
  replace h := bsome h; obtain ⟨v8, x8, h⟩ := h
  refine wl_cq Try.call17 rfl rfl rfl (q_pf (k_cmp_Compare_uint64 x8) (fun _ _ => trivial)) rfl ?_
  refine wl_pure tt_ok rfl rfl ?_
  refine wl_nil (wx_then (wc_ret ?_))
  simp only [Option.some.injEq] at h
  obtain rfl := h
  exact wx_pf tt_ok (.inl rfl) Try.results16 (Res.tmp rfl Res.nil) rfl

theorem k_slices_BinarySearchFunc___watch_entry_watch_entry_uint64_f2_watch_Watch_at_1 {F : Nat} {p0 : (List T_watch_entry)} {p0a0 : Option Addr} {p0n0 p0c0 : Nat} {p1 : Int} {r0 : Int} {r1 : Bool} (p0N0 : p0n0 = p0.length) (p0H0 : p0n0 ≤ p0c0) (h : m_slices_BinarySearchFunc___watch_entry_watch_entry_uint64_f2_watch_Watch_at_1 F p0 p1 = some (r0, r1)) :
    Pf Try.prog 15 [.slice p0a0 p0n0 p0c0, .int .u64 p1, .func (.func 16) #[] #[]] (fun w => Rds w [] [] p0a0 (flat c_T_watch_entry p0)) (.tuple #[.int .i64 r0, .bool r1]) := by
  unfold m_slices_BinarySearchFunc___watch_entry_watch_entry_uint64_f2_watch_Watch_at_1 at h
  refine pf_of_wc Try.func15 rfl Try.ntmps15 rfl rfl (fun w0 hR => ?_)
  have p0S0 := hR
  refine wc_seq (wc_region ?_)
  iterate 2 refine wl_pure tt_ok rfl rfl ?_
  refine wl_nil (wx_then (wc_seq (wc_region ?_)))
  refine wl_pure tt_ok rfl rfl ?_
  refine wl_val (v := .int .i64 (p0.length : Int)) (val_len tt_ok rfl rfl p0N0) rfl ?_
  refine wl_pure tt_ok rfl rfl ?_
  refine wl_nil (wx_then (wc_seq (wc_region ?_)))
  iterate 3 refine wl_pure tt_ok rfl rfl ?_
  refine wl_nil (wx_then (wc_seq (wc_block ?_)))
  replace h := bsome h; obtain ⟨l9_9, h, hl9⟩ := h
  refine wc_loop (fun m E L => ∃ (j9_9 : Int) (j9_10 : Int), m_slices_BinarySearchFunc___watch_entry_watch_entry_uint64_f2_watch_Watch_at_1_L8 F p0 p1 m j9_9 j9_10 = some l9_9 ∧ E = [(0, .slice p0a0 p0n0 p0c0), (1, .int .u64 p1), (2, .func (.func 16) #[] #[]), (6, .int .i64 (0 : Int)), (7, .bool false), (8, .int .i64 (p0.length : Int)), (9, .int .i64 j9_9), (10, .int .i64 j9_10)] ∧ L = []) F ⟨(0 : Int), (p0.length : Int), h, rfl, rfl⟩ (agree_cons rfl (agree_cons rfl (agree_cons rfl (agree_cons rfl (agree_cons rfl (agree_cons rfl (agree_cons rfl (agree_cons rfl agree_nil)))))))) (pSub pNil) ?_
  clear h
  rintro m9 _ _ ⟨j9_9, j9_10, h, rfl, rfl⟩
  rcases m9 with _ | m9
  · rw [m_slices_BinarySearchFunc___watch_entry_watch_entry_uint64_f2_watch_Watch_at_1_L8.eq_1] at h; cases h
  rw [m_slices_BinarySearchFunc___watch_entry_watch_entry_uint64_f2_watch_Watch_at_1_L8.eq_2] at h
  refine wc_seq (wc_seq (wc_region ?_))
  iterate 2 refine wl_pure tt_ok rfl rfl ?_
  refine wl_pure (v := .bool (decide (j9_9 < j9_10))) tt_ok rfl rfl ?_
  refine wl_nil (wx_then ?_)
  refine wc_cond rfl (fun hc => ?_) (fun hc => ?_)
  · replace h := ct hc h
    refine wc_skip (wx_then (wc_block (wc_seq (wc_region ?_))))
    iterate 2 refine wl_pure tt_ok rfl rfl ?_
    refine wl_pure (v := .int .i64 (IntKind.wrap .i64 (j9_9 + j9_10))) tt_ok rfl rfl ?_
    refine wl_pure (v := .int .u64 (IntKind.wrap .u64 (IntKind.wrap .i64 (j9_9 + j9_10)))) tt_ok rfl rfl ?_
    refine wl_pure (v := .int .u64 ((IntKind.wrap .u64 (IntKind.wrap .i64 (j9_9 + j9_10))) / 2 ^ (min 1 (IntKind.bits .u64)))) tt_ok rfl rfl ?_
    refine wl_pure (v := .int .i64 (IntKind.wrap .i64 ((IntKind.wrap .u64 (IntKind.wrap .i64 (j9_9 + j9_10))) / 2 ^ (min 1 (IntKind.bits .u64))))) tt_ok rfl rfl ?_
    refine wl_pure tt_ok rfl rfl ?_
    refine wl_nil (wx_then (wc_seq (wc_region ?_)))
    iterate 3 refine wl_pure tt_ok rfl rfl ?_
    replace h := bsome h; obtain ⟨v27, x27, h⟩ := h
    refine wl_val (v := .pointer (some ((adOf p0a0).add ((IntKind.wrap .i64 ((IntKind.wrap .u64 (IntKind.wrap .i64 (j9_9 + j9_10))) / 2 ^ (min 1 (IntKind.bits .u64)))).toNat * 5 + 0)))) (val_ix (enc := c_T_watch_entry) tt_ok rfl rfl rfl rfl p0N0 p0S0 c_T_watch_entry_len rfl x27) rfl ?_
    refine wl_val (v := .agg #[.int .u64 v27.f, .int .u64 v27.own.n, .bool v27.own.is_, .int .u64 v27.other.n, .bool v27.other.is_]) (val_le (enc := c_T_watch_entry) (xs := p0) tt_ok rfl p0S0 rsub_nil c_T_watch_entry_len x27 rfl) rfl ?_
    refine wl_pure tt_ok rfl rfl ?_
    replace h := bsome h; obtain ⟨v30, x30, h⟩ := h
    refine wl_cq Try.call16 rfl rfl rfl (q_pf (k_watch_Watch_at_1 x30) (fun _ _ => trivial)) rfl ?_
    refine wl_pure (v := .bool (decide (v30 < (0 : Int)))) tt_ok rfl rfl ?_
    refine wl_nil (wx_then ?_)
    refine wc_cond rfl (fun hc => ?_) (fun hc => ?_)
    · replace h := ct hc h
      refine wc_region ?_
      refine wl_pure tt_ok rfl rfl ?_
      refine wl_pure (v := .int .i64 (IntKind.wrap .i64 ((IntKind.wrap .i64 ((IntKind.wrap .u64 (IntKind.wrap .i64 (j9_9 + j9_10))) / 2 ^ (min 1 (IntKind.bits .u64)))) + (1 : Int)))) tt_ok rfl rfl ?_
      refine wl_pure tt_ok rfl rfl ?_
      refine wl_nil (wx_block ?_)
      exact wx_round m9 (Nat.lt_succ_self m9) ⟨(IntKind.wrap .i64 ((IntKind.wrap .i64 ((IntKind.wrap .u64 (IntKind.wrap .i64 (j9_9 + j9_10))) / 2 ^ (min 1 (IntKind.bits .u64)))) + (1 : Int))), j9_10, h, rfl, rfl⟩ (agree_cons rfl (agree_cons rfl (agree_cons rfl (agree_cons rfl (agree_cons rfl (agree_cons rfl (agree_cons rfl (agree_cons rfl agree_nil)))))))) (pSub pNil)
    replace h := cf hc h
    refine wc_region ?_
    iterate 2 refine wl_pure tt_ok rfl rfl ?_
    refine wl_nil (wx_block ?_)
    exact wx_round m9 (Nat.lt_succ_self m9) ⟨j9_9, (IntKind.wrap .i64 ((IntKind.wrap .u64 (IntKind.wrap .i64 (j9_9 + j9_10))) / 2 ^ (min 1 (IntKind.bits .u64)))), h, rfl, rfl⟩ (agree_cons rfl (agree_cons rfl (agree_cons rfl (agree_cons rfl (agree_cons rfl (agree_cons rfl (agree_cons rfl (agree_cons rfl agree_nil)))))))) (pSub pNil)
  replace h := cf hc h
  refine wc_exit (wx_then_exit ?_)
  simp only [Option.some.injEq] at h
  obtain rfl := h
  have h := hl9; clear hl9; try dsimp only [orE_l, orE_r] at h
  refine wx_then_exit (wx_block_exit (wx_then (wc_seq (wc_region ?_))))
  iterate 3 refine wl_pure tt_ok rfl rfl ?_
  refine wl_pure (v := .bool (decide (j9_9 < (p0.length : Int)))) tt_ok rfl rfl ?_
  refine wl_pure tt_ok rfl rfl ?_
  replace h := bsome h; obtain ⟨v48, h, hg48⟩ := h
  refine wl_split (t := 39) rfl (fun hc => ?_) (fun hc => ?_)
  · replace h := ct hc h
    refine wl_run rfl ?_
    refine wl_pure tt_ok rfl rfl ?_
    refine wl_run rfl ?_
    refine wl_pure tt_ok rfl rfl ?_
    refine wl_run rfl ?_
    refine wl_pure tt_ok rfl rfl ?_
    replace h := bsome h; obtain ⟨v43, x43, h⟩ := h
    refine wl_run rfl ?_
    refine wl_val (v := .pointer (some ((adOf p0a0).add (j9_9.toNat * 5 + 0)))) (val_ix (enc := c_T_watch_entry) tt_ok rfl rfl rfl rfl p0N0 p0S0 c_T_watch_entry_len rfl x43) rfl ?_
    refine wl_run rfl ?_
    refine wl_val (v := .agg #[.int .u64 v43.f, .int .u64 v43.own.n, .bool v43.own.is_, .int .u64 v43.other.n, .bool v43.other.is_]) (val_le (enc := c_T_watch_entry) (xs := p0) tt_ok rfl p0S0 rsub_nil c_T_watch_entry_len x43 rfl) rfl ?_
    refine wl_run rfl ?_
    refine wl_pure tt_ok rfl rfl ?_
    replace h := bsome h; obtain ⟨v46, x46, h⟩ := h
    refine wl_run rfl ?_
    refine wl_cq Try.call16 rfl rfl rfl (q_pf (k_watch_Watch_at_1 x46) (fun _ _ => trivial)) rfl ?_
    refine wl_run rfl ?_
    refine wl_pure (v := .bool (v46 == (0 : Int))) tt_ok rfl rfl ?_
    simp only [Option.some.injEq, Prod.mk.injEq] at h
    obtain rfl := h
    have h := hg48; clear hg48
    refine wl_pure (v := .bool (v46 == (0 : Int))) tt_ok rfl rfl ?_
    iterate 2 refine wl_pure tt_ok rfl rfl ?_
    refine wl_nil (wx_then (wc_ret ?_))
    simp only [Option.some.injEq, Prod.mk.injEq] at h
    obtain ⟨rfl, rfl⟩ := h
    exact wx_pf tt_ok (.inl rfl) Try.results15 (Res.tmp rfl (Res.tmp rfl Res.nil)) rfl
  replace h := cf hc h
  refine wl_skip rfl rfl ?_
  refine wl_skip rfl rfl ?_
  refine wl_skip rfl rfl ?_
  refine wl_skip rfl rfl ?_
  refine wl_skip rfl rfl ?_
  refine wl_skip rfl rfl ?_
  refine wl_skip rfl rfl ?_
  refine wl_skip rfl rfl ?_
  simp only [Option.some.injEq, Prod.mk.injEq] at h
  obtain rfl := h
  have h := hg48; clear hg48
  refine wl_pure (v := .bool false) tt_ok rfl rfl ?_
  iterate 2 refine wl_pure tt_ok rfl rfl ?_
  refine wl_nil (wx_then (wc_ret ?_))
  simp only [Option.some.injEq, Prod.mk.injEq] at h
  obtain ⟨rfl, rfl⟩ := h
  exact wx_pf tt_ok (.inl rfl) Try.results15 (Res.tmp rfl (Res.tmp rfl Res.nil)) rfl

end Go.Proofs.Ythlnellnlhkphaa
