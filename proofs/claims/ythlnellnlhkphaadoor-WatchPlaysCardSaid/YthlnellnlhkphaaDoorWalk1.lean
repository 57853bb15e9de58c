/-
  Each function computes what its model says. Printed by a program of this claim's own.
-/
import Derived.Test.YthlnellnlhkphaaDoorTab
import Derived.Test.YthlnellnlhkphaaDoorMod
import Derived.Test.YthlnellnlhkphaaDoorIns
namespace Go.Proofs.YthlnellnlhkphaaDoor
open Go.Proofs.YthlnellnlhkphaaDoor.Eng
set_option linter.unusedVariables false
set_option linter.unusedSimpArgs false
set_option maxHeartbeats 4000000
set_option maxRecDepth 20000

theorem k_watch_New {F : Nat} {p0 : Int} {r0 : T_watch_Watch} (h : m_watch_New F p0 = some (some r0)) :
    SpD Tryd.prog 6 [.int .i64 p0] [] (fun w => True) (fun v D => ∃ (r0b : Nat) (r0a0 : Option Addr) (r0n0 : Nat) (r0c0 : Nat) (r0B0 : List Blk), r0n0 = r0.l.length ∧ Own 73 5 r0a0 r0n0 r0c0 (flat c_T_watch_entry r0.l) r0B0 ∧ v = .pointer (some ⟨r0b, 0, none⟩) ∧ D = fun F => (⟨r0b, [.int .u64 r0.rows, .slice r0a0 r0n0 r0c0, .bool r0.clashed], 56, (0, 0)⟩ :: (r0B0 ++ F))) := by
  unfold m_watch_New at h
  refine sp_of_wc Tryd.func6 rfl Tryd.ntmps6 rfl rfl (fun w0 hR => ?_)
  refine wc_seq (wc_region ?_)
  refine wl_pure tt_ok rfl rfl ?_
  refine wl_nil (wx_then (wc_seq (wc_seq (wc_region ?_))))
  refine wl_pure tt_ok rfl rfl ?_
  refine wl_pure (v := .bool (decide (p0 < (1 : Int)))) tt_ok rfl rfl ?_
  refine wl_pure tt_ok rfl rfl ?_
  replace h := bsome h; obtain ⟨v8, h, hg8⟩ := h
  refine wl_split (t := 5) rfl (fun hc => ?_) (fun hc => ?_)
  · replace h := ct hc h
    refine wl_skip rfl rfl ?_
    refine wl_skip rfl rfl ?_
    simp only [Option.some.injEq, Prod.mk.injEq] at h
    obtain rfl := h
    have h := hg8; clear hg8
    refine wl_pure (v := .bool true) tt_ok rfl rfl ?_
    refine wl_nil (wx_then ?_)
    replace h := ct rfl h
    refine wc_cond_true rfl ?_
    refine wc_seq (wc_region ?_)
    refine wl_pure tt_ok rfl rfl ?_
    refine wl_nil (wx_then (wc_ret (wx_then_ret ?_)))
    first | (cases h; done) | simp at h
  replace h := cf hc h
  refine wl_run rfl ?_
  refine wl_pure tt_ok rfl rfl ?_
  refine wl_run rfl ?_
  refine wl_pure (v := .bool (decide ((256 : Int) < p0))) tt_ok rfl rfl ?_
  simp only [Option.some.injEq, Prod.mk.injEq] at h
  obtain rfl := h
  have h := hg8; clear hg8
  refine wl_pure (v := .bool (decide ((256 : Int) < p0))) tt_ok rfl rfl ?_
  refine wl_nil (wx_then ?_)
  refine wc_cond rfl (fun hc => ?_) (fun hc => ?_)
  · replace h := ct hc h
    refine wc_seq (wc_region ?_)
    refine wl_pure tt_ok rfl rfl ?_
    refine wl_nil (wx_then (wc_ret (wx_then_ret ?_)))
    first | (cases h; done) | simp at h
  replace h := cf hc h
  refine wc_skip (wx_then (wc_seq (wc_region ?_)))
  refine wl_pure tt_ok rfl rfl ?_
  refine wl_pure (v := .int .u64 (IntKind.wrap .u64 p0)) tt_ok rfl rfl ?_
  refine wl_pure (v := .agg #[.int .u64 (IntKind.wrap .u64 p0), .slice none 0 0, .bool false]) tt_ok rfl rfl ?_
  refine wl_box rfl rfl rfl (fun b12 => ?_)
  refine wl_pure tt_ok rfl rfl ?_
  refine wl_nil (wx_then (wc_ret ?_))
  simp only [Option.some.injEq] at h
  obtain rfl := h
  exact wx_spD tt_ok (.inl rfl) Tryd.results6 (Res.tmp rfl Res.nil) ⟨b12, none, 0, 0, [], rfl, Own.zero, rfl, rfl⟩ (fun F => by simp) (pSub (pCons Sel.hc (pNo pNil)))

theorem k_watch_New_none {F : Nat} {p0 : Int} (h : m_watch_New F p0 = some none) :
    SpD Tryd.prog 6 [.int .i64 p0] [] (fun w => True) (fun v D => v = .pointer none ∧ D = fun F => F) := by
  unfold m_watch_New at h
  refine sp_of_wc Tryd.func6 rfl Tryd.ntmps6 rfl rfl (fun w0 hR => ?_)
  refine wc_seq (wc_region ?_)
  refine wl_pure tt_ok rfl rfl ?_
  refine wl_nil (wx_then (wc_seq (wc_seq (wc_region ?_))))
  refine wl_pure tt_ok rfl rfl ?_
  refine wl_pure (v := .bool (decide (p0 < (1 : Int)))) tt_ok rfl rfl ?_
  refine wl_pure tt_ok rfl rfl ?_
  replace h := bsome h; obtain ⟨v8, h, hg8⟩ := h
  refine wl_split (t := 5) rfl (fun hc => ?_) (fun hc => ?_)
  · replace h := ct hc h
    refine wl_skip rfl rfl ?_
    refine wl_skip rfl rfl ?_
    simp only [Option.some.injEq, Prod.mk.injEq] at h
    obtain rfl := h
    have h := hg8; clear hg8
    refine wl_pure (v := .bool true) tt_ok rfl rfl ?_
    refine wl_nil (wx_then ?_)
    replace h := ct rfl h
    refine wc_cond_true rfl ?_
    refine wc_seq (wc_region ?_)
    refine wl_pure tt_ok rfl rfl ?_
    refine wl_nil (wx_then (wc_ret (wx_then_ret ?_)))
    simp only [Option.some.injEq] at h
    exact wx_spD tt_ok (.inl rfl) Tryd.results6 (Res.tmp rfl Res.nil) ⟨rfl, rfl⟩ (fun F => by simp) (pSub pNil)
  replace h := cf hc h
  refine wl_run rfl ?_
  refine wl_pure tt_ok rfl rfl ?_
  refine wl_run rfl ?_
  refine wl_pure (v := .bool (decide ((256 : Int) < p0))) tt_ok rfl rfl ?_
  simp only [Option.some.injEq, Prod.mk.injEq] at h
  obtain rfl := h
  have h := hg8; clear hg8
  refine wl_pure (v := .bool (decide ((256 : Int) < p0))) tt_ok rfl rfl ?_
  refine wl_nil (wx_then ?_)
  refine wc_cond rfl (fun hc => ?_) (fun hc => ?_)
  · replace h := ct hc h
    refine wc_seq (wc_region ?_)
    refine wl_pure tt_ok rfl rfl ?_
    refine wl_nil (wx_then (wc_ret (wx_then_ret ?_)))
    simp only [Option.some.injEq] at h
    exact wx_spD tt_ok (.inl rfl) Tryd.results6 (Res.tmp rfl Res.nil) ⟨rfl, rfl⟩ (fun F => by simp) (pSub pNil)
  replace h := cf hc h
  refine wc_skip (wx_then (wc_seq (wc_region ?_)))
  refine wl_pure tt_ok rfl rfl ?_
  refine wl_pure (v := .int .u64 (IntKind.wrap .u64 p0)) tt_ok rfl rfl ?_
  refine wl_pure (v := .agg #[.int .u64 (IntKind.wrap .u64 p0), .slice none 0 0, .bool false]) tt_ok rfl rfl ?_
  refine wl_box rfl rfl rfl (fun b12 => ?_)
  refine wl_pure tt_ok rfl rfl ?_
  refine wl_nil (wx_then (wc_ret ?_))
  first | (cases h; done) | simp at h

theorem k_hindcastref29_May {F : Nat} {p0 : Int} {r0 : Bool} (h : m_hindcastref29_May F p0 = some r0) :
    Pf Tryd.prog 7 [.int .i64 p0] (fun w => True) (.bool r0) := by
  unfold m_hindcastref29_May at h
  refine pf_of_wc Tryd.func7 rfl Tryd.ntmps7 rfl rfl (fun w0 hR => ?_)
  refine wc_seq (wc_region ?_)
  refine wl_pure tt_ok rfl rfl ?_
  refine wl_nil (wx_then (wc_seq (wc_region ?_)))
  refine wl_pure tt_ok rfl rfl ?_
  refine wl_pure (v := .bool (decide ((1 : Int) ≤ p0))) tt_ok rfl rfl ?_
  refine wl_pure tt_ok rfl rfl ?_
  replace h := bsome h; obtain ⟨v8, h, hg8⟩ := h
  refine wl_split (t := 5) rfl (fun hc => ?_) (fun hc => ?_)
  · replace h := ct hc h
    refine wl_run rfl ?_
    refine wl_pure tt_ok rfl rfl ?_
    refine wl_run rfl ?_
    refine wl_pure (v := .bool (decide (p0 ≤ (256 : Int)))) tt_ok rfl rfl ?_
    simp only [Option.some.injEq, Prod.mk.injEq] at h
    obtain rfl := h
    have h := hg8; clear hg8
    refine wl_pure (v := .bool (decide (p0 ≤ (256 : Int)))) tt_ok rfl rfl ?_
    refine wl_pure tt_ok rfl rfl ?_
    refine wl_nil (wx_then (wc_ret ?_))
    simp only [Option.some.injEq] at h
    obtain rfl := h
    exact wx_pf tt_ok (.inl rfl) Tryd.results7 (Res.tmp rfl Res.nil) rfl
  replace h := cf hc h
  refine wl_skip rfl rfl ?_
  refine wl_skip rfl rfl ?_
  simp only [Option.some.injEq, Prod.mk.injEq] at h
  obtain rfl := h
  have h := hg8; clear hg8
  refine wl_pure (v := .bool false) tt_ok rfl rfl ?_
  refine wl_pure tt_ok rfl rfl ?_
  refine wl_nil (wx_then (wc_ret ?_))
  simp only [Option.some.injEq] at h
  obtain rfl := h
  exact wx_pf tt_ok (.inl rfl) Tryd.results7 (Res.tmp rfl Res.nil) rfl

theorem k_watch_Watch_is_nil0 {F : Nat} {r0 : Bool} (h : m_watch_Watch_is_nil0 F = some r0) :
    Pf Tryd.prog 24 [.pointer none] (fun w => True) (.bool r0) := by
  unfold m_watch_Watch_is_nil0 at h
  refine pf_of_wc Tryd.func24 rfl Tryd.ntmps24 rfl rfl (fun w0 hR => ?_)
  refine wc_seq (wc_region ?_)
  refine wl_pure tt_ok rfl rfl ?_
  refine wl_nil (wx_then (wc_seq (wc_region ?_)))
  refine wl_pure tt_ok rfl rfl ?_
  refine wl_pure (v := .bool false) tt_ok rfl rfl ?_
  refine wl_pure tt_ok rfl rfl ?_
  refine wl_skip rfl rfl ?_
  refine wl_skip rfl rfl ?_
  refine wl_skip rfl rfl ?_
  refine wl_skip rfl rfl ?_
  refine wl_skip rfl rfl ?_
  refine wl_pure (v := .bool false) tt_ok rfl rfl ?_
  refine wl_pure tt_ok rfl rfl ?_
  refine wl_nil (wx_then (wc_ret ?_))
  simp only [Option.some.injEq] at h
  obtain rfl := h
  exact wx_pf tt_ok (.inl rfl) Tryd.results24 (Res.tmp rfl Res.nil) rfl

theorem k_watch_Watch_told_nil0_f3_watch_ownSide {F : Nat} {p1 : Int} {p2 : Int} {r0 : Int} (h : m_watch_Watch_told_nil0_f3_watch_ownSide F p1 p2 = some r0) :
    Pf Tryd.prog 25 [.pointer none, .int .u64 p1, .int .u64 p2, .func (.func 26) #[] #[]] (fun w => True) (.int .i64 r0) := by
  unfold m_watch_Watch_told_nil0_f3_watch_ownSide at h
  refine pf_of_wc Tryd.func25 rfl Tryd.ntmps25 rfl rfl (fun w0 hR => ?_)
  refine wc_seq (wc_region ?_)
  refine wl_pure tt_ok rfl rfl ?_
  refine wl_nil (wx_then (wc_seq (wc_block (wc_seq (wc_region ?_)))))
  refine wl_pure tt_ok rfl rfl ?_
  replace h := bsome h; obtain ⟨v13, x13, h⟩ := h
  refine wl_cq Tryd.call24 rfl rfl rfl (q_pf (k_watch_Watch_is_nil0 x13) (fun _ _ => trivial)) rfl ?_
  refine wl_pure (v := .bool (!v13)) tt_ok rfl rfl ?_
  refine wl_pure tt_ok rfl rfl ?_
  refine wl_nil (wx_then ?_)
  refine wc_cond rfl (fun hc => ?_) (fun hc => ?_)
  · replace h := ct hc h
    refine wc_seq (wc_region ?_)
    refine wl_pure tt_ok rfl rfl ?_
    refine wl_nil (wx_then (wc_ret (wx_block_ret (wx_then_ret ?_))))
    simp only [Option.some.injEq] at h
    obtain rfl := h
    exact wx_pf tt_ok (.inl rfl) Tryd.results25 (Res.tmp rfl Res.nil) rfl
  replace h := cf hc h
  refine wc_seq (wc_region ?_)
  iterate 2 refine wl_pure tt_ok rfl rfl ?_
  cases h

theorem k_watch_Watch_Own_nil0 {F : Nat} {p1 : Int} {p2 : Int} {r0 : Int} (h : m_watch_Watch_Own_nil0 F p1 p2 = some r0) :
    Pf Tryd.prog 16 [.pointer none, .int .u64 p1, .int .u64 p2] (fun w => True) (.int .i64 r0) := by
  unfold m_watch_Watch_Own_nil0 at h
  refine pf_of_wc Tryd.func16 rfl Tryd.ntmps16 rfl rfl (fun w0 hR => ?_)
  refine wc_seq (wc_region ?_)
  refine wl_pure tt_ok rfl rfl ?_
  refine wl_nil (wx_then (wc_seq (wc_region ?_)))
  iterate 3 refine wl_pure tt_ok rfl rfl ?_
  replace h := bsome h; obtain ⟨v10, x10, h⟩ := h
  refine wl_cq Tryd.call25 rfl rfl rfl (q_pf (k_watch_Watch_told_nil0_f3_watch_ownSide x10) (fun _ _ => trivial)) rfl ?_
  refine wl_pure tt_ok rfl rfl ?_
  refine wl_nil (wx_then (wc_ret ?_))
  simp only [Option.some.injEq] at h
  obtain rfl := h
  exact wx_pf tt_ok (.inl rfl) Tryd.results16 (Res.tmp rfl Res.nil) rfl

theorem k_watch_Watch_told_nil0_f3_watch_otherSide {F : Nat} {p1 : Int} {p2 : Int} {r0 : Int} (h : m_watch_Watch_told_nil0_f3_watch_otherSide F p1 p2 = some r0) :
    Pf Tryd.prog 25 [.pointer none, .int .u64 p1, .int .u64 p2, .func (.func 27) #[] #[]] (fun w => True) (.int .i64 r0) := by
  unfold m_watch_Watch_told_nil0_f3_watch_otherSide at h
  refine pf_of_wc Tryd.func25 rfl Tryd.ntmps25 rfl rfl (fun w0 hR => ?_)
  refine wc_seq (wc_region ?_)
  refine wl_pure tt_ok rfl rfl ?_
  refine wl_nil (wx_then (wc_seq (wc_block (wc_seq (wc_region ?_)))))
  refine wl_pure tt_ok rfl rfl ?_
  replace h := bsome h; obtain ⟨v13, x13, h⟩ := h
  refine wl_cq Tryd.call24 rfl rfl rfl (q_pf (k_watch_Watch_is_nil0 x13) (fun _ _ => trivial)) rfl ?_
  refine wl_pure (v := .bool (!v13)) tt_ok rfl rfl ?_
  refine wl_pure tt_ok rfl rfl ?_
  refine wl_nil (wx_then ?_)
  refine wc_cond rfl (fun hc => ?_) (fun hc => ?_)
  · replace h := ct hc h
    refine wc_seq (wc_region ?_)
    refine wl_pure tt_ok rfl rfl ?_
    refine wl_nil (wx_then (wc_ret (wx_block_ret (wx_then_ret ?_))))
    simp only [Option.some.injEq] at h
    obtain rfl := h
    exact wx_pf tt_ok (.inl rfl) Tryd.results25 (Res.tmp rfl Res.nil) rfl
  replace h := cf hc h
  refine wc_seq (wc_region ?_)
  iterate 2 refine wl_pure tt_ok rfl rfl ?_
  cases h

theorem k_watch_Watch_Other_nil0 {F : Nat} {p1 : Int} {p2 : Int} {r0 : Int} (h : m_watch_Watch_Other_nil0 F p1 p2 = some r0) :
    Pf Tryd.prog 17 [.pointer none, .int .u64 p1, .int .u64 p2] (fun w => True) (.int .i64 r0) := by
  unfold m_watch_Watch_Other_nil0 at h
  refine pf_of_wc Tryd.func17 rfl Tryd.ntmps17 rfl rfl (fun w0 hR => ?_)
  refine wc_seq (wc_region ?_)
  refine wl_pure tt_ok rfl rfl ?_
  refine wl_nil (wx_then (wc_seq (wc_region ?_)))
  iterate 3 refine wl_pure tt_ok rfl rfl ?_
  replace h := bsome h; obtain ⟨v10, x10, h⟩ := h
  refine wl_cq Tryd.call25 rfl rfl rfl (q_pf (k_watch_Watch_told_nil0_f3_watch_otherSide x10) (fun _ _ => trivial)) rfl ?_
  refine wl_pure tt_ok rfl rfl ?_
  refine wl_nil (wx_then (wc_ret ?_))
  simp only [Option.some.injEq] at h
  obtain rfl := h
  exact wx_pf tt_ok (.inl rfl) Tryd.results17 (Res.tmp rfl Res.nil) rfl

theorem k_watch_Watch_is {F : Nat} {p0 : T_watch_Watch} {p0b p0t : Nat} {p0a0 : Option Addr} {p0n0 : Nat} {p0c0 : Nat} {p0B0 : List Blk} {r0 : Bool} (p0N0 : p0n0 = p0.l.length) (p0V0 : Own 73 5 p0a0 p0n0 p0c0 (flat c_T_watch_entry p0.l) p0B0) (h : m_watch_Watch_is F p0 = some r0) :
    Rd2 Tryd.prog 24 [.pointer (some ⟨p0b, 0, none⟩)] (⟨p0b, [.int .u64 p0.rows, .slice p0a0 p0n0 p0c0, .bool p0.clashed], p0t, (0, 0)⟩ :: (p0B0 ++ [])) (fun w => True) (.bool r0) := by
  unfold m_watch_Watch_is at h
  refine sp_of_wc Tryd.func24 rfl Tryd.ntmps24 rfl rfl (fun w0 hR => ?_)
  refine wc_seq (wc_region ?_)
  refine wl_pure tt_ok rfl rfl ?_
  refine wl_nil (wx_then (wc_seq (wc_region ?_)))
  refine wl_pure tt_ok rfl rfl ?_
  refine wl_pure (v := .bool true) tt_ok rfl rfl ?_
  refine wl_pure tt_ok rfl rfl ?_
  refine wl_run rfl ?_
  refine wl_pure tt_ok rfl rfl ?_
  refine wl_run rfl ?_
  refine wl_pure tt_ok rfl rfl ?_
  refine wl_run rfl ?_
  refine wl_pure (v := .pointer (some ⟨p0b, 0, none⟩)) tt_ok rfl rfl ?_
  refine wl_run rfl ?_
  refine wl_val (v := .int .u64 p0.rows) (val_load tt_ok rfl (List.Mem.head _) rfl) rfl ?_
  refine wl_run rfl ?_
  refine wl_pure (v := .bool (decide ((0 : Int) < p0.rows))) tt_ok rfl rfl ?_
  refine wl_pure (v := .bool (decide ((0 : Int) < p0.rows))) tt_ok rfl rfl ?_
  refine wl_pure tt_ok rfl rfl ?_
  refine wl_nil (wx_then (wc_ret ?_))
  simp only [Option.some.injEq] at h
  obtain rfl := h
  exact wx_rd tt_ok (.inl rfl) Tryd.results24 (Res.tmp rfl Res.nil) (pSub (pCons Sel.hc (pApp Sel.ha pNil))) rfl

theorem k_cmp_isNaN_uint64 {F : Nat} {p0 : Int} {r0 : Bool} (h : m_cmp_isNaN_uint64 F p0 = some r0) :
    Pf Tryd.prog 88 [.int .u64 p0] (fun w => True) (.bool r0) := by
  unfold m_cmp_isNaN_uint64 at h
  refine pf_of_wc Tryd.func88 rfl Tryd.ntmps88 rfl rfl (fun w0 hR => ?_)
  refine wc_seq (wc_region ?_)
  refine wl_pure tt_ok rfl rfl ?_
  refine wl_nil (wx_then (wc_seq (wc_region ?_)))
  iterate 2 refine wl_pure tt_ok rfl rfl ?_
  refine wl_pure (v := .bool (p0 != p0)) tt_ok rfl rfl ?_
  refine wl_pure tt_ok rfl rfl ?_
  refine wl_nil (wx_then (wc_ret ?_))
  simp only [Option.some.injEq] at h
  obtain rfl := h
  exact wx_pf tt_ok (.inl rfl) Tryd.results88 (Res.tmp rfl Res.nil) rfl

theorem k_cmp_Compare_uint64 {F : Nat} {p0 : Int} {p1 : Int} {r0 : Int} (h : m_cmp_Compare_uint64 F p0 p1 = some r0) :
    Pf Tryd.prog 71 [.int .u64 p0, .int .u64 p1] (fun w => True) (.int .i64 r0) := by
  unfold m_cmp_Compare_uint64 at h
  refine pf_of_wc Tryd.func71 rfl Tryd.ntmps71 rfl rfl (fun w0 hR => ?_)
  refine wc_seq (wc_region ?_)
  refine wl_pure tt_ok rfl rfl ?_
  refine wl_nil (wx_then (wc_seq (wc_region ?_)))
  refine wl_pure tt_ok rfl rfl ?_
  replace h := bsome h; obtain ⟨v8, x8, h⟩ := h
  refine wl_cq Tryd.call88 rfl rfl rfl (q_pf (k_cmp_isNaN_uint64 x8) (fun _ _ => trivial)) rfl ?_
  refine wl_pure tt_ok rfl rfl ?_
  refine wl_nil (wx_then (wc_seq (wc_region ?_)))
  refine wl_pure tt_ok rfl rfl ?_
  replace h := bsome h; obtain ⟨v10, x10, h⟩ := h
  refine wl_cq Tryd.call88 rfl rfl rfl (q_pf (k_cmp_isNaN_uint64 x10) (fun _ _ => trivial)) rfl ?_
  refine wl_pure tt_ok rfl rfl ?_
  refine wl_nil (wx_then (wc_seq (wc_seq (wc_region ?_))))
  refine wl_pure tt_ok rfl rfl ?_
  refine wl_nil (wx_then ?_)
  refine wc_cond rfl (fun hc => ?_) (fun hc => ?_)
  · replace h := ct hc h
    refine wc_seq (wc_seq (wc_region ?_))
    refine wl_pure tt_ok rfl rfl ?_
    refine wl_nil (wx_then ?_)
    refine wc_cond rfl (fun hc => ?_) (fun hc => ?_)
    · replace h := ct hc h
      refine wc_seq (wc_region ?_)
      refine wl_pure tt_ok rfl rfl ?_
      refine wl_nil (wx_then (wc_ret (wx_then_ret (wx_then_ret ?_))))
      simp only [Option.some.injEq] at h
      obtain rfl := h
      exact wx_pf tt_ok (.inl rfl) Tryd.results71 (Res.tmp rfl Res.nil) rfl
    replace h := cf hc h
    refine wc_skip (wx_then (wc_seq (wc_region ?_)))
    refine wl_pure tt_ok rfl rfl ?_
    refine wl_nil (wx_then (wc_ret (wx_then_ret ?_)))
    simp only [Option.some.injEq] at h
    obtain rfl := h
    exact wx_pf tt_ok (.inl rfl) Tryd.results71 (Res.tmp rfl Res.nil) rfl
  replace h := cf hc h
  refine wc_skip (wx_then (wc_seq (wc_seq (wc_region ?_))))
  refine wl_pure tt_ok rfl rfl ?_
  refine wl_nil (wx_then ?_)
  refine wc_cond rfl (fun hc => ?_) (fun hc => ?_)
  · replace h := ct hc h
    refine wc_seq (wc_region ?_)
    refine wl_pure tt_ok rfl rfl ?_
    refine wl_nil (wx_then (wc_ret (wx_then_ret ?_)))
    simp only [Option.some.injEq] at h
    obtain rfl := h
    exact wx_pf tt_ok (.inl rfl) Tryd.results71 (Res.tmp rfl Res.nil) rfl
  replace h := cf hc h
  refine wc_skip (wx_then (wc_seq (wc_seq (wc_region ?_))))
  iterate 2 refine wl_pure tt_ok rfl rfl ?_
  refine wl_pure (v := .bool (decide (p0 < p1))) tt_ok rfl rfl ?_
  refine wl_nil (wx_then ?_)
  refine wc_cond rfl (fun hc => ?_) (fun hc => ?_)
  · replace h := ct hc h
    refine wc_seq (wc_region ?_)
    refine wl_pure tt_ok rfl rfl ?_
    refine wl_nil (wx_then (wc_ret (wx_then_ret ?_)))
    simp only [Option.some.injEq] at h
    obtain rfl := h
    exact wx_pf tt_ok (.inl rfl) Tryd.results71 (Res.tmp rfl Res.nil) rfl
  replace h := cf hc h
  refine wc_skip (wx_then (wc_seq (wc_seq (wc_region ?_))))
  iterate 2 refine wl_pure tt_ok rfl rfl ?_
  refine wl_pure (v := .bool (decide (p1 < p0))) tt_ok rfl rfl ?_
  refine wl_nil (wx_then ?_)
  refine wc_cond rfl (fun hc => ?_) (fun hc => ?_)
  · replace h := ct hc h
    refine wc_seq (wc_region ?_)
    refine wl_pure tt_ok rfl rfl ?_
    refine wl_nil (wx_then (wc_ret (wx_then_ret ?_)))
    simp only [Option.some.injEq] at h
    obtain rfl := h
    exact wx_pf tt_ok (.inl rfl) Tryd.results71 (Res.tmp rfl Res.nil) rfl
  replace h := cf hc h
  refine wc_skip (wx_then (wc_seq (wc_region ?_)))
  refine wl_pure tt_ok rfl rfl ?_
  refine wl_nil (wx_then (wc_ret ?_))
  simp only [Option.some.injEq] at h
  obtain rfl := h
  exact wx_pf tt_ok (.inl rfl) Tryd.results71 (Res.tmp rfl Res.nil) rfl

theorem k_watch_Watch_at_1 {F : Nat} {p0 : T_watch_entry} {p1 : Int} {r0 : Int} (h : m_watch_Watch_at_1 F p0 p1 = some r0) :
    Pf Tryd.prog 70 [.agg #[.int .u64 p0.f, .int .u64 p0.own.n, .bool p0.own.is_, .int .u64 p0.other.n, .bool p0.other.is_], .int .u64 p1] (fun w => True) (.int .i64 r0) := by
  unfold m_watch_Watch_at_1 at h
  refine pf_of_wc Tryd.func70 rfl Tryd.ntmps70 rfl rfl (fun w0 hR => ?_)
  refine wc_seq (wc_region ?_)
  refine wl_box rfl rfl rfl (fun b2 => ?_)
  refine wl_pure tt_ok rfl rfl ?_
  refine wl_nil (wx_then (wc_seq (wc_region ?_)))
  refine wl_pure (v := .pointer (some ⟨b2, 0, none⟩)) tt_ok rfl rfl ?_
  refine wl_val (v := .int .u64 p0.f) (val_load tt_ok rfl (List.Mem.head _) rfl) rfl ?_
  refine wl_pure tt_ok rfl rfl ?_
  replace h := bsome h; obtain ⟨v8, x8, h⟩ := h
  refine wl_cq Tryd.call71 rfl rfl rfl (q_pf (k_cmp_Compare_uint64 x8) (fun _ _ => trivial)) rfl ?_
  refine wl_pure tt_ok rfl rfl ?_
  refine wl_nil (wx_then (wc_ret ?_))
  simp only [Option.some.injEq] at h
  obtain rfl := h
  exact wx_pf tt_ok (.inl rfl) Tryd.results70 (Res.tmp rfl Res.nil) rfl

theorem k_slices_BinarySearchFunc___watch_entry_watch_entry_uint64_f2_watch_Watch_at_1 {F : Nat} {p0 : (List T_watch_entry)} {p0a0 : Option Addr} {p0n0 p0c0 : Nat} {p1 : Int} {r0 : Int} {r1 : Bool} (p0N0 : p0n0 = p0.length) (p0H0 : p0n0 ≤ p0c0) (h : m_slices_BinarySearchFunc___watch_entry_watch_entry_uint64_f2_watch_Watch_at_1 F p0 p1 = some (r0, r1)) :
    Pf Tryd.prog 69 [.slice p0a0 p0n0 p0c0, .int .u64 p1, .func (.func 70) #[] #[]] (fun w => Rds w [] [] p0a0 (flat c_T_watch_entry p0)) (.tuple #[.int .i64 r0, .bool r1]) := by
  unfold m_slices_BinarySearchFunc___watch_entry_watch_entry_uint64_f2_watch_Watch_at_1 at h
  refine pf_of_wc Tryd.func69 rfl Tryd.ntmps69 rfl rfl (fun w0 hR => ?_)
  have p0S0 := hR
  refine wc_seq (wc_region ?_)
  iterate 2 refine wl_pure tt_ok rfl rfl ?_
  refine wl_nil (wx_then (wc_seq (wc_region ?_)))
  refine wl_pure tt_ok rfl rfl ?_
  refine wl_val (v := .int .i64 (p0.length : Int)) (val_len tt_ok rfl rfl p0N0) rfl ?_
  refine wl_pure tt_ok rfl rfl ?_
  refine wl_nil (wx_then (wc_seq (wc_region ?_)))
  iterate 3 refine wl_pure tt_ok rfl rfl ?_
  refine wl_nil (wx_then (wc_seq (wc_block ?_)))
  replace h := bsome h; obtain ⟨l9_9, h, hl9⟩ := h
  refine wc_loop (fun m E L => ∃ (j9_9 : Int) (j9_10 : Int), m_slices_BinarySearchFunc___watch_entry_watch_entry_uint64_f2_watch_Watch_at_1_L8 F p0 p1 m j9_9 j9_10 = some l9_9 ∧ E = [(0, .slice p0a0 p0n0 p0c0), (1, .int .u64 p1), (2, .func (.func 70) #[] #[]), (6, .int .i64 (0 : Int)), (7, .bool false), (8, .int .i64 (p0.length : Int)), (9, .int .i64 j9_9), (10, .int .i64 j9_10)] ∧ L = []) F ⟨(0 : Int), (p0.length : Int), h, rfl, rfl⟩ (agree_cons rfl (agree_cons rfl (agree_cons rfl (agree_cons rfl (agree_cons rfl (agree_cons rfl (agree_cons rfl (agree_cons rfl agree_nil)))))))) (pSub pNil) ?_
  clear h
  rintro m9 _ _ ⟨j9_9, j9_10, h, rfl, rfl⟩
  rcases m9 with _ | m9
  · rw [m_slices_BinarySearchFunc___watch_entry_watch_entry_uint64_f2_watch_Watch_at_1_L8.eq_1] at h; cases h
  rw [m_slices_BinarySearchFunc___watch_entry_watch_entry_uint64_f2_watch_Watch_at_1_L8.eq_2] at h
  refine wc_seq (wc_seq (wc_region ?_))
  iterate 2 refine wl_pure tt_ok rfl rfl ?_
  refine wl_pure (v := .bool (decide (j9_9 < j9_10))) tt_ok rfl rfl ?_
  refine wl_nil (wx_then ?_)
  refine wc_cond rfl (fun hc => ?_) (fun hc => ?_)
  · replace h := ct hc h
    refine wc_skip (wx_then (wc_block (wc_seq (wc_region ?_))))
    iterate 2 refine wl_pure tt_ok rfl rfl ?_
    refine wl_pure (v := .int .i64 (IntKind.wrap .i64 (j9_9 + j9_10))) tt_ok rfl rfl ?_
    refine wl_pure (v := .int .u64 (IntKind.wrap .u64 (IntKind.wrap .i64 (j9_9 + j9_10)))) tt_ok rfl rfl ?_
    refine wl_pure (v := .int .u64 ((IntKind.wrap .u64 (IntKind.wrap .i64 (j9_9 + j9_10))) / 2 ^ (min 1 (IntKind.bits .u64)))) tt_ok rfl rfl ?_
    refine wl_pure (v := .int .i64 (IntKind.wrap .i64 ((IntKind.wrap .u64 (IntKind.wrap .i64 (j9_9 + j9_10))) / 2 ^ (min 1 (IntKind.bits .u64))))) tt_ok rfl rfl ?_
    refine wl_pure tt_ok rfl rfl ?_
    refine wl_nil (wx_then (wc_seq (wc_region ?_)))
    iterate 3 refine wl_pure tt_ok rfl rfl ?_
    replace h := bsome h; obtain ⟨v27, x27, h⟩ := h
    refine wl_val (v := .pointer (some ((adOf p0a0).add ((IntKind.wrap .i64 ((IntKind.wrap .u64 (IntKind.wrap .i64 (j9_9 + j9_10))) / 2 ^ (min 1 (IntKind.bits .u64)))).toNat * 5 + 0)))) (val_ix (enc := c_T_watch_entry) tt_ok rfl rfl rfl rfl p0N0 p0S0 c_T_watch_entry_len rfl x27) rfl ?_
    refine wl_val (v := .agg #[.int .u64 v27.f, .int .u64 v27.own.n, .bool v27.own.is_, .int .u64 v27.other.n, .bool v27.other.is_]) (val_le (enc := c_T_watch_entry) (xs := p0) tt_ok rfl p0S0 rsub_nil c_T_watch_entry_len x27 rfl) rfl ?_
    refine wl_pure tt_ok rfl rfl ?_
    replace h := bsome h; obtain ⟨v30, x30, h⟩ := h
    refine wl_cq Tryd.call70 rfl rfl rfl (q_pf (k_watch_Watch_at_1 x30) (fun _ _ => trivial)) rfl ?_
    refine wl_pure (v := .bool (decide (v30 < (0 : Int)))) tt_ok rfl rfl ?_
    refine wl_nil (wx_then ?_)
    refine wc_cond rfl (fun hc => ?_) (fun hc => ?_)
    · replace h := ct hc h
      refine wc_region ?_
      refine wl_pure tt_ok rfl rfl ?_
      refine wl_pure (v := .int .i64 (IntKind.wrap .i64 ((IntKind.wrap .i64 ((IntKind.wrap .u64 (IntKind.wrap .i64 (j9_9 + j9_10))) / 2 ^ (min 1 (IntKind.bits .u64)))) + (1 : Int)))) tt_ok rfl rfl ?_
      refine wl_pure tt_ok rfl rfl ?_
      refine wl_nil (wx_block ?_)
      exact wx_round m9 (Nat.lt_succ_self m9) ⟨(IntKind.wrap .i64 ((IntKind.wrap .i64 ((IntKind.wrap .u64 (IntKind.wrap .i64 (j9_9 + j9_10))) / 2 ^ (min 1 (IntKind.bits .u64)))) + (1 : Int))), j9_10, h, rfl, rfl⟩ (agree_cons rfl (agree_cons rfl (agree_cons rfl (agree_cons rfl (agree_cons rfl (agree_cons rfl (agree_cons rfl (agree_cons rfl agree_nil)))))))) (pSub pNil)
    replace h := cf hc h
    refine wc_region ?_
    iterate 2 refine wl_pure tt_ok rfl rfl ?_
    refine wl_nil (wx_block ?_)
    exact wx_round m9 (Nat.lt_succ_self m9) ⟨j9_9, (IntKind.wrap .i64 ((IntKind.wrap .u64 (IntKind.wrap .i64 (j9_9 + j9_10))) / 2 ^ (min 1 (IntKind.bits .u64)))), h, rfl, rfl⟩ (agree_cons rfl (agree_cons rfl (agree_cons rfl (agree_cons rfl (agree_cons rfl (agree_cons rfl (agree_cons rfl (agree_cons rfl agree_nil)))))))) (pSub pNil)
  replace h := cf hc h
  refine wc_exit (wx_then_exit ?_)
  simp only [Option.some.injEq] at h
  obtain rfl := h
  have h := hl9; clear hl9; try dsimp only [orE_l, orE_r] at h
  refine wx_then_exit (wx_block_exit (wx_then (wc_seq (wc_region ?_))))
  iterate 3 refine wl_pure tt_ok rfl rfl ?_
  refine wl_pure (v := .bool (decide (j9_9 < (p0.length : Int)))) tt_ok rfl rfl ?_
  refine wl_pure tt_ok rfl rfl ?_
  replace h := bsome h; obtain ⟨v48, h, hg48⟩ := h
  refine wl_split (t := 39) rfl (fun hc => ?_) (fun hc => ?_)
  · replace h := ct hc h
    refine wl_run rfl ?_
    refine wl_pure tt_ok rfl rfl ?_
    refine wl_run rfl ?_
    refine wl_pure tt_ok rfl rfl ?_
    refine wl_run rfl ?_
    refine wl_pure tt_ok rfl rfl ?_
    replace h := bsome h; obtain ⟨v43, x43, h⟩ := h
    refine wl_run rfl ?_
    refine wl_val (v := .pointer (some ((adOf p0a0).add (j9_9.toNat * 5 + 0)))) (val_ix (enc := c_T_watch_entry) tt_ok rfl rfl rfl rfl p0N0 p0S0 c_T_watch_entry_len rfl x43) rfl ?_
    refine wl_run rfl ?_
    refine wl_val (v := .agg #[.int .u64 v43.f, .int .u64 v43.own.n, .bool v43.own.is_, .int .u64 v43.other.n, .bool v43.other.is_]) (val_le (enc := c_T_watch_entry) (xs := p0) tt_ok rfl p0S0 rsub_nil c_T_watch_entry_len x43 rfl) rfl ?_
    refine wl_run rfl ?_
    refine wl_pure tt_ok rfl rfl ?_
    replace h := bsome h; obtain ⟨v46, x46, h⟩ := h
    refine wl_run rfl ?_
    refine wl_cq Tryd.call70 rfl rfl rfl (q_pf (k_watch_Watch_at_1 x46) (fun _ _ => trivial)) rfl ?_
    refine wl_run rfl ?_
    refine wl_pure (v := .bool (v46 == (0 : Int))) tt_ok rfl rfl ?_
    simp only [Option.some.injEq, Prod.mk.injEq] at h
    obtain rfl := h
    have h := hg48; clear hg48
    refine wl_pure (v := .bool (v46 == (0 : Int))) tt_ok rfl rfl ?_
    iterate 2 refine wl_pure tt_ok rfl rfl ?_
    refine wl_nil (wx_then (wc_ret ?_))
    simp only [Option.some.injEq, Prod.mk.injEq] at h
    obtain ⟨rfl, rfl⟩ := h
    exact wx_pf tt_ok (.inl rfl) Tryd.results69 (Res.tmp rfl (Res.tmp rfl Res.nil)) rfl
  replace h := cf hc h
  refine wl_skip rfl rfl ?_
  refine wl_skip rfl rfl ?_
  refine wl_skip rfl rfl ?_
  refine wl_skip rfl rfl ?_
  refine wl_skip rfl rfl ?_
  refine wl_skip rfl rfl ?_
  refine wl_skip rfl rfl ?_
  refine wl_skip rfl rfl ?_
  simp only [Option.some.injEq, Prod.mk.injEq] at h
  obtain rfl := h
  have h := hg48; clear hg48
  refine wl_pure (v := .bool false) tt_ok rfl rfl ?_
  iterate 2 refine wl_pure tt_ok rfl rfl ?_
  refine wl_nil (wx_then (wc_ret ?_))
  simp only [Option.some.injEq, Prod.mk.injEq] at h
  obtain ⟨rfl, rfl⟩ := h
  exact wx_pf tt_ok (.inl rfl) Tryd.results69 (Res.tmp rfl (Res.tmp rfl Res.nil)) rfl

theorem k_watch_Watch_at {F : Nat} {p0 : T_watch_Watch} {p0b p0t : Nat} {p0a0 : Option Addr} {p0n0 : Nat} {p0c0 : Nat} {p0B0 : List Blk} {p1 : Int} {r0 : T_watch_Watch} {r1 : Int} (p0N0 : p0n0 = p0.l.length) (p0V0 : Own 73 5 p0a0 p0n0 p0c0 (flat c_T_watch_entry p0.l) p0B0) (h : m_watch_Watch_at F p0 p1 = some (r0, (some r1))) :
    SpD Tryd.prog 44 [.pointer (some ⟨p0b, 0, none⟩), .int .u64 p1] (⟨p0b, [.int .u64 p0.rows, .slice p0a0 p0n0 p0c0, .bool p0.clashed], p0t, (0, 0)⟩ :: (p0B0 ++ [])) (fun w => True) (fun v D => ∃ (r0a0 : Option Addr) (r0n0 : Nat) (r0c0 : Nat) (r0B0 : List Blk), r0n0 = r0.l.length ∧ Own 73 5 r0a0 r0n0 r0c0 (flat c_T_watch_entry r0.l) r0B0 ∧ v = .pointer (some ((adOf r0a0).add (r1.toNat * 5 + 0))) ∧ D = fun F => (⟨p0b, [.int .u64 r0.rows, .slice r0a0 r0n0 r0c0, .bool r0.clashed], p0t, (0, 0)⟩ :: (r0B0 ++ F))) := by
  unfold m_watch_Watch_at at h
  refine sp_of_wc Tryd.func44 rfl Tryd.ntmps44 rfl rfl (fun w0 hR => ?_)
  refine wc_seq (wc_region ?_)
  refine wl_pure tt_ok rfl rfl ?_
  refine wl_nil (wx_then (wc_seq (wc_region ?_)))
  iterate 2 refine wl_pure tt_ok rfl rfl ?_
  refine wl_pure (v := .pointer (some ⟨p0b, 1, none⟩)) tt_ok rfl rfl ?_
  refine wl_val (v := .slice p0a0 p0n0 p0c0) (val_load tt_ok rfl (List.Mem.head _) rfl) rfl ?_
  refine wl_pure tt_ok rfl rfl ?_
  replace h := bsome h; obtain ⟨⟨v13_0, v13_1⟩, x13, h⟩ := h; try dsimp only at h
  refine wl_cq Tryd.call69 rfl rfl rfl (q_pf (k_slices_BinarySearchFunc___watch_entry_watch_entry_uint64_f2_watch_Watch_at_1 (p0 := p0.l) p0N0 (vec_cap p0V0) x13) (Rds.call (Rds.of_vec p0V0) pNil ⟨_, (Sel.sc Sel.ha)⟩)) rfl ?_
  iterate 5 refine wl_pure tt_ok rfl rfl ?_
  refine wl_nil (wx_then (wc_seq (wc_block (wc_seq (wc_region ?_)))))
  iterate 2 refine wl_pure tt_ok rfl rfl ?_
  refine wl_nil (wx_then ?_)
  refine wc_cond rfl (fun hc => ?_) (fun hc => ?_)
  · replace h := ct hc h
    refine wc_skip (wx_block (wx_then (wc_seq (wc_region ?_))))
    iterate 2 refine wl_pure tt_ok rfl rfl ?_
    refine wl_pure (v := .pointer (some ⟨p0b, 1, none⟩)) tt_ok rfl rfl ?_
    refine wl_val (v := .slice p0a0 p0n0 p0c0) (val_load tt_ok rfl (List.Mem.head _) rfl) rfl ?_
    refine wl_pure tt_ok rfl rfl ?_
    replace h := bsome h; obtain ⟨v67, x67, h⟩ := h
    refine wl_val (v := .pointer (some ((adOf p0a0).add (v13_0.toNat * 5 + 0)))) (val_ix (enc := c_T_watch_entry) tt_ok rfl rfl rfl rfl p0N0 (Rds.of_vec p0V0) c_T_watch_entry_len rfl x67) rfl ?_
    refine wl_pure tt_ok rfl rfl ?_
    refine wl_nil (wx_then (wc_ret ?_))
    simp only [Option.some.injEq, Prod.mk.injEq] at h
    obtain ⟨rfl, rfl⟩ := h
    exact wx_spD tt_ok (.inl rfl) Tryd.results44 (Res.tmp rfl Res.nil) ⟨p0a0, p0n0, p0c0, p0B0, p0N0, p0V0, rfl, rfl⟩ (fun F => by simp) (pSub (pCons Sel.hc (pApp Sel.ha pNil)))
  replace h := cf hc h
  refine wc_seq (wc_region ?_)
  iterate 2 refine wl_pure tt_ok rfl rfl ?_
  refine wl_pure (v := .pointer (some ⟨p0b, 1, none⟩)) tt_ok rfl rfl ?_
  refine wl_val (v := .slice p0a0 p0n0 p0c0) (val_load tt_ok rfl (List.Mem.head _) rfl) rfl ?_
  refine wl_val (v := .int .i64 (p0.l.length : Int)) (val_len tt_ok rfl rfl p0N0) rfl ?_
  refine wl_pure (v := .bool (decide ((p0.l.length : Int) < (8 : Int)))) tt_ok rfl rfl ?_
  refine wl_pure tt_ok rfl rfl ?_
  refine wl_nil (wx_then ?_)
  refine wc_cond rfl (fun hc => ?_) (fun hc => ?_)
  · replace h := ct hc h
    refine wc_region ?_
    iterate 3 refine wl_pure tt_ok rfl rfl ?_
    refine wl_pure (v := .pointer (some ⟨p0b, 1, none⟩)) tt_ok rfl rfl ?_
    refine wl_val (v := .slice p0a0 p0n0 p0c0) (val_load tt_ok rfl (List.Mem.head _) rfl) rfl ?_
    iterate 2 refine wl_pure tt_ok rfl rfl ?_
    refine wl_pure (v := .agg #[.int .u64 p1, .int .u64 (0 : Int), .bool false, .int .u64 (0 : Int), .bool false]) tt_ok rfl rfl ?_
    refine wl_chg (chg_bsv (enc := c_T_watch_entry) (xs := ([(T_watch_entry.mk p1 (T_watch_sum.mk (0 : Int) false) (T_watch_sum.mk (0 : Int) false))] : List T_watch_entry)) tt_ok rfl rfl rfl rfl rfl rfl rfl rfl c_T_watch_entry_len) rfl ?_
    rintro _ _ ⟨a55, n55_, c55, B55, rfl, N55, V55, rfl⟩
    replace h := bsome h; obtain ⟨v56, x56, h⟩ := h
    refine wl_cs Tryd.call72 rfl rfl rfl (s_sp (k_slices_Insert (p0 := p0.l) (p2 := ([(T_watch_entry.mk p1 (T_watch_sum.mk (0 : Int) false) (T_watch_sum.mk (0 : Int) false))] : List T_watch_entry)) p0N0 p0V0 N55 V55 x56) (pApp (Sel.sa (Sel.sc Sel.ha)) (pApp Sel.ha pNil)) (fun _ _ => trivial)) rfl ?_
    rintro _ _ ⟨_, ⟨v56a0, v56n0, v56c0, v56B0, v56N0, v56V0, rfl, rfl⟩, rfl⟩
    refine wl_pure tt_ok rfl rfl ?_
    refine wl_pure (v := .pointer (some ⟨p0b, 1, none⟩)) tt_ok rfl rfl ?_
    apply wl_store tt_ok; rfl; exact (Upd.right Upd.here); rfl; rfl; rfl; rfl; rfl; rfl
    refine wl_nil (wx_block (wx_then (wc_seq (wc_region ?_))))
    iterate 2 refine wl_pure tt_ok rfl rfl ?_
    refine wl_pure (v := .pointer (some ⟨p0b, 1, none⟩)) tt_ok rfl rfl ?_
    refine wl_val (v := .slice v56a0 v56n0 v56c0) (val_load tt_ok rfl (mR (List.Mem.head _)) rfl) rfl ?_
    refine wl_pure tt_ok rfl rfl ?_
    replace h := bsome h; obtain ⟨v67, x67, h⟩ := h
    refine wl_val (v := .pointer (some ((adOf v56a0).add (v13_0.toNat * 5 + 0)))) (val_ix (enc := c_T_watch_entry) tt_ok rfl rfl rfl rfl v56N0 (Rds.of_vec v56V0) c_T_watch_entry_len rfl x67) rfl ?_
    refine wl_pure tt_ok rfl rfl ?_
    refine wl_nil (wx_then (wc_ret ?_))
    simp only [Option.some.injEq, Prod.mk.injEq] at h
    obtain ⟨rfl, rfl⟩ := h
    exact wx_spD tt_ok (.inl rfl) Tryd.results44 (Res.tmp rfl Res.nil) ⟨v56a0, v56n0, v56c0, v56B0, v56N0, v56V0, rfl, rfl⟩ (fun F => by simp) (pSub (pCons (Sel.sa Sel.hc) (pApp Sel.ha pNil)))
  replace h := cf hc h
  refine wc_seq (wc_region ?_)
  refine wl_pure tt_ok rfl rfl ?_
  refine wl_pure (v := .bool (v13_0 == (0 : Int))) tt_ok rfl rfl ?_
  refine wl_pure tt_ok rfl rfl ?_
  refine wl_nil (wx_then ?_)
  refine wc_cond rfl (fun hc => ?_) (fun hc => ?_)
  · replace h := ct hc h
    refine wc_seq (wc_region ?_)
    refine wl_pure tt_ok rfl rfl ?_
    refine wl_nil (wx_then (wc_ret (wx_block_ret (wx_then_ret ?_))))
    first | (cases h; done) | simp at h
  replace h := cf hc h
  refine wc_seq (wc_region ?_)
  iterate 3 refine wl_pure tt_ok rfl rfl ?_
  refine wl_pure (v := .pointer (some ⟨p0b, 1, none⟩)) tt_ok rfl rfl ?_
  refine wl_val (v := .slice p0a0 p0n0 p0c0) (val_load tt_ok rfl (List.Mem.head _) rfl) rfl ?_
  iterate 2 refine wl_pure tt_ok rfl rfl ?_
  refine wl_pure (v := .agg #[.int .u64 p1, .int .u64 (0 : Int), .bool false, .int .u64 (0 : Int), .bool false]) tt_ok rfl rfl ?_
  refine wl_chg (chg_bsv (enc := c_T_watch_entry) (xs := ([(T_watch_entry.mk p1 (T_watch_sum.mk (0 : Int) false) (T_watch_sum.mk (0 : Int) false))] : List T_watch_entry)) tt_ok rfl rfl rfl rfl rfl rfl rfl rfl c_T_watch_entry_len) rfl ?_
  rintro _ _ ⟨a24, n24_, c24, B24, rfl, N24, V24, rfl⟩
  replace h := bsome h; obtain ⟨v25, x25, h⟩ := h
  refine wl_cs Tryd.call72 rfl rfl rfl (s_sp (k_slices_Insert (p0 := p0.l) (p2 := ([(T_watch_entry.mk p1 (T_watch_sum.mk (0 : Int) false) (T_watch_sum.mk (0 : Int) false))] : List T_watch_entry)) p0N0 p0V0 N24 V24 x25) (pApp (Sel.sa (Sel.sc Sel.ha)) (pApp Sel.ha pNil)) (fun _ _ => trivial)) rfl ?_
  rintro _ _ ⟨_, ⟨v25a0, v25n0, v25c0, v25B0, v25N0, v25V0, rfl, rfl⟩, rfl⟩
  refine wl_pure tt_ok rfl rfl ?_
  refine wl_pure (v := .pointer (some ⟨p0b, 1, none⟩)) tt_ok rfl rfl ?_
  apply wl_store tt_ok; rfl; exact (Upd.right Upd.here); rfl; rfl; rfl; rfl; rfl; rfl
  refine wl_nil (wx_then (wc_seq (wc_region ?_)))
  iterate 3 refine wl_pure tt_ok rfl rfl ?_
  refine wl_pure (v := .pointer (some ⟨p0b, 1, none⟩)) tt_ok rfl rfl ?_
  refine wl_val (v := .slice v25a0 v25n0 v25c0) (val_load tt_ok rfl (mR (List.Mem.head _)) rfl) rfl ?_
  replace h := bsome h; obtain ⟨v33, x33, h⟩ := h
  refine wl_cs Tryd.call73 rfl rfl rfl (s_sp (k_slices_Delete (p0 := v25) v25N0 v25V0 x33) (pApp Sel.ha pNil) (fun _ _ => trivial)) rfl ?_
  rintro _ _ ⟨_, ⟨v33a0, v33n0, v33c0, v33B0, v33N0, v33V0, rfl, rfl⟩, rfl⟩
  refine wl_pure tt_ok rfl rfl ?_
  refine wl_pure (v := .pointer (some ⟨p0b, 1, none⟩)) tt_ok rfl rfl ?_
  apply wl_store tt_ok; rfl; exact (Upd.right Upd.here); rfl; rfl; rfl; rfl; rfl; rfl
  refine wl_nil (wx_then (wc_region ?_))
  refine wl_pure tt_ok rfl rfl ?_
  refine wl_pure (v := .int .i64 (IntKind.wrap .i64 (v13_0 - (1 : Int)))) tt_ok rfl rfl ?_
  refine wl_pure tt_ok rfl rfl ?_
  refine wl_nil (wx_block (wx_then (wc_seq (wc_region ?_))))
  iterate 2 refine wl_pure tt_ok rfl rfl ?_
  refine wl_pure (v := .pointer (some ⟨p0b, 1, none⟩)) tt_ok rfl rfl ?_
  refine wl_val (v := .slice v33a0 v33n0 v33c0) (val_load tt_ok rfl (mR (List.Mem.head _)) rfl) rfl ?_
  refine wl_pure tt_ok rfl rfl ?_
  replace h := bsome h; obtain ⟨v67, x67, h⟩ := h
  refine wl_val (v := .pointer (some ((adOf v33a0).add ((IntKind.wrap .i64 (v13_0 - (1 : Int))).toNat * 5 + 0)))) (val_ix (enc := c_T_watch_entry) tt_ok rfl rfl rfl rfl v33N0 (Rds.of_vec v33V0) c_T_watch_entry_len rfl x67) rfl ?_
  refine wl_pure tt_ok rfl rfl ?_
  refine wl_nil (wx_then (wc_ret ?_))
  simp only [Option.some.injEq, Prod.mk.injEq] at h
  obtain ⟨rfl, rfl⟩ := h
  exact wx_spD tt_ok (.inl rfl) Tryd.results44 (Res.tmp rfl Res.nil) ⟨v33a0, v33n0, v33c0, v33B0, v33N0, v33V0, rfl, rfl⟩ (fun F => by simp) (pSub (pCons (Sel.sa Sel.hc) (pApp Sel.ha pNil)))

theorem k_watch_Watch_at_none {F : Nat} {p0 : T_watch_Watch} {p0b p0t : Nat} {p0a0 : Option Addr} {p0n0 : Nat} {p0c0 : Nat} {p0B0 : List Blk} {p1 : Int} {r0 : T_watch_Watch} (p0N0 : p0n0 = p0.l.length) (p0V0 : Own 73 5 p0a0 p0n0 p0c0 (flat c_T_watch_entry p0.l) p0B0) (h : m_watch_Watch_at F p0 p1 = some (r0, none)) :
    SpD Tryd.prog 44 [.pointer (some ⟨p0b, 0, none⟩), .int .u64 p1] (⟨p0b, [.int .u64 p0.rows, .slice p0a0 p0n0 p0c0, .bool p0.clashed], p0t, (0, 0)⟩ :: (p0B0 ++ [])) (fun w => True) (fun v D => ∃ (r0a0 : Option Addr) (r0n0 : Nat) (r0c0 : Nat) (r0B0 : List Blk), r0n0 = r0.l.length ∧ Own 73 5 r0a0 r0n0 r0c0 (flat c_T_watch_entry r0.l) r0B0 ∧ v = .pointer none ∧ D = fun F => (⟨p0b, [.int .u64 r0.rows, .slice r0a0 r0n0 r0c0, .bool r0.clashed], p0t, (0, 0)⟩ :: (r0B0 ++ F))) := by
  unfold m_watch_Watch_at at h
  refine sp_of_wc Tryd.func44 rfl Tryd.ntmps44 rfl rfl (fun w0 hR => ?_)
  refine wc_seq (wc_region ?_)
  refine wl_pure tt_ok rfl rfl ?_
  refine wl_nil (wx_then (wc_seq (wc_region ?_)))
  iterate 2 refine wl_pure tt_ok rfl rfl ?_
  refine wl_pure (v := .pointer (some ⟨p0b, 1, none⟩)) tt_ok rfl rfl ?_
  refine wl_val (v := .slice p0a0 p0n0 p0c0) (val_load tt_ok rfl (List.Mem.head _) rfl) rfl ?_
  refine wl_pure tt_ok rfl rfl ?_
  replace h := bsome h; obtain ⟨⟨v13_0, v13_1⟩, x13, h⟩ := h; try dsimp only at h
  refine wl_cq Tryd.call69 rfl rfl rfl (q_pf (k_slices_BinarySearchFunc___watch_entry_watch_entry_uint64_f2_watch_Watch_at_1 (p0 := p0.l) p0N0 (vec_cap p0V0) x13) (Rds.call (Rds.of_vec p0V0) pNil ⟨_, (Sel.sc Sel.ha)⟩)) rfl ?_
  iterate 5 refine wl_pure tt_ok rfl rfl ?_
  refine wl_nil (wx_then (wc_seq (wc_block (wc_seq (wc_region ?_)))))
  iterate 2 refine wl_pure tt_ok rfl rfl ?_
  refine wl_nil (wx_then ?_)
  refine wc_cond rfl (fun hc => ?_) (fun hc => ?_)
  · replace h := ct hc h
    refine wc_skip (wx_block (wx_then (wc_seq (wc_region ?_))))
    iterate 2 refine wl_pure tt_ok rfl rfl ?_
    refine wl_pure (v := .pointer (some ⟨p0b, 1, none⟩)) tt_ok rfl rfl ?_
    refine wl_val (v := .slice p0a0 p0n0 p0c0) (val_load tt_ok rfl (List.Mem.head _) rfl) rfl ?_
    refine wl_pure tt_ok rfl rfl ?_
    replace h := bsome h; obtain ⟨v67, x67, h⟩ := h
    refine wl_val (v := .pointer (some ((adOf p0a0).add (v13_0.toNat * 5 + 0)))) (val_ix (enc := c_T_watch_entry) tt_ok rfl rfl rfl rfl p0N0 (Rds.of_vec p0V0) c_T_watch_entry_len rfl x67) rfl ?_
    refine wl_pure tt_ok rfl rfl ?_
    refine wl_nil (wx_then (wc_ret ?_))
    first | (cases h; done) | simp at h
  replace h := cf hc h
  refine wc_seq (wc_region ?_)
  iterate 2 refine wl_pure tt_ok rfl rfl ?_
  refine wl_pure (v := .pointer (some ⟨p0b, 1, none⟩)) tt_ok rfl rfl ?_
  refine wl_val (v := .slice p0a0 p0n0 p0c0) (val_load tt_ok rfl (List.Mem.head _) rfl) rfl ?_
  refine wl_val (v := .int .i64 (p0.l.length : Int)) (val_len tt_ok rfl rfl p0N0) rfl ?_
  refine wl_pure (v := .bool (decide ((p0.l.length : Int) < (8 : Int)))) tt_ok rfl rfl ?_
  refine wl_pure tt_ok rfl rfl ?_
  refine wl_nil (wx_then ?_)
  refine wc_cond rfl (fun hc => ?_) (fun hc => ?_)
  · replace h := ct hc h
    refine wc_region ?_
    iterate 3 refine wl_pure tt_ok rfl rfl ?_
    refine wl_pure (v := .pointer (some ⟨p0b, 1, none⟩)) tt_ok rfl rfl ?_
    refine wl_val (v := .slice p0a0 p0n0 p0c0) (val_load tt_ok rfl (List.Mem.head _) rfl) rfl ?_
    iterate 2 refine wl_pure tt_ok rfl rfl ?_
    refine wl_pure (v := .agg #[.int .u64 p1, .int .u64 (0 : Int), .bool false, .int .u64 (0 : Int), .bool false]) tt_ok rfl rfl ?_
    refine wl_chg (chg_bsv (enc := c_T_watch_entry) (xs := ([(T_watch_entry.mk p1 (T_watch_sum.mk (0 : Int) false) (T_watch_sum.mk (0 : Int) false))] : List T_watch_entry)) tt_ok rfl rfl rfl rfl rfl rfl rfl rfl c_T_watch_entry_len) rfl ?_
    rintro _ _ ⟨a55, n55_, c55, B55, rfl, N55, V55, rfl⟩
    replace h := bsome h; obtain ⟨v56, x56, h⟩ := h
    refine wl_cs Tryd.call72 rfl rfl rfl (s_sp (k_slices_Insert (p0 := p0.l) (p2 := ([(T_watch_entry.mk p1 (T_watch_sum.mk (0 : Int) false) (T_watch_sum.mk (0 : Int) false))] : List T_watch_entry)) p0N0 p0V0 N55 V55 x56) (pApp (Sel.sa (Sel.sc Sel.ha)) (pApp Sel.ha pNil)) (fun _ _ => trivial)) rfl ?_
    rintro _ _ ⟨_, ⟨v56a0, v56n0, v56c0, v56B0, v56N0, v56V0, rfl, rfl⟩, rfl⟩
    refine wl_pure tt_ok rfl rfl ?_
    refine wl_pure (v := .pointer (some ⟨p0b, 1, none⟩)) tt_ok rfl rfl ?_
    apply wl_store tt_ok; rfl; exact (Upd.right Upd.here); rfl; rfl; rfl; rfl; rfl; rfl
    refine wl_nil (wx_block (wx_then (wc_seq (wc_region ?_))))
    iterate 2 refine wl_pure tt_ok rfl rfl ?_
    refine wl_pure (v := .pointer (some ⟨p0b, 1, none⟩)) tt_ok rfl rfl ?_
    refine wl_val (v := .slice v56a0 v56n0 v56c0) (val_load tt_ok rfl (mR (List.Mem.head _)) rfl) rfl ?_
    refine wl_pure tt_ok rfl rfl ?_
    replace h := bsome h; obtain ⟨v67, x67, h⟩ := h
    refine wl_val (v := .pointer (some ((adOf v56a0).add (v13_0.toNat * 5 + 0)))) (val_ix (enc := c_T_watch_entry) tt_ok rfl rfl rfl rfl v56N0 (Rds.of_vec v56V0) c_T_watch_entry_len rfl x67) rfl ?_
    refine wl_pure tt_ok rfl rfl ?_
    refine wl_nil (wx_then (wc_ret ?_))
    first | (cases h; done) | simp at h
  replace h := cf hc h
  refine wc_seq (wc_region ?_)
  refine wl_pure tt_ok rfl rfl ?_
  refine wl_pure (v := .bool (v13_0 == (0 : Int))) tt_ok rfl rfl ?_
  refine wl_pure tt_ok rfl rfl ?_
  refine wl_nil (wx_then ?_)
  refine wc_cond rfl (fun hc => ?_) (fun hc => ?_)
  · replace h := ct hc h
    refine wc_seq (wc_region ?_)
    refine wl_pure tt_ok rfl rfl ?_
    refine wl_nil (wx_then (wc_ret (wx_block_ret (wx_then_ret ?_))))
    simp only [Option.some.injEq, Prod.mk.injEq] at h
    obtain ⟨rfl, _⟩ := h
    exact wx_spD tt_ok (.inl rfl) Tryd.results44 (Res.tmp rfl Res.nil) ⟨p0a0, p0n0, p0c0, p0B0, p0N0, p0V0, rfl, rfl⟩ (fun F => by simp) (pSub (pCons Sel.hc (pApp Sel.ha pNil)))
  replace h := cf hc h
  refine wc_seq (wc_region ?_)
  iterate 3 refine wl_pure tt_ok rfl rfl ?_
  refine wl_pure (v := .pointer (some ⟨p0b, 1, none⟩)) tt_ok rfl rfl ?_
  refine wl_val (v := .slice p0a0 p0n0 p0c0) (val_load tt_ok rfl (List.Mem.head _) rfl) rfl ?_
  iterate 2 refine wl_pure tt_ok rfl rfl ?_
  refine wl_pure (v := .agg #[.int .u64 p1, .int .u64 (0 : Int), .bool false, .int .u64 (0 : Int), .bool false]) tt_ok rfl rfl ?_
  refine wl_chg (chg_bsv (enc := c_T_watch_entry) (xs := ([(T_watch_entry.mk p1 (T_watch_sum.mk (0 : Int) false) (T_watch_sum.mk (0 : Int) false))] : List T_watch_entry)) tt_ok rfl rfl rfl rfl rfl rfl rfl rfl c_T_watch_entry_len) rfl ?_
  rintro _ _ ⟨a24, n24_, c24, B24, rfl, N24, V24, rfl⟩
  replace h := bsome h; obtain ⟨v25, x25, h⟩ := h
  refine wl_cs Tryd.call72 rfl rfl rfl (s_sp (k_slices_Insert (p0 := p0.l) (p2 := ([(T_watch_entry.mk p1 (T_watch_sum.mk (0 : Int) false) (T_watch_sum.mk (0 : Int) false))] : List T_watch_entry)) p0N0 p0V0 N24 V24 x25) (pApp (Sel.sa (Sel.sc Sel.ha)) (pApp Sel.ha pNil)) (fun _ _ => trivial)) rfl ?_
  rintro _ _ ⟨_, ⟨v25a0, v25n0, v25c0, v25B0, v25N0, v25V0, rfl, rfl⟩, rfl⟩
  refine wl_pure tt_ok rfl rfl ?_
  refine wl_pure (v := .pointer (some ⟨p0b, 1, none⟩)) tt_ok rfl rfl ?_
  apply wl_store tt_ok; rfl; exact (Upd.right Upd.here); rfl; rfl; rfl; rfl; rfl; rfl
  refine wl_nil (wx_then (wc_seq (wc_region ?_)))
  iterate 3 refine wl_pure tt_ok rfl rfl ?_
  refine wl_pure (v := .pointer (some ⟨p0b, 1, none⟩)) tt_ok rfl rfl ?_
  refine wl_val (v := .slice v25a0 v25n0 v25c0) (val_load tt_ok rfl (mR (List.Mem.head _)) rfl) rfl ?_
  replace h := bsome h; obtain ⟨v33, x33, h⟩ := h
  refine wl_cs Tryd.call73 rfl rfl rfl (s_sp (k_slices_Delete (p0 := v25) v25N0 v25V0 x33) (pApp Sel.ha pNil) (fun _ _ => trivial)) rfl ?_
  rintro _ _ ⟨_, ⟨v33a0, v33n0, v33c0, v33B0, v33N0, v33V0, rfl, rfl⟩, rfl⟩
  refine wl_pure tt_ok rfl rfl ?_
  refine wl_pure (v := .pointer (some ⟨p0b, 1, none⟩)) tt_ok rfl rfl ?_
  apply wl_store tt_ok; rfl; exact (Upd.right Upd.here); rfl; rfl; rfl; rfl; rfl; rfl
  refine wl_nil (wx_then (wc_region ?_))
  refine wl_pure tt_ok rfl rfl ?_
  refine wl_pure (v := .int .i64 (IntKind.wrap .i64 (v13_0 - (1 : Int)))) tt_ok rfl rfl ?_
  refine wl_pure tt_ok rfl rfl ?_
  refine wl_nil (wx_block (wx_then (wc_seq (wc_region ?_))))
  iterate 2 refine wl_pure tt_ok rfl rfl ?_
  refine wl_pure (v := .pointer (some ⟨p0b, 1, none⟩)) tt_ok rfl rfl ?_
  refine wl_val (v := .slice v33a0 v33n0 v33c0) (val_load tt_ok rfl (mR (List.Mem.head _)) rfl) rfl ?_
  refine wl_pure tt_ok rfl rfl ?_
  replace h := bsome h; obtain ⟨v67, x67, h⟩ := h
  refine wl_val (v := .pointer (some ((adOf v33a0).add ((IntKind.wrap .i64 (v13_0 - (1 : Int))).toNat * 5 + 0)))) (val_ix (enc := c_T_watch_entry) tt_ok rfl rfl rfl rfl v33N0 (Rds.of_vec v33V0) c_T_watch_entry_len rfl x67) rfl ?_
  refine wl_pure tt_ok rfl rfl ?_
  refine wl_nil (wx_then (wc_ret ?_))
  first | (cases h; done) | simp at h

theorem k_watch_Watch_told_f3_watch_ownSide {F : Nat} {p0 : T_watch_Watch} {p0b p0t : Nat} {p0a0 : Option Addr} {p0n0 : Nat} {p0c0 : Nat} {p0B0 : List Blk} {p1 : Int} {p2 : Int} {r0 : T_watch_Watch} {r1 : Int} (p0N0 : p0n0 = p0.l.length) (p0V0 : Own 73 5 p0a0 p0n0 p0c0 (flat c_T_watch_entry p0.l) p0B0) (h : m_watch_Watch_told_f3_watch_ownSide F p0 p1 p2 = some (r0, r1)) :
    SpD Tryd.prog 25 [.pointer (some ⟨p0b, 0, none⟩), .int .u64 p1, .int .u64 p2, .func (.func 26) #[] #[]] (⟨p0b, [.int .u64 p0.rows, .slice p0a0 p0n0 p0c0, .bool p0.clashed], p0t, (0, 0)⟩ :: (p0B0 ++ [])) (fun w => True) (fun v D => ∃ (r0a0 : Option Addr) (r0n0 : Nat) (r0c0 : Nat) (r0B0 : List Blk), r0n0 = r0.l.length ∧ Own 73 5 r0a0 r0n0 r0c0 (flat c_T_watch_entry r0.l) r0B0 ∧ v = .int .i64 r1 ∧ D = fun F => (⟨p0b, [.int .u64 r0.rows, .slice r0a0 r0n0 r0c0, .bool r0.clashed], p0t, (0, 0)⟩ :: (r0B0 ++ F))) := by
  unfold m_watch_Watch_told_f3_watch_ownSide at h
  refine sp_of_wc Tryd.func25 rfl Tryd.ntmps25 rfl rfl (fun w0 hR => ?_)
  refine wc_seq (wc_region ?_)
  refine wl_pure tt_ok rfl rfl ?_
  refine wl_nil (wx_then (wc_seq (wc_block (wc_seq (wc_region ?_)))))
  refine wl_pure tt_ok rfl rfl ?_
  replace h := bsome h; obtain ⟨v13, x13, h⟩ := h
  refine wl_cq Tryd.call24 rfl rfl rfl (q_rd (k_watch_Watch_is (p0 := p0) p0N0 p0V0 x13) (pCons Sel.hc (pApp Sel.ha pNil)) (fun _ _ => trivial)) rfl ?_
  refine wl_pure (v := .bool (!v13)) tt_ok rfl rfl ?_
  refine wl_pure tt_ok rfl rfl ?_
  refine wl_nil (wx_then ?_)
  refine wc_cond rfl (fun hc => ?_) (fun hc => ?_)
  · replace h := ct hc h
    refine wc_seq (wc_region ?_)
    refine wl_pure tt_ok rfl rfl ?_
    refine wl_nil (wx_then (wc_ret (wx_block_ret (wx_then_ret ?_))))
    simp only [Option.some.injEq, Prod.mk.injEq] at h
    obtain ⟨rfl, rfl⟩ := h
    exact wx_spD tt_ok (.inl rfl) Tryd.results25 (Res.tmp rfl Res.nil) ⟨p0a0, p0n0, p0c0, p0B0, p0N0, p0V0, rfl, rfl⟩ (fun F => by simp) (pSub (pCons Sel.hc (pApp Sel.ha pNil)))
  replace h := cf hc h
  refine wc_seq (wc_region ?_)
  iterate 3 refine wl_pure tt_ok rfl rfl ?_
  refine wl_pure (v := .pointer (some ⟨p0b, 0, none⟩)) tt_ok rfl rfl ?_
  refine wl_val (v := .int .u64 p0.rows) (val_load tt_ok rfl (List.Mem.head _) rfl) rfl ?_
  replace h := bsome h; obtain ⟨v21, x21, h⟩ := h
  refine wl_val (v := .int .u64 v21) (val_rem rfl rfl x21) rfl ?_
  refine wl_pure (v := .bool (v21 != (0 : Int))) tt_ok rfl rfl ?_
  refine wl_pure tt_ok rfl rfl ?_
  refine wl_nil (wx_then ?_)
  refine wc_cond rfl (fun hc => ?_) (fun hc => ?_)
  · replace h := ct hc h
    refine wc_seq (wc_region ?_)
    refine wl_pure tt_ok rfl rfl ?_
    refine wl_nil (wx_then (wc_ret (wx_block_ret (wx_then_ret ?_))))
    simp only [Option.some.injEq, Prod.mk.injEq] at h
    obtain ⟨rfl, rfl⟩ := h
    exact wx_spD tt_ok (.inl rfl) Tryd.results25 (Res.tmp rfl Res.nil) ⟨p0a0, p0n0, p0c0, p0B0, p0N0, p0V0, rfl, rfl⟩ (fun F => by simp) (pSub (pCons Sel.hc (pApp Sel.ha pNil)))
  replace h := cf hc h
  refine wc_skip (wx_block (wx_then (wc_seq (wc_seq (wc_region ?_)))))
  iterate 2 refine wl_pure tt_ok rfl rfl ?_
  replace h := bsome h; obtain ⟨⟨o25_0, v25⟩, x25, h⟩ := h; try dsimp only at h
  rcases v25 with _ | v25s
  · replace h := poN h
    refine wl_cs Tryd.call44 rfl rfl rfl (s_sp (k_watch_Watch_at_none (p0 := p0) p0N0 p0V0 x25) (pCons Sel.hc (pApp Sel.ha pNil)) (fun _ _ => trivial)) rfl ?_
    rintro _ _ ⟨_, ⟨o25_0a0, o25_0n0, o25_0c0, o25_0B0, o25_0N0, o25_0V0, rfl, rfl⟩, rfl⟩
    refine wl_pure tt_ok rfl rfl ?_
    refine wl_nil (wx_then (wc_seq (wc_region ?_)))
    refine wl_pure tt_ok rfl rfl ?_
    refine wl_pure (v := .bool false) tt_ok rfl rfl ?_
    refine wl_nil (wx_then ?_)
    refine wc_cond_false rfl ?_
    refine wc_skip (wx_then (wc_seq (wc_seq (wc_region ?_))))
    iterate 2 refine wl_pure tt_ok rfl rfl ?_
    refine wl_pure (v := .pointer (some ⟨p0b, 2, none⟩)) tt_ok rfl rfl ?_
    refine wl_val (v := .bool o25_0.clashed) (val_load tt_ok rfl (List.Mem.head _) rfl) rfl ?_
    refine wl_nil (wx_then ?_)
    refine wc_cond rfl (fun hc => ?_) (fun hc => ?_)
    · replace h := ct hc h
      refine wc_seq (wc_region ?_)
      refine wl_pure tt_ok rfl rfl ?_
      refine wl_nil (wx_then (wc_ret (wx_then_ret ?_)))
      simp only [Option.some.injEq, Prod.mk.injEq] at h
      obtain ⟨rfl, rfl⟩ := h
      exact wx_spD tt_ok (.inl rfl) Tryd.results25 (Res.tmp rfl Res.nil) ⟨o25_0a0, o25_0n0, o25_0c0, o25_0B0, o25_0N0, o25_0V0, rfl, rfl⟩ (fun F => by simp) (pSub (pCons Sel.hc (pApp Sel.ha pNil)))
    replace h := cf hc h
    refine wc_skip (wx_then (wc_seq (wc_region ?_)))
    refine wl_pure tt_ok rfl rfl ?_
    refine wl_nil (wx_then (wc_ret ?_))
    simp only [Option.some.injEq, Prod.mk.injEq] at h
    obtain ⟨rfl, rfl⟩ := h
    exact wx_spD tt_ok (.inl rfl) Tryd.results25 (Res.tmp rfl Res.nil) ⟨o25_0a0, o25_0n0, o25_0c0, o25_0B0, o25_0N0, o25_0V0, rfl, rfl⟩ (fun F => by simp) (pSub (pCons Sel.hc (pApp Sel.ha pNil)))
  replace h := poS h
  replace h := bsome h; obtain ⟨v25x, xv25, h⟩ := h
  refine wl_cs Tryd.call44 rfl rfl rfl (s_sp (k_watch_Watch_at (p0 := p0) p0N0 p0V0 x25) (pCons Sel.hc (pApp Sel.ha pNil)) (fun _ _ => trivial)) rfl ?_
  rintro _ _ ⟨_, ⟨o25_0a0, o25_0n0, o25_0c0, o25_0B0, o25_0N0, o25_0V0, rfl, rfl⟩, rfl⟩
  refine wl_pure tt_ok rfl rfl ?_
  refine wl_nil (wx_then (wc_seq (wc_region ?_)))
  refine wl_pure tt_ok rfl rfl ?_
  refine wl_pure (v := .bool true) tt_ok rfl rfl ?_
  refine wl_nil (wx_then ?_)
  refine wc_cond_true rfl ?_
  refine wc_seq (wc_region ?_)
  iterate 2 refine wl_pure tt_ok rfl rfl ?_
  refine wl_inl Tryd.call26 rfl rfl rfl Tryd.func26 rfl Tryd.ntmps26 rfl rfl rfl ?_
  refine wc_seq (wc_region ?_)
  refine wl_pure tt_ok rfl rfl ?_
  refine wl_nil (wx_then (wc_seq (wc_region ?_)))
  iterate 2 refine wl_pure tt_ok rfl rfl ?_
  refine wl_val (v := .pointer (some ((adOf o25_0a0).add (v25s.toNat * 5 + 1)))) (val_fa (k := v25s.toNat * 5 + 0) (off := 1) tt_ok rfl rfl rfl rfl rfl) rfl ?_
  refine wl_pure tt_ok rfl rfl ?_
  refine wl_nil (wx_then (wc_ret ?_))
  refine wx_inl (v := .pointer (some ((adOf o25_0a0).add (v25s.toNat * 5 + 1)))) tt_ok (.inl rfl) Tryd.results26 (Res.tmp rfl Res.nil) rfl ?_
  refine wl_pure tt_ok rfl rfl ?_
  refine wl_nil (wx_then (wc_seq (wc_region ?_)))
  iterate 3 refine wl_pure tt_ok rfl rfl ?_
  refine wl_pure (v := .pointer (some ⟨p0b, 2, none⟩)) tt_ok rfl rfl ?_
  refine wl_val (v := .bool o25_0.clashed) (val_load tt_ok rfl (List.Mem.head _) rfl) rfl ?_
  refine wl_pure tt_ok rfl rfl ?_
  replace h := bsome h; obtain ⟨v49, h, hg49⟩ := h
  refine wl_split (t := 36) rfl (fun hc => ?_) (fun hc => ?_)
  · replace h := ct hc h
    refine wl_skip rfl rfl ?_
    refine wl_skip rfl rfl ?_
    refine wl_skip rfl rfl ?_
    refine wl_skip rfl rfl ?_
    refine wl_skip rfl rfl ?_
    refine wl_skip rfl rfl ?_
    refine wl_skip rfl rfl ?_
    refine wl_skip rfl rfl ?_
    refine wl_skip rfl rfl ?_
    refine wl_skip rfl rfl ?_
    refine wl_skip rfl rfl ?_
    refine wl_skip rfl rfl ?_
    simp only [Option.some.injEq, Prod.mk.injEq] at h
    obtain rfl := h
    have h := hg49; clear hg49
    refine wl_pure (v := .bool true) tt_ok rfl rfl ?_
    refine wl_pure tt_ok rfl rfl ?_
    refine wl_pure (v := .pointer (some ⟨p0b, 2, none⟩)) tt_ok rfl rfl ?_
    apply wl_store tt_ok; rfl; exact Upd.here; rfl; rfl; rfl; rfl; rfl; rfl
    refine wl_nil (wx_then (wc_seq (wc_seq (wc_region ?_))))
    iterate 2 refine wl_pure tt_ok rfl rfl ?_
    refine wl_val (v := .pointer (some ((adOf o25_0a0).add (v25s.toNat * 5 + 2)))) (val_fa (k := v25s.toNat * 5 + 1) (off := 1) tt_ok rfl rfl rfl rfl rfl) rfl ?_
    refine wl_val (v := .bool v25x.own.is_) (val_le (enc := c_T_watch_entry) (xs := o25_0.l) tt_ok rfl (Rds.of_vec o25_0V0) ⟨_, (Sel.sc Sel.ha)⟩ c_T_watch_entry_len xv25 rfl) rfl ?_
    refine wl_pure (v := .bool (!v25x.own.is_)) tt_ok rfl rfl ?_
    refine wl_nil (wx_then ?_)
    refine wc_cond rfl (fun hc => ?_) (fun hc => ?_)
    · replace h := ct hc h
      refine wc_region ?_
      iterate 2 refine wl_pure tt_ok rfl rfl ?_
      refine wl_pure (v := .agg #[.int .u64 p2, .bool true]) tt_ok rfl rfl ?_
      refine wl_pure tt_ok rfl rfl ?_
      refine wl_chg0 (chg_ste (enc := c_T_watch_entry) (y' := (T_watch_entry.mk v25x.f (T_watch_sum.mk p2 true) v25x.other)) tt_ok rfl rfl rfl rfl rfl rfl o25_0N0 o25_0V0 (Sel.sc Sel.ha) c_T_watch_entry_len xv25 rfl (by intro h; cases h)) ?_
      rintro _ _ ⟨Bs32_4, Ns32_4, Vs32_4, rfl⟩
      refine wl_nil (wx_then ?_)
      refine wc_k2 (Ls := (Bs32_4 ++ (⟨p0b, [.int .u64 o25_0.rows, .slice o25_0a0 o25_0n0 o25_0c0, .bool true], p0t, (0, 0)⟩ :: []))) [34] [34] [0, 0, 2, 6, 14, 30, 62, 126, 254, 510, 1022, 2046, 4094, 8190, 16382, 32766, 65534, 131070, 262142, 524286, 1048574, 2097150, 4194302, 8388606, 524286, 17301502, 50855934, 117964798, 252182526, 536870910, 1073741822, 2147483646, 4294967295, 8589934591, 17179869183] [0, 1, 2, 3, 4, 5, 6, 7, 8, 9, 10, 11, 12, 13, 14, 15, 16, 17, 18, 19, 20, 21, 22, 23, 24, 25, 26, 27, 28, 29, 30, 31, 32, 33, 34] (by kernel_rfl) (by kernel_rfl) (by kernel_rfl) ?_
      refine k_val rfl rfl rfl (pSub (pApp Sel.ha (pCons Sel.hc pNil))) (stepV_ok tt_ok rfl) rfl ?_
      refine k_val rfl rfl rfl (pSub (pApp Sel.ha (pCons Sel.hc pNil))) (stepV_ok tt_ok rfl) rfl ?_
      refine k_val rfl rfl rfl (pSub (pApp Sel.ha (pCons Sel.hc pNil))) (stepV_ok tt_ok rfl) rfl ?_
      refine k_val (v := .pointer (some ⟨p0b, 2, none⟩)) rfl rfl rfl (pSub (pApp Sel.ha (pCons Sel.hc pNil))) (stepV_ok tt_ok rfl) rfl ?_
      refine k_val (v := .bool true) rfl rfl rfl (pSub (pApp Sel.ha (pCons Sel.hc pNil))) (val_load tt_ok rfl (mR (List.Mem.head _)) rfl) rfl ?_
      refine k_val rfl rfl rfl (pSub (pApp Sel.ha (pCons Sel.hc pNil))) (stepV_ok tt_ok rfl) rfl ?_
      replace h := bsome h; obtain ⟨v92, h, hg92⟩ := h
      replace h := ct rfl h
      refine k_skip rfl rfl (pSub (pApp Sel.ha (pCons Sel.hc pNil))) rfl ?_
      refine k_skip rfl rfl (pSub (pApp Sel.ha (pCons Sel.hc pNil))) rfl ?_
      refine k_skip rfl rfl (pSub (pApp Sel.ha (pCons Sel.hc pNil))) rfl ?_
      refine k_skip rfl rfl (pSub (pApp Sel.ha (pCons Sel.hc pNil))) rfl ?_
      refine k_skip rfl rfl (pSub (pApp Sel.ha (pCons Sel.hc pNil))) rfl ?_
      refine k_skip rfl rfl (pSub (pApp Sel.ha (pCons Sel.hc pNil))) rfl ?_
      refine k_skip rfl rfl (pSub (pApp Sel.ha (pCons Sel.hc pNil))) rfl ?_
      refine k_skip rfl rfl (pSub (pApp Sel.ha (pCons Sel.hc pNil))) rfl ?_
      refine k_skip rfl rfl (pSub (pApp Sel.ha (pCons Sel.hc pNil))) rfl ?_
      refine k_skip rfl rfl (pSub (pApp Sel.ha (pCons Sel.hc pNil))) rfl ?_
      refine k_skip rfl rfl (pSub (pApp Sel.ha (pCons Sel.hc pNil))) rfl ?_
      refine k_skip rfl rfl (pSub (pApp Sel.ha (pCons Sel.hc pNil))) rfl ?_
      refine k_skip rfl rfl (pSub (pApp Sel.ha (pCons Sel.hc pNil))) rfl ?_
      refine k_skip rfl rfl (pSub (pApp Sel.ha (pCons Sel.hc pNil))) rfl ?_
      refine k_skip rfl rfl (pSub (pApp Sel.ha (pCons Sel.hc pNil))) rfl ?_
      refine k_skip rfl rfl (pSub (pApp Sel.ha (pCons Sel.hc pNil))) rfl ?_
      refine k_skip rfl rfl (pSub (pApp Sel.ha (pCons Sel.hc pNil))) rfl ?_
      refine k_skip rfl rfl (pSub (pApp Sel.ha (pCons Sel.hc pNil))) rfl ?_
      refine k_skip rfl rfl (pSub (pApp Sel.ha (pCons Sel.hc pNil))) rfl ?_
      refine k_skip rfl rfl (pSub (pApp Sel.ha (pCons Sel.hc pNil))) rfl ?_
      refine k_skip rfl rfl (pSub (pApp Sel.ha (pCons Sel.hc pNil))) rfl ?_
      refine k_skip rfl rfl (pSub (pApp Sel.ha (pCons Sel.hc pNil))) rfl ?_
      refine k_skip rfl rfl (pSub (pApp Sel.ha (pCons Sel.hc pNil))) rfl ?_
      refine k_skip rfl rfl (pSub (pApp Sel.ha (pCons Sel.hc pNil))) rfl ?_
      refine k_skip rfl rfl (pSub (pApp Sel.ha (pCons Sel.hc pNil))) rfl ?_
      simp only [Option.some.injEq, Prod.mk.injEq] at h
      obtain rfl := h
      have h := hg92; clear hg92
      refine k_val (v := .bool true) rfl rfl rfl (pSub (pApp Sel.ha (pCons Sel.hc pNil))) (stepV_ok tt_ok rfl) rfl ?_
      refine k_val rfl rfl rfl (pSub (pApp Sel.ha (pCons Sel.hc pNil))) (stepV_ok tt_ok rfl) rfl ?_
      refine k_val (v := .pointer (some ⟨p0b, 2, none⟩)) rfl rfl rfl (pSub (pApp Sel.ha (pCons Sel.hc pNil))) (stepV_ok tt_ok rfl) rfl ?_
      refine k_chg0 rfl rfl rfl (chg_store tt_ok rfl (Upd.right Upd.here) rfl rfl rfl rfl rfl rfl) (.inl rfl) ?_
      rintro _ _ rfl
      refine k_end (by kernel_rfl) ?_
      refine wx_then (wc_seq (wc_seq (wc_region ?_)))
      iterate 2 refine wl_pure tt_ok rfl rfl ?_
      refine wl_pure (v := .pointer (some ⟨p0b, 2, none⟩)) tt_ok rfl rfl ?_
      refine wl_val (v := .bool true) (val_load tt_ok rfl (mR (List.Mem.head _)) rfl) rfl ?_
      refine wl_nil (wx_then ?_)
      replace h := ct rfl h
      refine wc_cond_true rfl ?_
      refine wc_seq (wc_region ?_)
      refine wl_pure tt_ok rfl rfl ?_
      refine wl_nil (wx_then (wc_ret (wx_then_ret ?_)))
      simp only [Option.some.injEq, Prod.mk.injEq] at h
      obtain ⟨rfl, rfl⟩ := h
      exact wx_spD tt_ok (.inl rfl) Tryd.results25 (Res.tmp rfl Res.nil) ⟨o25_0a0, o25_0n0, o25_0c0, Bs32_4, Ns32_4, Vs32_4, rfl, rfl⟩ (fun F => by simp) (pSub (pCons (Sel.sa Sel.hc) (pApp Sel.ha pNil)))
    replace h := cf hc h
    refine wc_skip (wx_then ?_)
    refine wc_k2 (Ls := (⟨p0b, [.int .u64 o25_0.rows, .slice o25_0a0 o25_0n0 o25_0c0, .bool true], p0t, (0, 0)⟩ :: (o25_0B0 ++ []))) [34] [34] [0, 0, 2, 6, 14, 30, 62, 126, 254, 510, 1022, 2046, 4094, 8190, 16382, 32766, 65534, 131070, 262142, 524286, 1048574, 2097150, 4194302, 8388606, 524286, 17301502, 50855934, 117964798, 252182526, 536870910, 1073741822, 2147483646, 4294967295, 8589934591, 17179869183] [0, 1, 2, 3, 4, 5, 6, 7, 8, 9, 10, 11, 12, 13, 14, 15, 16, 17, 18, 19, 20, 21, 22, 23, 24, 25, 26, 27, 28, 29, 30, 31, 32, 33, 34] (by kernel_rfl) (by kernel_rfl) (by kernel_rfl) ?_
    refine k_val rfl rfl rfl (pSub (pCons Sel.hc (pApp Sel.ha pNil))) (stepV_ok tt_ok rfl) rfl ?_
    refine k_val rfl rfl rfl (pSub (pCons Sel.hc (pApp Sel.ha pNil))) (stepV_ok tt_ok rfl) rfl ?_
    refine k_val rfl rfl rfl (pSub (pCons Sel.hc (pApp Sel.ha pNil))) (stepV_ok tt_ok rfl) rfl ?_
    refine k_val (v := .pointer (some ⟨p0b, 2, none⟩)) rfl rfl rfl (pSub (pCons Sel.hc (pApp Sel.ha pNil))) (stepV_ok tt_ok rfl) rfl ?_
    refine k_val (v := .bool true) rfl rfl rfl (pSub (pCons Sel.hc (pApp Sel.ha pNil))) (val_load tt_ok rfl (List.Mem.head _) rfl) rfl ?_
    refine k_val rfl rfl rfl (pSub (pCons Sel.hc (pApp Sel.ha pNil))) (stepV_ok tt_ok rfl) rfl ?_
    replace h := bsome h; obtain ⟨v92, h, hg92⟩ := h
    replace h := ct rfl h
    refine k_skip rfl rfl (pSub (pCons Sel.hc (pApp Sel.ha pNil))) rfl ?_
    refine k_skip rfl rfl (pSub (pCons Sel.hc (pApp Sel.ha pNil))) rfl ?_
    refine k_skip rfl rfl (pSub (pCons Sel.hc (pApp Sel.ha pNil))) rfl ?_
    refine k_skip rfl rfl (pSub (pCons Sel.hc (pApp Sel.ha pNil))) rfl ?_
    refine k_skip rfl rfl (pSub (pCons Sel.hc (pApp Sel.ha pNil))) rfl ?_
    refine k_skip rfl rfl (pSub (pCons Sel.hc (pApp Sel.ha pNil))) rfl ?_
    refine k_skip rfl rfl (pSub (pCons Sel.hc (pApp Sel.ha pNil))) rfl ?_
    refine k_skip rfl rfl (pSub (pCons Sel.hc (pApp Sel.ha pNil))) rfl ?_
    refine k_skip rfl rfl (pSub (pCons Sel.hc (pApp Sel.ha pNil))) rfl ?_
    refine k_skip rfl rfl (pSub (pCons Sel.hc (pApp Sel.ha pNil))) rfl ?_
    refine k_skip rfl rfl (pSub (pCons Sel.hc (pApp Sel.ha pNil))) rfl ?_
    refine k_skip rfl rfl (pSub (pCons Sel.hc (pApp Sel.ha pNil))) rfl ?_
    refine k_skip rfl rfl (pSub (pCons Sel.hc (pApp Sel.ha pNil))) rfl ?_
    refine k_skip rfl rfl (pSub (pCons Sel.hc (pApp Sel.ha pNil))) rfl ?_
    refine k_skip rfl rfl (pSub (pCons Sel.hc (pApp Sel.ha pNil))) rfl ?_
    refine k_skip rfl rfl (pSub (pCons Sel.hc (pApp Sel.ha pNil))) rfl ?_
    refine k_skip rfl rfl (pSub (pCons Sel.hc (pApp Sel.ha pNil))) rfl ?_
    refine k_skip rfl rfl (pSub (pCons Sel.hc (pApp Sel.ha pNil))) rfl ?_
    refine k_skip rfl rfl (pSub (pCons Sel.hc (pApp Sel.ha pNil))) rfl ?_
    refine k_skip rfl rfl (pSub (pCons Sel.hc (pApp Sel.ha pNil))) rfl ?_
    refine k_skip rfl rfl (pSub (pCons Sel.hc (pApp Sel.ha pNil))) rfl ?_
    refine k_skip rfl rfl (pSub (pCons Sel.hc (pApp Sel.ha pNil))) rfl ?_
    refine k_skip rfl rfl (pSub (pCons Sel.hc (pApp Sel.ha pNil))) rfl ?_
    refine k_skip rfl rfl (pSub (pCons Sel.hc (pApp Sel.ha pNil))) rfl ?_
    refine k_skip rfl rfl (pSub (pCons Sel.hc (pApp Sel.ha pNil))) rfl ?_
    simp only [Option.some.injEq, Prod.mk.injEq] at h
    obtain rfl := h
    have h := hg92; clear hg92
    refine k_val (v := .bool true) rfl rfl rfl (pSub (pCons Sel.hc (pApp Sel.ha pNil))) (stepV_ok tt_ok rfl) rfl ?_
    refine k_val rfl rfl rfl (pSub (pCons Sel.hc (pApp Sel.ha pNil))) (stepV_ok tt_ok rfl) rfl ?_
    refine k_val (v := .pointer (some ⟨p0b, 2, none⟩)) rfl rfl rfl (pSub (pCons Sel.hc (pApp Sel.ha pNil))) (stepV_ok tt_ok rfl) rfl ?_
    refine k_chg0 rfl rfl rfl (chg_store tt_ok rfl Upd.here rfl rfl rfl rfl rfl rfl) (.inl rfl) ?_
    rintro _ _ rfl
    refine k_end (by kernel_rfl) ?_
    refine wx_then (wc_seq (wc_seq (wc_region ?_)))
    iterate 2 refine wl_pure tt_ok rfl rfl ?_
    refine wl_pure (v := .pointer (some ⟨p0b, 2, none⟩)) tt_ok rfl rfl ?_
    refine wl_val (v := .bool true) (val_load tt_ok rfl (List.Mem.head _) rfl) rfl ?_
    refine wl_nil (wx_then ?_)
    replace h := ct rfl h
    refine wc_cond_true rfl ?_
    refine wc_seq (wc_region ?_)
    refine wl_pure tt_ok rfl rfl ?_
    refine wl_nil (wx_then (wc_ret (wx_then_ret ?_)))
    simp only [Option.some.injEq, Prod.mk.injEq] at h
    obtain ⟨rfl, rfl⟩ := h
    exact wx_spD tt_ok (.inl rfl) Tryd.results25 (Res.tmp rfl Res.nil) ⟨o25_0a0, o25_0n0, o25_0c0, o25_0B0, o25_0N0, o25_0V0, rfl, rfl⟩ (fun F => by simp) (pSub (pCons Sel.hc (pApp Sel.ha pNil)))
  replace h := cf hc h
  refine wl_run rfl ?_
  refine wl_pure tt_ok rfl rfl ?_
  refine wl_run rfl ?_
  refine wl_pure tt_ok rfl rfl ?_
  refine wl_run rfl ?_
  refine wl_val (v := .pointer (some ((adOf o25_0a0).add (v25s.toNat * 5 + 2)))) (val_fa (k := v25s.toNat * 5 + 1) (off := 1) tt_ok rfl rfl rfl rfl rfl) rfl ?_
  refine wl_run rfl ?_
  refine wl_val (v := .bool v25x.own.is_) (val_le (enc := c_T_watch_entry) (xs := o25_0.l) tt_ok rfl (Rds.of_vec o25_0V0) ⟨_, (Sel.sc Sel.ha)⟩ c_T_watch_entry_len xv25 rfl) rfl ?_
  refine wl_run rfl ?_
  refine wl_pure tt_ok rfl rfl ?_
  replace h := bsome h; obtain ⟨v48, h, hg48⟩ := h
  refine wl_split (t := 41) rfl (fun hc => ?_) (fun hc => ?_)
  · replace h := ct hc h
    refine wl_run rfl ?_
    refine wl_pure tt_ok rfl rfl ?_
    refine wl_run rfl ?_
    refine wl_pure tt_ok rfl rfl ?_
    refine wl_run rfl ?_
    refine wl_val (v := .pointer (some ((adOf o25_0a0).add (v25s.toNat * 5 + 1)))) (val_fa (k := v25s.toNat * 5 + 1) (off := 0) tt_ok rfl rfl rfl rfl rfl) rfl ?_
    refine wl_run rfl ?_
    refine wl_val (v := .int .u64 v25x.own.n) (val_le (enc := c_T_watch_entry) (xs := o25_0.l) tt_ok rfl (Rds.of_vec o25_0V0) ⟨_, (Sel.sc Sel.ha)⟩ c_T_watch_entry_len xv25 rfl) rfl ?_
    refine wl_run rfl ?_
    refine wl_pure tt_ok rfl rfl ?_
    refine wl_run rfl ?_
    refine wl_pure (v := .bool (v25x.own.n != p2)) tt_ok rfl rfl ?_
    simp only [Option.some.injEq, Prod.mk.injEq] at h
    obtain rfl := h
    have h := hg48; clear hg48
    refine wl_run rfl ?_
    refine wl_pure (v := .bool (v25x.own.n != p2)) tt_ok rfl rfl ?_
    simp only [Option.some.injEq, Prod.mk.injEq] at h
    obtain rfl := h
    have h := hg49; clear hg49
    refine wl_pure (v := .bool (v25x.own.n != p2)) tt_ok rfl rfl ?_
    refine wl_pure tt_ok rfl rfl ?_
    refine wl_pure (v := .pointer (some ⟨p0b, 2, none⟩)) tt_ok rfl rfl ?_
    apply wl_store tt_ok; rfl; exact Upd.here; rfl; rfl; rfl; rfl; rfl; rfl
    refine wl_nil (wx_then (wc_seq (wc_seq (wc_region ?_))))
    iterate 2 refine wl_pure tt_ok rfl rfl ?_
    refine wl_val (v := .pointer (some ((adOf o25_0a0).add (v25s.toNat * 5 + 2)))) (val_fa (k := v25s.toNat * 5 + 1) (off := 1) tt_ok rfl rfl rfl rfl rfl) rfl ?_
    refine wl_val (v := .bool v25x.own.is_) (val_le (enc := c_T_watch_entry) (xs := o25_0.l) tt_ok rfl (Rds.of_vec o25_0V0) ⟨_, (Sel.sc Sel.ha)⟩ c_T_watch_entry_len xv25 rfl) rfl ?_
    refine wl_pure (v := .bool (!v25x.own.is_)) tt_ok rfl rfl ?_
    refine wl_nil (wx_then ?_)
    refine wc_cond rfl (fun hc => ?_) (fun hc => ?_)
    · replace h := ct hc h
      refine wc_region ?_
      iterate 2 refine wl_pure tt_ok rfl rfl ?_
      refine wl_pure (v := .agg #[.int .u64 p2, .bool true]) tt_ok rfl rfl ?_
      refine wl_pure tt_ok rfl rfl ?_
      refine wl_chg0 (chg_ste (enc := c_T_watch_entry) (y' := (T_watch_entry.mk v25x.f (T_watch_sum.mk p2 true) v25x.other)) tt_ok rfl rfl rfl rfl rfl rfl o25_0N0 o25_0V0 (Sel.sc Sel.ha) c_T_watch_entry_len xv25 rfl (by intro h; cases h)) ?_
      rintro _ _ ⟨Bs32_4, Ns32_4, Vs32_4, rfl⟩
      refine wl_nil (wx_then ?_)
      refine wc_k2 (Ls := (Bs32_4 ++ (⟨p0b, [.int .u64 o25_0.rows, .slice o25_0a0 o25_0n0 o25_0c0, .bool (v25x.own.n != p2)], p0t, (0, 0)⟩ :: []))) [34] [34] [0, 0, 2, 6, 14, 30, 62, 126, 254, 510, 1022, 2046, 4094, 8190, 16382, 32766, 65534, 131070, 262142, 524286, 1048574, 2097150, 4194302, 8388606, 524286, 17301502, 50855934, 117964798, 252182526, 536870910, 1073741822, 2147483646, 4294967295, 8589934591, 17179869183] [0, 1, 2, 3, 4, 5, 6, 7, 8, 9, 10, 11, 12, 13, 14, 15, 16, 17, 18, 19, 20, 21, 22, 23, 24, 25, 26, 27, 28, 29, 30, 31, 32, 33, 34] (by kernel_rfl) (by kernel_rfl) (by kernel_rfl) ?_
      refine k_val rfl rfl rfl (pSub (pApp Sel.ha (pCons Sel.hc pNil))) (stepV_ok tt_ok rfl) rfl ?_
      refine k_val rfl rfl rfl (pSub (pApp Sel.ha (pCons Sel.hc pNil))) (stepV_ok tt_ok rfl) rfl ?_
      refine k_val rfl rfl rfl (pSub (pApp Sel.ha (pCons Sel.hc pNil))) (stepV_ok tt_ok rfl) rfl ?_
      refine k_val (v := .pointer (some ⟨p0b, 2, none⟩)) rfl rfl rfl (pSub (pApp Sel.ha (pCons Sel.hc pNil))) (stepV_ok tt_ok rfl) rfl ?_
      refine k_val (v := .bool (v25x.own.n != p2)) rfl rfl rfl (pSub (pApp Sel.ha (pCons Sel.hc pNil))) (val_load tt_ok rfl (mR (List.Mem.head _)) rfl) rfl ?_
      refine k_val rfl rfl rfl (pSub (pApp Sel.ha (pCons Sel.hc pNil))) (stepV_ok tt_ok rfl) rfl ?_
      replace h := bsome h; obtain ⟨v92, h, hg92⟩ := h
      refine k_split (t := 66) rfl (fun hc => ?_) (fun hc => ?_)
      · replace h := ct hc h
        refine k_skip rfl rfl (pSub (pApp Sel.ha (pCons Sel.hc pNil))) rfl ?_
        refine k_skip rfl rfl (pSub (pApp Sel.ha (pCons Sel.hc pNil))) rfl ?_
        refine k_skip rfl rfl (pSub (pApp Sel.ha (pCons Sel.hc pNil))) rfl ?_
        refine k_skip rfl rfl (pSub (pApp Sel.ha (pCons Sel.hc pNil))) rfl ?_
        refine k_skip rfl rfl (pSub (pApp Sel.ha (pCons Sel.hc pNil))) rfl ?_
        refine k_skip rfl rfl (pSub (pApp Sel.ha (pCons Sel.hc pNil))) rfl ?_
        refine k_skip rfl rfl (pSub (pApp Sel.ha (pCons Sel.hc pNil))) rfl ?_
        refine k_skip rfl rfl (pSub (pApp Sel.ha (pCons Sel.hc pNil))) rfl ?_
        refine k_skip rfl rfl (pSub (pApp Sel.ha (pCons Sel.hc pNil))) rfl ?_
        refine k_skip rfl rfl (pSub (pApp Sel.ha (pCons Sel.hc pNil))) rfl ?_
        refine k_skip rfl rfl (pSub (pApp Sel.ha (pCons Sel.hc pNil))) rfl ?_
        refine k_skip rfl rfl (pSub (pApp Sel.ha (pCons Sel.hc pNil))) rfl ?_
        refine k_skip rfl rfl (pSub (pApp Sel.ha (pCons Sel.hc pNil))) rfl ?_
        refine k_skip rfl rfl (pSub (pApp Sel.ha (pCons Sel.hc pNil))) rfl ?_
        refine k_skip rfl rfl (pSub (pApp Sel.ha (pCons Sel.hc pNil))) rfl ?_
        refine k_skip rfl rfl (pSub (pApp Sel.ha (pCons Sel.hc pNil))) rfl ?_
        refine k_skip rfl rfl (pSub (pApp Sel.ha (pCons Sel.hc pNil))) rfl ?_
        refine k_skip rfl rfl (pSub (pApp Sel.ha (pCons Sel.hc pNil))) rfl ?_
        refine k_skip rfl rfl (pSub (pApp Sel.ha (pCons Sel.hc pNil))) rfl ?_
        refine k_skip rfl rfl (pSub (pApp Sel.ha (pCons Sel.hc pNil))) rfl ?_
        refine k_skip rfl rfl (pSub (pApp Sel.ha (pCons Sel.hc pNil))) rfl ?_
        refine k_skip rfl rfl (pSub (pApp Sel.ha (pCons Sel.hc pNil))) rfl ?_
        refine k_skip rfl rfl (pSub (pApp Sel.ha (pCons Sel.hc pNil))) rfl ?_
        refine k_skip rfl rfl (pSub (pApp Sel.ha (pCons Sel.hc pNil))) rfl ?_
        refine k_skip rfl rfl (pSub (pApp Sel.ha (pCons Sel.hc pNil))) rfl ?_
        simp only [Option.some.injEq, Prod.mk.injEq] at h
        obtain rfl := h
        have h := hg92; clear hg92
        refine k_val (v := .bool true) rfl rfl rfl (pSub (pApp Sel.ha (pCons Sel.hc pNil))) (stepV_ok tt_ok rfl) rfl ?_
        refine k_val rfl rfl rfl (pSub (pApp Sel.ha (pCons Sel.hc pNil))) (stepV_ok tt_ok rfl) rfl ?_
        refine k_val (v := .pointer (some ⟨p0b, 2, none⟩)) rfl rfl rfl (pSub (pApp Sel.ha (pCons Sel.hc pNil))) (stepV_ok tt_ok rfl) rfl ?_
        refine k_chg0 rfl rfl rfl (chg_store tt_ok rfl (Upd.right Upd.here) rfl rfl rfl rfl rfl rfl) (.inl rfl) ?_
        rintro _ _ rfl
        refine k_end (by kernel_rfl) ?_
        refine wx_then (wc_seq (wc_seq (wc_region ?_)))
        iterate 2 refine wl_pure tt_ok rfl rfl ?_
        refine wl_pure (v := .pointer (some ⟨p0b, 2, none⟩)) tt_ok rfl rfl ?_
        refine wl_val (v := .bool true) (val_load tt_ok rfl (mR (List.Mem.head _)) rfl) rfl ?_
        refine wl_nil (wx_then ?_)
        replace h := ct rfl h
        refine wc_cond_true rfl ?_
        refine wc_seq (wc_region ?_)
        refine wl_pure tt_ok rfl rfl ?_
        refine wl_nil (wx_then (wc_ret (wx_then_ret ?_)))
        simp only [Option.some.injEq, Prod.mk.injEq] at h
        obtain ⟨rfl, rfl⟩ := h
        exact wx_spD tt_ok (.inl rfl) Tryd.results25 (Res.tmp rfl Res.nil) ⟨o25_0a0, o25_0n0, o25_0c0, Bs32_4, Ns32_4, Vs32_4, rfl, rfl⟩ (fun F => by simp) (pSub (pCons (Sel.sa Sel.hc) (pApp Sel.ha pNil)))
      replace h := cf hc h
      refine k_val rfl rfl rfl (pSub (pApp Sel.ha (pCons Sel.hc pNil))) (stepV_ok tt_ok rfl) rfl ?_
      refine k_val rfl rfl rfl (pSub (pApp Sel.ha (pCons Sel.hc pNil))) (stepV_ok tt_ok rfl) rfl ?_
      refine k_val (v := .pointer (some ((adOf o25_0a0).add (v25s.toNat * 5 + 1)))) rfl rfl rfl (pSub (pApp Sel.ha (pCons Sel.hc pNil))) (val_fa (k := v25s.toNat * 5 + 0) (off := 1) tt_ok rfl rfl rfl rfl rfl) rfl ?_
      refine k_val (v := .pointer (some ((adOf o25_0a0).add (v25s.toNat * 5 + 2)))) rfl rfl rfl (pSub (pApp Sel.ha (pCons Sel.hc pNil))) (val_fa (k := v25s.toNat * 5 + 1) (off := 1) tt_ok rfl rfl rfl rfl rfl) rfl ?_
      refine k_val (v := .bool true) rfl rfl rfl (pSub (pApp Sel.ha (pCons Sel.hc pNil))) (val_le (enc := c_T_watch_entry) (xs := (setI o25_0.l v25s (T_watch_entry.mk v25x.f (T_watch_sum.mk p2 true) v25x.other))) tt_ok rfl (Rds.of_vec Vs32_4) ⟨_, Sel.ha⟩ c_T_watch_entry_len (getI_set xv25) rfl) rfl ?_
      refine k_val rfl rfl rfl (pSub (pApp Sel.ha (pCons Sel.hc pNil))) (stepV_ok tt_ok rfl) rfl ?_
      refine k_val rfl rfl rfl (pSub (pApp Sel.ha (pCons Sel.hc pNil))) (stepV_ok tt_ok rfl) rfl ?_
      refine k_val rfl rfl rfl (pSub (pApp Sel.ha (pCons Sel.hc pNil))) (stepV_ok tt_ok rfl) rfl ?_
      refine k_val (v := .pointer (some ((adOf o25_0a0).add (v25s.toNat * 5 + 3)))) rfl rfl rfl (pSub (pApp Sel.ha (pCons Sel.hc pNil))) (val_fa (k := v25s.toNat * 5 + 0) (off := 3) tt_ok rfl rfl rfl rfl rfl) rfl ?_
      refine k_val (v := .pointer (some ((adOf o25_0a0).add (v25s.toNat * 5 + 4)))) rfl rfl rfl (pSub (pApp Sel.ha (pCons Sel.hc pNil))) (val_fa (k := v25s.toNat * 5 + 3) (off := 1) tt_ok rfl rfl rfl rfl rfl) rfl ?_
      refine k_val (v := .bool v25x.other.is_) rfl rfl rfl (pSub (pApp Sel.ha (pCons Sel.hc pNil))) (val_le (enc := c_T_watch_entry) (xs := (setI o25_0.l v25s (T_watch_entry.mk v25x.f (T_watch_sum.mk p2 true) v25x.other))) tt_ok rfl (Rds.of_vec Vs32_4) ⟨_, Sel.ha⟩ c_T_watch_entry_len (getI_set xv25) rfl) rfl ?_
      refine k_val (v := .bool v25x.other.is_) rfl rfl rfl (pSub (pApp Sel.ha (pCons Sel.hc pNil))) (stepV_ok tt_ok rfl) rfl ?_
      refine k_val rfl rfl rfl (pSub (pApp Sel.ha (pCons Sel.hc pNil))) (stepV_ok tt_ok rfl) rfl ?_
      replace h := bsome h; obtain ⟨v91, h, hg91⟩ := h
      refine k_split (t := 79) rfl (fun hc => ?_) (fun hc => ?_)
      · replace h := ct hc h
        refine k_val rfl rfl rfl (pSub (pApp Sel.ha (pCons Sel.hc pNil))) (stepV_ok tt_ok rfl) rfl ?_
        refine k_val rfl rfl rfl (pSub (pApp Sel.ha (pCons Sel.hc pNil))) (stepV_ok tt_ok rfl) rfl ?_
        refine k_val (v := .pointer (some ((adOf o25_0a0).add (v25s.toNat * 5 + 1)))) rfl rfl rfl (pSub (pApp Sel.ha (pCons Sel.hc pNil))) (val_fa (k := v25s.toNat * 5 + 0) (off := 1) tt_ok rfl rfl rfl rfl rfl) rfl ?_
        refine k_val (v := .pointer (some ((adOf o25_0a0).add (v25s.toNat * 5 + 1)))) rfl rfl rfl (pSub (pApp Sel.ha (pCons Sel.hc pNil))) (val_fa (k := v25s.toNat * 5 + 1) (off := 0) tt_ok rfl rfl rfl rfl rfl) rfl ?_
        refine k_val (v := .int .u64 p2) rfl rfl rfl (pSub (pApp Sel.ha (pCons Sel.hc pNil))) (val_le (enc := c_T_watch_entry) (xs := (setI o25_0.l v25s (T_watch_entry.mk v25x.f (T_watch_sum.mk p2 true) v25x.other))) tt_ok rfl (Rds.of_vec Vs32_4) ⟨_, Sel.ha⟩ c_T_watch_entry_len (getI_set xv25) rfl) rfl ?_
        refine k_val rfl rfl rfl (pSub (pApp Sel.ha (pCons Sel.hc pNil))) (stepV_ok tt_ok rfl) rfl ?_
        refine k_val rfl rfl rfl (pSub (pApp Sel.ha (pCons Sel.hc pNil))) (stepV_ok tt_ok rfl) rfl ?_
        refine k_val (v := .pointer (some ((adOf o25_0a0).add (v25s.toNat * 5 + 3)))) rfl rfl rfl (pSub (pApp Sel.ha (pCons Sel.hc pNil))) (val_fa (k := v25s.toNat * 5 + 0) (off := 3) tt_ok rfl rfl rfl rfl rfl) rfl ?_
        refine k_val (v := .pointer (some ((adOf o25_0a0).add (v25s.toNat * 5 + 3)))) rfl rfl rfl (pSub (pApp Sel.ha (pCons Sel.hc pNil))) (val_fa (k := v25s.toNat * 5 + 3) (off := 0) tt_ok rfl rfl rfl rfl rfl) rfl ?_
        refine k_val (v := .int .u64 v25x.other.n) rfl rfl rfl (pSub (pApp Sel.ha (pCons Sel.hc pNil))) (val_le (enc := c_T_watch_entry) (xs := (setI o25_0.l v25s (T_watch_entry.mk v25x.f (T_watch_sum.mk p2 true) v25x.other))) tt_ok rfl (Rds.of_vec Vs32_4) ⟨_, Sel.ha⟩ c_T_watch_entry_len (getI_set xv25) rfl) rfl ?_
        refine k_val (v := .bool (p2 != v25x.other.n)) rfl rfl rfl (pSub (pApp Sel.ha (pCons Sel.hc pNil))) (stepV_ok tt_ok rfl) rfl ?_
        simp only [Option.some.injEq, Prod.mk.injEq] at h
        obtain rfl := h
        have h := hg91; clear hg91
        refine k_val (v := .bool (p2 != v25x.other.n)) rfl rfl rfl (pSub (pApp Sel.ha (pCons Sel.hc pNil))) (stepV_ok tt_ok rfl) rfl ?_
        simp only [Option.some.injEq, Prod.mk.injEq] at h
        obtain rfl := h
        have h := hg92; clear hg92
        refine k_val (v := .bool (p2 != v25x.other.n)) rfl rfl rfl (pSub (pApp Sel.ha (pCons Sel.hc pNil))) (stepV_ok tt_ok rfl) rfl ?_
        refine k_val rfl rfl rfl (pSub (pApp Sel.ha (pCons Sel.hc pNil))) (stepV_ok tt_ok rfl) rfl ?_
        refine k_val (v := .pointer (some ⟨p0b, 2, none⟩)) rfl rfl rfl (pSub (pApp Sel.ha (pCons Sel.hc pNil))) (stepV_ok tt_ok rfl) rfl ?_
        refine k_chg0 rfl rfl rfl (chg_store tt_ok rfl (Upd.right Upd.here) rfl rfl rfl rfl rfl rfl) (.inl rfl) ?_
        rintro _ _ rfl
        refine k_end (by kernel_rfl) ?_
        refine wx_then (wc_seq (wc_seq (wc_region ?_)))
        iterate 2 refine wl_pure tt_ok rfl rfl ?_
        refine wl_pure (v := .pointer (some ⟨p0b, 2, none⟩)) tt_ok rfl rfl ?_
        refine wl_val (v := .bool (p2 != v25x.other.n)) (val_load tt_ok rfl (mR (List.Mem.head _)) rfl) rfl ?_
        refine wl_nil (wx_then ?_)
        refine wc_cond rfl (fun hc => ?_) (fun hc => ?_)
        · replace h := ct hc h
          refine wc_seq (wc_region ?_)
          refine wl_pure tt_ok rfl rfl ?_
          refine wl_nil (wx_then (wc_ret (wx_then_ret ?_)))
          simp only [Option.some.injEq, Prod.mk.injEq] at h
          obtain ⟨rfl, rfl⟩ := h
          exact wx_spD tt_ok (.inl rfl) Tryd.results25 (Res.tmp rfl Res.nil) ⟨o25_0a0, o25_0n0, o25_0c0, Bs32_4, Ns32_4, Vs32_4, rfl, rfl⟩ (fun F => by simp) (pSub (pCons (Sel.sa Sel.hc) (pApp Sel.ha pNil)))
        replace h := cf hc h
        refine wc_skip (wx_then (wc_seq (wc_region ?_)))
        refine wl_pure tt_ok rfl rfl ?_
        refine wl_nil (wx_then (wc_ret ?_))
        simp only [Option.some.injEq, Prod.mk.injEq] at h
        obtain ⟨rfl, rfl⟩ := h
        exact wx_spD tt_ok (.inl rfl) Tryd.results25 (Res.tmp rfl Res.nil) ⟨o25_0a0, o25_0n0, o25_0c0, Bs32_4, Ns32_4, Vs32_4, rfl, rfl⟩ (fun F => by simp) (pSub (pCons (Sel.sa Sel.hc) (pApp Sel.ha pNil)))
      replace h := cf hc h
      refine k_skip rfl rfl (pSub (pApp Sel.ha (pCons Sel.hc pNil))) rfl ?_
      refine k_skip rfl rfl (pSub (pApp Sel.ha (pCons Sel.hc pNil))) rfl ?_
      refine k_skip rfl rfl (pSub (pApp Sel.ha (pCons Sel.hc pNil))) rfl ?_
      refine k_skip rfl rfl (pSub (pApp Sel.ha (pCons Sel.hc pNil))) rfl ?_
      refine k_skip rfl rfl (pSub (pApp Sel.ha (pCons Sel.hc pNil))) rfl ?_
      refine k_skip rfl rfl (pSub (pApp Sel.ha (pCons Sel.hc pNil))) rfl ?_
      refine k_skip rfl rfl (pSub (pApp Sel.ha (pCons Sel.hc pNil))) rfl ?_
      refine k_skip rfl rfl (pSub (pApp Sel.ha (pCons Sel.hc pNil))) rfl ?_
      refine k_skip rfl rfl (pSub (pApp Sel.ha (pCons Sel.hc pNil))) rfl ?_
      refine k_skip rfl rfl (pSub (pApp Sel.ha (pCons Sel.hc pNil))) rfl ?_
      refine k_skip rfl rfl (pSub (pApp Sel.ha (pCons Sel.hc pNil))) rfl ?_
      simp only [Option.some.injEq, Prod.mk.injEq] at h
      obtain rfl := h
      have h := hg91; clear hg91
      refine k_val (v := .bool false) rfl rfl rfl (pSub (pApp Sel.ha (pCons Sel.hc pNil))) (stepV_ok tt_ok rfl) rfl ?_
      simp only [Option.some.injEq, Prod.mk.injEq] at h
      obtain rfl := h
      have h := hg92; clear hg92
      refine k_val (v := .bool false) rfl rfl rfl (pSub (pApp Sel.ha (pCons Sel.hc pNil))) (stepV_ok tt_ok rfl) rfl ?_
      refine k_val rfl rfl rfl (pSub (pApp Sel.ha (pCons Sel.hc pNil))) (stepV_ok tt_ok rfl) rfl ?_
      refine k_val (v := .pointer (some ⟨p0b, 2, none⟩)) rfl rfl rfl (pSub (pApp Sel.ha (pCons Sel.hc pNil))) (stepV_ok tt_ok rfl) rfl ?_
      refine k_chg0 rfl rfl rfl (chg_store tt_ok rfl (Upd.right Upd.here) rfl rfl rfl rfl rfl rfl) (.inl rfl) ?_
      rintro _ _ rfl
      refine k_end (by kernel_rfl) ?_
      refine wx_then (wc_seq (wc_seq (wc_region ?_)))
      iterate 2 refine wl_pure tt_ok rfl rfl ?_
      refine wl_pure (v := .pointer (some ⟨p0b, 2, none⟩)) tt_ok rfl rfl ?_
      refine wl_val (v := .bool false) (val_load tt_ok rfl (mR (List.Mem.head _)) rfl) rfl ?_
      refine wl_nil (wx_then ?_)
      replace h := cf rfl h
      refine wc_cond_false rfl ?_
      refine wc_skip (wx_then (wc_seq (wc_region ?_)))
      refine wl_pure tt_ok rfl rfl ?_
      refine wl_nil (wx_then (wc_ret ?_))
      simp only [Option.some.injEq, Prod.mk.injEq] at h
      obtain ⟨rfl, rfl⟩ := h
      exact wx_spD tt_ok (.inl rfl) Tryd.results25 (Res.tmp rfl Res.nil) ⟨o25_0a0, o25_0n0, o25_0c0, Bs32_4, Ns32_4, Vs32_4, rfl, rfl⟩ (fun F => by simp) (pSub (pCons (Sel.sa Sel.hc) (pApp Sel.ha pNil)))
    replace h := cf hc h
    refine wc_skip (wx_then ?_)
    refine wc_k2 (Ls := (⟨p0b, [.int .u64 o25_0.rows, .slice o25_0a0 o25_0n0 o25_0c0, .bool (v25x.own.n != p2)], p0t, (0, 0)⟩ :: (o25_0B0 ++ []))) [34] [34] [0, 0, 2, 6, 14, 30, 62, 126, 254, 510, 1022, 2046, 4094, 8190, 16382, 32766, 65534, 131070, 262142, 524286, 1048574, 2097150, 4194302, 8388606, 524286, 17301502, 50855934, 117964798, 252182526, 536870910, 1073741822, 2147483646, 4294967295, 8589934591, 17179869183] [0, 1, 2, 3, 4, 5, 6, 7, 8, 9, 10, 11, 12, 13, 14, 15, 16, 17, 18, 19, 20, 21, 22, 23, 24, 25, 26, 27, 28, 29, 30, 31, 32, 33, 34] (by kernel_rfl) (by kernel_rfl) (by kernel_rfl) ?_
    refine k_val rfl rfl rfl (pSub (pCons Sel.hc (pApp Sel.ha pNil))) (stepV_ok tt_ok rfl) rfl ?_
    refine k_val rfl rfl rfl (pSub (pCons Sel.hc (pApp Sel.ha pNil))) (stepV_ok tt_ok rfl) rfl ?_
    refine k_val rfl rfl rfl (pSub (pCons Sel.hc (pApp Sel.ha pNil))) (stepV_ok tt_ok rfl) rfl ?_
    refine k_val (v := .pointer (some ⟨p0b, 2, none⟩)) rfl rfl rfl (pSub (pCons Sel.hc (pApp Sel.ha pNil))) (stepV_ok tt_ok rfl) rfl ?_
    refine k_val (v := .bool (v25x.own.n != p2)) rfl rfl rfl (pSub (pCons Sel.hc (pApp Sel.ha pNil))) (val_load tt_ok rfl (List.Mem.head _) rfl) rfl ?_
    refine k_val rfl rfl rfl (pSub (pCons Sel.hc (pApp Sel.ha pNil))) (stepV_ok tt_ok rfl) rfl ?_
    replace h := bsome h; obtain ⟨v92, h, hg92⟩ := h
    refine k_split (t := 66) rfl (fun hc => ?_) (fun hc => ?_)
    · replace h := ct hc h
      refine k_skip rfl rfl (pSub (pCons Sel.hc (pApp Sel.ha pNil))) rfl ?_
      refine k_skip rfl rfl (pSub (pCons Sel.hc (pApp Sel.ha pNil))) rfl ?_
      refine k_skip rfl rfl (pSub (pCons Sel.hc (pApp Sel.ha pNil))) rfl ?_
      refine k_skip rfl rfl (pSub (pCons Sel.hc (pApp Sel.ha pNil))) rfl ?_
      refine k_skip rfl rfl (pSub (pCons Sel.hc (pApp Sel.ha pNil))) rfl ?_
      refine k_skip rfl rfl (pSub (pCons Sel.hc (pApp Sel.ha pNil))) rfl ?_
      refine k_skip rfl rfl (pSub (pCons Sel.hc (pApp Sel.ha pNil))) rfl ?_
      refine k_skip rfl rfl (pSub (pCons Sel.hc (pApp Sel.ha pNil))) rfl ?_
      refine k_skip rfl rfl (pSub (pCons Sel.hc (pApp Sel.ha pNil))) rfl ?_
      refine k_skip rfl rfl (pSub (pCons Sel.hc (pApp Sel.ha pNil))) rfl ?_
      refine k_skip rfl rfl (pSub (pCons Sel.hc (pApp Sel.ha pNil))) rfl ?_
      refine k_skip rfl rfl (pSub (pCons Sel.hc (pApp Sel.ha pNil))) rfl ?_
      refine k_skip rfl rfl (pSub (pCons Sel.hc (pApp Sel.ha pNil))) rfl ?_
      refine k_skip rfl rfl (pSub (pCons Sel.hc (pApp Sel.ha pNil))) rfl ?_
      refine k_skip rfl rfl (pSub (pCons Sel.hc (pApp Sel.ha pNil))) rfl ?_
      refine k_skip rfl rfl (pSub (pCons Sel.hc (pApp Sel.ha pNil))) rfl ?_
      refine k_skip rfl rfl (pSub (pCons Sel.hc (pApp Sel.ha pNil))) rfl ?_
      refine k_skip rfl rfl (pSub (pCons Sel.hc (pApp Sel.ha pNil))) rfl ?_
      refine k_skip rfl rfl (pSub (pCons Sel.hc (pApp Sel.ha pNil))) rfl ?_
      refine k_skip rfl rfl (pSub (pCons Sel.hc (pApp Sel.ha pNil))) rfl ?_
      refine k_skip rfl rfl (pSub (pCons Sel.hc (pApp Sel.ha pNil))) rfl ?_
      refine k_skip rfl rfl (pSub (pCons Sel.hc (pApp Sel.ha pNil))) rfl ?_
      refine k_skip rfl rfl (pSub (pCons Sel.hc (pApp Sel.ha pNil))) rfl ?_
      refine k_skip rfl rfl (pSub (pCons Sel.hc (pApp Sel.ha pNil))) rfl ?_
      refine k_skip rfl rfl (pSub (pCons Sel.hc (pApp Sel.ha pNil))) rfl ?_
      simp only [Option.some.injEq, Prod.mk.injEq] at h
      obtain rfl := h
      have h := hg92; clear hg92
      refine k_val (v := .bool true) rfl rfl rfl (pSub (pCons Sel.hc (pApp Sel.ha pNil))) (stepV_ok tt_ok rfl) rfl ?_
      refine k_val rfl rfl rfl (pSub (pCons Sel.hc (pApp Sel.ha pNil))) (stepV_ok tt_ok rfl) rfl ?_
      refine k_val (v := .pointer (some ⟨p0b, 2, none⟩)) rfl rfl rfl (pSub (pCons Sel.hc (pApp Sel.ha pNil))) (stepV_ok tt_ok rfl) rfl ?_
      refine k_chg0 rfl rfl rfl (chg_store tt_ok rfl Upd.here rfl rfl rfl rfl rfl rfl) (.inl rfl) ?_
      rintro _ _ rfl
      refine k_end (by kernel_rfl) ?_
      refine wx_then (wc_seq (wc_seq (wc_region ?_)))
      iterate 2 refine wl_pure tt_ok rfl rfl ?_
      refine wl_pure (v := .pointer (some ⟨p0b, 2, none⟩)) tt_ok rfl rfl ?_
      refine wl_val (v := .bool true) (val_load tt_ok rfl (List.Mem.head _) rfl) rfl ?_
      refine wl_nil (wx_then ?_)
      replace h := ct rfl h
      refine wc_cond_true rfl ?_
      refine wc_seq (wc_region ?_)
      refine wl_pure tt_ok rfl rfl ?_
      refine wl_nil (wx_then (wc_ret (wx_then_ret ?_)))
      simp only [Option.some.injEq, Prod.mk.injEq] at h
      obtain ⟨rfl, rfl⟩ := h
      exact wx_spD tt_ok (.inl rfl) Tryd.results25 (Res.tmp rfl Res.nil) ⟨o25_0a0, o25_0n0, o25_0c0, o25_0B0, o25_0N0, o25_0V0, rfl, rfl⟩ (fun F => by simp) (pSub (pCons Sel.hc (pApp Sel.ha pNil)))
    replace h := cf hc h
    refine k_val rfl rfl rfl (pSub (pCons Sel.hc (pApp Sel.ha pNil))) (stepV_ok tt_ok rfl) rfl ?_
    refine k_val rfl rfl rfl (pSub (pCons Sel.hc (pApp Sel.ha pNil))) (stepV_ok tt_ok rfl) rfl ?_
    refine k_val (v := .pointer (some ((adOf o25_0a0).add (v25s.toNat * 5 + 1)))) rfl rfl rfl (pSub (pCons Sel.hc (pApp Sel.ha pNil))) (val_fa (k := v25s.toNat * 5 + 0) (off := 1) tt_ok rfl rfl rfl rfl rfl) rfl ?_
    refine k_val (v := .pointer (some ((adOf o25_0a0).add (v25s.toNat * 5 + 2)))) rfl rfl rfl (pSub (pCons Sel.hc (pApp Sel.ha pNil))) (val_fa (k := v25s.toNat * 5 + 1) (off := 1) tt_ok rfl rfl rfl rfl rfl) rfl ?_
    refine k_val (v := .bool v25x.own.is_) rfl rfl rfl (pSub (pCons Sel.hc (pApp Sel.ha pNil))) (val_le (enc := c_T_watch_entry) (xs := o25_0.l) tt_ok rfl (Rds.of_vec o25_0V0) ⟨_, (Sel.sc Sel.ha)⟩ c_T_watch_entry_len xv25 rfl) rfl ?_
    refine k_val rfl rfl rfl (pSub (pCons Sel.hc (pApp Sel.ha pNil))) (stepV_ok tt_ok rfl) rfl ?_
    replace h := bsome h; obtain ⟨v78, h, hg78⟩ := h
    refine k_split (t := 72) rfl (fun hc => ?_) (fun hc => ?_)
    · replace h := ct hc h
      refine k_val rfl rfl rfl (pSub (pCons Sel.hc (pApp Sel.ha pNil))) (stepV_ok tt_ok rfl) rfl ?_
      refine k_val rfl rfl rfl (pSub (pCons Sel.hc (pApp Sel.ha pNil))) (stepV_ok tt_ok rfl) rfl ?_
      refine k_val (v := .pointer (some ((adOf o25_0a0).add (v25s.toNat * 5 + 3)))) rfl rfl rfl (pSub (pCons Sel.hc (pApp Sel.ha pNil))) (val_fa (k := v25s.toNat * 5 + 0) (off := 3) tt_ok rfl rfl rfl rfl rfl) rfl ?_
      refine k_val (v := .pointer (some ((adOf o25_0a0).add (v25s.toNat * 5 + 4)))) rfl rfl rfl (pSub (pCons Sel.hc (pApp Sel.ha pNil))) (val_fa (k := v25s.toNat * 5 + 3) (off := 1) tt_ok rfl rfl rfl rfl rfl) rfl ?_
      refine k_val (v := .bool v25x.other.is_) rfl rfl rfl (pSub (pCons Sel.hc (pApp Sel.ha pNil))) (val_le (enc := c_T_watch_entry) (xs := o25_0.l) tt_ok rfl (Rds.of_vec o25_0V0) ⟨_, (Sel.sc Sel.ha)⟩ c_T_watch_entry_len xv25 rfl) rfl ?_
      simp only [Option.some.injEq, Prod.mk.injEq] at h
      obtain rfl := h
      have h := hg78; clear hg78
      refine k_val (v := .bool v25x.other.is_) rfl rfl rfl (pSub (pCons Sel.hc (pApp Sel.ha pNil))) (stepV_ok tt_ok rfl) rfl ?_
      refine k_val rfl rfl rfl (pSub (pCons Sel.hc (pApp Sel.ha pNil))) (stepV_ok tt_ok rfl) rfl ?_
      replace h := bsome h; obtain ⟨v91, h, hg91⟩ := h
      refine k_split (t := 79) rfl (fun hc => ?_) (fun hc => ?_)
      · replace h := ct hc h
        refine k_val rfl rfl rfl (pSub (pCons Sel.hc (pApp Sel.ha pNil))) (stepV_ok tt_ok rfl) rfl ?_
        refine k_val rfl rfl rfl (pSub (pCons Sel.hc (pApp Sel.ha pNil))) (stepV_ok tt_ok rfl) rfl ?_
        refine k_val (v := .pointer (some ((adOf o25_0a0).add (v25s.toNat * 5 + 1)))) rfl rfl rfl (pSub (pCons Sel.hc (pApp Sel.ha pNil))) (val_fa (k := v25s.toNat * 5 + 0) (off := 1) tt_ok rfl rfl rfl rfl rfl) rfl ?_
        refine k_val (v := .pointer (some ((adOf o25_0a0).add (v25s.toNat * 5 + 1)))) rfl rfl rfl (pSub (pCons Sel.hc (pApp Sel.ha pNil))) (val_fa (k := v25s.toNat * 5 + 1) (off := 0) tt_ok rfl rfl rfl rfl rfl) rfl ?_
        refine k_val (v := .int .u64 v25x.own.n) rfl rfl rfl (pSub (pCons Sel.hc (pApp Sel.ha pNil))) (val_le (enc := c_T_watch_entry) (xs := o25_0.l) tt_ok rfl (Rds.of_vec o25_0V0) ⟨_, (Sel.sc Sel.ha)⟩ c_T_watch_entry_len xv25 rfl) rfl ?_
        refine k_val rfl rfl rfl (pSub (pCons Sel.hc (pApp Sel.ha pNil))) (stepV_ok tt_ok rfl) rfl ?_
        refine k_val rfl rfl rfl (pSub (pCons Sel.hc (pApp Sel.ha pNil))) (stepV_ok tt_ok rfl) rfl ?_
        refine k_val (v := .pointer (some ((adOf o25_0a0).add (v25s.toNat * 5 + 3)))) rfl rfl rfl (pSub (pCons Sel.hc (pApp Sel.ha pNil))) (val_fa (k := v25s.toNat * 5 + 0) (off := 3) tt_ok rfl rfl rfl rfl rfl) rfl ?_
        refine k_val (v := .pointer (some ((adOf o25_0a0).add (v25s.toNat * 5 + 3)))) rfl rfl rfl (pSub (pCons Sel.hc (pApp Sel.ha pNil))) (val_fa (k := v25s.toNat * 5 + 3) (off := 0) tt_ok rfl rfl rfl rfl rfl) rfl ?_
        refine k_val (v := .int .u64 v25x.other.n) rfl rfl rfl (pSub (pCons Sel.hc (pApp Sel.ha pNil))) (val_le (enc := c_T_watch_entry) (xs := o25_0.l) tt_ok rfl (Rds.of_vec o25_0V0) ⟨_, (Sel.sc Sel.ha)⟩ c_T_watch_entry_len xv25 rfl) rfl ?_
        refine k_val (v := .bool (v25x.own.n != v25x.other.n)) rfl rfl rfl (pSub (pCons Sel.hc (pApp Sel.ha pNil))) (stepV_ok tt_ok rfl) rfl ?_
        simp only [Option.some.injEq, Prod.mk.injEq] at h
        obtain rfl := h
        have h := hg91; clear hg91
        refine k_val (v := .bool (v25x.own.n != v25x.other.n)) rfl rfl rfl (pSub (pCons Sel.hc (pApp Sel.ha pNil))) (stepV_ok tt_ok rfl) rfl ?_
        simp only [Option.some.injEq, Prod.mk.injEq] at h
        obtain rfl := h
        have h := hg92; clear hg92
        refine k_val (v := .bool (v25x.own.n != v25x.other.n)) rfl rfl rfl (pSub (pCons Sel.hc (pApp Sel.ha pNil))) (stepV_ok tt_ok rfl) rfl ?_
        refine k_val rfl rfl rfl (pSub (pCons Sel.hc (pApp Sel.ha pNil))) (stepV_ok tt_ok rfl) rfl ?_
        refine k_val (v := .pointer (some ⟨p0b, 2, none⟩)) rfl rfl rfl (pSub (pCons Sel.hc (pApp Sel.ha pNil))) (stepV_ok tt_ok rfl) rfl ?_
        refine k_chg0 rfl rfl rfl (chg_store tt_ok rfl Upd.here rfl rfl rfl rfl rfl rfl) (.inl rfl) ?_
        rintro _ _ rfl
        refine k_end (by kernel_rfl) ?_
        refine wx_then (wc_seq (wc_seq (wc_region ?_)))
        iterate 2 refine wl_pure tt_ok rfl rfl ?_
        refine wl_pure (v := .pointer (some ⟨p0b, 2, none⟩)) tt_ok rfl rfl ?_
        refine wl_val (v := .bool (v25x.own.n != v25x.other.n)) (val_load tt_ok rfl (List.Mem.head _) rfl) rfl ?_
        refine wl_nil (wx_then ?_)
        refine wc_cond rfl (fun hc => ?_) (fun hc => ?_)
        · replace h := ct hc h
          refine wc_seq (wc_region ?_)
          refine wl_pure tt_ok rfl rfl ?_
          refine wl_nil (wx_then (wc_ret (wx_then_ret ?_)))
          simp only [Option.some.injEq, Prod.mk.injEq] at h
          obtain ⟨rfl, rfl⟩ := h
          exact wx_spD tt_ok (.inl rfl) Tryd.results25 (Res.tmp rfl Res.nil) ⟨o25_0a0, o25_0n0, o25_0c0, o25_0B0, o25_0N0, o25_0V0, rfl, rfl⟩ (fun F => by simp) (pSub (pCons Sel.hc (pApp Sel.ha pNil)))
        replace h := cf hc h
        refine wc_skip (wx_then (wc_seq (wc_region ?_)))
        refine wl_pure tt_ok rfl rfl ?_
        refine wl_nil (wx_then (wc_ret ?_))
        simp only [Option.some.injEq, Prod.mk.injEq] at h
        obtain ⟨rfl, rfl⟩ := h
        exact wx_spD tt_ok (.inl rfl) Tryd.results25 (Res.tmp rfl Res.nil) ⟨o25_0a0, o25_0n0, o25_0c0, o25_0B0, o25_0N0, o25_0V0, rfl, rfl⟩ (fun F => by simp) (pSub (pCons Sel.hc (pApp Sel.ha pNil)))
      replace h := cf hc h
      refine k_skip rfl rfl (pSub (pCons Sel.hc (pApp Sel.ha pNil))) rfl ?_
      refine k_skip rfl rfl (pSub (pCons Sel.hc (pApp Sel.ha pNil))) rfl ?_
      refine k_skip rfl rfl (pSub (pCons Sel.hc (pApp Sel.ha pNil))) rfl ?_
      refine k_skip rfl rfl (pSub (pCons Sel.hc (pApp Sel.ha pNil))) rfl ?_
      refine k_skip rfl rfl (pSub (pCons Sel.hc (pApp Sel.ha pNil))) rfl ?_
      refine k_skip rfl rfl (pSub (pCons Sel.hc (pApp Sel.ha pNil))) rfl ?_
      refine k_skip rfl rfl (pSub (pCons Sel.hc (pApp Sel.ha pNil))) rfl ?_
      refine k_skip rfl rfl (pSub (pCons Sel.hc (pApp Sel.ha pNil))) rfl ?_
      refine k_skip rfl rfl (pSub (pCons Sel.hc (pApp Sel.ha pNil))) rfl ?_
      refine k_skip rfl rfl (pSub (pCons Sel.hc (pApp Sel.ha pNil))) rfl ?_
      refine k_skip rfl rfl (pSub (pCons Sel.hc (pApp Sel.ha pNil))) rfl ?_
      simp only [Option.some.injEq, Prod.mk.injEq] at h
      obtain rfl := h
      have h := hg91; clear hg91
      refine k_val (v := .bool false) rfl rfl rfl (pSub (pCons Sel.hc (pApp Sel.ha pNil))) (stepV_ok tt_ok rfl) rfl ?_
      simp only [Option.some.injEq, Prod.mk.injEq] at h
      obtain rfl := h
      have h := hg92; clear hg92
      refine k_val (v := .bool false) rfl rfl rfl (pSub (pCons Sel.hc (pApp Sel.ha pNil))) (stepV_ok tt_ok rfl) rfl ?_
      refine k_val rfl rfl rfl (pSub (pCons Sel.hc (pApp Sel.ha pNil))) (stepV_ok tt_ok rfl) rfl ?_
      refine k_val (v := .pointer (some ⟨p0b, 2, none⟩)) rfl rfl rfl (pSub (pCons Sel.hc (pApp Sel.ha pNil))) (stepV_ok tt_ok rfl) rfl ?_
      refine k_chg0 rfl rfl rfl (chg_store tt_ok rfl Upd.here rfl rfl rfl rfl rfl rfl) (.inl rfl) ?_
      rintro _ _ rfl
      refine k_end (by kernel_rfl) ?_
      refine wx_then (wc_seq (wc_seq (wc_region ?_)))
      iterate 2 refine wl_pure tt_ok rfl rfl ?_
      refine wl_pure (v := .pointer (some ⟨p0b, 2, none⟩)) tt_ok rfl rfl ?_
      refine wl_val (v := .bool false) (val_load tt_ok rfl (List.Mem.head _) rfl) rfl ?_
      refine wl_nil (wx_then ?_)
      replace h := cf rfl h
      refine wc_cond_false rfl ?_
      refine wc_skip (wx_then (wc_seq (wc_region ?_)))
      refine wl_pure tt_ok rfl rfl ?_
      refine wl_nil (wx_then (wc_ret ?_))
      simp only [Option.some.injEq, Prod.mk.injEq] at h
      obtain ⟨rfl, rfl⟩ := h
      exact wx_spD tt_ok (.inl rfl) Tryd.results25 (Res.tmp rfl Res.nil) ⟨o25_0a0, o25_0n0, o25_0c0, o25_0B0, o25_0N0, o25_0V0, rfl, rfl⟩ (fun F => by simp) (pSub (pCons Sel.hc (pApp Sel.ha pNil)))
    replace h := cf hc h
    refine k_skip rfl rfl (pSub (pCons Sel.hc (pApp Sel.ha pNil))) rfl ?_
    refine k_skip rfl rfl (pSub (pCons Sel.hc (pApp Sel.ha pNil))) rfl ?_
    refine k_skip rfl rfl (pSub (pCons Sel.hc (pApp Sel.ha pNil))) rfl ?_
    refine k_skip rfl rfl (pSub (pCons Sel.hc (pApp Sel.ha pNil))) rfl ?_
    refine k_skip rfl rfl (pSub (pCons Sel.hc (pApp Sel.ha pNil))) rfl ?_
    simp only [Option.some.injEq, Prod.mk.injEq] at h
    obtain rfl := h
    have h := hg78; clear hg78
    refine k_val (v := .bool false) rfl rfl rfl (pSub (pCons Sel.hc (pApp Sel.ha pNil))) (stepV_ok tt_ok rfl) rfl ?_
    refine k_val rfl rfl rfl (pSub (pCons Sel.hc (pApp Sel.ha pNil))) (stepV_ok tt_ok rfl) rfl ?_
    replace h := bsome h; obtain ⟨v91, h, hg91⟩ := h
    replace h := cf rfl h
    refine k_skip rfl rfl (pSub (pCons Sel.hc (pApp Sel.ha pNil))) rfl ?_
    refine k_skip rfl rfl (pSub (pCons Sel.hc (pApp Sel.ha pNil))) rfl ?_
    refine k_skip rfl rfl (pSub (pCons Sel.hc (pApp Sel.ha pNil))) rfl ?_
    refine k_skip rfl rfl (pSub (pCons Sel.hc (pApp Sel.ha pNil))) rfl ?_
    refine k_skip rfl rfl (pSub (pCons Sel.hc (pApp Sel.ha pNil))) rfl ?_
    refine k_skip rfl rfl (pSub (pCons Sel.hc (pApp Sel.ha pNil))) rfl ?_
    refine k_skip rfl rfl (pSub (pCons Sel.hc (pApp Sel.ha pNil))) rfl ?_
    refine k_skip rfl rfl (pSub (pCons Sel.hc (pApp Sel.ha pNil))) rfl ?_
    refine k_skip rfl rfl (pSub (pCons Sel.hc (pApp Sel.ha pNil))) rfl ?_
    refine k_skip rfl rfl (pSub (pCons Sel.hc (pApp Sel.ha pNil))) rfl ?_
    refine k_skip rfl rfl (pSub (pCons Sel.hc (pApp Sel.ha pNil))) rfl ?_
    simp only [Option.some.injEq, Prod.mk.injEq] at h
    obtain rfl := h
    have h := hg91; clear hg91
    refine k_val (v := .bool false) rfl rfl rfl (pSub (pCons Sel.hc (pApp Sel.ha pNil))) (stepV_ok tt_ok rfl) rfl ?_
    simp only [Option.some.injEq, Prod.mk.injEq] at h
    obtain rfl := h
    have h := hg92; clear hg92
    refine k_val (v := .bool false) rfl rfl rfl (pSub (pCons Sel.hc (pApp Sel.ha pNil))) (stepV_ok tt_ok rfl) rfl ?_
    refine k_val rfl rfl rfl (pSub (pCons Sel.hc (pApp Sel.ha pNil))) (stepV_ok tt_ok rfl) rfl ?_
    refine k_val (v := .pointer (some ⟨p0b, 2, none⟩)) rfl rfl rfl (pSub (pCons Sel.hc (pApp Sel.ha pNil))) (stepV_ok tt_ok rfl) rfl ?_
    refine k_chg0 rfl rfl rfl (chg_store tt_ok rfl Upd.here rfl rfl rfl rfl rfl rfl) (.inl rfl) ?_
    rintro _ _ rfl
    refine k_end (by kernel_rfl) ?_
    refine wx_then (wc_seq (wc_seq (wc_region ?_)))
    iterate 2 refine wl_pure tt_ok rfl rfl ?_
    refine wl_pure (v := .pointer (some ⟨p0b, 2, none⟩)) tt_ok rfl rfl ?_
    refine wl_val (v := .bool false) (val_load tt_ok rfl (List.Mem.head _) rfl) rfl ?_
    refine wl_nil (wx_then ?_)
    replace h := cf rfl h
    refine wc_cond_false rfl ?_
    refine wc_skip (wx_then (wc_seq (wc_region ?_)))
    refine wl_pure tt_ok rfl rfl ?_
    refine wl_nil (wx_then (wc_ret ?_))
    simp only [Option.some.injEq, Prod.mk.injEq] at h
    obtain ⟨rfl, rfl⟩ := h
    exact wx_spD tt_ok (.inl rfl) Tryd.results25 (Res.tmp rfl Res.nil) ⟨o25_0a0, o25_0n0, o25_0c0, o25_0B0, o25_0N0, o25_0V0, rfl, rfl⟩ (fun F => by simp) (pSub (pCons Sel.hc (pApp Sel.ha pNil)))
  replace h := cf hc h
  refine wl_skip rfl rfl ?_
  refine wl_skip rfl rfl ?_
  refine wl_skip rfl rfl ?_
  refine wl_skip rfl rfl ?_
  refine wl_skip rfl rfl ?_
  refine wl_skip rfl rfl ?_
  simp only [Option.some.injEq, Prod.mk.injEq] at h
  obtain rfl := h
  have h := hg48; clear hg48
  refine wl_run rfl ?_
  refine wl_pure (v := .bool false) tt_ok rfl rfl ?_
  simp only [Option.some.injEq, Prod.mk.injEq] at h
  obtain rfl := h
  have h := hg49; clear hg49
  refine wl_pure (v := .bool false) tt_ok rfl rfl ?_
  refine wl_pure tt_ok rfl rfl ?_
  refine wl_pure (v := .pointer (some ⟨p0b, 2, none⟩)) tt_ok rfl rfl ?_
  apply wl_store tt_ok; rfl; exact Upd.here; rfl; rfl; rfl; rfl; rfl; rfl
  refine wl_nil (wx_then (wc_seq (wc_seq (wc_region ?_))))
  iterate 2 refine wl_pure tt_ok rfl rfl ?_
  refine wl_val (v := .pointer (some ((adOf o25_0a0).add (v25s.toNat * 5 + 2)))) (val_fa (k := v25s.toNat * 5 + 1) (off := 1) tt_ok rfl rfl rfl rfl rfl) rfl ?_
  refine wl_val (v := .bool v25x.own.is_) (val_le (enc := c_T_watch_entry) (xs := o25_0.l) tt_ok rfl (Rds.of_vec o25_0V0) ⟨_, (Sel.sc Sel.ha)⟩ c_T_watch_entry_len xv25 rfl) rfl ?_
  refine wl_pure (v := .bool (!v25x.own.is_)) tt_ok rfl rfl ?_
  refine wl_nil (wx_then ?_)
  refine wc_cond rfl (fun hc => ?_) (fun hc => ?_)
  · replace h := ct hc h
    refine wc_region ?_
    iterate 2 refine wl_pure tt_ok rfl rfl ?_
    refine wl_pure (v := .agg #[.int .u64 p2, .bool true]) tt_ok rfl rfl ?_
    refine wl_pure tt_ok rfl rfl ?_
    refine wl_chg0 (chg_ste (enc := c_T_watch_entry) (y' := (T_watch_entry.mk v25x.f (T_watch_sum.mk p2 true) v25x.other)) tt_ok rfl rfl rfl rfl rfl rfl o25_0N0 o25_0V0 (Sel.sc Sel.ha) c_T_watch_entry_len xv25 rfl (by intro h; cases h)) ?_
    rintro _ _ ⟨Bs32_4, Ns32_4, Vs32_4, rfl⟩
    refine wl_nil (wx_then ?_)
    refine wc_k2 (Ls := (Bs32_4 ++ (⟨p0b, [.int .u64 o25_0.rows, .slice o25_0a0 o25_0n0 o25_0c0, .bool false], p0t, (0, 0)⟩ :: []))) [34] [34] [0, 0, 2, 6, 14, 30, 62, 126, 254, 510, 1022, 2046, 4094, 8190, 16382, 32766, 65534, 131070, 262142, 524286, 1048574, 2097150, 4194302, 8388606, 524286, 17301502, 50855934, 117964798, 252182526, 536870910, 1073741822, 2147483646, 4294967295, 8589934591, 17179869183] [0, 1, 2, 3, 4, 5, 6, 7, 8, 9, 10, 11, 12, 13, 14, 15, 16, 17, 18, 19, 20, 21, 22, 23, 24, 25, 26, 27, 28, 29, 30, 31, 32, 33, 34] (by kernel_rfl) (by kernel_rfl) (by kernel_rfl) ?_
    refine k_val rfl rfl rfl (pSub (pApp Sel.ha (pCons Sel.hc pNil))) (stepV_ok tt_ok rfl) rfl ?_
    refine k_val rfl rfl rfl (pSub (pApp Sel.ha (pCons Sel.hc pNil))) (stepV_ok tt_ok rfl) rfl ?_
    refine k_val rfl rfl rfl (pSub (pApp Sel.ha (pCons Sel.hc pNil))) (stepV_ok tt_ok rfl) rfl ?_
    refine k_val (v := .pointer (some ⟨p0b, 2, none⟩)) rfl rfl rfl (pSub (pApp Sel.ha (pCons Sel.hc pNil))) (stepV_ok tt_ok rfl) rfl ?_
    refine k_val (v := .bool false) rfl rfl rfl (pSub (pApp Sel.ha (pCons Sel.hc pNil))) (val_load tt_ok rfl (mR (List.Mem.head _)) rfl) rfl ?_
    refine k_val rfl rfl rfl (pSub (pApp Sel.ha (pCons Sel.hc pNil))) (stepV_ok tt_ok rfl) rfl ?_
    replace h := bsome h; obtain ⟨v92, h, hg92⟩ := h
    replace h := cf rfl h
    refine k_val rfl rfl rfl (pSub (pApp Sel.ha (pCons Sel.hc pNil))) (stepV_ok tt_ok rfl) rfl ?_
    refine k_val rfl rfl rfl (pSub (pApp Sel.ha (pCons Sel.hc pNil))) (stepV_ok tt_ok rfl) rfl ?_
    refine k_val (v := .pointer (some ((adOf o25_0a0).add (v25s.toNat * 5 + 1)))) rfl rfl rfl (pSub (pApp Sel.ha (pCons Sel.hc pNil))) (val_fa (k := v25s.toNat * 5 + 0) (off := 1) tt_ok rfl rfl rfl rfl rfl) rfl ?_
    refine k_val (v := .pointer (some ((adOf o25_0a0).add (v25s.toNat * 5 + 2)))) rfl rfl rfl (pSub (pApp Sel.ha (pCons Sel.hc pNil))) (val_fa (k := v25s.toNat * 5 + 1) (off := 1) tt_ok rfl rfl rfl rfl rfl) rfl ?_
    refine k_val (v := .bool true) rfl rfl rfl (pSub (pApp Sel.ha (pCons Sel.hc pNil))) (val_le (enc := c_T_watch_entry) (xs := (setI o25_0.l v25s (T_watch_entry.mk v25x.f (T_watch_sum.mk p2 true) v25x.other))) tt_ok rfl (Rds.of_vec Vs32_4) ⟨_, Sel.ha⟩ c_T_watch_entry_len (getI_set xv25) rfl) rfl ?_
    refine k_val rfl rfl rfl (pSub (pApp Sel.ha (pCons Sel.hc pNil))) (stepV_ok tt_ok rfl) rfl ?_
    refine k_val rfl rfl rfl (pSub (pApp Sel.ha (pCons Sel.hc pNil))) (stepV_ok tt_ok rfl) rfl ?_
    refine k_val rfl rfl rfl (pSub (pApp Sel.ha (pCons Sel.hc pNil))) (stepV_ok tt_ok rfl) rfl ?_
    refine k_val (v := .pointer (some ((adOf o25_0a0).add (v25s.toNat * 5 + 3)))) rfl rfl rfl (pSub (pApp Sel.ha (pCons Sel.hc pNil))) (val_fa (k := v25s.toNat * 5 + 0) (off := 3) tt_ok rfl rfl rfl rfl rfl) rfl ?_
    refine k_val (v := .pointer (some ((adOf o25_0a0).add (v25s.toNat * 5 + 4)))) rfl rfl rfl (pSub (pApp Sel.ha (pCons Sel.hc pNil))) (val_fa (k := v25s.toNat * 5 + 3) (off := 1) tt_ok rfl rfl rfl rfl rfl) rfl ?_
    refine k_val (v := .bool v25x.other.is_) rfl rfl rfl (pSub (pApp Sel.ha (pCons Sel.hc pNil))) (val_le (enc := c_T_watch_entry) (xs := (setI o25_0.l v25s (T_watch_entry.mk v25x.f (T_watch_sum.mk p2 true) v25x.other))) tt_ok rfl (Rds.of_vec Vs32_4) ⟨_, Sel.ha⟩ c_T_watch_entry_len (getI_set xv25) rfl) rfl ?_
    refine k_val (v := .bool v25x.other.is_) rfl rfl rfl (pSub (pApp Sel.ha (pCons Sel.hc pNil))) (stepV_ok tt_ok rfl) rfl ?_
    refine k_val rfl rfl rfl (pSub (pApp Sel.ha (pCons Sel.hc pNil))) (stepV_ok tt_ok rfl) rfl ?_
    replace h := bsome h; obtain ⟨v91, h, hg91⟩ := h
    refine k_split (t := 79) rfl (fun hc => ?_) (fun hc => ?_)
    · replace h := ct hc h
      refine k_val rfl rfl rfl (pSub (pApp Sel.ha (pCons Sel.hc pNil))) (stepV_ok tt_ok rfl) rfl ?_
      refine k_val rfl rfl rfl (pSub (pApp Sel.ha (pCons Sel.hc pNil))) (stepV_ok tt_ok rfl) rfl ?_
      refine k_val (v := .pointer (some ((adOf o25_0a0).add (v25s.toNat * 5 + 1)))) rfl rfl rfl (pSub (pApp Sel.ha (pCons Sel.hc pNil))) (val_fa (k := v25s.toNat * 5 + 0) (off := 1) tt_ok rfl rfl rfl rfl rfl) rfl ?_
      refine k_val (v := .pointer (some ((adOf o25_0a0).add (v25s.toNat * 5 + 1)))) rfl rfl rfl (pSub (pApp Sel.ha (pCons Sel.hc pNil))) (val_fa (k := v25s.toNat * 5 + 1) (off := 0) tt_ok rfl rfl rfl rfl rfl) rfl ?_
      refine k_val (v := .int .u64 p2) rfl rfl rfl (pSub (pApp Sel.ha (pCons Sel.hc pNil))) (val_le (enc := c_T_watch_entry) (xs := (setI o25_0.l v25s (T_watch_entry.mk v25x.f (T_watch_sum.mk p2 true) v25x.other))) tt_ok rfl (Rds.of_vec Vs32_4) ⟨_, Sel.ha⟩ c_T_watch_entry_len (getI_set xv25) rfl) rfl ?_
      refine k_val rfl rfl rfl (pSub (pApp Sel.ha (pCons Sel.hc pNil))) (stepV_ok tt_ok rfl) rfl ?_
      refine k_val rfl rfl rfl (pSub (pApp Sel.ha (pCons Sel.hc pNil))) (stepV_ok tt_ok rfl) rfl ?_
      refine k_val (v := .pointer (some ((adOf o25_0a0).add (v25s.toNat * 5 + 3)))) rfl rfl rfl (pSub (pApp Sel.ha (pCons Sel.hc pNil))) (val_fa (k := v25s.toNat * 5 + 0) (off := 3) tt_ok rfl rfl rfl rfl rfl) rfl ?_
      refine k_val (v := .pointer (some ((adOf o25_0a0).add (v25s.toNat * 5 + 3)))) rfl rfl rfl (pSub (pApp Sel.ha (pCons Sel.hc pNil))) (val_fa (k := v25s.toNat * 5 + 3) (off := 0) tt_ok rfl rfl rfl rfl rfl) rfl ?_
      refine k_val (v := .int .u64 v25x.other.n) rfl rfl rfl (pSub (pApp Sel.ha (pCons Sel.hc pNil))) (val_le (enc := c_T_watch_entry) (xs := (setI o25_0.l v25s (T_watch_entry.mk v25x.f (T_watch_sum.mk p2 true) v25x.other))) tt_ok rfl (Rds.of_vec Vs32_4) ⟨_, Sel.ha⟩ c_T_watch_entry_len (getI_set xv25) rfl) rfl ?_
      refine k_val (v := .bool (p2 != v25x.other.n)) rfl rfl rfl (pSub (pApp Sel.ha (pCons Sel.hc pNil))) (stepV_ok tt_ok rfl) rfl ?_
      simp only [Option.some.injEq, Prod.mk.injEq] at h
      obtain rfl := h
      have h := hg91; clear hg91
      refine k_val (v := .bool (p2 != v25x.other.n)) rfl rfl rfl (pSub (pApp Sel.ha (pCons Sel.hc pNil))) (stepV_ok tt_ok rfl) rfl ?_
      simp only [Option.some.injEq, Prod.mk.injEq] at h
      obtain rfl := h
      have h := hg92; clear hg92
      refine k_val (v := .bool (p2 != v25x.other.n)) rfl rfl rfl (pSub (pApp Sel.ha (pCons Sel.hc pNil))) (stepV_ok tt_ok rfl) rfl ?_
      refine k_val rfl rfl rfl (pSub (pApp Sel.ha (pCons Sel.hc pNil))) (stepV_ok tt_ok rfl) rfl ?_
      refine k_val (v := .pointer (some ⟨p0b, 2, none⟩)) rfl rfl rfl (pSub (pApp Sel.ha (pCons Sel.hc pNil))) (stepV_ok tt_ok rfl) rfl ?_
      refine k_chg0 rfl rfl rfl (chg_store tt_ok rfl (Upd.right Upd.here) rfl rfl rfl rfl rfl rfl) (.inl rfl) ?_
      rintro _ _ rfl
      refine k_end (by kernel_rfl) ?_
      refine wx_then (wc_seq (wc_seq (wc_region ?_)))
      iterate 2 refine wl_pure tt_ok rfl rfl ?_
      refine wl_pure (v := .pointer (some ⟨p0b, 2, none⟩)) tt_ok rfl rfl ?_
      refine wl_val (v := .bool (p2 != v25x.other.n)) (val_load tt_ok rfl (mR (List.Mem.head _)) rfl) rfl ?_
      refine wl_nil (wx_then ?_)
      refine wc_cond rfl (fun hc => ?_) (fun hc => ?_)
      · replace h := ct hc h
        refine wc_seq (wc_region ?_)
        refine wl_pure tt_ok rfl rfl ?_
        refine wl_nil (wx_then (wc_ret (wx_then_ret ?_)))
        simp only [Option.some.injEq, Prod.mk.injEq] at h
        obtain ⟨rfl, rfl⟩ := h
        exact wx_spD tt_ok (.inl rfl) Tryd.results25 (Res.tmp rfl Res.nil) ⟨o25_0a0, o25_0n0, o25_0c0, Bs32_4, Ns32_4, Vs32_4, rfl, rfl⟩ (fun F => by simp) (pSub (pCons (Sel.sa Sel.hc) (pApp Sel.ha pNil)))
      replace h := cf hc h
      refine wc_skip (wx_then (wc_seq (wc_region ?_)))
      refine wl_pure tt_ok rfl rfl ?_
      refine wl_nil (wx_then (wc_ret ?_))
      simp only [Option.some.injEq, Prod.mk.injEq] at h
      obtain ⟨rfl, rfl⟩ := h
      exact wx_spD tt_ok (.inl rfl) Tryd.results25 (Res.tmp rfl Res.nil) ⟨o25_0a0, o25_0n0, o25_0c0, Bs32_4, Ns32_4, Vs32_4, rfl, rfl⟩ (fun F => by simp) (pSub (pCons (Sel.sa Sel.hc) (pApp Sel.ha pNil)))
    replace h := cf hc h
    refine k_skip rfl rfl (pSub (pApp Sel.ha (pCons Sel.hc pNil))) rfl ?_
    refine k_skip rfl rfl (pSub (pApp Sel.ha (pCons Sel.hc pNil))) rfl ?_
    refine k_skip rfl rfl (pSub (pApp Sel.ha (pCons Sel.hc pNil))) rfl ?_
    refine k_skip rfl rfl (pSub (pApp Sel.ha (pCons Sel.hc pNil))) rfl ?_
    refine k_skip rfl rfl (pSub (pApp Sel.ha (pCons Sel.hc pNil))) rfl ?_
    refine k_skip rfl rfl (pSub (pApp Sel.ha (pCons Sel.hc pNil))) rfl ?_
    refine k_skip rfl rfl (pSub (pApp Sel.ha (pCons Sel.hc pNil))) rfl ?_
    refine k_skip rfl rfl (pSub (pApp Sel.ha (pCons Sel.hc pNil))) rfl ?_
    refine k_skip rfl rfl (pSub (pApp Sel.ha (pCons Sel.hc pNil))) rfl ?_
    refine k_skip rfl rfl (pSub (pApp Sel.ha (pCons Sel.hc pNil))) rfl ?_
    refine k_skip rfl rfl (pSub (pApp Sel.ha (pCons Sel.hc pNil))) rfl ?_
    simp only [Option.some.injEq, Prod.mk.injEq] at h
    obtain rfl := h
    have h := hg91; clear hg91
    refine k_val (v := .bool false) rfl rfl rfl (pSub (pApp Sel.ha (pCons Sel.hc pNil))) (stepV_ok tt_ok rfl) rfl ?_
    simp only [Option.some.injEq, Prod.mk.injEq] at h
    obtain rfl := h
    have h := hg92; clear hg92
    refine k_val (v := .bool false) rfl rfl rfl (pSub (pApp Sel.ha (pCons Sel.hc pNil))) (stepV_ok tt_ok rfl) rfl ?_
    refine k_val rfl rfl rfl (pSub (pApp Sel.ha (pCons Sel.hc pNil))) (stepV_ok tt_ok rfl) rfl ?_
    refine k_val (v := .pointer (some ⟨p0b, 2, none⟩)) rfl rfl rfl (pSub (pApp Sel.ha (pCons Sel.hc pNil))) (stepV_ok tt_ok rfl) rfl ?_
    refine k_chg0 rfl rfl rfl (chg_store tt_ok rfl (Upd.right Upd.here) rfl rfl rfl rfl rfl rfl) (.inl rfl) ?_
    rintro _ _ rfl
    refine k_end (by kernel_rfl) ?_
    refine wx_then (wc_seq (wc_seq (wc_region ?_)))
    iterate 2 refine wl_pure tt_ok rfl rfl ?_
    refine wl_pure (v := .pointer (some ⟨p0b, 2, none⟩)) tt_ok rfl rfl ?_
    refine wl_val (v := .bool false) (val_load tt_ok rfl (mR (List.Mem.head _)) rfl) rfl ?_
    refine wl_nil (wx_then ?_)
    replace h := cf rfl h
    refine wc_cond_false rfl ?_
    refine wc_skip (wx_then (wc_seq (wc_region ?_)))
    refine wl_pure tt_ok rfl rfl ?_
    refine wl_nil (wx_then (wc_ret ?_))
    simp only [Option.some.injEq, Prod.mk.injEq] at h
    obtain ⟨rfl, rfl⟩ := h
    exact wx_spD tt_ok (.inl rfl) Tryd.results25 (Res.tmp rfl Res.nil) ⟨o25_0a0, o25_0n0, o25_0c0, Bs32_4, Ns32_4, Vs32_4, rfl, rfl⟩ (fun F => by simp) (pSub (pCons (Sel.sa Sel.hc) (pApp Sel.ha pNil)))
  replace h := cf hc h
  refine wc_skip (wx_then ?_)
  refine wc_k2 (Ls := (⟨p0b, [.int .u64 o25_0.rows, .slice o25_0a0 o25_0n0 o25_0c0, .bool false], p0t, (0, 0)⟩ :: (o25_0B0 ++ []))) [34] [34] [0, 0, 2, 6, 14, 30, 62, 126, 254, 510, 1022, 2046, 4094, 8190, 16382, 32766, 65534, 131070, 262142, 524286, 1048574, 2097150, 4194302, 8388606, 524286, 17301502, 50855934, 117964798, 252182526, 536870910, 1073741822, 2147483646, 4294967295, 8589934591, 17179869183] [0, 1, 2, 3, 4, 5, 6, 7, 8, 9, 10, 11, 12, 13, 14, 15, 16, 17, 18, 19, 20, 21, 22, 23, 24, 25, 26, 27, 28, 29, 30, 31, 32, 33, 34] (by kernel_rfl) (by kernel_rfl) (by kernel_rfl) ?_
  refine k_val rfl rfl rfl (pSub (pCons Sel.hc (pApp Sel.ha pNil))) (stepV_ok tt_ok rfl) rfl ?_
  refine k_val rfl rfl rfl (pSub (pCons Sel.hc (pApp Sel.ha pNil))) (stepV_ok tt_ok rfl) rfl ?_
  refine k_val rfl rfl rfl (pSub (pCons Sel.hc (pApp Sel.ha pNil))) (stepV_ok tt_ok rfl) rfl ?_
  refine k_val (v := .pointer (some ⟨p0b, 2, none⟩)) rfl rfl rfl (pSub (pCons Sel.hc (pApp Sel.ha pNil))) (stepV_ok tt_ok rfl) rfl ?_
  refine k_val (v := .bool false) rfl rfl rfl (pSub (pCons Sel.hc (pApp Sel.ha pNil))) (val_load tt_ok rfl (List.Mem.head _) rfl) rfl ?_
  refine k_val rfl rfl rfl (pSub (pCons Sel.hc (pApp Sel.ha pNil))) (stepV_ok tt_ok rfl) rfl ?_
  replace h := bsome h; obtain ⟨v92, h, hg92⟩ := h
  replace h := cf rfl h
  refine k_val rfl rfl rfl (pSub (pCons Sel.hc (pApp Sel.ha pNil))) (stepV_ok tt_ok rfl) rfl ?_
  refine k_val rfl rfl rfl (pSub (pCons Sel.hc (pApp Sel.ha pNil))) (stepV_ok tt_ok rfl) rfl ?_
  refine k_val (v := .pointer (some ((adOf o25_0a0).add (v25s.toNat * 5 + 1)))) rfl rfl rfl (pSub (pCons Sel.hc (pApp Sel.ha pNil))) (val_fa (k := v25s.toNat * 5 + 0) (off := 1) tt_ok rfl rfl rfl rfl rfl) rfl ?_
  refine k_val (v := .pointer (some ((adOf o25_0a0).add (v25s.toNat * 5 + 2)))) rfl rfl rfl (pSub (pCons Sel.hc (pApp Sel.ha pNil))) (val_fa (k := v25s.toNat * 5 + 1) (off := 1) tt_ok rfl rfl rfl rfl rfl) rfl ?_
  refine k_val (v := .bool v25x.own.is_) rfl rfl rfl (pSub (pCons Sel.hc (pApp Sel.ha pNil))) (val_le (enc := c_T_watch_entry) (xs := o25_0.l) tt_ok rfl (Rds.of_vec o25_0V0) ⟨_, (Sel.sc Sel.ha)⟩ c_T_watch_entry_len xv25 rfl) rfl ?_
  refine k_val rfl rfl rfl (pSub (pCons Sel.hc (pApp Sel.ha pNil))) (stepV_ok tt_ok rfl) rfl ?_
  replace h := bsome h; obtain ⟨v78, h, hg78⟩ := h
  refine k_split (t := 72) rfl (fun hc => ?_) (fun hc => ?_)
  · replace h := ct hc h
    refine k_val rfl rfl rfl (pSub (pCons Sel.hc (pApp Sel.ha pNil))) (stepV_ok tt_ok rfl) rfl ?_
    refine k_val rfl rfl rfl (pSub (pCons Sel.hc (pApp Sel.ha pNil))) (stepV_ok tt_ok rfl) rfl ?_
    refine k_val (v := .pointer (some ((adOf o25_0a0).add (v25s.toNat * 5 + 3)))) rfl rfl rfl (pSub (pCons Sel.hc (pApp Sel.ha pNil))) (val_fa (k := v25s.toNat * 5 + 0) (off := 3) tt_ok rfl rfl rfl rfl rfl) rfl ?_
    refine k_val (v := .pointer (some ((adOf o25_0a0).add (v25s.toNat * 5 + 4)))) rfl rfl rfl (pSub (pCons Sel.hc (pApp Sel.ha pNil))) (val_fa (k := v25s.toNat * 5 + 3) (off := 1) tt_ok rfl rfl rfl rfl rfl) rfl ?_
    refine k_val (v := .bool v25x.other.is_) rfl rfl rfl (pSub (pCons Sel.hc (pApp Sel.ha pNil))) (val_le (enc := c_T_watch_entry) (xs := o25_0.l) tt_ok rfl (Rds.of_vec o25_0V0) ⟨_, (Sel.sc Sel.ha)⟩ c_T_watch_entry_len xv25 rfl) rfl ?_
    simp only [Option.some.injEq, Prod.mk.injEq] at h
    obtain rfl := h
    have h := hg78; clear hg78
    refine k_val (v := .bool v25x.other.is_) rfl rfl rfl (pSub (pCons Sel.hc (pApp Sel.ha pNil))) (stepV_ok tt_ok rfl) rfl ?_
    refine k_val rfl rfl rfl (pSub (pCons Sel.hc (pApp Sel.ha pNil))) (stepV_ok tt_ok rfl) rfl ?_
    replace h := bsome h; obtain ⟨v91, h, hg91⟩ := h
    refine k_split (t := 79) rfl (fun hc => ?_) (fun hc => ?_)
    · replace h := ct hc h
      refine k_val rfl rfl rfl (pSub (pCons Sel.hc (pApp Sel.ha pNil))) (stepV_ok tt_ok rfl) rfl ?_
      refine k_val rfl rfl rfl (pSub (pCons Sel.hc (pApp Sel.ha pNil))) (stepV_ok tt_ok rfl) rfl ?_
      refine k_val (v := .pointer (some ((adOf o25_0a0).add (v25s.toNat * 5 + 1)))) rfl rfl rfl (pSub (pCons Sel.hc (pApp Sel.ha pNil))) (val_fa (k := v25s.toNat * 5 + 0) (off := 1) tt_ok rfl rfl rfl rfl rfl) rfl ?_
      refine k_val (v := .pointer (some ((adOf o25_0a0).add (v25s.toNat * 5 + 1)))) rfl rfl rfl (pSub (pCons Sel.hc (pApp Sel.ha pNil))) (val_fa (k := v25s.toNat * 5 + 1) (off := 0) tt_ok rfl rfl rfl rfl rfl) rfl ?_
      refine k_val (v := .int .u64 v25x.own.n) rfl rfl rfl (pSub (pCons Sel.hc (pApp Sel.ha pNil))) (val_le (enc := c_T_watch_entry) (xs := o25_0.l) tt_ok rfl (Rds.of_vec o25_0V0) ⟨_, (Sel.sc Sel.ha)⟩ c_T_watch_entry_len xv25 rfl) rfl ?_
      refine k_val rfl rfl rfl (pSub (pCons Sel.hc (pApp Sel.ha pNil))) (stepV_ok tt_ok rfl) rfl ?_
      refine k_val rfl rfl rfl (pSub (pCons Sel.hc (pApp Sel.ha pNil))) (stepV_ok tt_ok rfl) rfl ?_
      refine k_val (v := .pointer (some ((adOf o25_0a0).add (v25s.toNat * 5 + 3)))) rfl rfl rfl (pSub (pCons Sel.hc (pApp Sel.ha pNil))) (val_fa (k := v25s.toNat * 5 + 0) (off := 3) tt_ok rfl rfl rfl rfl rfl) rfl ?_
      refine k_val (v := .pointer (some ((adOf o25_0a0).add (v25s.toNat * 5 + 3)))) rfl rfl rfl (pSub (pCons Sel.hc (pApp Sel.ha pNil))) (val_fa (k := v25s.toNat * 5 + 3) (off := 0) tt_ok rfl rfl rfl rfl rfl) rfl ?_
      refine k_val (v := .int .u64 v25x.other.n) rfl rfl rfl (pSub (pCons Sel.hc (pApp Sel.ha pNil))) (val_le (enc := c_T_watch_entry) (xs := o25_0.l) tt_ok rfl (Rds.of_vec o25_0V0) ⟨_, (Sel.sc Sel.ha)⟩ c_T_watch_entry_len xv25 rfl) rfl ?_
      refine k_val (v := .bool (v25x.own.n != v25x.other.n)) rfl rfl rfl (pSub (pCons Sel.hc (pApp Sel.ha pNil))) (stepV_ok tt_ok rfl) rfl ?_
      simp only [Option.some.injEq, Prod.mk.injEq] at h
      obtain rfl := h
      have h := hg91; clear hg91
      refine k_val (v := .bool (v25x.own.n != v25x.other.n)) rfl rfl rfl (pSub (pCons Sel.hc (pApp Sel.ha pNil))) (stepV_ok tt_ok rfl) rfl ?_
      simp only [Option.some.injEq, Prod.mk.injEq] at h
      obtain rfl := h
      have h := hg92; clear hg92
      refine k_val (v := .bool (v25x.own.n != v25x.other.n)) rfl rfl rfl (pSub (pCons Sel.hc (pApp Sel.ha pNil))) (stepV_ok tt_ok rfl) rfl ?_
      refine k_val rfl rfl rfl (pSub (pCons Sel.hc (pApp Sel.ha pNil))) (stepV_ok tt_ok rfl) rfl ?_
      refine k_val (v := .pointer (some ⟨p0b, 2, none⟩)) rfl rfl rfl (pSub (pCons Sel.hc (pApp Sel.ha pNil))) (stepV_ok tt_ok rfl) rfl ?_
      refine k_chg0 rfl rfl rfl (chg_store tt_ok rfl Upd.here rfl rfl rfl rfl rfl rfl) (.inl rfl) ?_
      rintro _ _ rfl
      refine k_end (by kernel_rfl) ?_
      refine wx_then (wc_seq (wc_seq (wc_region ?_)))
      iterate 2 refine wl_pure tt_ok rfl rfl ?_
      refine wl_pure (v := .pointer (some ⟨p0b, 2, none⟩)) tt_ok rfl rfl ?_
      refine wl_val (v := .bool (v25x.own.n != v25x.other.n)) (val_load tt_ok rfl (List.Mem.head _) rfl) rfl ?_
      refine wl_nil (wx_then ?_)
      refine wc_cond rfl (fun hc => ?_) (fun hc => ?_)
      · replace h := ct hc h
        refine wc_seq (wc_region ?_)
        refine wl_pure tt_ok rfl rfl ?_
        refine wl_nil (wx_then (wc_ret (wx_then_ret ?_)))
        simp only [Option.some.injEq, Prod.mk.injEq] at h
        obtain ⟨rfl, rfl⟩ := h
        exact wx_spD tt_ok (.inl rfl) Tryd.results25 (Res.tmp rfl Res.nil) ⟨o25_0a0, o25_0n0, o25_0c0, o25_0B0, o25_0N0, o25_0V0, rfl, rfl⟩ (fun F => by simp) (pSub (pCons Sel.hc (pApp Sel.ha pNil)))
      replace h := cf hc h
      refine wc_skip (wx_then (wc_seq (wc_region ?_)))
      refine wl_pure tt_ok rfl rfl ?_
      refine wl_nil (wx_then (wc_ret ?_))
      simp only [Option.some.injEq, Prod.mk.injEq] at h
      obtain ⟨rfl, rfl⟩ := h
      exact wx_spD tt_ok (.inl rfl) Tryd.results25 (Res.tmp rfl Res.nil) ⟨o25_0a0, o25_0n0, o25_0c0, o25_0B0, o25_0N0, o25_0V0, rfl, rfl⟩ (fun F => by simp) (pSub (pCons Sel.hc (pApp Sel.ha pNil)))
    replace h := cf hc h
    refine k_skip rfl rfl (pSub (pCons Sel.hc (pApp Sel.ha pNil))) rfl ?_
    refine k_skip rfl rfl (pSub (pCons Sel.hc (pApp Sel.ha pNil))) rfl ?_
    refine k_skip rfl rfl (pSub (pCons Sel.hc (pApp Sel.ha pNil))) rfl ?_
    refine k_skip rfl rfl (pSub (pCons Sel.hc (pApp Sel.ha pNil))) rfl ?_
    refine k_skip rfl rfl (pSub (pCons Sel.hc (pApp Sel.ha pNil))) rfl ?_
    refine k_skip rfl rfl (pSub (pCons Sel.hc (pApp Sel.ha pNil))) rfl ?_
    refine k_skip rfl rfl (pSub (pCons Sel.hc (pApp Sel.ha pNil))) rfl ?_
    refine k_skip rfl rfl (pSub (pCons Sel.hc (pApp Sel.ha pNil))) rfl ?_
    refine k_skip rfl rfl (pSub (pCons Sel.hc (pApp Sel.ha pNil))) rfl ?_
    refine k_skip rfl rfl (pSub (pCons Sel.hc (pApp Sel.ha pNil))) rfl ?_
    refine k_skip rfl rfl (pSub (pCons Sel.hc (pApp Sel.ha pNil))) rfl ?_
    simp only [Option.some.injEq, Prod.mk.injEq] at h
    obtain rfl := h
    have h := hg91; clear hg91
    refine k_val (v := .bool false) rfl rfl rfl (pSub (pCons Sel.hc (pApp Sel.ha pNil))) (stepV_ok tt_ok rfl) rfl ?_
    simp only [Option.some.injEq, Prod.mk.injEq] at h
    obtain rfl := h
    have h := hg92; clear hg92
    refine k_val (v := .bool false) rfl rfl rfl (pSub (pCons Sel.hc (pApp Sel.ha pNil))) (stepV_ok tt_ok rfl) rfl ?_
    refine k_val rfl rfl rfl (pSub (pCons Sel.hc (pApp Sel.ha pNil))) (stepV_ok tt_ok rfl) rfl ?_
    refine k_val (v := .pointer (some ⟨p0b, 2, none⟩)) rfl rfl rfl (pSub (pCons Sel.hc (pApp Sel.ha pNil))) (stepV_ok tt_ok rfl) rfl ?_
    refine k_chg0 rfl rfl rfl (chg_store tt_ok rfl Upd.here rfl rfl rfl rfl rfl rfl) (.inl rfl) ?_
    rintro _ _ rfl
    refine k_end (by kernel_rfl) ?_
    refine wx_then (wc_seq (wc_seq (wc_region ?_)))
    iterate 2 refine wl_pure tt_ok rfl rfl ?_
    refine wl_pure (v := .pointer (some ⟨p0b, 2, none⟩)) tt_ok rfl rfl ?_
    refine wl_val (v := .bool false) (val_load tt_ok rfl (List.Mem.head _) rfl) rfl ?_
    refine wl_nil (wx_then ?_)
    replace h := cf rfl h
    refine wc_cond_false rfl ?_
    refine wc_skip (wx_then (wc_seq (wc_region ?_)))
    refine wl_pure tt_ok rfl rfl ?_
    refine wl_nil (wx_then (wc_ret ?_))
    simp only [Option.some.injEq, Prod.mk.injEq] at h
    obtain ⟨rfl, rfl⟩ := h
    exact wx_spD tt_ok (.inl rfl) Tryd.results25 (Res.tmp rfl Res.nil) ⟨o25_0a0, o25_0n0, o25_0c0, o25_0B0, o25_0N0, o25_0V0, rfl, rfl⟩ (fun F => by simp) (pSub (pCons Sel.hc (pApp Sel.ha pNil)))
  replace h := cf hc h
  refine k_skip rfl rfl (pSub (pCons Sel.hc (pApp Sel.ha pNil))) rfl ?_
  refine k_skip rfl rfl (pSub (pCons Sel.hc (pApp Sel.ha pNil))) rfl ?_
  refine k_skip rfl rfl (pSub (pCons Sel.hc (pApp Sel.ha pNil))) rfl ?_
  refine k_skip rfl rfl (pSub (pCons Sel.hc (pApp Sel.ha pNil))) rfl ?_
  refine k_skip rfl rfl (pSub (pCons Sel.hc (pApp Sel.ha pNil))) rfl ?_
  simp only [Option.some.injEq, Prod.mk.injEq] at h
  obtain rfl := h
  have h := hg78; clear hg78
  refine k_val (v := .bool false) rfl rfl rfl (pSub (pCons Sel.hc (pApp Sel.ha pNil))) (stepV_ok tt_ok rfl) rfl ?_
  refine k_val rfl rfl rfl (pSub (pCons Sel.hc (pApp Sel.ha pNil))) (stepV_ok tt_ok rfl) rfl ?_
  replace h := bsome h; obtain ⟨v91, h, hg91⟩ := h
  replace h := cf rfl h
  refine k_skip rfl rfl (pSub (pCons Sel.hc (pApp Sel.ha pNil))) rfl ?_
  refine k_skip rfl rfl (pSub (pCons Sel.hc (pApp Sel.ha pNil))) rfl ?_
  refine k_skip rfl rfl (pSub (pCons Sel.hc (pApp Sel.ha pNil))) rfl ?_
  refine k_skip rfl rfl (pSub (pCons Sel.hc (pApp Sel.ha pNil))) rfl ?_
  refine k_skip rfl rfl (pSub (pCons Sel.hc (pApp Sel.ha pNil))) rfl ?_
  refine k_skip rfl rfl (pSub (pCons Sel.hc (pApp Sel.ha pNil))) rfl ?_
  refine k_skip rfl rfl (pSub (pCons Sel.hc (pApp Sel.ha pNil))) rfl ?_
  refine k_skip rfl rfl (pSub (pCons Sel.hc (pApp Sel.ha pNil))) rfl ?_
  refine k_skip rfl rfl (pSub (pCons Sel.hc (pApp Sel.ha pNil))) rfl ?_
  refine k_skip rfl rfl (pSub (pCons Sel.hc (pApp Sel.ha pNil))) rfl ?_
  refine k_skip rfl rfl (pSub (pCons Sel.hc (pApp Sel.ha pNil))) rfl ?_
  simp only [Option.some.injEq, Prod.mk.injEq] at h
  obtain rfl := h
  have h := hg91; clear hg91
  refine k_val (v := .bool false) rfl rfl rfl (pSub (pCons Sel.hc (pApp Sel.ha pNil))) (stepV_ok tt_ok rfl) rfl ?_
  simp only [Option.some.injEq, Prod.mk.injEq] at h
  obtain rfl := h
  have h := hg92; clear hg92
  refine k_val (v := .bool false) rfl rfl rfl (pSub (pCons Sel.hc (pApp Sel.ha pNil))) (stepV_ok tt_ok rfl) rfl ?_
  refine k_val rfl rfl rfl (pSub (pCons Sel.hc (pApp Sel.ha pNil))) (stepV_ok tt_ok rfl) rfl ?_
  refine k_val (v := .pointer (some ⟨p0b, 2, none⟩)) rfl rfl rfl (pSub (pCons Sel.hc (pApp Sel.ha pNil))) (stepV_ok tt_ok rfl) rfl ?_
  refine k_chg0 rfl rfl rfl (chg_store tt_ok rfl Upd.here rfl rfl rfl rfl rfl rfl) (.inl rfl) ?_
  rintro _ _ rfl
  refine k_end (by kernel_rfl) ?_
  refine wx_then (wc_seq (wc_seq (wc_region ?_)))
  iterate 2 refine wl_pure tt_ok rfl rfl ?_
  refine wl_pure (v := .pointer (some ⟨p0b, 2, none⟩)) tt_ok rfl rfl ?_
  refine wl_val (v := .bool false) (val_load tt_ok rfl (List.Mem.head _) rfl) rfl ?_
  refine wl_nil (wx_then ?_)
  replace h := cf rfl h
  refine wc_cond_false rfl ?_
  refine wc_skip (wx_then (wc_seq (wc_region ?_)))
  refine wl_pure tt_ok rfl rfl ?_
  refine wl_nil (wx_then (wc_ret ?_))
  simp only [Option.some.injEq, Prod.mk.injEq] at h
  obtain ⟨rfl, rfl⟩ := h
  exact wx_spD tt_ok (.inl rfl) Tryd.results25 (Res.tmp rfl Res.nil) ⟨o25_0a0, o25_0n0, o25_0c0, o25_0B0, o25_0N0, o25_0V0, rfl, rfl⟩ (fun F => by simp) (pSub (pCons Sel.hc (pApp Sel.ha pNil)))

theorem k_watch_Watch_Own {F : Nat} {p0 : T_watch_Watch} {p0b p0t : Nat} {p0a0 : Option Addr} {p0n0 : Nat} {p0c0 : Nat} {p0B0 : List Blk} {p1 : Int} {p2 : Int} {r0 : T_watch_Watch} {r1 : Int} (p0N0 : p0n0 = p0.l.length) (p0V0 : Own 73 5 p0a0 p0n0 p0c0 (flat c_T_watch_entry p0.l) p0B0) (h : m_watch_Watch_Own F p0 p1 p2 = some (r0, r1)) :
    SpD Tryd.prog 16 [.pointer (some ⟨p0b, 0, none⟩), .int .u64 p1, .int .u64 p2] (⟨p0b, [.int .u64 p0.rows, .slice p0a0 p0n0 p0c0, .bool p0.clashed], p0t, (0, 0)⟩ :: (p0B0 ++ [])) (fun w => True) (fun v D => ∃ (r0a0 : Option Addr) (r0n0 : Nat) (r0c0 : Nat) (r0B0 : List Blk), r0n0 = r0.l.length ∧ Own 73 5 r0a0 r0n0 r0c0 (flat c_T_watch_entry r0.l) r0B0 ∧ v = .int .i64 r1 ∧ D = fun F => (⟨p0b, [.int .u64 r0.rows, .slice r0a0 r0n0 r0c0, .bool r0.clashed], p0t, (0, 0)⟩ :: (r0B0 ++ F))) := by
  unfold m_watch_Watch_Own at h
  refine sp_of_wc Tryd.func16 rfl Tryd.ntmps16 rfl rfl (fun w0 hR => ?_)
  refine wc_seq (wc_region ?_)
  refine wl_pure tt_ok rfl rfl ?_
  refine wl_nil (wx_then (wc_seq (wc_region ?_)))
  iterate 3 refine wl_pure tt_ok rfl rfl ?_
  replace h := bsome h; obtain ⟨⟨o10_0, v10⟩, x10, h⟩ := h; try dsimp only at h
  refine wl_cs Tryd.call25 rfl rfl rfl (s_sp (k_watch_Watch_told_f3_watch_ownSide (p0 := p0) p0N0 p0V0 x10) (pCons Sel.hc (pApp Sel.ha pNil)) (fun _ _ => trivial)) rfl ?_
  rintro _ _ ⟨_, ⟨o10_0a0, o10_0n0, o10_0c0, o10_0B0, o10_0N0, o10_0V0, rfl, rfl⟩, rfl⟩
  refine wl_pure tt_ok rfl rfl ?_
  refine wl_nil (wx_then (wc_ret ?_))
  simp only [Option.some.injEq, Prod.mk.injEq] at h
  obtain ⟨rfl, rfl⟩ := h
  exact wx_spD tt_ok (.inl rfl) Tryd.results16 (Res.tmp rfl Res.nil) ⟨o10_0a0, o10_0n0, o10_0c0, o10_0B0, o10_0N0, o10_0V0, rfl, rfl⟩ (fun F => by simp) (pSub (pCons Sel.hc (pApp Sel.ha pNil)))

theorem k_watch_Watch_told_f3_watch_otherSide {F : Nat} {p0 : T_watch_Watch} {p0b p0t : Nat} {p0a0 : Option Addr} {p0n0 : Nat} {p0c0 : Nat} {p0B0 : List Blk} {p1 : Int} {p2 : Int} {r0 : T_watch_Watch} {r1 : Int} (p0N0 : p0n0 = p0.l.length) (p0V0 : Own 73 5 p0a0 p0n0 p0c0 (flat c_T_watch_entry p0.l) p0B0) (h : m_watch_Watch_told_f3_watch_otherSide F p0 p1 p2 = some (r0, r1)) :
    SpD Tryd.prog 25 [.pointer (some ⟨p0b, 0, none⟩), .int .u64 p1, .int .u64 p2, .func (.func 27) #[] #[]] (⟨p0b, [.int .u64 p0.rows, .slice p0a0 p0n0 p0c0, .bool p0.clashed], p0t, (0, 0)⟩ :: (p0B0 ++ [])) (fun w => True) (fun v D => ∃ (r0a0 : Option Addr) (r0n0 : Nat) (r0c0 : Nat) (r0B0 : List Blk), r0n0 = r0.l.length ∧ Own 73 5 r0a0 r0n0 r0c0 (flat c_T_watch_entry r0.l) r0B0 ∧ v = .int .i64 r1 ∧ D = fun F => (⟨p0b, [.int .u64 r0.rows, .slice r0a0 r0n0 r0c0, .bool r0.clashed], p0t, (0, 0)⟩ :: (r0B0 ++ F))) := by
  unfold m_watch_Watch_told_f3_watch_otherSide at h
  refine sp_of_wc Tryd.func25 rfl Tryd.ntmps25 rfl rfl (fun w0 hR => ?_)
  refine wc_seq (wc_region ?_)
  refine wl_pure tt_ok rfl rfl ?_
  refine wl_nil (wx_then (wc_seq (wc_block (wc_seq (wc_region ?_)))))
  refine wl_pure tt_ok rfl rfl ?_
  replace h := bsome h; obtain ⟨v13, x13, h⟩ := h
  refine wl_cq Tryd.call24 rfl rfl rfl (q_rd (k_watch_Watch_is (p0 := p0) p0N0 p0V0 x13) (pCons Sel.hc (pApp Sel.ha pNil)) (fun _ _ => trivial)) rfl ?_
  refine wl_pure (v := .bool (!v13)) tt_ok rfl rfl ?_
  refine wl_pure tt_ok rfl rfl ?_
  refine wl_nil (wx_then ?_)
  refine wc_cond rfl (fun hc => ?_) (fun hc => ?_)
  · replace h := ct hc h
    refine wc_seq (wc_region ?_)
    refine wl_pure tt_ok rfl rfl ?_
    refine wl_nil (wx_then (wc_ret (wx_block_ret (wx_then_ret ?_))))
    simp only [Option.some.injEq, Prod.mk.injEq] at h
    obtain ⟨rfl, rfl⟩ := h
    exact wx_spD tt_ok (.inl rfl) Tryd.results25 (Res.tmp rfl Res.nil) ⟨p0a0, p0n0, p0c0, p0B0, p0N0, p0V0, rfl, rfl⟩ (fun F => by simp) (pSub (pCons Sel.hc (pApp Sel.ha pNil)))
  replace h := cf hc h
  refine wc_seq (wc_region ?_)
  iterate 3 refine wl_pure tt_ok rfl rfl ?_
  refine wl_pure (v := .pointer (some ⟨p0b, 0, none⟩)) tt_ok rfl rfl ?_
  refine wl_val (v := .int .u64 p0.rows) (val_load tt_ok rfl (List.Mem.head _) rfl) rfl ?_
  replace h := bsome h; obtain ⟨v21, x21, h⟩ := h
  refine wl_val (v := .int .u64 v21) (val_rem rfl rfl x21) rfl ?_
  refine wl_pure (v := .bool (v21 != (0 : Int))) tt_ok rfl rfl ?_
  refine wl_pure tt_ok rfl rfl ?_
  refine wl_nil (wx_then ?_)
  refine wc_cond rfl (fun hc => ?_) (fun hc => ?_)
  · replace h := ct hc h
    refine wc_seq (wc_region ?_)
    refine wl_pure tt_ok rfl rfl ?_
    refine wl_nil (wx_then (wc_ret (wx_block_ret (wx_then_ret ?_))))
    simp only [Option.some.injEq, Prod.mk.injEq] at h
    obtain ⟨rfl, rfl⟩ := h
    exact wx_spD tt_ok (.inl rfl) Tryd.results25 (Res.tmp rfl Res.nil) ⟨p0a0, p0n0, p0c0, p0B0, p0N0, p0V0, rfl, rfl⟩ (fun F => by simp) (pSub (pCons Sel.hc (pApp Sel.ha pNil)))
  replace h := cf hc h
  refine wc_skip (wx_block (wx_then (wc_seq (wc_seq (wc_region ?_)))))
  iterate 2 refine wl_pure tt_ok rfl rfl ?_
  replace h := bsome h; obtain ⟨⟨o25_0, v25⟩, x25, h⟩ := h; try dsimp only at h
  rcases v25 with _ | v25s
  · replace h := poN h
    refine wl_cs Tryd.call44 rfl rfl rfl (s_sp (k_watch_Watch_at_none (p0 := p0) p0N0 p0V0 x25) (pCons Sel.hc (pApp Sel.ha pNil)) (fun _ _ => trivial)) rfl ?_
    rintro _ _ ⟨_, ⟨o25_0a0, o25_0n0, o25_0c0, o25_0B0, o25_0N0, o25_0V0, rfl, rfl⟩, rfl⟩
    refine wl_pure tt_ok rfl rfl ?_
    refine wl_nil (wx_then (wc_seq (wc_region ?_)))
    refine wl_pure tt_ok rfl rfl ?_
    refine wl_pure (v := .bool false) tt_ok rfl rfl ?_
    refine wl_nil (wx_then ?_)
    refine wc_cond_false rfl ?_
    refine wc_skip (wx_then (wc_seq (wc_seq (wc_region ?_))))
    iterate 2 refine wl_pure tt_ok rfl rfl ?_
    refine wl_pure (v := .pointer (some ⟨p0b, 2, none⟩)) tt_ok rfl rfl ?_
    refine wl_val (v := .bool o25_0.clashed) (val_load tt_ok rfl (List.Mem.head _) rfl) rfl ?_
    refine wl_nil (wx_then ?_)
    refine wc_cond rfl (fun hc => ?_) (fun hc => ?_)
    · replace h := ct hc h
      refine wc_seq (wc_region ?_)
      refine wl_pure tt_ok rfl rfl ?_
      refine wl_nil (wx_then (wc_ret (wx_then_ret ?_)))
      simp only [Option.some.injEq, Prod.mk.injEq] at h
      obtain ⟨rfl, rfl⟩ := h
      exact wx_spD tt_ok (.inl rfl) Tryd.results25 (Res.tmp rfl Res.nil) ⟨o25_0a0, o25_0n0, o25_0c0, o25_0B0, o25_0N0, o25_0V0, rfl, rfl⟩ (fun F => by simp) (pSub (pCons Sel.hc (pApp Sel.ha pNil)))
    replace h := cf hc h
    refine wc_skip (wx_then (wc_seq (wc_region ?_)))
    refine wl_pure tt_ok rfl rfl ?_
    refine wl_nil (wx_then (wc_ret ?_))
    simp only [Option.some.injEq, Prod.mk.injEq] at h
    obtain ⟨rfl, rfl⟩ := h
    exact wx_spD tt_ok (.inl rfl) Tryd.results25 (Res.tmp rfl Res.nil) ⟨o25_0a0, o25_0n0, o25_0c0, o25_0B0, o25_0N0, o25_0V0, rfl, rfl⟩ (fun F => by simp) (pSub (pCons Sel.hc (pApp Sel.ha pNil)))
  replace h := poS h
  replace h := bsome h; obtain ⟨v25x, xv25, h⟩ := h
  refine wl_cs Tryd.call44 rfl rfl rfl (s_sp (k_watch_Watch_at (p0 := p0) p0N0 p0V0 x25) (pCons Sel.hc (pApp Sel.ha pNil)) (fun _ _ => trivial)) rfl ?_
  rintro _ _ ⟨_, ⟨o25_0a0, o25_0n0, o25_0c0, o25_0B0, o25_0N0, o25_0V0, rfl, rfl⟩, rfl⟩
  refine wl_pure tt_ok rfl rfl ?_
  refine wl_nil (wx_then (wc_seq (wc_region ?_)))
  refine wl_pure tt_ok rfl rfl ?_
  refine wl_pure (v := .bool true) tt_ok rfl rfl ?_
  refine wl_nil (wx_then ?_)
  refine wc_cond_true rfl ?_
  refine wc_seq (wc_region ?_)
  iterate 2 refine wl_pure tt_ok rfl rfl ?_
  refine wl_inl Tryd.call27 rfl rfl rfl Tryd.func27 rfl Tryd.ntmps27 rfl rfl rfl ?_
  refine wc_seq (wc_region ?_)
  refine wl_pure tt_ok rfl rfl ?_
  refine wl_nil (wx_then (wc_seq (wc_region ?_)))
  iterate 2 refine wl_pure tt_ok rfl rfl ?_
  refine wl_val (v := .pointer (some ((adOf o25_0a0).add (v25s.toNat * 5 + 3)))) (val_fa (k := v25s.toNat * 5 + 0) (off := 3) tt_ok rfl rfl rfl rfl rfl) rfl ?_
  refine wl_pure tt_ok rfl rfl ?_
  refine wl_nil (wx_then (wc_ret ?_))
  refine wx_inl (v := .pointer (some ((adOf o25_0a0).add (v25s.toNat * 5 + 3)))) tt_ok (.inl rfl) Tryd.results27 (Res.tmp rfl Res.nil) rfl ?_
  refine wl_pure tt_ok rfl rfl ?_
  refine wl_nil (wx_then (wc_seq (wc_region ?_)))
  iterate 3 refine wl_pure tt_ok rfl rfl ?_
  refine wl_pure (v := .pointer (some ⟨p0b, 2, none⟩)) tt_ok rfl rfl ?_
  refine wl_val (v := .bool o25_0.clashed) (val_load tt_ok rfl (List.Mem.head _) rfl) rfl ?_
  refine wl_pure tt_ok rfl rfl ?_
  replace h := bsome h; obtain ⟨v49, h, hg49⟩ := h
  refine wl_split (t := 36) rfl (fun hc => ?_) (fun hc => ?_)
  · replace h := ct hc h
    refine wl_skip rfl rfl ?_
    refine wl_skip rfl rfl ?_
    refine wl_skip rfl rfl ?_
    refine wl_skip rfl rfl ?_
    refine wl_skip rfl rfl ?_
    refine wl_skip rfl rfl ?_
    refine wl_skip rfl rfl ?_
    refine wl_skip rfl rfl ?_
    refine wl_skip rfl rfl ?_
    refine wl_skip rfl rfl ?_
    refine wl_skip rfl rfl ?_
    refine wl_skip rfl rfl ?_
    simp only [Option.some.injEq, Prod.mk.injEq] at h
    obtain rfl := h
    have h := hg49; clear hg49
    refine wl_pure (v := .bool true) tt_ok rfl rfl ?_
    refine wl_pure tt_ok rfl rfl ?_
    refine wl_pure (v := .pointer (some ⟨p0b, 2, none⟩)) tt_ok rfl rfl ?_
    apply wl_store tt_ok; rfl; exact Upd.here; rfl; rfl; rfl; rfl; rfl; rfl
    refine wl_nil (wx_then (wc_seq (wc_seq (wc_region ?_))))
    iterate 2 refine wl_pure tt_ok rfl rfl ?_
    refine wl_val (v := .pointer (some ((adOf o25_0a0).add (v25s.toNat * 5 + 4)))) (val_fa (k := v25s.toNat * 5 + 3) (off := 1) tt_ok rfl rfl rfl rfl rfl) rfl ?_
    refine wl_val (v := .bool v25x.other.is_) (val_le (enc := c_T_watch_entry) (xs := o25_0.l) tt_ok rfl (Rds.of_vec o25_0V0) ⟨_, (Sel.sc Sel.ha)⟩ c_T_watch_entry_len xv25 rfl) rfl ?_
    refine wl_pure (v := .bool (!v25x.other.is_)) tt_ok rfl rfl ?_
    refine wl_nil (wx_then ?_)
    refine wc_cond rfl (fun hc => ?_) (fun hc => ?_)
    · replace h := ct hc h
      refine wc_region ?_
      iterate 2 refine wl_pure tt_ok rfl rfl ?_
      refine wl_pure (v := .agg #[.int .u64 p2, .bool true]) tt_ok rfl rfl ?_
      refine wl_pure tt_ok rfl rfl ?_
      refine wl_chg0 (chg_ste (enc := c_T_watch_entry) (y' := (T_watch_entry.mk v25x.f v25x.own (T_watch_sum.mk p2 true))) tt_ok rfl rfl rfl rfl rfl rfl o25_0N0 o25_0V0 (Sel.sc Sel.ha) c_T_watch_entry_len xv25 rfl (by intro h; cases h)) ?_
      rintro _ _ ⟨Bs32_4, Ns32_4, Vs32_4, rfl⟩
      refine wl_nil (wx_then ?_)
      refine wc_k2 (Ls := (Bs32_4 ++ (⟨p0b, [.int .u64 o25_0.rows, .slice o25_0a0 o25_0n0 o25_0c0, .bool true], p0t, (0, 0)⟩ :: []))) [34] [34] [0, 0, 2, 6, 14, 30, 62, 126, 254, 510, 1022, 2046, 4094, 8190, 16382, 32766, 65534, 131070, 262142, 524286, 1048574, 2097150, 4194302, 8388606, 524286, 17301502, 50855934, 117964798, 252182526, 536870910, 1073741822, 2147483646, 4294967295, 8589934591, 17179869183] [0, 1, 2, 3, 4, 5, 6, 7, 8, 9, 10, 11, 12, 13, 14, 15, 16, 17, 18, 19, 20, 21, 22, 23, 24, 25, 26, 27, 28, 29, 30, 31, 32, 33, 34] (by kernel_rfl) (by kernel_rfl) (by kernel_rfl) ?_
      refine k_val rfl rfl rfl (pSub (pApp Sel.ha (pCons Sel.hc pNil))) (stepV_ok tt_ok rfl) rfl ?_
      refine k_val rfl rfl rfl (pSub (pApp Sel.ha (pCons Sel.hc pNil))) (stepV_ok tt_ok rfl) rfl ?_
      refine k_val rfl rfl rfl (pSub (pApp Sel.ha (pCons Sel.hc pNil))) (stepV_ok tt_ok rfl) rfl ?_
      refine k_val (v := .pointer (some ⟨p0b, 2, none⟩)) rfl rfl rfl (pSub (pApp Sel.ha (pCons Sel.hc pNil))) (stepV_ok tt_ok rfl) rfl ?_
      refine k_val (v := .bool true) rfl rfl rfl (pSub (pApp Sel.ha (pCons Sel.hc pNil))) (val_load tt_ok rfl (mR (List.Mem.head _)) rfl) rfl ?_
      refine k_val rfl rfl rfl (pSub (pApp Sel.ha (pCons Sel.hc pNil))) (stepV_ok tt_ok rfl) rfl ?_
      replace h := bsome h; obtain ⟨v92, h, hg92⟩ := h
      replace h := ct rfl h
      refine k_skip rfl rfl (pSub (pApp Sel.ha (pCons Sel.hc pNil))) rfl ?_
      refine k_skip rfl rfl (pSub (pApp Sel.ha (pCons Sel.hc pNil))) rfl ?_
      refine k_skip rfl rfl (pSub (pApp Sel.ha (pCons Sel.hc pNil))) rfl ?_
      refine k_skip rfl rfl (pSub (pApp Sel.ha (pCons Sel.hc pNil))) rfl ?_
      refine k_skip rfl rfl (pSub (pApp Sel.ha (pCons Sel.hc pNil))) rfl ?_
      refine k_skip rfl rfl (pSub (pApp Sel.ha (pCons Sel.hc pNil))) rfl ?_
      refine k_skip rfl rfl (pSub (pApp Sel.ha (pCons Sel.hc pNil))) rfl ?_
      refine k_skip rfl rfl (pSub (pApp Sel.ha (pCons Sel.hc pNil))) rfl ?_
      refine k_skip rfl rfl (pSub (pApp Sel.ha (pCons Sel.hc pNil))) rfl ?_
      refine k_skip rfl rfl (pSub (pApp Sel.ha (pCons Sel.hc pNil))) rfl ?_
      refine k_skip rfl rfl (pSub (pApp Sel.ha (pCons Sel.hc pNil))) rfl ?_
      refine k_skip rfl rfl (pSub (pApp Sel.ha (pCons Sel.hc pNil))) rfl ?_
      refine k_skip rfl rfl (pSub (pApp Sel.ha (pCons Sel.hc pNil))) rfl ?_
      refine k_skip rfl rfl (pSub (pApp Sel.ha (pCons Sel.hc pNil))) rfl ?_
      refine k_skip rfl rfl (pSub (pApp Sel.ha (pCons Sel.hc pNil))) rfl ?_
      refine k_skip rfl rfl (pSub (pApp Sel.ha (pCons Sel.hc pNil))) rfl ?_
      refine k_skip rfl rfl (pSub (pApp Sel.ha (pCons Sel.hc pNil))) rfl ?_
      refine k_skip rfl rfl (pSub (pApp Sel.ha (pCons Sel.hc pNil))) rfl ?_
      refine k_skip rfl rfl (pSub (pApp Sel.ha (pCons Sel.hc pNil))) rfl ?_
      refine k_skip rfl rfl (pSub (pApp Sel.ha (pCons Sel.hc pNil))) rfl ?_
      refine k_skip rfl rfl (pSub (pApp Sel.ha (pCons Sel.hc pNil))) rfl ?_
      refine k_skip rfl rfl (pSub (pApp Sel.ha (pCons Sel.hc pNil))) rfl ?_
      refine k_skip rfl rfl (pSub (pApp Sel.ha (pCons Sel.hc pNil))) rfl ?_
      refine k_skip rfl rfl (pSub (pApp Sel.ha (pCons Sel.hc pNil))) rfl ?_
      refine k_skip rfl rfl (pSub (pApp Sel.ha (pCons Sel.hc pNil))) rfl ?_
      simp only [Option.some.injEq, Prod.mk.injEq] at h
      obtain rfl := h
      have h := hg92; clear hg92
      refine k_val (v := .bool true) rfl rfl rfl (pSub (pApp Sel.ha (pCons Sel.hc pNil))) (stepV_ok tt_ok rfl) rfl ?_
      refine k_val rfl rfl rfl (pSub (pApp Sel.ha (pCons Sel.hc pNil))) (stepV_ok tt_ok rfl) rfl ?_
      refine k_val (v := .pointer (some ⟨p0b, 2, none⟩)) rfl rfl rfl (pSub (pApp Sel.ha (pCons Sel.hc pNil))) (stepV_ok tt_ok rfl) rfl ?_
      refine k_chg0 rfl rfl rfl (chg_store tt_ok rfl (Upd.right Upd.here) rfl rfl rfl rfl rfl rfl) (.inl rfl) ?_
      rintro _ _ rfl
      refine k_end (by kernel_rfl) ?_
      refine wx_then (wc_seq (wc_seq (wc_region ?_)))
      iterate 2 refine wl_pure tt_ok rfl rfl ?_
      refine wl_pure (v := .pointer (some ⟨p0b, 2, none⟩)) tt_ok rfl rfl ?_
      refine wl_val (v := .bool true) (val_load tt_ok rfl (mR (List.Mem.head _)) rfl) rfl ?_
      refine wl_nil (wx_then ?_)
      replace h := ct rfl h
      refine wc_cond_true rfl ?_
      refine wc_seq (wc_region ?_)
      refine wl_pure tt_ok rfl rfl ?_
      refine wl_nil (wx_then (wc_ret (wx_then_ret ?_)))
      simp only [Option.some.injEq, Prod.mk.injEq] at h
      obtain ⟨rfl, rfl⟩ := h
      exact wx_spD tt_ok (.inl rfl) Tryd.results25 (Res.tmp rfl Res.nil) ⟨o25_0a0, o25_0n0, o25_0c0, Bs32_4, Ns32_4, Vs32_4, rfl, rfl⟩ (fun F => by simp) (pSub (pCons (Sel.sa Sel.hc) (pApp Sel.ha pNil)))
    replace h := cf hc h
    refine wc_skip (wx_then ?_)
    refine wc_k2 (Ls := (⟨p0b, [.int .u64 o25_0.rows, .slice o25_0a0 o25_0n0 o25_0c0, .bool true], p0t, (0, 0)⟩ :: (o25_0B0 ++ []))) [34] [34] [0, 0, 2, 6, 14, 30, 62, 126, 254, 510, 1022, 2046, 4094, 8190, 16382, 32766, 65534, 131070, 262142, 524286, 1048574, 2097150, 4194302, 8388606, 524286, 17301502, 50855934, 117964798, 252182526, 536870910, 1073741822, 2147483646, 4294967295, 8589934591, 17179869183] [0, 1, 2, 3, 4, 5, 6, 7, 8, 9, 10, 11, 12, 13, 14, 15, 16, 17, 18, 19, 20, 21, 22, 23, 24, 25, 26, 27, 28, 29, 30, 31, 32, 33, 34] (by kernel_rfl) (by kernel_rfl) (by kernel_rfl) ?_
    refine k_val rfl rfl rfl (pSub (pCons Sel.hc (pApp Sel.ha pNil))) (stepV_ok tt_ok rfl) rfl ?_
    refine k_val rfl rfl rfl (pSub (pCons Sel.hc (pApp Sel.ha pNil))) (stepV_ok tt_ok rfl) rfl ?_
    refine k_val rfl rfl rfl (pSub (pCons Sel.hc (pApp Sel.ha pNil))) (stepV_ok tt_ok rfl) rfl ?_
    refine k_val (v := .pointer (some ⟨p0b, 2, none⟩)) rfl rfl rfl (pSub (pCons Sel.hc (pApp Sel.ha pNil))) (stepV_ok tt_ok rfl) rfl ?_
    refine k_val (v := .bool true) rfl rfl rfl (pSub (pCons Sel.hc (pApp Sel.ha pNil))) (val_load tt_ok rfl (List.Mem.head _) rfl) rfl ?_
    refine k_val rfl rfl rfl (pSub (pCons Sel.hc (pApp Sel.ha pNil))) (stepV_ok tt_ok rfl) rfl ?_
    replace h := bsome h; obtain ⟨v92, h, hg92⟩ := h
    replace h := ct rfl h
    refine k_skip rfl rfl (pSub (pCons Sel.hc (pApp Sel.ha pNil))) rfl ?_
    refine k_skip rfl rfl (pSub (pCons Sel.hc (pApp Sel.ha pNil))) rfl ?_
    refine k_skip rfl rfl (pSub (pCons Sel.hc (pApp Sel.ha pNil))) rfl ?_
    refine k_skip rfl rfl (pSub (pCons Sel.hc (pApp Sel.ha pNil))) rfl ?_
    refine k_skip rfl rfl (pSub (pCons Sel.hc (pApp Sel.ha pNil))) rfl ?_
    refine k_skip rfl rfl (pSub (pCons Sel.hc (pApp Sel.ha pNil))) rfl ?_
    refine k_skip rfl rfl (pSub (pCons Sel.hc (pApp Sel.ha pNil))) rfl ?_
    refine k_skip rfl rfl (pSub (pCons Sel.hc (pApp Sel.ha pNil))) rfl ?_
    refine k_skip rfl rfl (pSub (pCons Sel.hc (pApp Sel.ha pNil))) rfl ?_
    refine k_skip rfl rfl (pSub (pCons Sel.hc (pApp Sel.ha pNil))) rfl ?_
    refine k_skip rfl rfl (pSub (pCons Sel.hc (pApp Sel.ha pNil))) rfl ?_
    refine k_skip rfl rfl (pSub (pCons Sel.hc (pApp Sel.ha pNil))) rfl ?_
    refine k_skip rfl rfl (pSub (pCons Sel.hc (pApp Sel.ha pNil))) rfl ?_
    refine k_skip rfl rfl (pSub (pCons Sel.hc (pApp Sel.ha pNil))) rfl ?_
    refine k_skip rfl rfl (pSub (pCons Sel.hc (pApp Sel.ha pNil))) rfl ?_
    refine k_skip rfl rfl (pSub (pCons Sel.hc (pApp Sel.ha pNil))) rfl ?_
    refine k_skip rfl rfl (pSub (pCons Sel.hc (pApp Sel.ha pNil))) rfl ?_
    refine k_skip rfl rfl (pSub (pCons Sel.hc (pApp Sel.ha pNil))) rfl ?_
    refine k_skip rfl rfl (pSub (pCons Sel.hc (pApp Sel.ha pNil))) rfl ?_
    refine k_skip rfl rfl (pSub (pCons Sel.hc (pApp Sel.ha pNil))) rfl ?_
    refine k_skip rfl rfl (pSub (pCons Sel.hc (pApp Sel.ha pNil))) rfl ?_
    refine k_skip rfl rfl (pSub (pCons Sel.hc (pApp Sel.ha pNil))) rfl ?_
    refine k_skip rfl rfl (pSub (pCons Sel.hc (pApp Sel.ha pNil))) rfl ?_
    refine k_skip rfl rfl (pSub (pCons Sel.hc (pApp Sel.ha pNil))) rfl ?_
    refine k_skip rfl rfl (pSub (pCons Sel.hc (pApp Sel.ha pNil))) rfl ?_
    simp only [Option.some.injEq, Prod.mk.injEq] at h
    obtain rfl := h
    have h := hg92; clear hg92
    refine k_val (v := .bool true) rfl rfl rfl (pSub (pCons Sel.hc (pApp Sel.ha pNil))) (stepV_ok tt_ok rfl) rfl ?_
    refine k_val rfl rfl rfl (pSub (pCons Sel.hc (pApp Sel.ha pNil))) (stepV_ok tt_ok rfl) rfl ?_
    refine k_val (v := .pointer (some ⟨p0b, 2, none⟩)) rfl rfl rfl (pSub (pCons Sel.hc (pApp Sel.ha pNil))) (stepV_ok tt_ok rfl) rfl ?_
    refine k_chg0 rfl rfl rfl (chg_store tt_ok rfl Upd.here rfl rfl rfl rfl rfl rfl) (.inl rfl) ?_
    rintro _ _ rfl
    refine k_end (by kernel_rfl) ?_
    refine wx_then (wc_seq (wc_seq (wc_region ?_)))
    iterate 2 refine wl_pure tt_ok rfl rfl ?_
    refine wl_pure (v := .pointer (some ⟨p0b, 2, none⟩)) tt_ok rfl rfl ?_
    refine wl_val (v := .bool true) (val_load tt_ok rfl (List.Mem.head _) rfl) rfl ?_
    refine wl_nil (wx_then ?_)
    replace h := ct rfl h
    refine wc_cond_true rfl ?_
    refine wc_seq (wc_region ?_)
    refine wl_pure tt_ok rfl rfl ?_
    refine wl_nil (wx_then (wc_ret (wx_then_ret ?_)))
    simp only [Option.some.injEq, Prod.mk.injEq] at h
    obtain ⟨rfl, rfl⟩ := h
    exact wx_spD tt_ok (.inl rfl) Tryd.results25 (Res.tmp rfl Res.nil) ⟨o25_0a0, o25_0n0, o25_0c0, o25_0B0, o25_0N0, o25_0V0, rfl, rfl⟩ (fun F => by simp) (pSub (pCons Sel.hc (pApp Sel.ha pNil)))
  replace h := cf hc h
  refine wl_run rfl ?_
  refine wl_pure tt_ok rfl rfl ?_
  refine wl_run rfl ?_
  refine wl_pure tt_ok rfl rfl ?_
  refine wl_run rfl ?_
  refine wl_val (v := .pointer (some ((adOf o25_0a0).add (v25s.toNat * 5 + 4)))) (val_fa (k := v25s.toNat * 5 + 3) (off := 1) tt_ok rfl rfl rfl rfl rfl) rfl ?_
  refine wl_run rfl ?_
  refine wl_val (v := .bool v25x.other.is_) (val_le (enc := c_T_watch_entry) (xs := o25_0.l) tt_ok rfl (Rds.of_vec o25_0V0) ⟨_, (Sel.sc Sel.ha)⟩ c_T_watch_entry_len xv25 rfl) rfl ?_
  refine wl_run rfl ?_
  refine wl_pure tt_ok rfl rfl ?_
  replace h := bsome h; obtain ⟨v48, h, hg48⟩ := h
  refine wl_split (t := 41) rfl (fun hc => ?_) (fun hc => ?_)
  · replace h := ct hc h
    refine wl_run rfl ?_
    refine wl_pure tt_ok rfl rfl ?_
    refine wl_run rfl ?_
    refine wl_pure tt_ok rfl rfl ?_
    refine wl_run rfl ?_
    refine wl_val (v := .pointer (some ((adOf o25_0a0).add (v25s.toNat * 5 + 3)))) (val_fa (k := v25s.toNat * 5 + 3) (off := 0) tt_ok rfl rfl rfl rfl rfl) rfl ?_
    refine wl_run rfl ?_
    refine wl_val (v := .int .u64 v25x.other.n) (val_le (enc := c_T_watch_entry) (xs := o25_0.l) tt_ok rfl (Rds.of_vec o25_0V0) ⟨_, (Sel.sc Sel.ha)⟩ c_T_watch_entry_len xv25 rfl) rfl ?_
    refine wl_run rfl ?_
    refine wl_pure tt_ok rfl rfl ?_
    refine wl_run rfl ?_
    refine wl_pure (v := .bool (v25x.other.n != p2)) tt_ok rfl rfl ?_
    simp only [Option.some.injEq, Prod.mk.injEq] at h
    obtain rfl := h
    have h := hg48; clear hg48
    refine wl_run rfl ?_
    refine wl_pure (v := .bool (v25x.other.n != p2)) tt_ok rfl rfl ?_
    simp only [Option.some.injEq, Prod.mk.injEq] at h
    obtain rfl := h
    have h := hg49; clear hg49
    refine wl_pure (v := .bool (v25x.other.n != p2)) tt_ok rfl rfl ?_
    refine wl_pure tt_ok rfl rfl ?_
    refine wl_pure (v := .pointer (some ⟨p0b, 2, none⟩)) tt_ok rfl rfl ?_
    apply wl_store tt_ok; rfl; exact Upd.here; rfl; rfl; rfl; rfl; rfl; rfl
    refine wl_nil (wx_then (wc_seq (wc_seq (wc_region ?_))))
    iterate 2 refine wl_pure tt_ok rfl rfl ?_
    refine wl_val (v := .pointer (some ((adOf o25_0a0).add (v25s.toNat * 5 + 4)))) (val_fa (k := v25s.toNat * 5 + 3) (off := 1) tt_ok rfl rfl rfl rfl rfl) rfl ?_
    refine wl_val (v := .bool v25x.other.is_) (val_le (enc := c_T_watch_entry) (xs := o25_0.l) tt_ok rfl (Rds.of_vec o25_0V0) ⟨_, (Sel.sc Sel.ha)⟩ c_T_watch_entry_len xv25 rfl) rfl ?_
    refine wl_pure (v := .bool (!v25x.other.is_)) tt_ok rfl rfl ?_
    refine wl_nil (wx_then ?_)
    refine wc_cond rfl (fun hc => ?_) (fun hc => ?_)
    · replace h := ct hc h
      refine wc_region ?_
      iterate 2 refine wl_pure tt_ok rfl rfl ?_
      refine wl_pure (v := .agg #[.int .u64 p2, .bool true]) tt_ok rfl rfl ?_
      refine wl_pure tt_ok rfl rfl ?_
      refine wl_chg0 (chg_ste (enc := c_T_watch_entry) (y' := (T_watch_entry.mk v25x.f v25x.own (T_watch_sum.mk p2 true))) tt_ok rfl rfl rfl rfl rfl rfl o25_0N0 o25_0V0 (Sel.sc Sel.ha) c_T_watch_entry_len xv25 rfl (by intro h; cases h)) ?_
      rintro _ _ ⟨Bs32_4, Ns32_4, Vs32_4, rfl⟩
      refine wl_nil (wx_then ?_)
      refine wc_k2 (Ls := (Bs32_4 ++ (⟨p0b, [.int .u64 o25_0.rows, .slice o25_0a0 o25_0n0 o25_0c0, .bool (v25x.other.n != p2)], p0t, (0, 0)⟩ :: []))) [34] [34] [0, 0, 2, 6, 14, 30, 62, 126, 254, 510, 1022, 2046, 4094, 8190, 16382, 32766, 65534, 131070, 262142, 524286, 1048574, 2097150, 4194302, 8388606, 524286, 17301502, 50855934, 117964798, 252182526, 536870910, 1073741822, 2147483646, 4294967295, 8589934591, 17179869183] [0, 1, 2, 3, 4, 5, 6, 7, 8, 9, 10, 11, 12, 13, 14, 15, 16, 17, 18, 19, 20, 21, 22, 23, 24, 25, 26, 27, 28, 29, 30, 31, 32, 33, 34] (by kernel_rfl) (by kernel_rfl) (by kernel_rfl) ?_
      refine k_val rfl rfl rfl (pSub (pApp Sel.ha (pCons Sel.hc pNil))) (stepV_ok tt_ok rfl) rfl ?_
      refine k_val rfl rfl rfl (pSub (pApp Sel.ha (pCons Sel.hc pNil))) (stepV_ok tt_ok rfl) rfl ?_
      refine k_val rfl rfl rfl (pSub (pApp Sel.ha (pCons Sel.hc pNil))) (stepV_ok tt_ok rfl) rfl ?_
      refine k_val (v := .pointer (some ⟨p0b, 2, none⟩)) rfl rfl rfl (pSub (pApp Sel.ha (pCons Sel.hc pNil))) (stepV_ok tt_ok rfl) rfl ?_
      refine k_val (v := .bool (v25x.other.n != p2)) rfl rfl rfl (pSub (pApp Sel.ha (pCons Sel.hc pNil))) (val_load tt_ok rfl (mR (List.Mem.head _)) rfl) rfl ?_
      refine k_val rfl rfl rfl (pSub (pApp Sel.ha (pCons Sel.hc pNil))) (stepV_ok tt_ok rfl) rfl ?_
      replace h := bsome h; obtain ⟨v92, h, hg92⟩ := h
      refine k_split (t := 66) rfl (fun hc => ?_) (fun hc => ?_)
      · replace h := ct hc h
        refine k_skip rfl rfl (pSub (pApp Sel.ha (pCons Sel.hc pNil))) rfl ?_
        refine k_skip rfl rfl (pSub (pApp Sel.ha (pCons Sel.hc pNil))) rfl ?_
        refine k_skip rfl rfl (pSub (pApp Sel.ha (pCons Sel.hc pNil))) rfl ?_
        refine k_skip rfl rfl (pSub (pApp Sel.ha (pCons Sel.hc pNil))) rfl ?_
        refine k_skip rfl rfl (pSub (pApp Sel.ha (pCons Sel.hc pNil))) rfl ?_
        refine k_skip rfl rfl (pSub (pApp Sel.ha (pCons Sel.hc pNil))) rfl ?_
        refine k_skip rfl rfl (pSub (pApp Sel.ha (pCons Sel.hc pNil))) rfl ?_
        refine k_skip rfl rfl (pSub (pApp Sel.ha (pCons Sel.hc pNil))) rfl ?_
        refine k_skip rfl rfl (pSub (pApp Sel.ha (pCons Sel.hc pNil))) rfl ?_
        refine k_skip rfl rfl (pSub (pApp Sel.ha (pCons Sel.hc pNil))) rfl ?_
        refine k_skip rfl rfl (pSub (pApp Sel.ha (pCons Sel.hc pNil))) rfl ?_
        refine k_skip rfl rfl (pSub (pApp Sel.ha (pCons Sel.hc pNil))) rfl ?_
        refine k_skip rfl rfl (pSub (pApp Sel.ha (pCons Sel.hc pNil))) rfl ?_
        refine k_skip rfl rfl (pSub (pApp Sel.ha (pCons Sel.hc pNil))) rfl ?_
        refine k_skip rfl rfl (pSub (pApp Sel.ha (pCons Sel.hc pNil))) rfl ?_
        refine k_skip rfl rfl (pSub (pApp Sel.ha (pCons Sel.hc pNil))) rfl ?_
        refine k_skip rfl rfl (pSub (pApp Sel.ha (pCons Sel.hc pNil))) rfl ?_
        refine k_skip rfl rfl (pSub (pApp Sel.ha (pCons Sel.hc pNil))) rfl ?_
        refine k_skip rfl rfl (pSub (pApp Sel.ha (pCons Sel.hc pNil))) rfl ?_
        refine k_skip rfl rfl (pSub (pApp Sel.ha (pCons Sel.hc pNil))) rfl ?_
        refine k_skip rfl rfl (pSub (pApp Sel.ha (pCons Sel.hc pNil))) rfl ?_
        refine k_skip rfl rfl (pSub (pApp Sel.ha (pCons Sel.hc pNil))) rfl ?_
        refine k_skip rfl rfl (pSub (pApp Sel.ha (pCons Sel.hc pNil))) rfl ?_
        refine k_skip rfl rfl (pSub (pApp Sel.ha (pCons Sel.hc pNil))) rfl ?_
        refine k_skip rfl rfl (pSub (pApp Sel.ha (pCons Sel.hc pNil))) rfl ?_
        simp only [Option.some.injEq, Prod.mk.injEq] at h
        obtain rfl := h
        have h := hg92; clear hg92
        refine k_val (v := .bool true) rfl rfl rfl (pSub (pApp Sel.ha (pCons Sel.hc pNil))) (stepV_ok tt_ok rfl) rfl ?_
        refine k_val rfl rfl rfl (pSub (pApp Sel.ha (pCons Sel.hc pNil))) (stepV_ok tt_ok rfl) rfl ?_
        refine k_val (v := .pointer (some ⟨p0b, 2, none⟩)) rfl rfl rfl (pSub (pApp Sel.ha (pCons Sel.hc pNil))) (stepV_ok tt_ok rfl) rfl ?_
        refine k_chg0 rfl rfl rfl (chg_store tt_ok rfl (Upd.right Upd.here) rfl rfl rfl rfl rfl rfl) (.inl rfl) ?_
        rintro _ _ rfl
        refine k_end (by kernel_rfl) ?_
        refine wx_then (wc_seq (wc_seq (wc_region ?_)))
        iterate 2 refine wl_pure tt_ok rfl rfl ?_
        refine wl_pure (v := .pointer (some ⟨p0b, 2, none⟩)) tt_ok rfl rfl ?_
        refine wl_val (v := .bool true) (val_load tt_ok rfl (mR (List.Mem.head _)) rfl) rfl ?_
        refine wl_nil (wx_then ?_)
        replace h := ct rfl h
        refine wc_cond_true rfl ?_
        refine wc_seq (wc_region ?_)
        refine wl_pure tt_ok rfl rfl ?_
        refine wl_nil (wx_then (wc_ret (wx_then_ret ?_)))
        simp only [Option.some.injEq, Prod.mk.injEq] at h
        obtain ⟨rfl, rfl⟩ := h
        exact wx_spD tt_ok (.inl rfl) Tryd.results25 (Res.tmp rfl Res.nil) ⟨o25_0a0, o25_0n0, o25_0c0, Bs32_4, Ns32_4, Vs32_4, rfl, rfl⟩ (fun F => by simp) (pSub (pCons (Sel.sa Sel.hc) (pApp Sel.ha pNil)))
      replace h := cf hc h
      refine k_val rfl rfl rfl (pSub (pApp Sel.ha (pCons Sel.hc pNil))) (stepV_ok tt_ok rfl) rfl ?_
      refine k_val rfl rfl rfl (pSub (pApp Sel.ha (pCons Sel.hc pNil))) (stepV_ok tt_ok rfl) rfl ?_
      refine k_val (v := .pointer (some ((adOf o25_0a0).add (v25s.toNat * 5 + 1)))) rfl rfl rfl (pSub (pApp Sel.ha (pCons Sel.hc pNil))) (val_fa (k := v25s.toNat * 5 + 0) (off := 1) tt_ok rfl rfl rfl rfl rfl) rfl ?_
      refine k_val (v := .pointer (some ((adOf o25_0a0).add (v25s.toNat * 5 + 2)))) rfl rfl rfl (pSub (pApp Sel.ha (pCons Sel.hc pNil))) (val_fa (k := v25s.toNat * 5 + 1) (off := 1) tt_ok rfl rfl rfl rfl rfl) rfl ?_
      refine k_val (v := .bool v25x.own.is_) rfl rfl rfl (pSub (pApp Sel.ha (pCons Sel.hc pNil))) (val_le (enc := c_T_watch_entry) (xs := (setI o25_0.l v25s (T_watch_entry.mk v25x.f v25x.own (T_watch_sum.mk p2 true)))) tt_ok rfl (Rds.of_vec Vs32_4) ⟨_, Sel.ha⟩ c_T_watch_entry_len (getI_set xv25) rfl) rfl ?_
      refine k_val rfl rfl rfl (pSub (pApp Sel.ha (pCons Sel.hc pNil))) (stepV_ok tt_ok rfl) rfl ?_
      replace h := bsome h; obtain ⟨v78, h, hg78⟩ := h
      refine k_split (t := 72) rfl (fun hc => ?_) (fun hc => ?_)
      · replace h := ct hc h
        refine k_val rfl rfl rfl (pSub (pApp Sel.ha (pCons Sel.hc pNil))) (stepV_ok tt_ok rfl) rfl ?_
        refine k_val rfl rfl rfl (pSub (pApp Sel.ha (pCons Sel.hc pNil))) (stepV_ok tt_ok rfl) rfl ?_
        refine k_val (v := .pointer (some ((adOf o25_0a0).add (v25s.toNat * 5 + 3)))) rfl rfl rfl (pSub (pApp Sel.ha (pCons Sel.hc pNil))) (val_fa (k := v25s.toNat * 5 + 0) (off := 3) tt_ok rfl rfl rfl rfl rfl) rfl ?_
        refine k_val (v := .pointer (some ((adOf o25_0a0).add (v25s.toNat * 5 + 4)))) rfl rfl rfl (pSub (pApp Sel.ha (pCons Sel.hc pNil))) (val_fa (k := v25s.toNat * 5 + 3) (off := 1) tt_ok rfl rfl rfl rfl rfl) rfl ?_
        refine k_val (v := .bool true) rfl rfl rfl (pSub (pApp Sel.ha (pCons Sel.hc pNil))) (val_le (enc := c_T_watch_entry) (xs := (setI o25_0.l v25s (T_watch_entry.mk v25x.f v25x.own (T_watch_sum.mk p2 true)))) tt_ok rfl (Rds.of_vec Vs32_4) ⟨_, Sel.ha⟩ c_T_watch_entry_len (getI_set xv25) rfl) rfl ?_
        simp only [Option.some.injEq, Prod.mk.injEq] at h
        obtain rfl := h
        have h := hg78; clear hg78
        refine k_val (v := .bool true) rfl rfl rfl (pSub (pApp Sel.ha (pCons Sel.hc pNil))) (stepV_ok tt_ok rfl) rfl ?_
        refine k_val rfl rfl rfl (pSub (pApp Sel.ha (pCons Sel.hc pNil))) (stepV_ok tt_ok rfl) rfl ?_
        replace h := bsome h; obtain ⟨v91, h, hg91⟩ := h
        replace h := ct rfl h
        refine k_val rfl rfl rfl (pSub (pApp Sel.ha (pCons Sel.hc pNil))) (stepV_ok tt_ok rfl) rfl ?_
        refine k_val rfl rfl rfl (pSub (pApp Sel.ha (pCons Sel.hc pNil))) (stepV_ok tt_ok rfl) rfl ?_
        refine k_val (v := .pointer (some ((adOf o25_0a0).add (v25s.toNat * 5 + 1)))) rfl rfl rfl (pSub (pApp Sel.ha (pCons Sel.hc pNil))) (val_fa (k := v25s.toNat * 5 + 0) (off := 1) tt_ok rfl rfl rfl rfl rfl) rfl ?_
        refine k_val (v := .pointer (some ((adOf o25_0a0).add (v25s.toNat * 5 + 1)))) rfl rfl rfl (pSub (pApp Sel.ha (pCons Sel.hc pNil))) (val_fa (k := v25s.toNat * 5 + 1) (off := 0) tt_ok rfl rfl rfl rfl rfl) rfl ?_
        refine k_val (v := .int .u64 v25x.own.n) rfl rfl rfl (pSub (pApp Sel.ha (pCons Sel.hc pNil))) (val_le (enc := c_T_watch_entry) (xs := (setI o25_0.l v25s (T_watch_entry.mk v25x.f v25x.own (T_watch_sum.mk p2 true)))) tt_ok rfl (Rds.of_vec Vs32_4) ⟨_, Sel.ha⟩ c_T_watch_entry_len (getI_set xv25) rfl) rfl ?_
        refine k_val rfl rfl rfl (pSub (pApp Sel.ha (pCons Sel.hc pNil))) (stepV_ok tt_ok rfl) rfl ?_
        refine k_val rfl rfl rfl (pSub (pApp Sel.ha (pCons Sel.hc pNil))) (stepV_ok tt_ok rfl) rfl ?_
        refine k_val (v := .pointer (some ((adOf o25_0a0).add (v25s.toNat * 5 + 3)))) rfl rfl rfl (pSub (pApp Sel.ha (pCons Sel.hc pNil))) (val_fa (k := v25s.toNat * 5 + 0) (off := 3) tt_ok rfl rfl rfl rfl rfl) rfl ?_
        refine k_val (v := .pointer (some ((adOf o25_0a0).add (v25s.toNat * 5 + 3)))) rfl rfl rfl (pSub (pApp Sel.ha (pCons Sel.hc pNil))) (val_fa (k := v25s.toNat * 5 + 3) (off := 0) tt_ok rfl rfl rfl rfl rfl) rfl ?_
        refine k_val (v := .int .u64 p2) rfl rfl rfl (pSub (pApp Sel.ha (pCons Sel.hc pNil))) (val_le (enc := c_T_watch_entry) (xs := (setI o25_0.l v25s (T_watch_entry.mk v25x.f v25x.own (T_watch_sum.mk p2 true)))) tt_ok rfl (Rds.of_vec Vs32_4) ⟨_, Sel.ha⟩ c_T_watch_entry_len (getI_set xv25) rfl) rfl ?_
        refine k_val (v := .bool (v25x.own.n != p2)) rfl rfl rfl (pSub (pApp Sel.ha (pCons Sel.hc pNil))) (stepV_ok tt_ok rfl) rfl ?_
        simp only [Option.some.injEq, Prod.mk.injEq] at h
        obtain rfl := h
        have h := hg91; clear hg91
        refine k_val (v := .bool (v25x.own.n != p2)) rfl rfl rfl (pSub (pApp Sel.ha (pCons Sel.hc pNil))) (stepV_ok tt_ok rfl) rfl ?_
        simp only [Option.some.injEq, Prod.mk.injEq] at h
        obtain rfl := h
        have h := hg92; clear hg92
        refine k_val (v := .bool (v25x.own.n != p2)) rfl rfl rfl (pSub (pApp Sel.ha (pCons Sel.hc pNil))) (stepV_ok tt_ok rfl) rfl ?_
        refine k_val rfl rfl rfl (pSub (pApp Sel.ha (pCons Sel.hc pNil))) (stepV_ok tt_ok rfl) rfl ?_
        refine k_val (v := .pointer (some ⟨p0b, 2, none⟩)) rfl rfl rfl (pSub (pApp Sel.ha (pCons Sel.hc pNil))) (stepV_ok tt_ok rfl) rfl ?_
        refine k_chg0 rfl rfl rfl (chg_store tt_ok rfl (Upd.right Upd.here) rfl rfl rfl rfl rfl rfl) (.inl rfl) ?_
        rintro _ _ rfl
        refine k_end (by kernel_rfl) ?_
        refine wx_then (wc_seq (wc_seq (wc_region ?_)))
        iterate 2 refine wl_pure tt_ok rfl rfl ?_
        refine wl_pure (v := .pointer (some ⟨p0b, 2, none⟩)) tt_ok rfl rfl ?_
        refine wl_val (v := .bool (v25x.own.n != p2)) (val_load tt_ok rfl (mR (List.Mem.head _)) rfl) rfl ?_
        refine wl_nil (wx_then ?_)
        refine wc_cond rfl (fun hc => ?_) (fun hc => ?_)
        · replace h := ct hc h
          refine wc_seq (wc_region ?_)
          refine wl_pure tt_ok rfl rfl ?_
          refine wl_nil (wx_then (wc_ret (wx_then_ret ?_)))
          simp only [Option.some.injEq, Prod.mk.injEq] at h
          obtain ⟨rfl, rfl⟩ := h
          exact wx_spD tt_ok (.inl rfl) Tryd.results25 (Res.tmp rfl Res.nil) ⟨o25_0a0, o25_0n0, o25_0c0, Bs32_4, Ns32_4, Vs32_4, rfl, rfl⟩ (fun F => by simp) (pSub (pCons (Sel.sa Sel.hc) (pApp Sel.ha pNil)))
        replace h := cf hc h
        refine wc_skip (wx_then (wc_seq (wc_region ?_)))
        refine wl_pure tt_ok rfl rfl ?_
        refine wl_nil (wx_then (wc_ret ?_))
        simp only [Option.some.injEq, Prod.mk.injEq] at h
        obtain ⟨rfl, rfl⟩ := h
        exact wx_spD tt_ok (.inl rfl) Tryd.results25 (Res.tmp rfl Res.nil) ⟨o25_0a0, o25_0n0, o25_0c0, Bs32_4, Ns32_4, Vs32_4, rfl, rfl⟩ (fun F => by simp) (pSub (pCons (Sel.sa Sel.hc) (pApp Sel.ha pNil)))
      replace h := cf hc h
      refine k_skip rfl rfl (pSub (pApp Sel.ha (pCons Sel.hc pNil))) rfl ?_
      refine k_skip rfl rfl (pSub (pApp Sel.ha (pCons Sel.hc pNil))) rfl ?_
      refine k_skip rfl rfl (pSub (pApp Sel.ha (pCons Sel.hc pNil))) rfl ?_
      refine k_skip rfl rfl (pSub (pApp Sel.ha (pCons Sel.hc pNil))) rfl ?_
      refine k_skip rfl rfl (pSub (pApp Sel.ha (pCons Sel.hc pNil))) rfl ?_
      simp only [Option.some.injEq, Prod.mk.injEq] at h
      obtain rfl := h
      have h := hg78; clear hg78
      refine k_val (v := .bool false) rfl rfl rfl (pSub (pApp Sel.ha (pCons Sel.hc pNil))) (stepV_ok tt_ok rfl) rfl ?_
      refine k_val rfl rfl rfl (pSub (pApp Sel.ha (pCons Sel.hc pNil))) (stepV_ok tt_ok rfl) rfl ?_
      replace h := bsome h; obtain ⟨v91, h, hg91⟩ := h
      replace h := cf rfl h
      refine k_skip rfl rfl (pSub (pApp Sel.ha (pCons Sel.hc pNil))) rfl ?_
      refine k_skip rfl rfl (pSub (pApp Sel.ha (pCons Sel.hc pNil))) rfl ?_
      refine k_skip rfl rfl (pSub (pApp Sel.ha (pCons Sel.hc pNil))) rfl ?_
      refine k_skip rfl rfl (pSub (pApp Sel.ha (pCons Sel.hc pNil))) rfl ?_
      refine k_skip rfl rfl (pSub (pApp Sel.ha (pCons Sel.hc pNil))) rfl ?_
      refine k_skip rfl rfl (pSub (pApp Sel.ha (pCons Sel.hc pNil))) rfl ?_
      refine k_skip rfl rfl (pSub (pApp Sel.ha (pCons Sel.hc pNil))) rfl ?_
      refine k_skip rfl rfl (pSub (pApp Sel.ha (pCons Sel.hc pNil))) rfl ?_
      refine k_skip rfl rfl (pSub (pApp Sel.ha (pCons Sel.hc pNil))) rfl ?_
      refine k_skip rfl rfl (pSub (pApp Sel.ha (pCons Sel.hc pNil))) rfl ?_
      refine k_skip rfl rfl (pSub (pApp Sel.ha (pCons Sel.hc pNil))) rfl ?_
      simp only [Option.some.injEq, Prod.mk.injEq] at h
      obtain rfl := h
      have h := hg91; clear hg91
      refine k_val (v := .bool false) rfl rfl rfl (pSub (pApp Sel.ha (pCons Sel.hc pNil))) (stepV_ok tt_ok rfl) rfl ?_
      simp only [Option.some.injEq, Prod.mk.injEq] at h
      obtain rfl := h
      have h := hg92; clear hg92
      refine k_val (v := .bool false) rfl rfl rfl (pSub (pApp Sel.ha (pCons Sel.hc pNil))) (stepV_ok tt_ok rfl) rfl ?_
      refine k_val rfl rfl rfl (pSub (pApp Sel.ha (pCons Sel.hc pNil))) (stepV_ok tt_ok rfl) rfl ?_
      refine k_val (v := .pointer (some ⟨p0b, 2, none⟩)) rfl rfl rfl (pSub (pApp Sel.ha (pCons Sel.hc pNil))) (stepV_ok tt_ok rfl) rfl ?_
      refine k_chg0 rfl rfl rfl (chg_store tt_ok rfl (Upd.right Upd.here) rfl rfl rfl rfl rfl rfl) (.inl rfl) ?_
      rintro _ _ rfl
      refine k_end (by kernel_rfl) ?_
      refine wx_then (wc_seq (wc_seq (wc_region ?_)))
      iterate 2 refine wl_pure tt_ok rfl rfl ?_
      refine wl_pure (v := .pointer (some ⟨p0b, 2, none⟩)) tt_ok rfl rfl ?_
      refine wl_val (v := .bool false) (val_load tt_ok rfl (mR (List.Mem.head _)) rfl) rfl ?_
      refine wl_nil (wx_then ?_)
      replace h := cf rfl h
      refine wc_cond_false rfl ?_
      refine wc_skip (wx_then (wc_seq (wc_region ?_)))
      refine wl_pure tt_ok rfl rfl ?_
      refine wl_nil (wx_then (wc_ret ?_))
      simp only [Option.some.injEq, Prod.mk.injEq] at h
      obtain ⟨rfl, rfl⟩ := h
      exact wx_spD tt_ok (.inl rfl) Tryd.results25 (Res.tmp rfl Res.nil) ⟨o25_0a0, o25_0n0, o25_0c0, Bs32_4, Ns32_4, Vs32_4, rfl, rfl⟩ (fun F => by simp) (pSub (pCons (Sel.sa Sel.hc) (pApp Sel.ha pNil)))
    replace h := cf hc h
    refine wc_skip (wx_then ?_)
    refine wc_k2 (Ls := (⟨p0b, [.int .u64 o25_0.rows, .slice o25_0a0 o25_0n0 o25_0c0, .bool (v25x.other.n != p2)], p0t, (0, 0)⟩ :: (o25_0B0 ++ []))) [34] [34] [0, 0, 2, 6, 14, 30, 62, 126, 254, 510, 1022, 2046, 4094, 8190, 16382, 32766, 65534, 131070, 262142, 524286, 1048574, 2097150, 4194302, 8388606, 524286, 17301502, 50855934, 117964798, 252182526, 536870910, 1073741822, 2147483646, 4294967295, 8589934591, 17179869183] [0, 1, 2, 3, 4, 5, 6, 7, 8, 9, 10, 11, 12, 13, 14, 15, 16, 17, 18, 19, 20, 21, 22, 23, 24, 25, 26, 27, 28, 29, 30, 31, 32, 33, 34] (by kernel_rfl) (by kernel_rfl) (by kernel_rfl) ?_
    refine k_val rfl rfl rfl (pSub (pCons Sel.hc (pApp Sel.ha pNil))) (stepV_ok tt_ok rfl) rfl ?_
    refine k_val rfl rfl rfl (pSub (pCons Sel.hc (pApp Sel.ha pNil))) (stepV_ok tt_ok rfl) rfl ?_
    refine k_val rfl rfl rfl (pSub (pCons Sel.hc (pApp Sel.ha pNil))) (stepV_ok tt_ok rfl) rfl ?_
    refine k_val (v := .pointer (some ⟨p0b, 2, none⟩)) rfl rfl rfl (pSub (pCons Sel.hc (pApp Sel.ha pNil))) (stepV_ok tt_ok rfl) rfl ?_
    refine k_val (v := .bool (v25x.other.n != p2)) rfl rfl rfl (pSub (pCons Sel.hc (pApp Sel.ha pNil))) (val_load tt_ok rfl (List.Mem.head _) rfl) rfl ?_
    refine k_val rfl rfl rfl (pSub (pCons Sel.hc (pApp Sel.ha pNil))) (stepV_ok tt_ok rfl) rfl ?_
    replace h := bsome h; obtain ⟨v92, h, hg92⟩ := h
    refine k_split (t := 66) rfl (fun hc => ?_) (fun hc => ?_)
    · replace h := ct hc h
      refine k_skip rfl rfl (pSub (pCons Sel.hc (pApp Sel.ha pNil))) rfl ?_
      refine k_skip rfl rfl (pSub (pCons Sel.hc (pApp Sel.ha pNil))) rfl ?_
      refine k_skip rfl rfl (pSub (pCons Sel.hc (pApp Sel.ha pNil))) rfl ?_
      refine k_skip rfl rfl (pSub (pCons Sel.hc (pApp Sel.ha pNil))) rfl ?_
      refine k_skip rfl rfl (pSub (pCons Sel.hc (pApp Sel.ha pNil))) rfl ?_
      refine k_skip rfl rfl (pSub (pCons Sel.hc (pApp Sel.ha pNil))) rfl ?_
      refine k_skip rfl rfl (pSub (pCons Sel.hc (pApp Sel.ha pNil))) rfl ?_
      refine k_skip rfl rfl (pSub (pCons Sel.hc (pApp Sel.ha pNil))) rfl ?_
      refine k_skip rfl rfl (pSub (pCons Sel.hc (pApp Sel.ha pNil))) rfl ?_
      refine k_skip rfl rfl (pSub (pCons Sel.hc (pApp Sel.ha pNil))) rfl ?_
      refine k_skip rfl rfl (pSub (pCons Sel.hc (pApp Sel.ha pNil))) rfl ?_
      refine k_skip rfl rfl (pSub (pCons Sel.hc (pApp Sel.ha pNil))) rfl ?_
      refine k_skip rfl rfl (pSub (pCons Sel.hc (pApp Sel.ha pNil))) rfl ?_
      refine k_skip rfl rfl (pSub (pCons Sel.hc (pApp Sel.ha pNil))) rfl ?_
      refine k_skip rfl rfl (pSub (pCons Sel.hc (pApp Sel.ha pNil))) rfl ?_
      refine k_skip rfl rfl (pSub (pCons Sel.hc (pApp Sel.ha pNil))) rfl ?_
      refine k_skip rfl rfl (pSub (pCons Sel.hc (pApp Sel.ha pNil))) rfl ?_
      refine k_skip rfl rfl (pSub (pCons Sel.hc (pApp Sel.ha pNil))) rfl ?_
      refine k_skip rfl rfl (pSub (pCons Sel.hc (pApp Sel.ha pNil))) rfl ?_
      refine k_skip rfl rfl (pSub (pCons Sel.hc (pApp Sel.ha pNil))) rfl ?_
      refine k_skip rfl rfl (pSub (pCons Sel.hc (pApp Sel.ha pNil))) rfl ?_
      refine k_skip rfl rfl (pSub (pCons Sel.hc (pApp Sel.ha pNil))) rfl ?_
      refine k_skip rfl rfl (pSub (pCons Sel.hc (pApp Sel.ha pNil))) rfl ?_
      refine k_skip rfl rfl (pSub (pCons Sel.hc (pApp Sel.ha pNil))) rfl ?_
      refine k_skip rfl rfl (pSub (pCons Sel.hc (pApp Sel.ha pNil))) rfl ?_
      simp only [Option.some.injEq, Prod.mk.injEq] at h
      obtain rfl := h
      have h := hg92; clear hg92
      refine k_val (v := .bool true) rfl rfl rfl (pSub (pCons Sel.hc (pApp Sel.ha pNil))) (stepV_ok tt_ok rfl) rfl ?_
      refine k_val rfl rfl rfl (pSub (pCons Sel.hc (pApp Sel.ha pNil))) (stepV_ok tt_ok rfl) rfl ?_
      refine k_val (v := .pointer (some ⟨p0b, 2, none⟩)) rfl rfl rfl (pSub (pCons Sel.hc (pApp Sel.ha pNil))) (stepV_ok tt_ok rfl) rfl ?_
      refine k_chg0 rfl rfl rfl (chg_store tt_ok rfl Upd.here rfl rfl rfl rfl rfl rfl) (.inl rfl) ?_
      rintro _ _ rfl
      refine k_end (by kernel_rfl) ?_
      refine wx_then (wc_seq (wc_seq (wc_region ?_)))
      iterate 2 refine wl_pure tt_ok rfl rfl ?_
      refine wl_pure (v := .pointer (some ⟨p0b, 2, none⟩)) tt_ok rfl rfl ?_
      refine wl_val (v := .bool true) (val_load tt_ok rfl (List.Mem.head _) rfl) rfl ?_
      refine wl_nil (wx_then ?_)
      replace h := ct rfl h
      refine wc_cond_true rfl ?_
      refine wc_seq (wc_region ?_)
      refine wl_pure tt_ok rfl rfl ?_
      refine wl_nil (wx_then (wc_ret (wx_then_ret ?_)))
      simp only [Option.some.injEq, Prod.mk.injEq] at h
      obtain ⟨rfl, rfl⟩ := h
      exact wx_spD tt_ok (.inl rfl) Tryd.results25 (Res.tmp rfl Res.nil) ⟨o25_0a0, o25_0n0, o25_0c0, o25_0B0, o25_0N0, o25_0V0, rfl, rfl⟩ (fun F => by simp) (pSub (pCons Sel.hc (pApp Sel.ha pNil)))
    replace h := cf hc h
    refine k_val rfl rfl rfl (pSub (pCons Sel.hc (pApp Sel.ha pNil))) (stepV_ok tt_ok rfl) rfl ?_
    refine k_val rfl rfl rfl (pSub (pCons Sel.hc (pApp Sel.ha pNil))) (stepV_ok tt_ok rfl) rfl ?_
    refine k_val (v := .pointer (some ((adOf o25_0a0).add (v25s.toNat * 5 + 1)))) rfl rfl rfl (pSub (pCons Sel.hc (pApp Sel.ha pNil))) (val_fa (k := v25s.toNat * 5 + 0) (off := 1) tt_ok rfl rfl rfl rfl rfl) rfl ?_
    refine k_val (v := .pointer (some ((adOf o25_0a0).add (v25s.toNat * 5 + 2)))) rfl rfl rfl (pSub (pCons Sel.hc (pApp Sel.ha pNil))) (val_fa (k := v25s.toNat * 5 + 1) (off := 1) tt_ok rfl rfl rfl rfl rfl) rfl ?_
    refine k_val (v := .bool v25x.own.is_) rfl rfl rfl (pSub (pCons Sel.hc (pApp Sel.ha pNil))) (val_le (enc := c_T_watch_entry) (xs := o25_0.l) tt_ok rfl (Rds.of_vec o25_0V0) ⟨_, (Sel.sc Sel.ha)⟩ c_T_watch_entry_len xv25 rfl) rfl ?_
    refine k_val rfl rfl rfl (pSub (pCons Sel.hc (pApp Sel.ha pNil))) (stepV_ok tt_ok rfl) rfl ?_
    replace h := bsome h; obtain ⟨v78, h, hg78⟩ := h
    refine k_split (t := 72) rfl (fun hc => ?_) (fun hc => ?_)
    · replace h := ct hc h
      refine k_val rfl rfl rfl (pSub (pCons Sel.hc (pApp Sel.ha pNil))) (stepV_ok tt_ok rfl) rfl ?_
      refine k_val rfl rfl rfl (pSub (pCons Sel.hc (pApp Sel.ha pNil))) (stepV_ok tt_ok rfl) rfl ?_
      refine k_val (v := .pointer (some ((adOf o25_0a0).add (v25s.toNat * 5 + 3)))) rfl rfl rfl (pSub (pCons Sel.hc (pApp Sel.ha pNil))) (val_fa (k := v25s.toNat * 5 + 0) (off := 3) tt_ok rfl rfl rfl rfl rfl) rfl ?_
      refine k_val (v := .pointer (some ((adOf o25_0a0).add (v25s.toNat * 5 + 4)))) rfl rfl rfl (pSub (pCons Sel.hc (pApp Sel.ha pNil))) (val_fa (k := v25s.toNat * 5 + 3) (off := 1) tt_ok rfl rfl rfl rfl rfl) rfl ?_
      refine k_val (v := .bool v25x.other.is_) rfl rfl rfl (pSub (pCons Sel.hc (pApp Sel.ha pNil))) (val_le (enc := c_T_watch_entry) (xs := o25_0.l) tt_ok rfl (Rds.of_vec o25_0V0) ⟨_, (Sel.sc Sel.ha)⟩ c_T_watch_entry_len xv25 rfl) rfl ?_
      simp only [Option.some.injEq, Prod.mk.injEq] at h
      obtain rfl := h
      have h := hg78; clear hg78
      refine k_val (v := .bool v25x.other.is_) rfl rfl rfl (pSub (pCons Sel.hc (pApp Sel.ha pNil))) (stepV_ok tt_ok rfl) rfl ?_
      refine k_val rfl rfl rfl (pSub (pCons Sel.hc (pApp Sel.ha pNil))) (stepV_ok tt_ok rfl) rfl ?_
      replace h := bsome h; obtain ⟨v91, h, hg91⟩ := h
      refine k_split (t := 79) rfl (fun hc => ?_) (fun hc => ?_)
      · replace h := ct hc h
        refine k_val rfl rfl rfl (pSub (pCons Sel.hc (pApp Sel.ha pNil))) (stepV_ok tt_ok rfl) rfl ?_
        refine k_val rfl rfl rfl (pSub (pCons Sel.hc (pApp Sel.ha pNil))) (stepV_ok tt_ok rfl) rfl ?_
        refine k_val (v := .pointer (some ((adOf o25_0a0).add (v25s.toNat * 5 + 1)))) rfl rfl rfl (pSub (pCons Sel.hc (pApp Sel.ha pNil))) (val_fa (k := v25s.toNat * 5 + 0) (off := 1) tt_ok rfl rfl rfl rfl rfl) rfl ?_
        refine k_val (v := .pointer (some ((adOf o25_0a0).add (v25s.toNat * 5 + 1)))) rfl rfl rfl (pSub (pCons Sel.hc (pApp Sel.ha pNil))) (val_fa (k := v25s.toNat * 5 + 1) (off := 0) tt_ok rfl rfl rfl rfl rfl) rfl ?_
        refine k_val (v := .int .u64 v25x.own.n) rfl rfl rfl (pSub (pCons Sel.hc (pApp Sel.ha pNil))) (val_le (enc := c_T_watch_entry) (xs := o25_0.l) tt_ok rfl (Rds.of_vec o25_0V0) ⟨_, (Sel.sc Sel.ha)⟩ c_T_watch_entry_len xv25 rfl) rfl ?_
        refine k_val rfl rfl rfl (pSub (pCons Sel.hc (pApp Sel.ha pNil))) (stepV_ok tt_ok rfl) rfl ?_
        refine k_val rfl rfl rfl (pSub (pCons Sel.hc (pApp Sel.ha pNil))) (stepV_ok tt_ok rfl) rfl ?_
        refine k_val (v := .pointer (some ((adOf o25_0a0).add (v25s.toNat * 5 + 3)))) rfl rfl rfl (pSub (pCons Sel.hc (pApp Sel.ha pNil))) (val_fa (k := v25s.toNat * 5 + 0) (off := 3) tt_ok rfl rfl rfl rfl rfl) rfl ?_
        refine k_val (v := .pointer (some ((adOf o25_0a0).add (v25s.toNat * 5 + 3)))) rfl rfl rfl (pSub (pCons Sel.hc (pApp Sel.ha pNil))) (val_fa (k := v25s.toNat * 5 + 3) (off := 0) tt_ok rfl rfl rfl rfl rfl) rfl ?_
        refine k_val (v := .int .u64 v25x.other.n) rfl rfl rfl (pSub (pCons Sel.hc (pApp Sel.ha pNil))) (val_le (enc := c_T_watch_entry) (xs := o25_0.l) tt_ok rfl (Rds.of_vec o25_0V0) ⟨_, (Sel.sc Sel.ha)⟩ c_T_watch_entry_len xv25 rfl) rfl ?_
        refine k_val (v := .bool (v25x.own.n != v25x.other.n)) rfl rfl rfl (pSub (pCons Sel.hc (pApp Sel.ha pNil))) (stepV_ok tt_ok rfl) rfl ?_
        simp only [Option.some.injEq, Prod.mk.injEq] at h
        obtain rfl := h
        have h := hg91; clear hg91
        refine k_val (v := .bool (v25x.own.n != v25x.other.n)) rfl rfl rfl (pSub (pCons Sel.hc (pApp Sel.ha pNil))) (stepV_ok tt_ok rfl) rfl ?_
        simp only [Option.some.injEq, Prod.mk.injEq] at h
        obtain rfl := h
        have h := hg92; clear hg92
        refine k_val (v := .bool (v25x.own.n != v25x.other.n)) rfl rfl rfl (pSub (pCons Sel.hc (pApp Sel.ha pNil))) (stepV_ok tt_ok rfl) rfl ?_
        refine k_val rfl rfl rfl (pSub (pCons Sel.hc (pApp Sel.ha pNil))) (stepV_ok tt_ok rfl) rfl ?_
        refine k_val (v := .pointer (some ⟨p0b, 2, none⟩)) rfl rfl rfl (pSub (pCons Sel.hc (pApp Sel.ha pNil))) (stepV_ok tt_ok rfl) rfl ?_
        refine k_chg0 rfl rfl rfl (chg_store tt_ok rfl Upd.here rfl rfl rfl rfl rfl rfl) (.inl rfl) ?_
        rintro _ _ rfl
        refine k_end (by kernel_rfl) ?_
        refine wx_then (wc_seq (wc_seq (wc_region ?_)))
        iterate 2 refine wl_pure tt_ok rfl rfl ?_
        refine wl_pure (v := .pointer (some ⟨p0b, 2, none⟩)) tt_ok rfl rfl ?_
        refine wl_val (v := .bool (v25x.own.n != v25x.other.n)) (val_load tt_ok rfl (List.Mem.head _) rfl) rfl ?_
        refine wl_nil (wx_then ?_)
        refine wc_cond rfl (fun hc => ?_) (fun hc => ?_)
        · replace h := ct hc h
          refine wc_seq (wc_region ?_)
          refine wl_pure tt_ok rfl rfl ?_
          refine wl_nil (wx_then (wc_ret (wx_then_ret ?_)))
          simp only [Option.some.injEq, Prod.mk.injEq] at h
          obtain ⟨rfl, rfl⟩ := h
          exact wx_spD tt_ok (.inl rfl) Tryd.results25 (Res.tmp rfl Res.nil) ⟨o25_0a0, o25_0n0, o25_0c0, o25_0B0, o25_0N0, o25_0V0, rfl, rfl⟩ (fun F => by simp) (pSub (pCons Sel.hc (pApp Sel.ha pNil)))
        replace h := cf hc h
        refine wc_skip (wx_then (wc_seq (wc_region ?_)))
        refine wl_pure tt_ok rfl rfl ?_
        refine wl_nil (wx_then (wc_ret ?_))
        simp only [Option.some.injEq, Prod.mk.injEq] at h
        obtain ⟨rfl, rfl⟩ := h
        exact wx_spD tt_ok (.inl rfl) Tryd.results25 (Res.tmp rfl Res.nil) ⟨o25_0a0, o25_0n0, o25_0c0, o25_0B0, o25_0N0, o25_0V0, rfl, rfl⟩ (fun F => by simp) (pSub (pCons Sel.hc (pApp Sel.ha pNil)))
      replace h := cf hc h
      refine k_skip rfl rfl (pSub (pCons Sel.hc (pApp Sel.ha pNil))) rfl ?_
      refine k_skip rfl rfl (pSub (pCons Sel.hc (pApp Sel.ha pNil))) rfl ?_
      refine k_skip rfl rfl (pSub (pCons Sel.hc (pApp Sel.ha pNil))) rfl ?_
      refine k_skip rfl rfl (pSub (pCons Sel.hc (pApp Sel.ha pNil))) rfl ?_
      refine k_skip rfl rfl (pSub (pCons Sel.hc (pApp Sel.ha pNil))) rfl ?_
      refine k_skip rfl rfl (pSub (pCons Sel.hc (pApp Sel.ha pNil))) rfl ?_
      refine k_skip rfl rfl (pSub (pCons Sel.hc (pApp Sel.ha pNil))) rfl ?_
      refine k_skip rfl rfl (pSub (pCons Sel.hc (pApp Sel.ha pNil))) rfl ?_
      refine k_skip rfl rfl (pSub (pCons Sel.hc (pApp Sel.ha pNil))) rfl ?_
      refine k_skip rfl rfl (pSub (pCons Sel.hc (pApp Sel.ha pNil))) rfl ?_
      refine k_skip rfl rfl (pSub (pCons Sel.hc (pApp Sel.ha pNil))) rfl ?_
      simp only [Option.some.injEq, Prod.mk.injEq] at h
      obtain rfl := h
      have h := hg91; clear hg91
      refine k_val (v := .bool false) rfl rfl rfl (pSub (pCons Sel.hc (pApp Sel.ha pNil))) (stepV_ok tt_ok rfl) rfl ?_
      simp only [Option.some.injEq, Prod.mk.injEq] at h
      obtain rfl := h
      have h := hg92; clear hg92
      refine k_val (v := .bool false) rfl rfl rfl (pSub (pCons Sel.hc (pApp Sel.ha pNil))) (stepV_ok tt_ok rfl) rfl ?_
      refine k_val rfl rfl rfl (pSub (pCons Sel.hc (pApp Sel.ha pNil))) (stepV_ok tt_ok rfl) rfl ?_
      refine k_val (v := .pointer (some ⟨p0b, 2, none⟩)) rfl rfl rfl (pSub (pCons Sel.hc (pApp Sel.ha pNil))) (stepV_ok tt_ok rfl) rfl ?_
      refine k_chg0 rfl rfl rfl (chg_store tt_ok rfl Upd.here rfl rfl rfl rfl rfl rfl) (.inl rfl) ?_
      rintro _ _ rfl
      refine k_end (by kernel_rfl) ?_
      refine wx_then (wc_seq (wc_seq (wc_region ?_)))
      iterate 2 refine wl_pure tt_ok rfl rfl ?_
      refine wl_pure (v := .pointer (some ⟨p0b, 2, none⟩)) tt_ok rfl rfl ?_
      refine wl_val (v := .bool false) (val_load tt_ok rfl (List.Mem.head _) rfl) rfl ?_
      refine wl_nil (wx_then ?_)
      replace h := cf rfl h
      refine wc_cond_false rfl ?_
      refine wc_skip (wx_then (wc_seq (wc_region ?_)))
      refine wl_pure tt_ok rfl rfl ?_
      refine wl_nil (wx_then (wc_ret ?_))
      simp only [Option.some.injEq, Prod.mk.injEq] at h
      obtain ⟨rfl, rfl⟩ := h
      exact wx_spD tt_ok (.inl rfl) Tryd.results25 (Res.tmp rfl Res.nil) ⟨o25_0a0, o25_0n0, o25_0c0, o25_0B0, o25_0N0, o25_0V0, rfl, rfl⟩ (fun F => by simp) (pSub (pCons Sel.hc (pApp Sel.ha pNil)))
    replace h := cf hc h
    refine k_skip rfl rfl (pSub (pCons Sel.hc (pApp Sel.ha pNil))) rfl ?_
    refine k_skip rfl rfl (pSub (pCons Sel.hc (pApp Sel.ha pNil))) rfl ?_
    refine k_skip rfl rfl (pSub (pCons Sel.hc (pApp Sel.ha pNil))) rfl ?_
    refine k_skip rfl rfl (pSub (pCons Sel.hc (pApp Sel.ha pNil))) rfl ?_
    refine k_skip rfl rfl (pSub (pCons Sel.hc (pApp Sel.ha pNil))) rfl ?_
    simp only [Option.some.injEq, Prod.mk.injEq] at h
    obtain rfl := h
    have h := hg78; clear hg78
    refine k_val (v := .bool false) rfl rfl rfl (pSub (pCons Sel.hc (pApp Sel.ha pNil))) (stepV_ok tt_ok rfl) rfl ?_
    refine k_val rfl rfl rfl (pSub (pCons Sel.hc (pApp Sel.ha pNil))) (stepV_ok tt_ok rfl) rfl ?_
    replace h := bsome h; obtain ⟨v91, h, hg91⟩ := h
    replace h := cf rfl h
    refine k_skip rfl rfl (pSub (pCons Sel.hc (pApp Sel.ha pNil))) rfl ?_
    refine k_skip rfl rfl (pSub (pCons Sel.hc (pApp Sel.ha pNil))) rfl ?_
    refine k_skip rfl rfl (pSub (pCons Sel.hc (pApp Sel.ha pNil))) rfl ?_
    refine k_skip rfl rfl (pSub (pCons Sel.hc (pApp Sel.ha pNil))) rfl ?_
    refine k_skip rfl rfl (pSub (pCons Sel.hc (pApp Sel.ha pNil))) rfl ?_
    refine k_skip rfl rfl (pSub (pCons Sel.hc (pApp Sel.ha pNil))) rfl ?_
    refine k_skip rfl rfl (pSub (pCons Sel.hc (pApp Sel.ha pNil))) rfl ?_
    refine k_skip rfl rfl (pSub (pCons Sel.hc (pApp Sel.ha pNil))) rfl ?_
    refine k_skip rfl rfl (pSub (pCons Sel.hc (pApp Sel.ha pNil))) rfl ?_
    refine k_skip rfl rfl (pSub (pCons Sel.hc (pApp Sel.ha pNil))) rfl ?_
    refine k_skip rfl rfl (pSub (pCons Sel.hc (pApp Sel.ha pNil))) rfl ?_
    simp only [Option.some.injEq, Prod.mk.injEq] at h
    obtain rfl := h
    have h := hg91; clear hg91
    refine k_val (v := .bool false) rfl rfl rfl (pSub (pCons Sel.hc (pApp Sel.ha pNil))) (stepV_ok tt_ok rfl) rfl ?_
    simp only [Option.some.injEq, Prod.mk.injEq] at h
    obtain rfl := h
    have h := hg92; clear hg92
    refine k_val (v := .bool false) rfl rfl rfl (pSub (pCons Sel.hc (pApp Sel.ha pNil))) (stepV_ok tt_ok rfl) rfl ?_
    refine k_val rfl rfl rfl (pSub (pCons Sel.hc (pApp Sel.ha pNil))) (stepV_ok tt_ok rfl) rfl ?_
    refine k_val (v := .pointer (some ⟨p0b, 2, none⟩)) rfl rfl rfl (pSub (pCons Sel.hc (pApp Sel.ha pNil))) (stepV_ok tt_ok rfl) rfl ?_
    refine k_chg0 rfl rfl rfl (chg_store tt_ok rfl Upd.here rfl rfl rfl rfl rfl rfl) (.inl rfl) ?_
    rintro _ _ rfl
    refine k_end (by kernel_rfl) ?_
    refine wx_then (wc_seq (wc_seq (wc_region ?_)))
    iterate 2 refine wl_pure tt_ok rfl rfl ?_
    refine wl_pure (v := .pointer (some ⟨p0b, 2, none⟩)) tt_ok rfl rfl ?_
    refine wl_val (v := .bool false) (val_load tt_ok rfl (List.Mem.head _) rfl) rfl ?_
    refine wl_nil (wx_then ?_)
    replace h := cf rfl h
    refine wc_cond_false rfl ?_
    refine wc_skip (wx_then (wc_seq (wc_region ?_)))
    refine wl_pure tt_ok rfl rfl ?_
    refine wl_nil (wx_then (wc_ret ?_))
    simp only [Option.some.injEq, Prod.mk.injEq] at h
    obtain ⟨rfl, rfl⟩ := h
    exact wx_spD tt_ok (.inl rfl) Tryd.results25 (Res.tmp rfl Res.nil) ⟨o25_0a0, o25_0n0, o25_0c0, o25_0B0, o25_0N0, o25_0V0, rfl, rfl⟩ (fun F => by simp) (pSub (pCons Sel.hc (pApp Sel.ha pNil)))
  replace h := cf hc h
  refine wl_skip rfl rfl ?_
  refine wl_skip rfl rfl ?_
  refine wl_skip rfl rfl ?_
  refine wl_skip rfl rfl ?_
  refine wl_skip rfl rfl ?_
  refine wl_skip rfl rfl ?_
  simp only [Option.some.injEq, Prod.mk.injEq] at h
  obtain rfl := h
  have h := hg48; clear hg48
  refine wl_run rfl ?_
  refine wl_pure (v := .bool false) tt_ok rfl rfl ?_
  simp only [Option.some.injEq, Prod.mk.injEq] at h
  obtain rfl := h
  have h := hg49; clear hg49
  refine wl_pure (v := .bool false) tt_ok rfl rfl ?_
  refine wl_pure tt_ok rfl rfl ?_
  refine wl_pure (v := .pointer (some ⟨p0b, 2, none⟩)) tt_ok rfl rfl ?_
  apply wl_store tt_ok; rfl; exact Upd.here; rfl; rfl; rfl; rfl; rfl; rfl
  refine wl_nil (wx_then (wc_seq (wc_seq (wc_region ?_))))
  iterate 2 refine wl_pure tt_ok rfl rfl ?_
  refine wl_val (v := .pointer (some ((adOf o25_0a0).add (v25s.toNat * 5 + 4)))) (val_fa (k := v25s.toNat * 5 + 3) (off := 1) tt_ok rfl rfl rfl rfl rfl) rfl ?_
  refine wl_val (v := .bool v25x.other.is_) (val_le (enc := c_T_watch_entry) (xs := o25_0.l) tt_ok rfl (Rds.of_vec o25_0V0) ⟨_, (Sel.sc Sel.ha)⟩ c_T_watch_entry_len xv25 rfl) rfl ?_
  refine wl_pure (v := .bool (!v25x.other.is_)) tt_ok rfl rfl ?_
  refine wl_nil (wx_then ?_)
  refine wc_cond rfl (fun hc => ?_) (fun hc => ?_)
  · replace h := ct hc h
    refine wc_region ?_
    iterate 2 refine wl_pure tt_ok rfl rfl ?_
    refine wl_pure (v := .agg #[.int .u64 p2, .bool true]) tt_ok rfl rfl ?_
    refine wl_pure tt_ok rfl rfl ?_
    refine wl_chg0 (chg_ste (enc := c_T_watch_entry) (y' := (T_watch_entry.mk v25x.f v25x.own (T_watch_sum.mk p2 true))) tt_ok rfl rfl rfl rfl rfl rfl o25_0N0 o25_0V0 (Sel.sc Sel.ha) c_T_watch_entry_len xv25 rfl (by intro h; cases h)) ?_
    rintro _ _ ⟨Bs32_4, Ns32_4, Vs32_4, rfl⟩
    refine wl_nil (wx_then ?_)
    refine wc_k2 (Ls := (Bs32_4 ++ (⟨p0b, [.int .u64 o25_0.rows, .slice o25_0a0 o25_0n0 o25_0c0, .bool false], p0t, (0, 0)⟩ :: []))) [34] [34] [0, 0, 2, 6, 14, 30, 62, 126, 254, 510, 1022, 2046, 4094, 8190, 16382, 32766, 65534, 131070, 262142, 524286, 1048574, 2097150, 4194302, 8388606, 524286, 17301502, 50855934, 117964798, 252182526, 536870910, 1073741822, 2147483646, 4294967295, 8589934591, 17179869183] [0, 1, 2, 3, 4, 5, 6, 7, 8, 9, 10, 11, 12, 13, 14, 15, 16, 17, 18, 19, 20, 21, 22, 23, 24, 25, 26, 27, 28, 29, 30, 31, 32, 33, 34] (by kernel_rfl) (by kernel_rfl) (by kernel_rfl) ?_
    refine k_val rfl rfl rfl (pSub (pApp Sel.ha (pCons Sel.hc pNil))) (stepV_ok tt_ok rfl) rfl ?_
    refine k_val rfl rfl rfl (pSub (pApp Sel.ha (pCons Sel.hc pNil))) (stepV_ok tt_ok rfl) rfl ?_
    refine k_val rfl rfl rfl (pSub (pApp Sel.ha (pCons Sel.hc pNil))) (stepV_ok tt_ok rfl) rfl ?_
    refine k_val (v := .pointer (some ⟨p0b, 2, none⟩)) rfl rfl rfl (pSub (pApp Sel.ha (pCons Sel.hc pNil))) (stepV_ok tt_ok rfl) rfl ?_
    refine k_val (v := .bool false) rfl rfl rfl (pSub (pApp Sel.ha (pCons Sel.hc pNil))) (val_load tt_ok rfl (mR (List.Mem.head _)) rfl) rfl ?_
    refine k_val rfl rfl rfl (pSub (pApp Sel.ha (pCons Sel.hc pNil))) (stepV_ok tt_ok rfl) rfl ?_
    replace h := bsome h; obtain ⟨v92, h, hg92⟩ := h
    replace h := cf rfl h
    refine k_val rfl rfl rfl (pSub (pApp Sel.ha (pCons Sel.hc pNil))) (stepV_ok tt_ok rfl) rfl ?_
    refine k_val rfl rfl rfl (pSub (pApp Sel.ha (pCons Sel.hc pNil))) (stepV_ok tt_ok rfl) rfl ?_
    refine k_val (v := .pointer (some ((adOf o25_0a0).add (v25s.toNat * 5 + 1)))) rfl rfl rfl (pSub (pApp Sel.ha (pCons Sel.hc pNil))) (val_fa (k := v25s.toNat * 5 + 0) (off := 1) tt_ok rfl rfl rfl rfl rfl) rfl ?_
    refine k_val (v := .pointer (some ((adOf o25_0a0).add (v25s.toNat * 5 + 2)))) rfl rfl rfl (pSub (pApp Sel.ha (pCons Sel.hc pNil))) (val_fa (k := v25s.toNat * 5 + 1) (off := 1) tt_ok rfl rfl rfl rfl rfl) rfl ?_
    refine k_val (v := .bool v25x.own.is_) rfl rfl rfl (pSub (pApp Sel.ha (pCons Sel.hc pNil))) (val_le (enc := c_T_watch_entry) (xs := (setI o25_0.l v25s (T_watch_entry.mk v25x.f v25x.own (T_watch_sum.mk p2 true)))) tt_ok rfl (Rds.of_vec Vs32_4) ⟨_, Sel.ha⟩ c_T_watch_entry_len (getI_set xv25) rfl) rfl ?_
    refine k_val rfl rfl rfl (pSub (pApp Sel.ha (pCons Sel.hc pNil))) (stepV_ok tt_ok rfl) rfl ?_
    replace h := bsome h; obtain ⟨v78, h, hg78⟩ := h
    refine k_split (t := 72) rfl (fun hc => ?_) (fun hc => ?_)
    · replace h := ct hc h
      refine k_val rfl rfl rfl (pSub (pApp Sel.ha (pCons Sel.hc pNil))) (stepV_ok tt_ok rfl) rfl ?_
      refine k_val rfl rfl rfl (pSub (pApp Sel.ha (pCons Sel.hc pNil))) (stepV_ok tt_ok rfl) rfl ?_
      refine k_val (v := .pointer (some ((adOf o25_0a0).add (v25s.toNat * 5 + 3)))) rfl rfl rfl (pSub (pApp Sel.ha (pCons Sel.hc pNil))) (val_fa (k := v25s.toNat * 5 + 0) (off := 3) tt_ok rfl rfl rfl rfl rfl) rfl ?_
      refine k_val (v := .pointer (some ((adOf o25_0a0).add (v25s.toNat * 5 + 4)))) rfl rfl rfl (pSub (pApp Sel.ha (pCons Sel.hc pNil))) (val_fa (k := v25s.toNat * 5 + 3) (off := 1) tt_ok rfl rfl rfl rfl rfl) rfl ?_
      refine k_val (v := .bool true) rfl rfl rfl (pSub (pApp Sel.ha (pCons Sel.hc pNil))) (val_le (enc := c_T_watch_entry) (xs := (setI o25_0.l v25s (T_watch_entry.mk v25x.f v25x.own (T_watch_sum.mk p2 true)))) tt_ok rfl (Rds.of_vec Vs32_4) ⟨_, Sel.ha⟩ c_T_watch_entry_len (getI_set xv25) rfl) rfl ?_
      simp only [Option.some.injEq, Prod.mk.injEq] at h
      obtain rfl := h
      have h := hg78; clear hg78
      refine k_val (v := .bool true) rfl rfl rfl (pSub (pApp Sel.ha (pCons Sel.hc pNil))) (stepV_ok tt_ok rfl) rfl ?_
      refine k_val rfl rfl rfl (pSub (pApp Sel.ha (pCons Sel.hc pNil))) (stepV_ok tt_ok rfl) rfl ?_
      replace h := bsome h; obtain ⟨v91, h, hg91⟩ := h
      replace h := ct rfl h
      refine k_val rfl rfl rfl (pSub (pApp Sel.ha (pCons Sel.hc pNil))) (stepV_ok tt_ok rfl) rfl ?_
      refine k_val rfl rfl rfl (pSub (pApp Sel.ha (pCons Sel.hc pNil))) (stepV_ok tt_ok rfl) rfl ?_
      refine k_val (v := .pointer (some ((adOf o25_0a0).add (v25s.toNat * 5 + 1)))) rfl rfl rfl (pSub (pApp Sel.ha (pCons Sel.hc pNil))) (val_fa (k := v25s.toNat * 5 + 0) (off := 1) tt_ok rfl rfl rfl rfl rfl) rfl ?_
      refine k_val (v := .pointer (some ((adOf o25_0a0).add (v25s.toNat * 5 + 1)))) rfl rfl rfl (pSub (pApp Sel.ha (pCons Sel.hc pNil))) (val_fa (k := v25s.toNat * 5 + 1) (off := 0) tt_ok rfl rfl rfl rfl rfl) rfl ?_
      refine k_val (v := .int .u64 v25x.own.n) rfl rfl rfl (pSub (pApp Sel.ha (pCons Sel.hc pNil))) (val_le (enc := c_T_watch_entry) (xs := (setI o25_0.l v25s (T_watch_entry.mk v25x.f v25x.own (T_watch_sum.mk p2 true)))) tt_ok rfl (Rds.of_vec Vs32_4) ⟨_, Sel.ha⟩ c_T_watch_entry_len (getI_set xv25) rfl) rfl ?_
      refine k_val rfl rfl rfl (pSub (pApp Sel.ha (pCons Sel.hc pNil))) (stepV_ok tt_ok rfl) rfl ?_
      refine k_val rfl rfl rfl (pSub (pApp Sel.ha (pCons Sel.hc pNil))) (stepV_ok tt_ok rfl) rfl ?_
      refine k_val (v := .pointer (some ((adOf o25_0a0).add (v25s.toNat * 5 + 3)))) rfl rfl rfl (pSub (pApp Sel.ha (pCons Sel.hc pNil))) (val_fa (k := v25s.toNat * 5 + 0) (off := 3) tt_ok rfl rfl rfl rfl rfl) rfl ?_
      refine k_val (v := .pointer (some ((adOf o25_0a0).add (v25s.toNat * 5 + 3)))) rfl rfl rfl (pSub (pApp Sel.ha (pCons Sel.hc pNil))) (val_fa (k := v25s.toNat * 5 + 3) (off := 0) tt_ok rfl rfl rfl rfl rfl) rfl ?_
      refine k_val (v := .int .u64 p2) rfl rfl rfl (pSub (pApp Sel.ha (pCons Sel.hc pNil))) (val_le (enc := c_T_watch_entry) (xs := (setI o25_0.l v25s (T_watch_entry.mk v25x.f v25x.own (T_watch_sum.mk p2 true)))) tt_ok rfl (Rds.of_vec Vs32_4) ⟨_, Sel.ha⟩ c_T_watch_entry_len (getI_set xv25) rfl) rfl ?_
      refine k_val (v := .bool (v25x.own.n != p2)) rfl rfl rfl (pSub (pApp Sel.ha (pCons Sel.hc pNil))) (stepV_ok tt_ok rfl) rfl ?_
      simp only [Option.some.injEq, Prod.mk.injEq] at h
      obtain rfl := h
      have h := hg91; clear hg91
      refine k_val (v := .bool (v25x.own.n != p2)) rfl rfl rfl (pSub (pApp Sel.ha (pCons Sel.hc pNil))) (stepV_ok tt_ok rfl) rfl ?_
      simp only [Option.some.injEq, Prod.mk.injEq] at h
      obtain rfl := h
      have h := hg92; clear hg92
      refine k_val (v := .bool (v25x.own.n != p2)) rfl rfl rfl (pSub (pApp Sel.ha (pCons Sel.hc pNil))) (stepV_ok tt_ok rfl) rfl ?_
      refine k_val rfl rfl rfl (pSub (pApp Sel.ha (pCons Sel.hc pNil))) (stepV_ok tt_ok rfl) rfl ?_
      refine k_val (v := .pointer (some ⟨p0b, 2, none⟩)) rfl rfl rfl (pSub (pApp Sel.ha (pCons Sel.hc pNil))) (stepV_ok tt_ok rfl) rfl ?_
      refine k_chg0 rfl rfl rfl (chg_store tt_ok rfl (Upd.right Upd.here) rfl rfl rfl rfl rfl rfl) (.inl rfl) ?_
      rintro _ _ rfl
      refine k_end (by kernel_rfl) ?_
      refine wx_then (wc_seq (wc_seq (wc_region ?_)))
      iterate 2 refine wl_pure tt_ok rfl rfl ?_
      refine wl_pure (v := .pointer (some ⟨p0b, 2, none⟩)) tt_ok rfl rfl ?_
      refine wl_val (v := .bool (v25x.own.n != p2)) (val_load tt_ok rfl (mR (List.Mem.head _)) rfl) rfl ?_
      refine wl_nil (wx_then ?_)
      refine wc_cond rfl (fun hc => ?_) (fun hc => ?_)
      · replace h := ct hc h
        refine wc_seq (wc_region ?_)
        refine wl_pure tt_ok rfl rfl ?_
        refine wl_nil (wx_then (wc_ret (wx_then_ret ?_)))
        simp only [Option.some.injEq, Prod.mk.injEq] at h
        obtain ⟨rfl, rfl⟩ := h
        exact wx_spD tt_ok (.inl rfl) Tryd.results25 (Res.tmp rfl Res.nil) ⟨o25_0a0, o25_0n0, o25_0c0, Bs32_4, Ns32_4, Vs32_4, rfl, rfl⟩ (fun F => by simp) (pSub (pCons (Sel.sa Sel.hc) (pApp Sel.ha pNil)))
      replace h := cf hc h
      refine wc_skip (wx_then (wc_seq (wc_region ?_)))
      refine wl_pure tt_ok rfl rfl ?_
      refine wl_nil (wx_then (wc_ret ?_))
      simp only [Option.some.injEq, Prod.mk.injEq] at h
      obtain ⟨rfl, rfl⟩ := h
      exact wx_spD tt_ok (.inl rfl) Tryd.results25 (Res.tmp rfl Res.nil) ⟨o25_0a0, o25_0n0, o25_0c0, Bs32_4, Ns32_4, Vs32_4, rfl, rfl⟩ (fun F => by simp) (pSub (pCons (Sel.sa Sel.hc) (pApp Sel.ha pNil)))
    replace h := cf hc h
    refine k_skip rfl rfl (pSub (pApp Sel.ha (pCons Sel.hc pNil))) rfl ?_
    refine k_skip rfl rfl (pSub (pApp Sel.ha (pCons Sel.hc pNil))) rfl ?_
    refine k_skip rfl rfl (pSub (pApp Sel.ha (pCons Sel.hc pNil))) rfl ?_
    refine k_skip rfl rfl (pSub (pApp Sel.ha (pCons Sel.hc pNil))) rfl ?_
    refine k_skip rfl rfl (pSub (pApp Sel.ha (pCons Sel.hc pNil))) rfl ?_
    simp only [Option.some.injEq, Prod.mk.injEq] at h
    obtain rfl := h
    have h := hg78; clear hg78
    refine k_val (v := .bool false) rfl rfl rfl (pSub (pApp Sel.ha (pCons Sel.hc pNil))) (stepV_ok tt_ok rfl) rfl ?_
    refine k_val rfl rfl rfl (pSub (pApp Sel.ha (pCons Sel.hc pNil))) (stepV_ok tt_ok rfl) rfl ?_
    replace h := bsome h; obtain ⟨v91, h, hg91⟩ := h
    replace h := cf rfl h
    refine k_skip rfl rfl (pSub (pApp Sel.ha (pCons Sel.hc pNil))) rfl ?_
    refine k_skip rfl rfl (pSub (pApp Sel.ha (pCons Sel.hc pNil))) rfl ?_
    refine k_skip rfl rfl (pSub (pApp Sel.ha (pCons Sel.hc pNil))) rfl ?_
    refine k_skip rfl rfl (pSub (pApp Sel.ha (pCons Sel.hc pNil))) rfl ?_
    refine k_skip rfl rfl (pSub (pApp Sel.ha (pCons Sel.hc pNil))) rfl ?_
    refine k_skip rfl rfl (pSub (pApp Sel.ha (pCons Sel.hc pNil))) rfl ?_
    refine k_skip rfl rfl (pSub (pApp Sel.ha (pCons Sel.hc pNil))) rfl ?_
    refine k_skip rfl rfl (pSub (pApp Sel.ha (pCons Sel.hc pNil))) rfl ?_
    refine k_skip rfl rfl (pSub (pApp Sel.ha (pCons Sel.hc pNil))) rfl ?_
    refine k_skip rfl rfl (pSub (pApp Sel.ha (pCons Sel.hc pNil))) rfl ?_
    refine k_skip rfl rfl (pSub (pApp Sel.ha (pCons Sel.hc pNil))) rfl ?_
    simp only [Option.some.injEq, Prod.mk.injEq] at h
    obtain rfl := h
    have h := hg91; clear hg91
    refine k_val (v := .bool false) rfl rfl rfl (pSub (pApp Sel.ha (pCons Sel.hc pNil))) (stepV_ok tt_ok rfl) rfl ?_
    simp only [Option.some.injEq, Prod.mk.injEq] at h
    obtain rfl := h
    have h := hg92; clear hg92
    refine k_val (v := .bool false) rfl rfl rfl (pSub (pApp Sel.ha (pCons Sel.hc pNil))) (stepV_ok tt_ok rfl) rfl ?_
    refine k_val rfl rfl rfl (pSub (pApp Sel.ha (pCons Sel.hc pNil))) (stepV_ok tt_ok rfl) rfl ?_
    refine k_val (v := .pointer (some ⟨p0b, 2, none⟩)) rfl rfl rfl (pSub (pApp Sel.ha (pCons Sel.hc pNil))) (stepV_ok tt_ok rfl) rfl ?_
    refine k_chg0 rfl rfl rfl (chg_store tt_ok rfl (Upd.right Upd.here) rfl rfl rfl rfl rfl rfl) (.inl rfl) ?_
    rintro _ _ rfl
    refine k_end (by kernel_rfl) ?_
    refine wx_then (wc_seq (wc_seq (wc_region ?_)))
    iterate 2 refine wl_pure tt_ok rfl rfl ?_
    refine wl_pure (v := .pointer (some ⟨p0b, 2, none⟩)) tt_ok rfl rfl ?_
    refine wl_val (v := .bool false) (val_load tt_ok rfl (mR (List.Mem.head _)) rfl) rfl ?_
    refine wl_nil (wx_then ?_)
    replace h := cf rfl h
    refine wc_cond_false rfl ?_
    refine wc_skip (wx_then (wc_seq (wc_region ?_)))
    refine wl_pure tt_ok rfl rfl ?_
    refine wl_nil (wx_then (wc_ret ?_))
    simp only [Option.some.injEq, Prod.mk.injEq] at h
    obtain ⟨rfl, rfl⟩ := h
    exact wx_spD tt_ok (.inl rfl) Tryd.results25 (Res.tmp rfl Res.nil) ⟨o25_0a0, o25_0n0, o25_0c0, Bs32_4, Ns32_4, Vs32_4, rfl, rfl⟩ (fun F => by simp) (pSub (pCons (Sel.sa Sel.hc) (pApp Sel.ha pNil)))
  replace h := cf hc h
  refine wc_skip (wx_then ?_)
  refine wc_k2 (Ls := (⟨p0b, [.int .u64 o25_0.rows, .slice o25_0a0 o25_0n0 o25_0c0, .bool false], p0t, (0, 0)⟩ :: (o25_0B0 ++ []))) [34] [34] [0, 0, 2, 6, 14, 30, 62, 126, 254, 510, 1022, 2046, 4094, 8190, 16382, 32766, 65534, 131070, 262142, 524286, 1048574, 2097150, 4194302, 8388606, 524286, 17301502, 50855934, 117964798, 252182526, 536870910, 1073741822, 2147483646, 4294967295, 8589934591, 17179869183] [0, 1, 2, 3, 4, 5, 6, 7, 8, 9, 10, 11, 12, 13, 14, 15, 16, 17, 18, 19, 20, 21, 22, 23, 24, 25, 26, 27, 28, 29, 30, 31, 32, 33, 34] (by kernel_rfl) (by kernel_rfl) (by kernel_rfl) ?_
  refine k_val rfl rfl rfl (pSub (pCons Sel.hc (pApp Sel.ha pNil))) (stepV_ok tt_ok rfl) rfl ?_
  refine k_val rfl rfl rfl (pSub (pCons Sel.hc (pApp Sel.ha pNil))) (stepV_ok tt_ok rfl) rfl ?_
  refine k_val rfl rfl rfl (pSub (pCons Sel.hc (pApp Sel.ha pNil))) (stepV_ok tt_ok rfl) rfl ?_
  refine k_val (v := .pointer (some ⟨p0b, 2, none⟩)) rfl rfl rfl (pSub (pCons Sel.hc (pApp Sel.ha pNil))) (stepV_ok tt_ok rfl) rfl ?_
  refine k_val (v := .bool false) rfl rfl rfl (pSub (pCons Sel.hc (pApp Sel.ha pNil))) (val_load tt_ok rfl (List.Mem.head _) rfl) rfl ?_
  refine k_val rfl rfl rfl (pSub (pCons Sel.hc (pApp Sel.ha pNil))) (stepV_ok tt_ok rfl) rfl ?_
  replace h := bsome h; obtain ⟨v92, h, hg92⟩ := h
  replace h := cf rfl h
  refine k_val rfl rfl rfl (pSub (pCons Sel.hc (pApp Sel.ha pNil))) (stepV_ok tt_ok rfl) rfl ?_
  refine k_val rfl rfl rfl (pSub (pCons Sel.hc (pApp Sel.ha pNil))) (stepV_ok tt_ok rfl) rfl ?_
  refine k_val (v := .pointer (some ((adOf o25_0a0).add (v25s.toNat * 5 + 1)))) rfl rfl rfl (pSub (pCons Sel.hc (pApp Sel.ha pNil))) (val_fa (k := v25s.toNat * 5 + 0) (off := 1) tt_ok rfl rfl rfl rfl rfl) rfl ?_
  refine k_val (v := .pointer (some ((adOf o25_0a0).add (v25s.toNat * 5 + 2)))) rfl rfl rfl (pSub (pCons Sel.hc (pApp Sel.ha pNil))) (val_fa (k := v25s.toNat * 5 + 1) (off := 1) tt_ok rfl rfl rfl rfl rfl) rfl ?_
  refine k_val (v := .bool v25x.own.is_) rfl rfl rfl (pSub (pCons Sel.hc (pApp Sel.ha pNil))) (val_le (enc := c_T_watch_entry) (xs := o25_0.l) tt_ok rfl (Rds.of_vec o25_0V0) ⟨_, (Sel.sc Sel.ha)⟩ c_T_watch_entry_len xv25 rfl) rfl ?_
  refine k_val rfl rfl rfl (pSub (pCons Sel.hc (pApp Sel.ha pNil))) (stepV_ok tt_ok rfl) rfl ?_
  replace h := bsome h; obtain ⟨v78, h, hg78⟩ := h
  refine k_split (t := 72) rfl (fun hc => ?_) (fun hc => ?_)
  · replace h := ct hc h
    refine k_val rfl rfl rfl (pSub (pCons Sel.hc (pApp Sel.ha pNil))) (stepV_ok tt_ok rfl) rfl ?_
    refine k_val rfl rfl rfl (pSub (pCons Sel.hc (pApp Sel.ha pNil))) (stepV_ok tt_ok rfl) rfl ?_
    refine k_val (v := .pointer (some ((adOf o25_0a0).add (v25s.toNat * 5 + 3)))) rfl rfl rfl (pSub (pCons Sel.hc (pApp Sel.ha pNil))) (val_fa (k := v25s.toNat * 5 + 0) (off := 3) tt_ok rfl rfl rfl rfl rfl) rfl ?_
    refine k_val (v := .pointer (some ((adOf o25_0a0).add (v25s.toNat * 5 + 4)))) rfl rfl rfl (pSub (pCons Sel.hc (pApp Sel.ha pNil))) (val_fa (k := v25s.toNat * 5 + 3) (off := 1) tt_ok rfl rfl rfl rfl rfl) rfl ?_
    refine k_val (v := .bool v25x.other.is_) rfl rfl rfl (pSub (pCons Sel.hc (pApp Sel.ha pNil))) (val_le (enc := c_T_watch_entry) (xs := o25_0.l) tt_ok rfl (Rds.of_vec o25_0V0) ⟨_, (Sel.sc Sel.ha)⟩ c_T_watch_entry_len xv25 rfl) rfl ?_
    simp only [Option.some.injEq, Prod.mk.injEq] at h
    obtain rfl := h
    have h := hg78; clear hg78
    refine k_val (v := .bool v25x.other.is_) rfl rfl rfl (pSub (pCons Sel.hc (pApp Sel.ha pNil))) (stepV_ok tt_ok rfl) rfl ?_
    refine k_val rfl rfl rfl (pSub (pCons Sel.hc (pApp Sel.ha pNil))) (stepV_ok tt_ok rfl) rfl ?_
    replace h := bsome h; obtain ⟨v91, h, hg91⟩ := h
    refine k_split (t := 79) rfl (fun hc => ?_) (fun hc => ?_)
    · replace h := ct hc h
      refine k_val rfl rfl rfl (pSub (pCons Sel.hc (pApp Sel.ha pNil))) (stepV_ok tt_ok rfl) rfl ?_
      refine k_val rfl rfl rfl (pSub (pCons Sel.hc (pApp Sel.ha pNil))) (stepV_ok tt_ok rfl) rfl ?_
      refine k_val (v := .pointer (some ((adOf o25_0a0).add (v25s.toNat * 5 + 1)))) rfl rfl rfl (pSub (pCons Sel.hc (pApp Sel.ha pNil))) (val_fa (k := v25s.toNat * 5 + 0) (off := 1) tt_ok rfl rfl rfl rfl rfl) rfl ?_
      refine k_val (v := .pointer (some ((adOf o25_0a0).add (v25s.toNat * 5 + 1)))) rfl rfl rfl (pSub (pCons Sel.hc (pApp Sel.ha pNil))) (val_fa (k := v25s.toNat * 5 + 1) (off := 0) tt_ok rfl rfl rfl rfl rfl) rfl ?_
      refine k_val (v := .int .u64 v25x.own.n) rfl rfl rfl (pSub (pCons Sel.hc (pApp Sel.ha pNil))) (val_le (enc := c_T_watch_entry) (xs := o25_0.l) tt_ok rfl (Rds.of_vec o25_0V0) ⟨_, (Sel.sc Sel.ha)⟩ c_T_watch_entry_len xv25 rfl) rfl ?_
      refine k_val rfl rfl rfl (pSub (pCons Sel.hc (pApp Sel.ha pNil))) (stepV_ok tt_ok rfl) rfl ?_
      refine k_val rfl rfl rfl (pSub (pCons Sel.hc (pApp Sel.ha pNil))) (stepV_ok tt_ok rfl) rfl ?_
      refine k_val (v := .pointer (some ((adOf o25_0a0).add (v25s.toNat * 5 + 3)))) rfl rfl rfl (pSub (pCons Sel.hc (pApp Sel.ha pNil))) (val_fa (k := v25s.toNat * 5 + 0) (off := 3) tt_ok rfl rfl rfl rfl rfl) rfl ?_
      refine k_val (v := .pointer (some ((adOf o25_0a0).add (v25s.toNat * 5 + 3)))) rfl rfl rfl (pSub (pCons Sel.hc (pApp Sel.ha pNil))) (val_fa (k := v25s.toNat * 5 + 3) (off := 0) tt_ok rfl rfl rfl rfl rfl) rfl ?_
      refine k_val (v := .int .u64 v25x.other.n) rfl rfl rfl (pSub (pCons Sel.hc (pApp Sel.ha pNil))) (val_le (enc := c_T_watch_entry) (xs := o25_0.l) tt_ok rfl (Rds.of_vec o25_0V0) ⟨_, (Sel.sc Sel.ha)⟩ c_T_watch_entry_len xv25 rfl) rfl ?_
      refine k_val (v := .bool (v25x.own.n != v25x.other.n)) rfl rfl rfl (pSub (pCons Sel.hc (pApp Sel.ha pNil))) (stepV_ok tt_ok rfl) rfl ?_
      simp only [Option.some.injEq, Prod.mk.injEq] at h
      obtain rfl := h
      have h := hg91; clear hg91
      refine k_val (v := .bool (v25x.own.n != v25x.other.n)) rfl rfl rfl (pSub (pCons Sel.hc (pApp Sel.ha pNil))) (stepV_ok tt_ok rfl) rfl ?_
      simp only [Option.some.injEq, Prod.mk.injEq] at h
      obtain rfl := h
      have h := hg92; clear hg92
      refine k_val (v := .bool (v25x.own.n != v25x.other.n)) rfl rfl rfl (pSub (pCons Sel.hc (pApp Sel.ha pNil))) (stepV_ok tt_ok rfl) rfl ?_
      refine k_val rfl rfl rfl (pSub (pCons Sel.hc (pApp Sel.ha pNil))) (stepV_ok tt_ok rfl) rfl ?_
      refine k_val (v := .pointer (some ⟨p0b, 2, none⟩)) rfl rfl rfl (pSub (pCons Sel.hc (pApp Sel.ha pNil))) (stepV_ok tt_ok rfl) rfl ?_
      refine k_chg0 rfl rfl rfl (chg_store tt_ok rfl Upd.here rfl rfl rfl rfl rfl rfl) (.inl rfl) ?_
      rintro _ _ rfl
      refine k_end (by kernel_rfl) ?_
      refine wx_then (wc_seq (wc_seq (wc_region ?_)))
      iterate 2 refine wl_pure tt_ok rfl rfl ?_
      refine wl_pure (v := .pointer (some ⟨p0b, 2, none⟩)) tt_ok rfl rfl ?_
      refine wl_val (v := .bool (v25x.own.n != v25x.other.n)) (val_load tt_ok rfl (List.Mem.head _) rfl) rfl ?_
      refine wl_nil (wx_then ?_)
      refine wc_cond rfl (fun hc => ?_) (fun hc => ?_)
      · replace h := ct hc h
        refine wc_seq (wc_region ?_)
        refine wl_pure tt_ok rfl rfl ?_
        refine wl_nil (wx_then (wc_ret (wx_then_ret ?_)))
        simp only [Option.some.injEq, Prod.mk.injEq] at h
        obtain ⟨rfl, rfl⟩ := h
        exact wx_spD tt_ok (.inl rfl) Tryd.results25 (Res.tmp rfl Res.nil) ⟨o25_0a0, o25_0n0, o25_0c0, o25_0B0, o25_0N0, o25_0V0, rfl, rfl⟩ (fun F => by simp) (pSub (pCons Sel.hc (pApp Sel.ha pNil)))
      replace h := cf hc h
      refine wc_skip (wx_then (wc_seq (wc_region ?_)))
      refine wl_pure tt_ok rfl rfl ?_
      refine wl_nil (wx_then (wc_ret ?_))
      simp only [Option.some.injEq, Prod.mk.injEq] at h
      obtain ⟨rfl, rfl⟩ := h
      exact wx_spD tt_ok (.inl rfl) Tryd.results25 (Res.tmp rfl Res.nil) ⟨o25_0a0, o25_0n0, o25_0c0, o25_0B0, o25_0N0, o25_0V0, rfl, rfl⟩ (fun F => by simp) (pSub (pCons Sel.hc (pApp Sel.ha pNil)))
    replace h := cf hc h
    refine k_skip rfl rfl (pSub (pCons Sel.hc (pApp Sel.ha pNil))) rfl ?_
    refine k_skip rfl rfl (pSub (pCons Sel.hc (pApp Sel.ha pNil))) rfl ?_
    refine k_skip rfl rfl (pSub (pCons Sel.hc (pApp Sel.ha pNil))) rfl ?_
    refine k_skip rfl rfl (pSub (pCons Sel.hc (pApp Sel.ha pNil))) rfl ?_
    refine k_skip rfl rfl (pSub (pCons Sel.hc (pApp Sel.ha pNil))) rfl ?_
    refine k_skip rfl rfl (pSub (pCons Sel.hc (pApp Sel.ha pNil))) rfl ?_
    refine k_skip rfl rfl (pSub (pCons Sel.hc (pApp Sel.ha pNil))) rfl ?_
    refine k_skip rfl rfl (pSub (pCons Sel.hc (pApp Sel.ha pNil))) rfl ?_
    refine k_skip rfl rfl (pSub (pCons Sel.hc (pApp Sel.ha pNil))) rfl ?_
    refine k_skip rfl rfl (pSub (pCons Sel.hc (pApp Sel.ha pNil))) rfl ?_
    refine k_skip rfl rfl (pSub (pCons Sel.hc (pApp Sel.ha pNil))) rfl ?_
    simp only [Option.some.injEq, Prod.mk.injEq] at h
    obtain rfl := h
    have h := hg91; clear hg91
    refine k_val (v := .bool false) rfl rfl rfl (pSub (pCons Sel.hc (pApp Sel.ha pNil))) (stepV_ok tt_ok rfl) rfl ?_
    simp only [Option.some.injEq, Prod.mk.injEq] at h
    obtain rfl := h
    have h := hg92; clear hg92
    refine k_val (v := .bool false) rfl rfl rfl (pSub (pCons Sel.hc (pApp Sel.ha pNil))) (stepV_ok tt_ok rfl) rfl ?_
    refine k_val rfl rfl rfl (pSub (pCons Sel.hc (pApp Sel.ha pNil))) (stepV_ok tt_ok rfl) rfl ?_
    refine k_val (v := .pointer (some ⟨p0b, 2, none⟩)) rfl rfl rfl (pSub (pCons Sel.hc (pApp Sel.ha pNil))) (stepV_ok tt_ok rfl) rfl ?_
    refine k_chg0 rfl rfl rfl (chg_store tt_ok rfl Upd.here rfl rfl rfl rfl rfl rfl) (.inl rfl) ?_
    rintro _ _ rfl
    refine k_end (by kernel_rfl) ?_
    refine wx_then (wc_seq (wc_seq (wc_region ?_)))
    iterate 2 refine wl_pure tt_ok rfl rfl ?_
    refine wl_pure (v := .pointer (some ⟨p0b, 2, none⟩)) tt_ok rfl rfl ?_
    refine wl_val (v := .bool false) (val_load tt_ok rfl (List.Mem.head _) rfl) rfl ?_
    refine wl_nil (wx_then ?_)
    replace h := cf rfl h
    refine wc_cond_false rfl ?_
    refine wc_skip (wx_then (wc_seq (wc_region ?_)))
    refine wl_pure tt_ok rfl rfl ?_
    refine wl_nil (wx_then (wc_ret ?_))
    simp only [Option.some.injEq, Prod.mk.injEq] at h
    obtain ⟨rfl, rfl⟩ := h
    exact wx_spD tt_ok (.inl rfl) Tryd.results25 (Res.tmp rfl Res.nil) ⟨o25_0a0, o25_0n0, o25_0c0, o25_0B0, o25_0N0, o25_0V0, rfl, rfl⟩ (fun F => by simp) (pSub (pCons Sel.hc (pApp Sel.ha pNil)))
  replace h := cf hc h
  refine k_skip rfl rfl (pSub (pCons Sel.hc (pApp Sel.ha pNil))) rfl ?_
  refine k_skip rfl rfl (pSub (pCons Sel.hc (pApp Sel.ha pNil))) rfl ?_
  refine k_skip rfl rfl (pSub (pCons Sel.hc (pApp Sel.ha pNil))) rfl ?_
  refine k_skip rfl rfl (pSub (pCons Sel.hc (pApp Sel.ha pNil))) rfl ?_
  refine k_skip rfl rfl (pSub (pCons Sel.hc (pApp Sel.ha pNil))) rfl ?_
  simp only [Option.some.injEq, Prod.mk.injEq] at h
  obtain rfl := h
  have h := hg78; clear hg78
  refine k_val (v := .bool false) rfl rfl rfl (pSub (pCons Sel.hc (pApp Sel.ha pNil))) (stepV_ok tt_ok rfl) rfl ?_
  refine k_val rfl rfl rfl (pSub (pCons Sel.hc (pApp Sel.ha pNil))) (stepV_ok tt_ok rfl) rfl ?_
  replace h := bsome h; obtain ⟨v91, h, hg91⟩ := h
  replace h := cf rfl h
  refine k_skip rfl rfl (pSub (pCons Sel.hc (pApp Sel.ha pNil))) rfl ?_
  refine k_skip rfl rfl (pSub (pCons Sel.hc (pApp Sel.ha pNil))) rfl ?_
  refine k_skip rfl rfl (pSub (pCons Sel.hc (pApp Sel.ha pNil))) rfl ?_
  refine k_skip rfl rfl (pSub (pCons Sel.hc (pApp Sel.ha pNil))) rfl ?_
  refine k_skip rfl rfl (pSub (pCons Sel.hc (pApp Sel.ha pNil))) rfl ?_
  refine k_skip rfl rfl (pSub (pCons Sel.hc (pApp Sel.ha pNil))) rfl ?_
  refine k_skip rfl rfl (pSub (pCons Sel.hc (pApp Sel.ha pNil))) rfl ?_
  refine k_skip rfl rfl (pSub (pCons Sel.hc (pApp Sel.ha pNil))) rfl ?_
  refine k_skip rfl rfl (pSub (pCons Sel.hc (pApp Sel.ha pNil))) rfl ?_
  refine k_skip rfl rfl (pSub (pCons Sel.hc (pApp Sel.ha pNil))) rfl ?_
  refine k_skip rfl rfl (pSub (pCons Sel.hc (pApp Sel.ha pNil))) rfl ?_
  simp only [Option.some.injEq, Prod.mk.injEq] at h
  obtain rfl := h
  have h := hg91; clear hg91
  refine k_val (v := .bool false) rfl rfl rfl (pSub (pCons Sel.hc (pApp Sel.ha pNil))) (stepV_ok tt_ok rfl) rfl ?_
  simp only [Option.some.injEq, Prod.mk.injEq] at h
  obtain rfl := h
  have h := hg92; clear hg92
  refine k_val (v := .bool false) rfl rfl rfl (pSub (pCons Sel.hc (pApp Sel.ha pNil))) (stepV_ok tt_ok rfl) rfl ?_
  refine k_val rfl rfl rfl (pSub (pCons Sel.hc (pApp Sel.ha pNil))) (stepV_ok tt_ok rfl) rfl ?_
  refine k_val (v := .pointer (some ⟨p0b, 2, none⟩)) rfl rfl rfl (pSub (pCons Sel.hc (pApp Sel.ha pNil))) (stepV_ok tt_ok rfl) rfl ?_
  refine k_chg0 rfl rfl rfl (chg_store tt_ok rfl Upd.here rfl rfl rfl rfl rfl rfl) (.inl rfl) ?_
  rintro _ _ rfl
  refine k_end (by kernel_rfl) ?_
  refine wx_then (wc_seq (wc_seq (wc_region ?_)))
  iterate 2 refine wl_pure tt_ok rfl rfl ?_
  refine wl_pure (v := .pointer (some ⟨p0b, 2, none⟩)) tt_ok rfl rfl ?_
  refine wl_val (v := .bool false) (val_load tt_ok rfl (List.Mem.head _) rfl) rfl ?_
  refine wl_nil (wx_then ?_)
  replace h := cf rfl h
  refine wc_cond_false rfl ?_
  refine wc_skip (wx_then (wc_seq (wc_region ?_)))
  refine wl_pure tt_ok rfl rfl ?_
  refine wl_nil (wx_then (wc_ret ?_))
  simp only [Option.some.injEq, Prod.mk.injEq] at h
  obtain ⟨rfl, rfl⟩ := h
  exact wx_spD tt_ok (.inl rfl) Tryd.results25 (Res.tmp rfl Res.nil) ⟨o25_0a0, o25_0n0, o25_0c0, o25_0B0, o25_0N0, o25_0V0, rfl, rfl⟩ (fun F => by simp) (pSub (pCons Sel.hc (pApp Sel.ha pNil)))

theorem k_watch_Watch_Other {F : Nat} {p0 : T_watch_Watch} {p0b p0t : Nat} {p0a0 : Option Addr} {p0n0 : Nat} {p0c0 : Nat} {p0B0 : List Blk} {p1 : Int} {p2 : Int} {r0 : T_watch_Watch} {r1 : Int} (p0N0 : p0n0 = p0.l.length) (p0V0 : Own 73 5 p0a0 p0n0 p0c0 (flat c_T_watch_entry p0.l) p0B0) (h : m_watch_Watch_Other F p0 p1 p2 = some (r0, r1)) :
    SpD Tryd.prog 17 [.pointer (some ⟨p0b, 0, none⟩), .int .u64 p1, .int .u64 p2] (⟨p0b, [.int .u64 p0.rows, .slice p0a0 p0n0 p0c0, .bool p0.clashed], p0t, (0, 0)⟩ :: (p0B0 ++ [])) (fun w => True) (fun v D => ∃ (r0a0 : Option Addr) (r0n0 : Nat) (r0c0 : Nat) (r0B0 : List Blk), r0n0 = r0.l.length ∧ Own 73 5 r0a0 r0n0 r0c0 (flat c_T_watch_entry r0.l) r0B0 ∧ v = .int .i64 r1 ∧ D = fun F => (⟨p0b, [.int .u64 r0.rows, .slice r0a0 r0n0 r0c0, .bool r0.clashed], p0t, (0, 0)⟩ :: (r0B0 ++ F))) := by
  unfold m_watch_Watch_Other at h
  refine sp_of_wc Tryd.func17 rfl Tryd.ntmps17 rfl rfl (fun w0 hR => ?_)
  refine wc_seq (wc_region ?_)
  refine wl_pure tt_ok rfl rfl ?_
  refine wl_nil (wx_then (wc_seq (wc_region ?_)))
  iterate 3 refine wl_pure tt_ok rfl rfl ?_
  replace h := bsome h; obtain ⟨⟨o10_0, v10⟩, x10, h⟩ := h; try dsimp only at h
  refine wl_cs Tryd.call25 rfl rfl rfl (s_sp (k_watch_Watch_told_f3_watch_otherSide (p0 := p0) p0N0 p0V0 x10) (pCons Sel.hc (pApp Sel.ha pNil)) (fun _ _ => trivial)) rfl ?_
  rintro _ _ ⟨_, ⟨o10_0a0, o10_0n0, o10_0c0, o10_0B0, o10_0N0, o10_0V0, rfl, rfl⟩, rfl⟩
  refine wl_pure tt_ok rfl rfl ?_
  refine wl_nil (wx_then (wc_ret ?_))
  simp only [Option.some.injEq, Prod.mk.injEq] at h
  obtain ⟨rfl, rfl⟩ := h
  exact wx_spD tt_ok (.inl rfl) Tryd.results17 (Res.tmp rfl Res.nil) ⟨o10_0a0, o10_0n0, o10_0c0, o10_0B0, o10_0N0, o10_0V0, rfl, rfl⟩ (fun F => by simp) (pSub (pCons Sel.hc (pApp Sel.ha pNil)))

theorem k_watch_Watch_Agreed {F : Nat} {p0 : T_watch_Watch} {p0b p0t : Nat} {p0a0 : Option Addr} {p0n0 : Nat} {p0c0 : Nat} {p0B0 : List Blk} {r0 : Int} {r1 : Bool} (p0N0 : p0n0 = p0.l.length) (p0V0 : Own 73 5 p0a0 p0n0 p0c0 (flat c_T_watch_entry p0.l) p0B0) (h : m_watch_Watch_Agreed F p0 = some (r0, r1)) :
    Rd2 Tryd.prog 14 [.pointer (some ⟨p0b, 0, none⟩)] (⟨p0b, [.int .u64 p0.rows, .slice p0a0 p0n0 p0c0, .bool p0.clashed], p0t, (0, 0)⟩ :: (p0B0 ++ [])) (fun w => True) (.tuple #[.int .u64 r0, .bool r1]) := by
  unfold m_watch_Watch_Agreed at h
  refine sp_of_wc Tryd.func14 rfl Tryd.ntmps14 rfl rfl (fun w0 hR => ?_)
  refine wc_seq (wc_region ?_)
  iterate 2 refine wl_pure tt_ok rfl rfl ?_
  refine wl_nil (wx_then (wc_seq (wc_seq (wc_region ?_))))
  refine wl_pure tt_ok rfl rfl ?_
  replace h := bsome h; obtain ⟨v7, x7, h⟩ := h
  refine wl_cq Tryd.call24 rfl rfl rfl (q_rd (k_watch_Watch_is (p0 := p0) p0N0 p0V0 x7) (pCons Sel.hc (pApp Sel.ha pNil)) (fun _ _ => trivial)) rfl ?_
  refine wl_pure (v := .bool (!v7)) tt_ok rfl rfl ?_
  refine wl_nil (wx_then ?_)
  refine wc_cond rfl (fun hc => ?_) (fun hc => ?_)
  · replace h := ct hc h
    refine wc_seq (wc_region ?_)
    iterate 2 refine wl_pure tt_ok rfl rfl ?_
    refine wl_nil (wx_then (wc_ret (wx_then_ret ?_)))
    simp only [Option.some.injEq, Prod.mk.injEq] at h
    obtain ⟨rfl, rfl⟩ := h
    exact wx_rd tt_ok (.inl rfl) Tryd.results14 (Res.tmp rfl (Res.tmp rfl Res.nil)) (pSub (pCons Sel.hc (pApp Sel.ha pNil))) rfl
  replace h := cf hc h
  refine wc_skip (wx_then (wc_seq (wc_seq (wc_region ?_))))
  iterate 2 refine wl_pure tt_ok rfl rfl ?_
  refine wl_pure (v := .pointer (some ⟨p0b, 1, none⟩)) tt_ok rfl rfl ?_
  refine wl_val (v := .slice p0a0 p0n0 p0c0) (val_load tt_ok rfl (List.Mem.head _) rfl) rfl ?_
  refine wl_val (v := .int .i64 (p0.l.length : Int)) (val_len tt_ok rfl rfl p0N0) rfl ?_
  refine wl_pure tt_ok rfl rfl ?_
  refine wl_nil (wx_then (wc_block ?_))
  replace h := bsome h; obtain ⟨⟨l15_2, l15_3⟩, h, hl15⟩ := h; try dsimp only at hl15
  refine wc_loop (fun m E L => ∃ (j15_2 : Int) (j15_3 : Bool) (j15_14 : Int), m_watch_Watch_Agreed_L14 F p0 m j15_2 j15_3 j15_14 = some (l15_2, l15_3) ∧ E = [(2, .int .u64 j15_2), (3, .bool j15_3), (12, .slice p0a0 p0n0 p0c0), (13, .int .i64 (p0.l.length : Int)), (14, .int .i64 j15_14)] ∧ L = (⟨p0b, [.int .u64 p0.rows, .slice p0a0 p0n0 p0c0, .bool p0.clashed], p0t, (0, 0)⟩ :: (p0B0 ++ []))) F ⟨(0 : Int), false, (0 : Int), h, rfl, rfl⟩ (agree_cons rfl (agree_cons rfl (agree_cons rfl (agree_cons rfl (agree_cons rfl agree_nil))))) (pSub (pCons Sel.hc (pApp Sel.ha pNil))) ?_
  clear h
  rintro m15 _ _ ⟨j15_2, j15_3, j15_14, h, rfl, rfl⟩
  rcases m15 with _ | m15
  · rw [m_watch_Watch_Agreed_L14.eq_1] at h; cases h
  rw [m_watch_Watch_Agreed_L14.eq_2] at h
  refine wc_seq (wc_region ?_)
  refine wl_pure (v := .bool (decide (j15_14 < (p0.l.length : Int)))) tt_ok rfl rfl ?_
  refine wl_nil (wx_then (wc_seq ?_))
  refine wc_cond rfl (fun hc => ?_) (fun hc => ?_)
  · replace h := ct hc h
    refine wc_skip (wx_then (wc_seq (wc_block (wc_seq (wc_region ?_)))))
    replace h := bsome h; obtain ⟨v16, x16, h⟩ := h
    refine wl_val (v := .pointer (some ((adOf p0a0).add (j15_14.toNat * 5 + 0)))) (val_ix (enc := c_T_watch_entry) tt_ok rfl rfl rfl rfl p0N0 (Rds.of_vec p0V0) c_T_watch_entry_len rfl x16) rfl ?_
    refine wl_val (v := .agg #[.int .u64 v16.f, .int .u64 v16.own.n, .bool v16.own.is_, .int .u64 v16.other.n, .bool v16.other.is_]) (val_le (enc := c_T_watch_entry) (xs := p0.l) tt_ok rfl (Rds.of_vec p0V0) ⟨_, (Sel.sc Sel.ha)⟩ c_T_watch_entry_len x16 rfl) rfl ?_
    refine wl_alloc tt_ok rfl rfl (fun b5 => ?_)
    apply wl_store tt_ok; rfl; exact Upd.here; rfl; rfl; rfl; rfl; rfl; rfl
    refine wl_nil (wx_then (wc_seq (wc_region ?_)))
    refine wl_pure (v := .pointer (some ⟨b5, 1, none⟩)) tt_ok rfl rfl ?_
    refine wl_pure (v := .pointer (some ⟨b5, 2, none⟩)) tt_ok rfl rfl ?_
    refine wl_val (v := .bool v16.own.is_) (val_load tt_ok rfl (List.Mem.head _) rfl) rfl ?_
    refine wl_pure tt_ok rfl rfl ?_
    replace h := bsome h; obtain ⟨v27, h, hg27⟩ := h
    refine wl_split (t := 21) rfl (fun hc => ?_) (fun hc => ?_)
    · replace h := ct hc h
      refine wl_run rfl ?_
      refine wl_pure (v := .pointer (some ⟨b5, 1, none⟩)) tt_ok rfl rfl ?_
      refine wl_run rfl ?_
      refine wl_val (v := .agg #[.int .u64 v16.own.n, .bool v16.own.is_]) (val_load tt_ok rfl (List.Mem.head _) rfl) rfl ?_
      refine wl_run rfl ?_
      refine wl_pure (v := .pointer (some ⟨b5, 3, none⟩)) tt_ok rfl rfl ?_
      refine wl_run rfl ?_
      refine wl_val (v := .agg #[.int .u64 v16.other.n, .bool v16.other.is_]) (val_load tt_ok rfl (List.Mem.head _) rfl) rfl ?_
      refine wl_run rfl ?_
      refine wl_val (v := .bool ((v16.own.n == v16.other.n) && (v16.own.is_ == v16.other.is_))) (val_eqs tt_ok tt_eq tt_one Tryd.eqGuardType71 rfl rfl rfl rfl rfl) rfl ?_
      simp only [Option.some.injEq, Prod.mk.injEq] at h
      obtain rfl := h
      have h := hg27; clear hg27
      refine wl_pure (v := .bool ((v16.own.n == v16.other.n) && (v16.own.is_ == v16.other.is_))) tt_ok rfl rfl ?_
      refine wl_nil (wx_then ?_)
      refine wc_cond rfl (fun hc => ?_) (fun hc => ?_)
      · replace h := ct hc h
        refine wc_region ?_
        refine wl_pure (v := .pointer (some ⟨b5, 0, none⟩)) tt_ok rfl rfl ?_
        refine wl_val (v := .int .u64 v16.f) (val_load tt_ok rfl (List.Mem.head _) rfl) rfl ?_
        iterate 2 refine wl_pure tt_ok rfl rfl ?_
        refine wl_nil (wx_block (wx_then (wc_region ?_)))
        refine wl_pure (v := .int .i64 (IntKind.wrap .i64 (j15_14 + (1 : Int)))) tt_ok rfl rfl ?_
        refine wl_pure tt_ok rfl rfl ?_
        refine wl_nil ?_
        exact wx_round m15 (Nat.lt_succ_self m15) ⟨v16.f, true, (IntKind.wrap .i64 (j15_14 + (1 : Int))), h, rfl, rfl⟩ (agree_cons rfl (agree_cons rfl (agree_cons rfl (agree_cons rfl (agree_cons rfl agree_nil))))) (pSub (pCons (Sel.sc Sel.hc) (pApp (Sel.sc Sel.ha) pNil)))
      replace h := cf hc h
      refine wc_skip (wx_block (wx_then (wc_region ?_)))
      refine wl_pure (v := .int .i64 (IntKind.wrap .i64 (j15_14 + (1 : Int)))) tt_ok rfl rfl ?_
      refine wl_pure tt_ok rfl rfl ?_
      refine wl_nil ?_
      exact wx_round m15 (Nat.lt_succ_self m15) ⟨j15_2, j15_3, (IntKind.wrap .i64 (j15_14 + (1 : Int))), h, rfl, rfl⟩ (agree_cons rfl (agree_cons rfl (agree_cons rfl (agree_cons rfl (agree_cons rfl agree_nil))))) (pSub (pCons (Sel.sc Sel.hc) (pApp (Sel.sc Sel.ha) pNil)))
    replace h := cf hc h
    refine wl_skip rfl rfl ?_
    refine wl_skip rfl rfl ?_
    refine wl_skip rfl rfl ?_
    refine wl_skip rfl rfl ?_
    refine wl_skip rfl rfl ?_
    simp only [Option.some.injEq, Prod.mk.injEq] at h
    obtain rfl := h
    have h := hg27; clear hg27
    refine wl_pure (v := .bool false) tt_ok rfl rfl ?_
    refine wl_nil (wx_then ?_)
    replace h := cf rfl h
    refine wc_cond_false rfl ?_
    refine wc_skip (wx_block (wx_then (wc_region ?_)))
    refine wl_pure (v := .int .i64 (IntKind.wrap .i64 (j15_14 + (1 : Int)))) tt_ok rfl rfl ?_
    refine wl_pure tt_ok rfl rfl ?_
    refine wl_nil ?_
    exact wx_round m15 (Nat.lt_succ_self m15) ⟨j15_2, j15_3, (IntKind.wrap .i64 (j15_14 + (1 : Int))), h, rfl, rfl⟩ (agree_cons rfl (agree_cons rfl (agree_cons rfl (agree_cons rfl (agree_cons rfl agree_nil))))) (pSub (pCons (Sel.sc Sel.hc) (pApp (Sel.sc Sel.ha) pNil)))
  replace h := cf hc h
  refine wc_exit (wx_then_exit ?_)
  simp only [Option.some.injEq, Prod.mk.injEq] at h
  obtain ⟨rfl, rfl⟩ := h
  have h := hl15; clear hl15; try dsimp only [orE_l, orE_r] at h
  refine wx_then_exit (wx_block_exit (wx_then (wc_seq (wc_region ?_))))
  iterate 4 refine wl_pure tt_ok rfl rfl ?_
  refine wl_nil (wx_then (wc_ret ?_))
  simp only [Option.some.injEq, Prod.mk.injEq] at h
  obtain ⟨rfl, rfl⟩ := h
  exact wx_rd tt_ok (.inl rfl) Tryd.results14 (Res.tmp rfl (Res.tmp rfl Res.nil)) (pSub (pCons Sel.hc (pApp Sel.ha pNil))) rfl

theorem k_watch_Watch_Clashed {F : Nat} {p0 : T_watch_Watch} {p0b p0t : Nat} {p0a0 : Option Addr} {p0n0 : Nat} {p0c0 : Nat} {p0B0 : List Blk} {r0 : Bool} (p0N0 : p0n0 = p0.l.length) (p0V0 : Own 73 5 p0a0 p0n0 p0c0 (flat c_T_watch_entry p0.l) p0B0) (h : m_watch_Watch_Clashed F p0 = some r0) :
    Rd2 Tryd.prog 11 [.pointer (some ⟨p0b, 0, none⟩)] (⟨p0b, [.int .u64 p0.rows, .slice p0a0 p0n0 p0c0, .bool p0.clashed], p0t, (0, 0)⟩ :: (p0B0 ++ [])) (fun w => True) (.bool r0) := by
  unfold m_watch_Watch_Clashed at h
  refine sp_of_wc Tryd.func11 rfl Tryd.ntmps11 rfl rfl (fun w0 hR => ?_)
  refine wc_seq (wc_region ?_)
  refine wl_pure tt_ok rfl rfl ?_
  refine wl_nil (wx_then (wc_seq (wc_region ?_)))
  refine wl_pure tt_ok rfl rfl ?_
  replace h := bsome h; obtain ⟨v4, x4, h⟩ := h
  refine wl_cq Tryd.call24 rfl rfl rfl (q_rd (k_watch_Watch_is (p0 := p0) p0N0 p0V0 x4) (pCons Sel.hc (pApp Sel.ha pNil)) (fun _ _ => trivial)) rfl ?_
  refine wl_pure tt_ok rfl rfl ?_
  replace h := bsome h; obtain ⟨v10, h, hg10⟩ := h
  refine wl_split (t := 5) rfl (fun hc => ?_) (fun hc => ?_)
  · replace h := ct hc h
    refine wl_run rfl ?_
    refine wl_pure tt_ok rfl rfl ?_
    refine wl_run rfl ?_
    refine wl_pure tt_ok rfl rfl ?_
    refine wl_run rfl ?_
    refine wl_pure (v := .pointer (some ⟨p0b, 2, none⟩)) tt_ok rfl rfl ?_
    refine wl_run rfl ?_
    refine wl_val (v := .bool p0.clashed) (val_load tt_ok rfl (List.Mem.head _) rfl) rfl ?_
    simp only [Option.some.injEq, Prod.mk.injEq] at h
    obtain rfl := h
    have h := hg10; clear hg10
    refine wl_pure (v := .bool p0.clashed) tt_ok rfl rfl ?_
    refine wl_pure tt_ok rfl rfl ?_
    refine wl_nil (wx_then (wc_ret ?_))
    simp only [Option.some.injEq] at h
    obtain rfl := h
    exact wx_rd tt_ok (.inl rfl) Tryd.results11 (Res.tmp rfl Res.nil) (pSub (pCons Sel.hc (pApp Sel.ha pNil))) rfl
  replace h := cf hc h
  refine wl_skip rfl rfl ?_
  refine wl_skip rfl rfl ?_
  refine wl_skip rfl rfl ?_
  refine wl_skip rfl rfl ?_
  simp only [Option.some.injEq, Prod.mk.injEq] at h
  obtain rfl := h
  have h := hg10; clear hg10
  refine wl_pure (v := .bool false) tt_ok rfl rfl ?_
  refine wl_pure tt_ok rfl rfl ?_
  refine wl_nil (wx_then (wc_ret ?_))
  simp only [Option.some.injEq] at h
  obtain rfl := h
  exact wx_rd tt_ok (.inl rfl) Tryd.results11 (Res.tmp rfl Res.nil) (pSub (pCons Sel.hc (pApp Sel.ha pNil))) rfl

end Go.Proofs.YthlnellnlhkphaaDoor
