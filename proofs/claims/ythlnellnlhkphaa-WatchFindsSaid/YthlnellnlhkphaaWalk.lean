/-
  Each function computes what its model says. Printed by a program of this claim's own.
-/
import Derived.Test.YthlnellnlhkphaaTab
import Derived.Test.YthlnellnlhkphaaMod
import Derived.Test.YthlnellnlhkphaaWalk4
import Derived.Test.YthlnellnlhkphaaIns
namespace Go.Proofs.Ythlnellnlhkphaa
open Go.Proofs.Ythlnellnlhkphaa.Eng
set_option linter.unusedVariables false
set_option linter.unusedSimpArgs false
set_option maxHeartbeats 4000000
set_option maxRecDepth 20000

theorem k_watch_Watch_Other {F : Nat} {p0 : T_watch_Watch} {p0b p0t : Nat} {p0a0 : Option Addr} {p0n0 : Nat} {p0c0 : Nat} {p0B0 : List Blk} {p1 : Int} {p2 : Int} {r0 : T_watch_Watch} {r1 : Int} (p0N0 : p0n0 = p0.l.length) (p0V0 : Own 41 5 p0a0 p0n0 p0c0 (flat c_T_watch_entry p0.l) p0B0) (h : m_watch_Watch_Other F p0 p1 p2 = some (r0, r1)) :
    SpD Try.prog 7 [.pointer (some ⟨p0b, 0, none⟩), .int .u64 p1, .int .u64 p2] (⟨p0b, [.int .u64 p0.rows, .slice p0a0 p0n0 p0c0, .bool p0.clashed], p0t, (0, 0)⟩ :: (p0B0 ++ [])) (fun w => True) (fun v D => ∃ (r0a0 : Option Addr) (r0n0 : Nat) (r0c0 : Nat) (r0B0 : List Blk), r0n0 = r0.l.length ∧ Own 41 5 r0a0 r0n0 r0c0 (flat c_T_watch_entry r0.l) r0B0 ∧ v = .int .i64 r1 ∧ D = fun F => (⟨p0b, [.int .u64 r0.rows, .slice r0a0 r0n0 r0c0, .bool r0.clashed], p0t, (0, 0)⟩ :: (r0B0 ++ F))) := by
  unfold m_watch_Watch_Other at h
  refine sp_of_wc Try.func7 rfl Try.ntmps7 rfl rfl (fun w0 hR => ?_)
  refine wc_seq (wc_region ?_)
  refine wl_pure tt_ok rfl rfl ?_
  refine wl_nil (wx_then (wc_seq (wc_region ?_)))
  iterate 3 refine wl_pure tt_ok rfl rfl ?_
  replace h := bsome h; obtain ⟨⟨o10_0, v10⟩, x10, h⟩ := h; try dsimp only at h
  refine wl_cs Try.call10 rfl rfl rfl (s_sp (k_watch_Watch_told_f3_watch_otherSide (p0 := p0) p0N0 p0V0 x10) (pCons Sel.hc (pApp Sel.ha pNil)) (fun _ _ => trivial)) rfl ?_
  rintro _ _ ⟨_, ⟨o10_0a0, o10_0n0, o10_0c0, o10_0B0, o10_0N0, o10_0V0, rfl, rfl⟩, rfl⟩
  refine wl_pure tt_ok rfl rfl ?_
  refine wl_nil (wx_then (wc_ret ?_))
  simp only [Option.some.injEq, Prod.mk.injEq] at h
  obtain ⟨rfl, rfl⟩ := h
  exact wx_spD tt_ok (.inl rfl) Try.results7 (Res.tmp rfl Res.nil) ⟨o10_0a0, o10_0n0, o10_0c0, o10_0B0, o10_0N0, o10_0V0, rfl, rfl⟩ (fun F => by simp) (pSub (pCons Sel.hc (pApp Sel.ha pNil)))

theorem k_watch_Watch_Agreed {F : Nat} {p0 : T_watch_Watch} {p0b p0t : Nat} {p0a0 : Option Addr} {p0n0 : Nat} {p0c0 : Nat} {p0B0 : List Blk} {r0 : Int} {r1 : Bool} (p0N0 : p0n0 = p0.l.length) (p0V0 : Own 41 5 p0a0 p0n0 p0c0 (flat c_T_watch_entry p0.l) p0B0) (h : m_watch_Watch_Agreed F p0 = some (r0, r1)) :
    Rd2 Try.prog 8 [.pointer (some ⟨p0b, 0, none⟩)] (⟨p0b, [.int .u64 p0.rows, .slice p0a0 p0n0 p0c0, .bool p0.clashed], p0t, (0, 0)⟩ :: (p0B0 ++ [])) (fun w => True) (.tuple #[.int .u64 r0, .bool r1]) := by
  unfold m_watch_Watch_Agreed at h
  refine sp_of_wc Try.func8 rfl Try.ntmps8 rfl rfl (fun w0 hR => ?_)
  refine wc_seq (wc_region ?_)
  iterate 2 refine wl_pure tt_ok rfl rfl ?_
  refine wl_nil (wx_then (wc_seq (wc_seq (wc_region ?_))))
  refine wl_pure tt_ok rfl rfl ?_
  replace h := bsome h; obtain ⟨v7, x7, h⟩ := h
  refine wl_cq Try.call13 rfl rfl rfl (q_rd (k_watch_Watch_is (p0 := p0) p0N0 p0V0 x7) (pCons Sel.hc (pApp Sel.ha pNil)) (fun _ _ => trivial)) rfl ?_
  refine wl_pure (v := .bool (!v7)) tt_ok rfl rfl ?_
  refine wl_nil (wx_then ?_)
  refine wc_cond rfl (fun hc => ?_) (fun hc => ?_)
  · replace h := ct hc h
    refine wc_seq (wc_region ?_)
    iterate 2 refine wl_pure tt_ok rfl rfl ?_
    refine wl_nil (wx_then (wc_ret (wx_then_ret ?_)))
    simp only [Option.some.injEq, Prod.mk.injEq] at h
    obtain ⟨rfl, rfl⟩ := h
    exact wx_rd tt_ok (.inl rfl) Try.results8 (Res.tmp rfl (Res.tmp rfl Res.nil)) (pSub (pCons Sel.hc (pApp Sel.ha pNil))) rfl
  replace h := cf hc h
  refine wc_skip (wx_then (wc_seq (wc_seq (wc_region ?_))))
  iterate 2 refine wl_pure tt_ok rfl rfl ?_
  refine wl_pure (v := .pointer (some ⟨p0b, 1, none⟩)) tt_ok rfl rfl ?_
  refine wl_val (v := .slice p0a0 p0n0 p0c0) (val_load tt_ok rfl (List.Mem.head _) rfl) rfl ?_
  refine wl_val (v := .int .i64 (p0.l.length : Int)) (val_len tt_ok rfl rfl p0N0) rfl ?_
  refine wl_pure tt_ok rfl rfl ?_
  refine wl_nil (wx_then (wc_block ?_))
  replace h := bsome h; obtain ⟨⟨l15_2, l15_3⟩, h, hl15⟩ := h; try dsimp only at hl15
  refine wc_loop (fun m E L => ∃ (j15_2 : Int) (j15_3 : Bool) (j15_14 : Int), m_watch_Watch_Agreed_L14 F p0 m j15_2 j15_3 j15_14 = some (l15_2, l15_3) ∧ E = [(2, .int .u64 j15_2), (3, .bool j15_3), (12, .slice p0a0 p0n0 p0c0), (13, .int .i64 (p0.l.length : Int)), (14, .int .i64 j15_14)] ∧ L = (⟨p0b, [.int .u64 p0.rows, .slice p0a0 p0n0 p0c0, .bool p0.clashed], p0t, (0, 0)⟩ :: (p0B0 ++ []))) F ⟨(0 : Int), false, (0 : Int), h, rfl, rfl⟩ (agree_cons rfl (agree_cons rfl (agree_cons rfl (agree_cons rfl (agree_cons rfl agree_nil))))) (pSub (pCons Sel.hc (pApp Sel.ha pNil))) ?_
  clear h
  rintro m15 _ _ ⟨j15_2, j15_3, j15_14, h, rfl, rfl⟩
  rcases m15 with _ | m15
  · rw [m_watch_Watch_Agreed_L14.eq_1] at h; cases h
  rw [m_watch_Watch_Agreed_L14.eq_2] at h
  refine wc_seq (wc_region ?_)
  refine wl_pure (v := .bool (decide (j15_14 < (p0.l.length : Int)))) tt_ok rfl rfl ?_
  refine wl_nil (wx_then (wc_seq ?_))
  refine wc_cond rfl (fun hc => ?_) (fun hc => ?_)
  · replace h := ct hc h
    refine wc_skip (wx_then (wc_seq (wc_block (wc_seq (wc_region ?_)))))
    replace h := bsome h; obtain ⟨v16, x16, h⟩ := h
    refine wl_val (v := .pointer (some ((adOf p0a0).add (j15_14.toNat * 5 + 0)))) (val_ix (enc := c_T_watch_entry) tt_ok rfl rfl rfl rfl p0N0 (Rds.of_vec p0V0) c_T_watch_entry_len rfl x16) rfl ?_
    refine wl_val (v := .agg #[.int .u64 v16.f, .int .u64 v16.own.n, .bool v16.own.is_, .int .u64 v16.other.n, .bool v16.other.is_]) (val_le (enc := c_T_watch_entry) (xs := p0.l) tt_ok rfl (Rds.of_vec p0V0) ⟨_, (Sel.sc Sel.ha)⟩ c_T_watch_entry_len x16 rfl) rfl ?_
    refine wl_alloc tt_ok rfl rfl (fun b5 => ?_)
    apply wl_store tt_ok; rfl; exact Upd.here; rfl; rfl; rfl; rfl; rfl; rfl
    refine wl_nil (wx_then (wc_seq (wc_region ?_)))
    refine wl_pure (v := .pointer (some ⟨b5, 1, none⟩)) tt_ok rfl rfl ?_
    refine wl_pure (v := .pointer (some ⟨b5, 2, none⟩)) tt_ok rfl rfl ?_
    refine wl_val (v := .bool v16.own.is_) (val_load tt_ok rfl (List.Mem.head _) rfl) rfl ?_
    refine wl_pure tt_ok rfl rfl ?_
    replace h := bsome h; obtain ⟨v27, h, hg27⟩ := h
    refine wl_split (t := 21) rfl (fun hc => ?_) (fun hc => ?_)
    · replace h := ct hc h
      refine wl_run rfl ?_
      refine wl_pure (v := .pointer (some ⟨b5, 1, none⟩)) tt_ok rfl rfl ?_
      refine wl_run rfl ?_
      refine wl_val (v := .agg #[.int .u64 v16.own.n, .bool v16.own.is_]) (val_load tt_ok rfl (List.Mem.head _) rfl) rfl ?_
      refine wl_run rfl ?_
      refine wl_pure (v := .pointer (some ⟨b5, 3, none⟩)) tt_ok rfl rfl ?_
      refine wl_run rfl ?_
      refine wl_val (v := .agg #[.int .u64 v16.other.n, .bool v16.other.is_]) (val_load tt_ok rfl (List.Mem.head _) rfl) rfl ?_
      refine wl_run rfl ?_
      refine wl_val (v := .bool ((v16.own.n == v16.other.n) && (v16.own.is_ == v16.other.is_))) (val_eqs tt_ok tt_eq tt_one Try.eqGuardType39 rfl rfl rfl rfl rfl) rfl ?_
      simp only [Option.some.injEq, Prod.mk.injEq] at h
      obtain rfl := h
      have h := hg27; clear hg27
      refine wl_pure (v := .bool ((v16.own.n == v16.other.n) && (v16.own.is_ == v16.other.is_))) tt_ok rfl rfl ?_
      refine wl_nil (wx_then ?_)
      refine wc_cond rfl (fun hc => ?_) (fun hc => ?_)
      · replace h := ct hc h
        refine wc_region ?_
        refine wl_pure (v := .pointer (some ⟨b5, 0, none⟩)) tt_ok rfl rfl ?_
        refine wl_val (v := .int .u64 v16.f) (val_load tt_ok rfl (List.Mem.head _) rfl) rfl ?_
        iterate 2 refine wl_pure tt_ok rfl rfl ?_
        refine wl_nil (wx_block (wx_then (wc_region ?_)))
        refine wl_pure (v := .int .i64 (IntKind.wrap .i64 (j15_14 + (1 : Int)))) tt_ok rfl rfl ?_
        refine wl_pure tt_ok rfl rfl ?_
        refine wl_nil ?_
        exact wx_round m15 (Nat.lt_succ_self m15) ⟨v16.f, true, (IntKind.wrap .i64 (j15_14 + (1 : Int))), h, rfl, rfl⟩ (agree_cons rfl (agree_cons rfl (agree_cons rfl (agree_cons rfl (agree_cons rfl agree_nil))))) (pSub (pCons (Sel.sc Sel.hc) (pApp (Sel.sc Sel.ha) pNil)))
      replace h := cf hc h
      refine wc_skip (wx_block (wx_then (wc_region ?_)))
      refine wl_pure (v := .int .i64 (IntKind.wrap .i64 (j15_14 + (1 : Int)))) tt_ok rfl rfl ?_
      refine wl_pure tt_ok rfl rfl ?_
      refine wl_nil ?_
      exact wx_round m15 (Nat.lt_succ_self m15) ⟨j15_2, j15_3, (IntKind.wrap .i64 (j15_14 + (1 : Int))), h, rfl, rfl⟩ (agree_cons rfl (agree_cons rfl (agree_cons rfl (agree_cons rfl (agree_cons rfl agree_nil))))) (pSub (pCons (Sel.sc Sel.hc) (pApp (Sel.sc Sel.ha) pNil)))
    replace h := cf hc h
    refine wl_skip rfl rfl ?_
    refine wl_skip rfl rfl ?_
    refine wl_skip rfl rfl ?_
    refine wl_skip rfl rfl ?_
    refine wl_skip rfl rfl ?_
    simp only [Option.some.injEq, Prod.mk.injEq] at h
    obtain rfl := h
    have h := hg27; clear hg27
    refine wl_pure (v := .bool false) tt_ok rfl rfl ?_
    refine wl_nil (wx_then ?_)
    replace h := cf rfl h
    refine wc_cond_false rfl ?_
    refine wc_skip (wx_block (wx_then (wc_region ?_)))
    refine wl_pure (v := .int .i64 (IntKind.wrap .i64 (j15_14 + (1 : Int)))) tt_ok rfl rfl ?_
    refine wl_pure tt_ok rfl rfl ?_
    refine wl_nil ?_
    exact wx_round m15 (Nat.lt_succ_self m15) ⟨j15_2, j15_3, (IntKind.wrap .i64 (j15_14 + (1 : Int))), h, rfl, rfl⟩ (agree_cons rfl (agree_cons rfl (agree_cons rfl (agree_cons rfl (agree_cons rfl agree_nil))))) (pSub (pCons (Sel.sc Sel.hc) (pApp (Sel.sc Sel.ha) pNil)))
  replace h := cf hc h
  refine wc_exit (wx_then_exit ?_)
  simp only [Option.some.injEq, Prod.mk.injEq] at h
  obtain ⟨rfl, rfl⟩ := h
  have h := hl15; clear hl15; try dsimp only [orE_l, orE_r] at h
  refine wx_then_exit (wx_block_exit (wx_then (wc_seq (wc_region ?_))))
  iterate 4 refine wl_pure tt_ok rfl rfl ?_
  refine wl_nil (wx_then (wc_ret ?_))
  simp only [Option.some.injEq, Prod.mk.injEq] at h
  obtain ⟨rfl, rfl⟩ := h
  exact wx_rd tt_ok (.inl rfl) Try.results8 (Res.tmp rfl (Res.tmp rfl Res.nil)) (pSub (pCons Sel.hc (pApp Sel.ha pNil))) rfl

theorem k_watch_Watch_Clashed {F : Nat} {p0 : T_watch_Watch} {p0b p0t : Nat} {p0a0 : Option Addr} {p0n0 : Nat} {p0c0 : Nat} {p0B0 : List Blk} {r0 : Bool} (p0N0 : p0n0 = p0.l.length) (p0V0 : Own 41 5 p0a0 p0n0 p0c0 (flat c_T_watch_entry p0.l) p0B0) (h : m_watch_Watch_Clashed F p0 = some r0) :
    Rd2 Try.prog 9 [.pointer (some ⟨p0b, 0, none⟩)] (⟨p0b, [.int .u64 p0.rows, .slice p0a0 p0n0 p0c0, .bool p0.clashed], p0t, (0, 0)⟩ :: (p0B0 ++ [])) (fun w => True) (.bool r0) := by
  unfold m_watch_Watch_Clashed at h
  refine sp_of_wc Try.func9 rfl Try.ntmps9 rfl rfl (fun w0 hR => ?_)
  refine wc_seq (wc_region ?_)
  refine wl_pure tt_ok rfl rfl ?_
  refine wl_nil (wx_then (wc_seq (wc_region ?_)))
  refine wl_pure tt_ok rfl rfl ?_
  replace h := bsome h; obtain ⟨v4, x4, h⟩ := h
  refine wl_cq Try.call13 rfl rfl rfl (q_rd (k_watch_Watch_is (p0 := p0) p0N0 p0V0 x4) (pCons Sel.hc (pApp Sel.ha pNil)) (fun _ _ => trivial)) rfl ?_
  refine wl_pure tt_ok rfl rfl ?_
  replace h := bsome h; obtain ⟨v10, h, hg10⟩ := h
  refine wl_split (t := 5) rfl (fun hc => ?_) (fun hc => ?_)
  · replace h := ct hc h
    refine wl_run rfl ?_
    refine wl_pure tt_ok rfl rfl ?_
    refine wl_run rfl ?_
    refine wl_pure tt_ok rfl rfl ?_
    refine wl_run rfl ?_
    refine wl_pure (v := .pointer (some ⟨p0b, 2, none⟩)) tt_ok rfl rfl ?_
    refine wl_run rfl ?_
    refine wl_val (v := .bool p0.clashed) (val_load tt_ok rfl (List.Mem.head _) rfl) rfl ?_
    simp only [Option.some.injEq, Prod.mk.injEq] at h
    obtain rfl := h
    have h := hg10; clear hg10
    refine wl_pure (v := .bool p0.clashed) tt_ok rfl rfl ?_
    refine wl_pure tt_ok rfl rfl ?_
    refine wl_nil (wx_then (wc_ret ?_))
    simp only [Option.some.injEq] at h
    obtain rfl := h
    exact wx_rd tt_ok (.inl rfl) Try.results9 (Res.tmp rfl Res.nil) (pSub (pCons Sel.hc (pApp Sel.ha pNil))) rfl
  replace h := cf hc h
  refine wl_skip rfl rfl ?_
  refine wl_skip rfl rfl ?_
  refine wl_skip rfl rfl ?_
  refine wl_skip rfl rfl ?_
  simp only [Option.some.injEq, Prod.mk.injEq] at h
  obtain rfl := h
  have h := hg10; clear hg10
  refine wl_pure (v := .bool false) tt_ok rfl rfl ?_
  refine wl_pure tt_ok rfl rfl ?_
  refine wl_nil (wx_then (wc_ret ?_))
  simp only [Option.some.injEq] at h
  obtain rfl := h
  exact wx_rd tt_ok (.inl rfl) Try.results9 (Res.tmp rfl Res.nil) (pSub (pCons Sel.hc (pApp Sel.ha pNil))) rfl

theorem k_hindcastlaw29_awake {F : Nat} {r0 : Bool} (h : m_hindcastlaw29_awake F = some r0) :
    Pf Try.prog 5 [] (fun w => True) (.bool r0) := by
  unfold m_hindcastlaw29_awake at h
  refine pf_of_wc Try.func5 rfl Try.ntmps5 rfl rfl (fun w0 hR => ?_)
  refine wc_seq (wc_region ?_)
  refine wl_pure tt_ok rfl rfl ?_
  refine wl_nil (wx_then (wc_seq (wc_region ?_)))
  replace h := bsome h; obtain ⟨v4, x4, h⟩ := h
  rcases v4 with _ | v4s
  · replace h := poN h
    refine wl_cs Try.call4 rfl rfl rfl (s_sp (k_watch_New_none x4) pNil (fun _ _ => trivial)) rfl ?_
    rintro _ _ ⟨_, ⟨rfl, rfl⟩, rfl⟩
    refine wl_pure tt_ok rfl rfl ?_
    refine wl_nil (wx_then (wc_seq (wc_seq (wc_region ?_))))
    refine wl_pure tt_ok rfl rfl ?_
    refine wl_pure (v := .bool true) tt_ok rfl rfl ?_
    refine wl_pure tt_ok rfl rfl ?_
    refine wl_skip rfl rfl ?_
    refine wl_skip rfl rfl ?_
    refine wl_skip rfl rfl ?_
    refine wl_pure (v := .bool true) tt_ok rfl rfl ?_
    refine wl_pure tt_ok rfl rfl ?_
    refine wl_skip rfl rfl ?_
    refine wl_skip rfl rfl ?_
    refine wl_skip rfl rfl ?_
    refine wl_pure (v := .bool true) tt_ok rfl rfl ?_
    refine wl_pure tt_ok rfl rfl ?_
    refine wl_skip rfl rfl ?_
    refine wl_skip rfl rfl ?_
    refine wl_skip rfl rfl ?_
    refine wl_pure (v := .bool true) tt_ok rfl rfl ?_
    refine wl_nil (wx_then ?_)
    refine wc_cond_true rfl ?_
    refine wc_seq (wc_region ?_)
    refine wl_pure tt_ok rfl rfl ?_
    refine wl_nil (wx_then (wc_ret (wx_then_ret ?_)))
    simp only [Option.some.injEq] at h
    obtain rfl := h
    exact wx_pf tt_ok (.inl rfl) Try.results5 (Res.tmp rfl Res.nil) rfl
  replace h := poS h
  refine wl_cs Try.call4 rfl rfl rfl (s_sp (k_watch_New x4) pNil (fun _ _ => trivial)) rfl ?_
  rintro _ _ ⟨_, ⟨b4_0, v4sa0, v4sn0, v4sc0, v4sB0, v4sN0, v4sV0, rfl, rfl⟩, rfl⟩
  refine wl_pure tt_ok rfl rfl ?_
  refine wl_nil (wx_then (wc_seq (wc_seq (wc_region ?_))))
  refine wl_pure tt_ok rfl rfl ?_
  refine wl_pure (v := .bool false) tt_ok rfl rfl ?_
  refine wl_pure tt_ok rfl rfl ?_
  refine wl_run rfl ?_
  refine wl_pure tt_ok rfl rfl ?_
  replace h := bsome h; obtain ⟨⟨o9_0, v9⟩, x9, h⟩ := h; try dsimp only at h
  refine wl_run rfl ?_
  refine wl_cs Try.call6 rfl rfl rfl (s_sp (k_watch_Watch_Own (p0 := v4s) v4sN0 v4sV0 x9) (pCons Sel.hc (pApp Sel.ha pNil)) (fun _ _ => trivial)) rfl ?_
  rintro _ _ ⟨_, ⟨o9_0a0, o9_0n0, o9_0c0, o9_0B0, o9_0N0, o9_0V0, rfl, rfl⟩, rfl⟩
  refine wl_run rfl ?_
  refine wl_pure (v := .bool (v9 != (0 : Int))) tt_ok rfl rfl ?_
  refine wl_pure (v := .bool (v9 != (0 : Int))) tt_ok rfl rfl ?_
  refine wl_pure tt_ok rfl rfl ?_
  replace h := bsome h; obtain ⟨⟨v16, g16_n4_0_f0, g16_n4_0_f1, g16_n4_0_f2⟩, h, hg16⟩ := h
  refine wl_split (t := 12) rfl (fun hc => ?_) (fun hc => ?_)
  · replace h := ct hc h
    refine wl_skip rfl rfl ?_
    refine wl_skip rfl rfl ?_
    refine wl_skip rfl rfl ?_
    simp only [Option.some.injEq, Prod.mk.injEq] at h
    obtain ⟨rfl, rfl, rfl, rfl⟩ := h
    have h := hg16; clear hg16; try dsimp only at h
    refine wl_pure (v := .bool true) tt_ok rfl rfl ?_
    refine wl_pure tt_ok rfl rfl ?_
    replace h := bsome h; obtain ⟨⟨v21, g21_n4_0_f0, g21_n4_0_f1, g21_n4_0_f2⟩, h, hg21⟩ := h
    replace h := ct rfl h
    refine wl_skip rfl rfl ?_
    refine wl_skip rfl rfl ?_
    refine wl_skip rfl rfl ?_
    simp only [Option.some.injEq, Prod.mk.injEq] at h
    obtain ⟨rfl, rfl, rfl, rfl⟩ := h
    have h := hg21; clear hg21; try dsimp only at h
    refine wl_pure (v := .bool true) tt_ok rfl rfl ?_
    refine wl_nil (wx_then ?_)
    replace h := ct rfl h
    refine wc_cond_true rfl ?_
    refine wc_seq (wc_region ?_)
    refine wl_pure tt_ok rfl rfl ?_
    refine wl_nil (wx_then (wc_ret (wx_then_ret ?_)))
    simp only [Option.some.injEq] at h
    obtain rfl := h
    exact wx_pf tt_ok (.inl rfl) Try.results5 (Res.tmp rfl Res.nil) rfl
  replace h := cf hc h
  refine wl_run rfl ?_
  refine wl_pure tt_ok rfl rfl ?_
  replace h := bsome h; obtain ⟨⟨o14_0, v14⟩, x14, h⟩ := h; try dsimp only at h
  refine wl_run rfl ?_
  refine wl_cs Try.call7 rfl rfl rfl (s_sp (k_watch_Watch_Other (p0 := o9_0) o9_0N0 o9_0V0 x14) (pCons Sel.hc (pApp Sel.ha pNil)) (fun _ _ => trivial)) rfl ?_
  rintro _ _ ⟨_, ⟨o14_0a0, o14_0n0, o14_0c0, o14_0B0, o14_0N0, o14_0V0, rfl, rfl⟩, rfl⟩
  refine wl_run rfl ?_
  refine wl_pure (v := .bool (v14 != (0 : Int))) tt_ok rfl rfl ?_
  simp only [Option.some.injEq, Prod.mk.injEq] at h
  obtain ⟨rfl, rfl, rfl, rfl⟩ := h
  have h := hg16; clear hg16; try dsimp only at h
  refine wl_pure (v := .bool (v14 != (0 : Int))) tt_ok rfl rfl ?_
  refine wl_pure tt_ok rfl rfl ?_
  replace h := bsome h; obtain ⟨⟨v21, g21_n4_0_f0, g21_n4_0_f1, g21_n4_0_f2⟩, h, hg21⟩ := h
  refine wl_split (t := 17) rfl (fun hc => ?_) (fun hc => ?_)
  · replace h := ct hc h
    refine wl_skip rfl rfl ?_
    refine wl_skip rfl rfl ?_
    refine wl_skip rfl rfl ?_
    simp only [Option.some.injEq, Prod.mk.injEq] at h
    obtain ⟨rfl, rfl, rfl, rfl⟩ := h
    have h := hg21; clear hg21; try dsimp only at h
    refine wl_pure (v := .bool true) tt_ok rfl rfl ?_
    refine wl_nil (wx_then ?_)
    replace h := ct rfl h
    refine wc_cond_true rfl ?_
    refine wc_seq (wc_region ?_)
    refine wl_pure tt_ok rfl rfl ?_
    refine wl_nil (wx_then (wc_ret (wx_then_ret ?_)))
    simp only [Option.some.injEq] at h
    obtain rfl := h
    exact wx_pf tt_ok (.inl rfl) Try.results5 (Res.tmp rfl Res.nil) rfl
  replace h := cf hc h
  refine wl_run rfl ?_
  refine wl_pure tt_ok rfl rfl ?_
  replace h := bsome h; obtain ⟨⟨o19_0, v19⟩, x19, h⟩ := h; try dsimp only at h
  refine wl_run rfl ?_
  refine wl_cs Try.call7 rfl rfl rfl (s_sp (k_watch_Watch_Other (p0 := o14_0) o14_0N0 o14_0V0 x19) (pCons Sel.hc (pApp Sel.ha pNil)) (fun _ _ => trivial)) rfl ?_
  rintro _ _ ⟨_, ⟨o19_0a0, o19_0n0, o19_0c0, o19_0B0, o19_0N0, o19_0V0, rfl, rfl⟩, rfl⟩
  refine wl_run rfl ?_
  refine wl_pure (v := .bool (v19 != (2 : Int))) tt_ok rfl rfl ?_
  simp only [Option.some.injEq, Prod.mk.injEq] at h
  obtain ⟨rfl, rfl, rfl, rfl⟩ := h
  have h := hg21; clear hg21; try dsimp only at h
  refine wl_pure (v := .bool (v19 != (2 : Int))) tt_ok rfl rfl ?_
  refine wl_nil (wx_then ?_)
  refine wc_cond rfl (fun hc => ?_) (fun hc => ?_)
  · replace h := ct hc h
    refine wc_seq (wc_region ?_)
    refine wl_pure tt_ok rfl rfl ?_
    refine wl_nil (wx_then (wc_ret (wx_then_ret ?_)))
    simp only [Option.some.injEq] at h
    obtain rfl := h
    exact wx_pf tt_ok (.inl rfl) Try.results5 (Res.tmp rfl Res.nil) rfl
  replace h := cf hc h
  refine wc_skip (wx_then (wc_seq (wc_region ?_)))
  refine wl_pure tt_ok rfl rfl ?_
  replace h := bsome h; obtain ⟨⟨v24_0, v24_1⟩, x24, h⟩ := h; try dsimp only at h
  refine wl_cq Try.call8 rfl rfl rfl (q_rd (k_watch_Watch_Agreed (p0 := o19_0) o19_0N0 o19_0V0 x24) (pCons Sel.hc (pApp Sel.ha pNil)) (fun _ _ => trivial)) rfl ?_
  iterate 5 refine wl_pure tt_ok rfl rfl ?_
  refine wl_nil (wx_then (wc_seq (wc_region ?_)))
  refine wl_pure tt_ok rfl rfl ?_
  refine wl_pure (v := .bool (v24_0 == (4 : Int))) tt_ok rfl rfl ?_
  refine wl_pure tt_ok rfl rfl ?_
  replace h := bsome h; obtain ⟨v31, h, hg31⟩ := h
  refine wl_split (t := 29) rfl (fun hc => ?_) (fun hc => ?_)
  · replace h := ct hc h
    refine wl_run rfl ?_
    refine wl_pure tt_ok rfl rfl ?_
    simp only [Option.some.injEq, Prod.mk.injEq] at h
    obtain rfl := h
    have h := hg31; clear hg31
    refine wl_pure (v := .bool v24_1) tt_ok rfl rfl ?_
    refine wl_pure tt_ok rfl rfl ?_
    replace h := bsome h; obtain ⟨⟨v36, g36_n4_0_f0, g36_n4_0_f1, g36_n4_0_f2⟩, h, hg36⟩ := h
    refine wl_split (t := 32) rfl (fun hc => ?_) (fun hc => ?_)
    · replace h := ct hc h
      refine wl_run rfl ?_
      refine wl_pure tt_ok rfl rfl ?_
      replace h := bsome h; obtain ⟨⟨o34_0, v34⟩, x34, h⟩ := h; try dsimp only at h
      refine wl_run rfl ?_
      refine wl_cs Try.call7 rfl rfl rfl (s_sp (k_watch_Watch_Other (p0 := o19_0) o19_0N0 o19_0V0 x34) (pCons Sel.hc (pApp Sel.ha pNil)) (fun _ _ => trivial)) rfl ?_
      rintro _ _ ⟨_, ⟨o34_0a0, o34_0n0, o34_0c0, o34_0B0, o34_0N0, o34_0V0, rfl, rfl⟩, rfl⟩
      refine wl_run rfl ?_
      refine wl_pure (v := .bool (v34 == (0 : Int))) tt_ok rfl rfl ?_
      simp only [Option.some.injEq, Prod.mk.injEq] at h
      obtain ⟨rfl, rfl, rfl, rfl⟩ := h
      have h := hg36; clear hg36; try dsimp only at h
      refine wl_pure (v := .bool (v34 == (0 : Int))) tt_ok rfl rfl ?_
      refine wl_pure tt_ok rfl rfl ?_
      replace h := bsome h; obtain ⟨⟨v41, g41_n4_0_f0, g41_n4_0_f1, g41_n4_0_f2⟩, h, hg41⟩ := h
      refine wl_split (t := 37) rfl (fun hc => ?_) (fun hc => ?_)
      · replace h := ct hc h
        refine wl_run rfl ?_
        refine wl_pure tt_ok rfl rfl ?_
        replace h := bsome h; obtain ⟨⟨o39_0, v39⟩, x39, h⟩ := h; try dsimp only at h
        refine wl_run rfl ?_
        refine wl_cs Try.call6 rfl rfl rfl (s_sp (k_watch_Watch_Own (p0 := o34_0) o34_0N0 o34_0V0 x39) (pCons Sel.hc (pApp Sel.ha pNil)) (fun _ _ => trivial)) rfl ?_
        rintro _ _ ⟨_, ⟨o39_0a0, o39_0n0, o39_0c0, o39_0B0, o39_0N0, o39_0V0, rfl, rfl⟩, rfl⟩
        refine wl_run rfl ?_
        refine wl_pure (v := .bool (v39 == (14 : Int))) tt_ok rfl rfl ?_
        simp only [Option.some.injEq, Prod.mk.injEq] at h
        obtain ⟨rfl, rfl, rfl, rfl⟩ := h
        have h := hg41; clear hg41; try dsimp only at h
        refine wl_pure (v := .bool (v39 == (14 : Int))) tt_ok rfl rfl ?_
        refine wl_pure tt_ok rfl rfl ?_
        replace h := bsome h; obtain ⟨v45, h, hg45⟩ := h
        refine wl_split (t := 42) rfl (fun hc => ?_) (fun hc => ?_)
        · replace h := ct hc h
          refine wl_run rfl ?_
          refine wl_pure tt_ok rfl rfl ?_
          replace h := bsome h; obtain ⟨v44, x44, h⟩ := h
          refine wl_run rfl ?_
          refine wl_cq Try.call9 rfl rfl rfl (q_rd (k_watch_Watch_Clashed (p0 := o39_0) o39_0N0 o39_0V0 x44) (pCons Sel.hc (pApp Sel.ha pNil)) (fun _ _ => trivial)) rfl ?_
          simp only [Option.some.injEq, Prod.mk.injEq] at h
          obtain rfl := h
          have h := hg45; clear hg45
          refine wl_pure (v := .bool v44) tt_ok rfl rfl ?_
          refine wl_pure tt_ok rfl rfl ?_
          refine wl_nil (wx_then (wc_ret ?_))
          simp only [Option.some.injEq] at h
          obtain rfl := h
          exact wx_pf tt_ok (.inl rfl) Try.results5 (Res.tmp rfl Res.nil) rfl
        replace h := cf hc h
        refine wl_skip rfl rfl ?_
        refine wl_skip rfl rfl ?_
        simp only [Option.some.injEq, Prod.mk.injEq] at h
        obtain rfl := h
        have h := hg45; clear hg45
        refine wl_pure (v := .bool false) tt_ok rfl rfl ?_
        refine wl_pure tt_ok rfl rfl ?_
        refine wl_nil (wx_then (wc_ret ?_))
        simp only [Option.some.injEq] at h
        obtain rfl := h
        exact wx_pf tt_ok (.inl rfl) Try.results5 (Res.tmp rfl Res.nil) rfl
      replace h := cf hc h
      refine wl_skip rfl rfl ?_
      refine wl_skip rfl rfl ?_
      refine wl_skip rfl rfl ?_
      simp only [Option.some.injEq, Prod.mk.injEq] at h
      obtain ⟨rfl, rfl, rfl, rfl⟩ := h
      have h := hg41; clear hg41; try dsimp only at h
      refine wl_pure (v := .bool false) tt_ok rfl rfl ?_
      refine wl_pure tt_ok rfl rfl ?_
      replace h := bsome h; obtain ⟨v45, h, hg45⟩ := h
      replace h := cf rfl h
      refine wl_skip rfl rfl ?_
      refine wl_skip rfl rfl ?_
      simp only [Option.some.injEq, Prod.mk.injEq] at h
      obtain rfl := h
      have h := hg45; clear hg45
      refine wl_pure (v := .bool false) tt_ok rfl rfl ?_
      refine wl_pure tt_ok rfl rfl ?_
      refine wl_nil (wx_then (wc_ret ?_))
      simp only [Option.some.injEq] at h
      obtain rfl := h
      exact wx_pf tt_ok (.inl rfl) Try.results5 (Res.tmp rfl Res.nil) rfl
    replace h := cf hc h
    refine wl_skip rfl rfl ?_
    refine wl_skip rfl rfl ?_
    refine wl_skip rfl rfl ?_
    simp only [Option.some.injEq, Prod.mk.injEq] at h
    obtain ⟨rfl, rfl, rfl, rfl⟩ := h
    have h := hg36; clear hg36; try dsimp only at h
    refine wl_pure (v := .bool false) tt_ok rfl rfl ?_
    refine wl_pure tt_ok rfl rfl ?_
    replace h := bsome h; obtain ⟨⟨v41, g41_n4_0_f0, g41_n4_0_f1, g41_n4_0_f2⟩, h, hg41⟩ := h
    replace h := cf rfl h
    refine wl_skip rfl rfl ?_
    refine wl_skip rfl rfl ?_
    refine wl_skip rfl rfl ?_
    simp only [Option.some.injEq, Prod.mk.injEq] at h
    obtain ⟨rfl, rfl, rfl, rfl⟩ := h
    have h := hg41; clear hg41; try dsimp only at h
    refine wl_pure (v := .bool false) tt_ok rfl rfl ?_
    refine wl_pure tt_ok rfl rfl ?_
    replace h := bsome h; obtain ⟨v45, h, hg45⟩ := h
    replace h := cf rfl h
    refine wl_skip rfl rfl ?_
    refine wl_skip rfl rfl ?_
    simp only [Option.some.injEq, Prod.mk.injEq] at h
    obtain rfl := h
    have h := hg45; clear hg45
    refine wl_pure (v := .bool false) tt_ok rfl rfl ?_
    refine wl_pure tt_ok rfl rfl ?_
    refine wl_nil (wx_then (wc_ret ?_))
    simp only [Option.some.injEq] at h
    obtain rfl := h
    exact wx_pf tt_ok (.inl rfl) Try.results5 (Res.tmp rfl Res.nil) rfl
  replace h := cf hc h
  refine wl_skip rfl rfl ?_
  simp only [Option.some.injEq, Prod.mk.injEq] at h
  obtain rfl := h
  have h := hg31; clear hg31
  refine wl_pure (v := .bool false) tt_ok rfl rfl ?_
  refine wl_pure tt_ok rfl rfl ?_
  replace h := bsome h; obtain ⟨⟨v36, g36_n4_0_f0, g36_n4_0_f1, g36_n4_0_f2⟩, h, hg36⟩ := h
  replace h := cf rfl h
  refine wl_skip rfl rfl ?_
  refine wl_skip rfl rfl ?_
  refine wl_skip rfl rfl ?_
  simp only [Option.some.injEq, Prod.mk.injEq] at h
  obtain ⟨rfl, rfl, rfl, rfl⟩ := h
  have h := hg36; clear hg36; try dsimp only at h
  refine wl_pure (v := .bool false) tt_ok rfl rfl ?_
  refine wl_pure tt_ok rfl rfl ?_
  replace h := bsome h; obtain ⟨⟨v41, g41_n4_0_f0, g41_n4_0_f1, g41_n4_0_f2⟩, h, hg41⟩ := h
  replace h := cf rfl h
  refine wl_skip rfl rfl ?_
  refine wl_skip rfl rfl ?_
  refine wl_skip rfl rfl ?_
  simp only [Option.some.injEq, Prod.mk.injEq] at h
  obtain ⟨rfl, rfl, rfl, rfl⟩ := h
  have h := hg41; clear hg41; try dsimp only at h
  refine wl_pure (v := .bool false) tt_ok rfl rfl ?_
  refine wl_pure tt_ok rfl rfl ?_
  replace h := bsome h; obtain ⟨v45, h, hg45⟩ := h
  replace h := cf rfl h
  refine wl_skip rfl rfl ?_
  refine wl_skip rfl rfl ?_
  simp only [Option.some.injEq, Prod.mk.injEq] at h
  obtain rfl := h
  have h := hg45; clear hg45
  refine wl_pure (v := .bool false) tt_ok rfl rfl ?_
  refine wl_pure tt_ok rfl rfl ?_
  refine wl_nil (wx_then (wc_ret ?_))
  simp only [Option.some.injEq] at h
  obtain rfl := h
  exact wx_pf tt_ok (.inl rfl) Try.results5 (Res.tmp rfl Res.nil) rfl

theorem k_hindcastlaw29_WatchFinds {F : Nat} {p0 : Int} {p1 : (Int × Int)} {p2 : (List Int)} {p2a0 : Option Addr} {p2n0 p2c0 : Nat} {r0 : Bool} (p2N0 : p2n0 = p2.length) (p2H0 : p2n0 ≤ p2c0) (h : m_hindcastlaw29_WatchFinds F p0 p1 p2 = some r0) :
    Pf Try.prog 3 [.int .u64 p0, .agg #[.int .u64 p1.1, .int .u64 p1.2], .slice p2a0 p2n0 p2c0] (fun w => Rds w [] [] p2a0 (flat (e1 .u64) p2)) (.bool r0) := by
  unfold m_hindcastlaw29_WatchFinds at h
  refine pf_of_wc Try.func3 rfl Try.ntmps3 rfl rfl (fun w0 hR => ?_)
  have p2S0 := hR
  refine wc_seq (wc_region ?_)
  refine wl_box rfl rfl rfl (fun b4 => ?_)
  refine wl_pure tt_ok rfl rfl ?_
  refine wl_nil (wx_then (wc_seq (wc_region ?_)))
  replace h := bsome h; obtain ⟨v11, x11, h⟩ := h
  rcases v11 with _ | v11s
  · replace h := poN h
    refine wl_cs Try.call4 rfl rfl rfl (s_sp (k_watch_New_none x11) pNil (fun _ _ => trivial)) rfl ?_
    rintro _ _ ⟨_, ⟨rfl, rfl⟩, rfl⟩
    replace h := bsome h; obtain ⟨v12, x12, h⟩ := h
    rcases v12 with _ | v12s
    · replace h := poN h
      refine wl_cs Try.call4 rfl rfl rfl (s_sp (k_watch_New_none x12) pNil (fun _ _ => trivial)) rfl ?_
      rintro _ _ ⟨_, ⟨rfl, rfl⟩, rfl⟩
      iterate 2 refine wl_pure tt_ok rfl rfl ?_
      refine wl_nil (wx_then (wc_seq (wc_seq (wc_region ?_))))
      refine wl_pure tt_ok rfl rfl ?_
      refine wl_pure (v := .bool true) tt_ok rfl rfl ?_
      refine wl_pure tt_ok rfl rfl ?_
      refine wl_skip rfl rfl ?_
      refine wl_skip rfl rfl ?_
      refine wl_pure (v := .bool true) tt_ok rfl rfl ?_
      refine wl_nil (wx_then ?_)
      refine wc_cond_true rfl ?_
      refine wc_seq (wc_region ?_)
      refine wl_pure tt_ok rfl rfl ?_
      refine wl_nil (wx_then (wc_ret (wx_then_ret ?_)))
      simp only [Option.some.injEq] at h
      obtain rfl := h
      exact wx_pf tt_ok (.inl rfl) Try.results3 (Res.tmp rfl Res.nil) rfl
    replace h := poS h
    refine wl_cs Try.call4 rfl rfl rfl (s_sp (k_watch_New x12) pNil (fun _ _ => trivial)) rfl ?_
    rintro _ _ ⟨_, ⟨b12_0, v12sa0, v12sn0, v12sc0, v12sB0, v12sN0, v12sV0, rfl, rfl⟩, rfl⟩
    iterate 2 refine wl_pure tt_ok rfl rfl ?_
    refine wl_nil (wx_then (wc_seq (wc_seq (wc_region ?_))))
    refine wl_pure tt_ok rfl rfl ?_
    refine wl_pure (v := .bool true) tt_ok rfl rfl ?_
    refine wl_pure tt_ok rfl rfl ?_
    refine wl_skip rfl rfl ?_
    refine wl_skip rfl rfl ?_
    refine wl_pure (v := .bool true) tt_ok rfl rfl ?_
    refine wl_nil (wx_then ?_)
    refine wc_cond_true rfl ?_
    refine wc_seq (wc_region ?_)
    refine wl_pure tt_ok rfl rfl ?_
    refine wl_nil (wx_then (wc_ret (wx_then_ret ?_)))
    simp only [Option.some.injEq] at h
    obtain rfl := h
    exact wx_pf tt_ok (.inl rfl) Try.results3 (Res.tmp rfl Res.nil) rfl
  replace h := poS h
  refine wl_cs Try.call4 rfl rfl rfl (s_sp (k_watch_New x11) pNil (fun _ _ => trivial)) rfl ?_
  rintro _ _ ⟨_, ⟨b11_0, v11sa0, v11sn0, v11sc0, v11sB0, v11sN0, v11sV0, rfl, rfl⟩, rfl⟩
  replace h := bsome h; obtain ⟨v12, x12, h⟩ := h
  rcases v12 with _ | v12s
  · replace h := poN h
    refine wl_cs Try.call4 rfl rfl rfl (s_sp (k_watch_New_none x12) pNil (fun _ _ => trivial)) rfl ?_
    rintro _ _ ⟨_, ⟨rfl, rfl⟩, rfl⟩
    iterate 2 refine wl_pure tt_ok rfl rfl ?_
    refine wl_nil (wx_then (wc_seq (wc_seq (wc_region ?_))))
    refine wl_pure tt_ok rfl rfl ?_
    refine wl_pure (v := .bool false) tt_ok rfl rfl ?_
    refine wl_pure tt_ok rfl rfl ?_
    refine wl_run rfl ?_
    refine wl_pure tt_ok rfl rfl ?_
    refine wl_run rfl ?_
    refine wl_pure (v := .bool true) tt_ok rfl rfl ?_
    refine wl_pure (v := .bool true) tt_ok rfl rfl ?_
    refine wl_nil (wx_then ?_)
    refine wc_cond_true rfl ?_
    refine wc_seq (wc_region ?_)
    refine wl_pure tt_ok rfl rfl ?_
    refine wl_nil (wx_then (wc_ret (wx_then_ret ?_)))
    simp only [Option.some.injEq] at h
    obtain rfl := h
    exact wx_pf tt_ok (.inl rfl) Try.results3 (Res.tmp rfl Res.nil) rfl
  replace h := poS h
  refine wl_cs Try.call4 rfl rfl rfl (s_sp (k_watch_New x12) pNil (fun _ _ => trivial)) rfl ?_
  rintro _ _ ⟨_, ⟨b12_0, v12sa0, v12sn0, v12sc0, v12sB0, v12sN0, v12sV0, rfl, rfl⟩, rfl⟩
  iterate 2 refine wl_pure tt_ok rfl rfl ?_
  refine wl_nil (wx_then (wc_seq (wc_seq (wc_region ?_))))
  refine wl_pure tt_ok rfl rfl ?_
  refine wl_pure (v := .bool false) tt_ok rfl rfl ?_
  refine wl_pure tt_ok rfl rfl ?_
  refine wl_run rfl ?_
  refine wl_pure tt_ok rfl rfl ?_
  refine wl_run rfl ?_
  refine wl_pure (v := .bool false) tt_ok rfl rfl ?_
  refine wl_pure (v := .bool false) tt_ok rfl rfl ?_
  refine wl_nil (wx_then ?_)
  refine wc_cond_false rfl ?_
  refine wc_skip (wx_then (wc_seq (wc_seq (wc_region ?_))))
  refine wl_pure tt_ok rfl rfl ?_
  refine wl_val (v := .int .i64 (p2.length : Int)) (val_len tt_ok rfl rfl p2N0) rfl ?_
  refine wl_pure (v := .bool (decide ((7 : Int) < (p2.length : Int)))) tt_ok rfl rfl ?_
  refine wl_nil (wx_then ?_)
  refine wc_cond rfl (fun hc => ?_) (fun hc => ?_)
  · replace h := ct hc h
    refine wc_seq (wc_region ?_)
    replace h := bsome h; obtain ⟨v22, x22, h⟩ := h
    refine wl_cq Try.call5 rfl rfl rfl (q_pf (k_hindcastlaw29_awake x22) (fun _ _ => trivial)) rfl ?_
    refine wl_pure tt_ok rfl rfl ?_
    refine wl_nil (wx_then (wc_ret (wx_then_ret ?_)))
    simp only [Option.some.injEq] at h
    obtain rfl := h
    exact wx_pf tt_ok (.inl rfl) Try.results3 (Res.tmp rfl Res.nil) rfl
  replace h := cf hc h
  refine wc_skip (wx_then (wc_seq (wc_region ?_)))
  refine wl_pure tt_ok rfl rfl ?_
  refine wl_pure (v := .int .u64 (Int.tmod p0 288230376151711744)) tt_ok rfl rfl ?_
  refine wl_pure (v := .int .u64 (IntKind.wrap .u64 ((Int.tmod p0 288230376151711744) * (4 : Int)))) tt_ok rfl rfl ?_
  refine wl_pure tt_ok rfl rfl ?_
  refine wl_nil (wx_then (wc_seq (wc_seq (wc_region ?_))))
  iterate 2 refine wl_pure tt_ok rfl rfl ?_
  refine wl_val (v := .pointer (some ⟨b4, 0, none⟩)) (val_ia (j := 0) tt_ok rfl rfl rfl rfl rfl rfl rfl) rfl ?_
  refine wl_val (v := .int .u64 p1.1) (val_load tt_ok rfl (List.Mem.tail _ (mR (List.Mem.tail _ (mR (List.Mem.head _))))) rfl) rfl ?_
  replace h := bsome h; obtain ⟨⟨o30_0, v30⟩, x30, h⟩ := h; try dsimp only at h
  refine wl_cs Try.call6 rfl rfl rfl (s_sp (k_watch_Watch_Own (p0 := v11s) v11sN0 v11sV0 x30) (pCons (Sel.sc (Sel.sa Sel.hc)) (pApp (Sel.sc (Sel.sa Sel.ha)) pNil)) (fun _ _ => trivial)) rfl ?_
  rintro _ _ ⟨_, ⟨o30_0a0, o30_0n0, o30_0c0, o30_0B0, o30_0N0, o30_0V0, rfl, rfl⟩, rfl⟩
  refine wl_pure (v := .bool (v30 != (0 : Int))) tt_ok rfl rfl ?_
  refine wl_pure tt_ok rfl rfl ?_
  replace h := bsome h; obtain ⟨⟨v39, g39_n12_0_f0, g39_n12_0_f1, g39_n12_0_f2⟩, h, hg39⟩ := h
  refine wl_split (t := 32) rfl (fun hc => ?_) (fun hc => ?_)
  · replace h := ct hc h
    refine wl_skip rfl rfl ?_
    refine wl_skip rfl rfl ?_
    refine wl_skip rfl rfl ?_
    refine wl_skip rfl rfl ?_
    refine wl_skip rfl rfl ?_
    refine wl_skip rfl rfl ?_
    simp only [Option.some.injEq, Prod.mk.injEq] at h
    obtain ⟨rfl, rfl, rfl, rfl⟩ := h
    have h := hg39; clear hg39; try dsimp only at h
    refine wl_pure (v := .bool true) tt_ok rfl rfl ?_
    refine wl_nil (wx_then ?_)
    replace h := ct rfl h
    refine wc_cond_true rfl ?_
    refine wc_seq (wc_region ?_)
    refine wl_pure tt_ok rfl rfl ?_
    refine wl_nil (wx_then (wc_ret (wx_then_ret ?_)))
    simp only [Option.some.injEq] at h
    obtain rfl := h
    exact wx_pf tt_ok (.inl rfl) Try.results3 (Res.tmp rfl Res.nil) rfl
  replace h := cf hc h
  refine wl_run rfl ?_
  refine wl_pure tt_ok rfl rfl ?_
  refine wl_run rfl ?_
  refine wl_pure tt_ok rfl rfl ?_
  refine wl_run rfl ?_
  refine wl_val (v := .pointer (some ⟨b4, 0, none⟩)) (val_ia (j := 0) tt_ok rfl rfl rfl rfl rfl rfl rfl) rfl ?_
  refine wl_run rfl ?_
  refine wl_val (v := .int .u64 p1.1) (val_load tt_ok rfl (List.Mem.tail _ (mR (List.Mem.tail _ (mR (List.Mem.head _))))) rfl) rfl ?_
  replace h := bsome h; obtain ⟨⟨o37_0, v37⟩, x37, h⟩ := h; try dsimp only at h
  refine wl_run rfl ?_
  refine wl_cs Try.call7 rfl rfl rfl (s_sp (k_watch_Watch_Other (p0 := v12s) v12sN0 v12sV0 x37) (pCons (Sel.sc (Sel.sa Sel.hc)) (pApp (Sel.sc (Sel.sa Sel.ha)) pNil)) (fun _ _ => trivial)) rfl ?_
  rintro _ _ ⟨_, ⟨o37_0a0, o37_0n0, o37_0c0, o37_0B0, o37_0N0, o37_0V0, rfl, rfl⟩, rfl⟩
  refine wl_run rfl ?_
  refine wl_pure (v := .bool (v37 != (0 : Int))) tt_ok rfl rfl ?_
  simp only [Option.some.injEq, Prod.mk.injEq] at h
  obtain ⟨rfl, rfl, rfl, rfl⟩ := h
  have h := hg39; clear hg39; try dsimp only at h
  refine wl_pure (v := .bool (v37 != (0 : Int))) tt_ok rfl rfl ?_
  refine wl_nil (wx_then ?_)
  refine wc_cond rfl (fun hc => ?_) (fun hc => ?_)
  · replace h := ct hc h
    refine wc_seq (wc_region ?_)
    refine wl_pure tt_ok rfl rfl ?_
    refine wl_nil (wx_then (wc_ret (wx_then_ret ?_)))
    simp only [Option.some.injEq] at h
    obtain rfl := h
    exact wx_pf tt_ok (.inl rfl) Try.results3 (Res.tmp rfl Res.nil) rfl
  replace h := cf hc h
  refine wc_skip (wx_then (wc_seq (wc_seq (wc_region ?_))))
  refine wl_pure tt_ok rfl rfl ?_
  refine wl_nil (wx_then (wc_block ?_))
  replace h := bsome h; obtain ⟨o35, h, hl35⟩ := h
  refine wc_loop (fun m E L => ∃ (j35_9 : Int) (j35_n11_0_f0 : Int) (j35_n11_0_f1 : (List T_watch_entry)) (j35_n11_0_f2 : Bool) (j35_n12_0_f0 : Int) (j35_n12_0_f1 : (List T_watch_entry)) (j35_n12_0_f2 : Bool) (j35_n11_0_f1a0 : Option Addr) (j35_n11_0_f1n0 : Nat) (j35_n11_0_f1c0 : Nat) (j35_n11_0_f1B0 : List Blk) (j35_n12_0_f1a0 : Option Addr) (j35_n12_0_f1n0 : Nat) (j35_n12_0_f1c0 : Nat) (j35_n12_0_f1B0 : List Blk), m_hindcastlaw29_WatchFinds_L34 F p0 p2 m j35_9 j35_n11_0_f0 j35_n11_0_f1 j35_n11_0_f2 j35_n12_0_f0 j35_n12_0_f1 j35_n12_0_f2 = some o35 ∧ j35_n11_0_f1n0 = j35_n11_0_f1.length ∧ Own 41 5 j35_n11_0_f1a0 j35_n11_0_f1n0 j35_n11_0_f1c0 (flat c_T_watch_entry j35_n11_0_f1) j35_n11_0_f1B0 ∧ j35_n12_0_f1n0 = j35_n12_0_f1.length ∧ Own 41 5 j35_n12_0_f1a0 j35_n12_0_f1n0 j35_n12_0_f1c0 (flat c_T_watch_entry j35_n12_0_f1) j35_n12_0_f1B0 ∧ E = [(0, .int .u64 (IntKind.wrap .u64 ((Int.tmod p0 288230376151711744) * (4 : Int)))), (2, .slice p2a0 p2n0 p2c0), (4, .pointer (some ⟨b4, 0, none⟩)), (6, .bool false), (7, .pointer (some ⟨b11_0, 0, none⟩)), (8, .pointer (some ⟨b12_0, 0, none⟩)), (9, .int .i64 j35_9)] ∧ L = (⟨b4, [.int .u64 p1.1, .int .u64 p1.2], 23, (0, 0)⟩ :: (⟨b11_0, [.int .u64 j35_n11_0_f0, .slice j35_n11_0_f1a0 j35_n11_0_f1n0 j35_n11_0_f1c0, .bool j35_n11_0_f2], 33, (0, 0)⟩ :: (⟨b12_0, [.int .u64 j35_n12_0_f0, .slice j35_n12_0_f1a0 j35_n12_0_f1n0 j35_n12_0_f1c0, .bool j35_n12_0_f2], 33, (0, 0)⟩ :: (j35_n11_0_f1B0 ++ (j35_n12_0_f1B0 ++ [])))))) F ⟨(0 : Int), o30_0.rows, o30_0.l, o30_0.clashed, o37_0.rows, o37_0.l, o37_0.clashed, o30_0a0, o30_0n0, o30_0c0, o30_0B0, o37_0a0, o37_0n0, o37_0c0, o37_0B0, h, o30_0N0, o30_0V0, o37_0N0, o37_0V0, rfl, rfl⟩ (agree_cons rfl (agree_cons rfl (agree_cons rfl (agree_cons rfl (agree_cons rfl (agree_cons rfl (agree_cons rfl agree_nil))))))) (pSub (pCons (Sel.sc (Sel.sa (Sel.sc (Sel.sa Sel.hc)))) (pCons (Sel.sc (Sel.sa Sel.hc)) (pCons Sel.hc (pApp (Sel.sa Sel.ha) (pApp Sel.ha pNil)))))) ?_
  clear h
  rintro m35 _ _ ⟨j35_9, j35_n11_0_f0, j35_n11_0_f1, j35_n11_0_f2, j35_n12_0_f0, j35_n12_0_f1, j35_n12_0_f2, j35_n11_0_f1a0, j35_n11_0_f1n0, j35_n11_0_f1c0, j35_n11_0_f1B0, j35_n12_0_f1a0, j35_n12_0_f1n0, j35_n12_0_f1c0, j35_n12_0_f1B0, h, j35_n11_0_f1N0, j35_n11_0_f1V0, j35_n12_0_f1N0, j35_n12_0_f1V0, rfl, rfl⟩
  rcases m35 with _ | m35
  · rw [m_hindcastlaw29_WatchFinds_L34.eq_1] at h; cases h
  rw [m_hindcastlaw29_WatchFinds_L34.eq_2] at h
  refine wc_seq (wc_seq (wc_region ?_))
  iterate 2 refine wl_pure tt_ok rfl rfl ?_
  refine wl_val (v := .int .i64 (p2.length : Int)) (val_len tt_ok rfl rfl p2N0) rfl ?_
  refine wl_pure (v := .bool (decide (j35_9 < (p2.length : Int)))) tt_ok rfl rfl ?_
  refine wl_nil (wx_then ?_)
  refine wc_cond rfl (fun hc => ?_) (fun hc => ?_)
  · replace h := ct hc h
    refine wc_skip (wx_then (wc_seq (wc_block (wc_seq (wc_region ?_)))))
    iterate 3 refine wl_pure tt_ok rfl rfl ?_
    refine wl_pure (v := .int .i64 (IntKind.wrap .i64 (j35_9 + (1 : Int)))) tt_ok rfl rfl ?_
    refine wl_pure (v := .int .u64 (IntKind.wrap .u64 (IntKind.wrap .i64 (j35_9 + (1 : Int))))) tt_ok rfl rfl ?_
    refine wl_pure (v := .int .u64 (IntKind.wrap .u64 ((4 : Int) * (IntKind.wrap .u64 (IntKind.wrap .i64 (j35_9 + (1 : Int))))))) tt_ok rfl rfl ?_
    refine wl_pure (v := .int .u64 (IntKind.wrap .u64 ((IntKind.wrap .u64 ((Int.tmod p0 288230376151711744) * (4 : Int))) + (IntKind.wrap .u64 ((4 : Int) * (IntKind.wrap .u64 (IntKind.wrap .i64 (j35_9 + (1 : Int))))))))) tt_ok rfl rfl ?_
    iterate 2 refine wl_pure tt_ok rfl rfl ?_
    replace h := bsome h; obtain ⟨v55, x55, h⟩ := h
    refine wl_val (v := .pointer (some ((adOf p2a0).add (j35_9.toNat * 1 + 0)))) (val_ix (enc := (e1 .u64)) tt_ok rfl rfl rfl rfl p2N0 p2S0 (e1_len _) rfl x55) rfl ?_
    refine wl_val (v := .int .u64 v55) (val_le (enc := (e1 .u64)) (xs := p2) tt_ok rfl p2S0 rsub_nil (e1_len _) x55 rfl) rfl ?_
    replace h := bsome h; obtain ⟨⟨o57_0, v57⟩, x57, h⟩ := h; try dsimp only at h
    refine wl_cs Try.call6 rfl rfl rfl (s_sp (k_watch_Watch_Own (p0 := (T_watch_Watch.mk j35_n11_0_f0 j35_n11_0_f1 j35_n11_0_f2)) j35_n11_0_f1N0 j35_n11_0_f1V0 x57) (pCons (Sel.sc Sel.hc) (pApp (Sel.sc (Sel.sc Sel.ha)) pNil)) (fun _ _ => trivial)) rfl ?_
    rintro _ _ ⟨_, ⟨o57_0a0, o57_0n0, o57_0c0, o57_0B0, o57_0N0, o57_0V0, rfl, rfl⟩, rfl⟩
    refine wl_pure (v := .bool (v57 != (0 : Int))) tt_ok rfl rfl ?_
    refine wl_pure tt_ok rfl rfl ?_
    replace h := bsome h; obtain ⟨⟨v73, g73_n12_0_f0, g73_n12_0_f1, g73_n12_0_f2⟩, h, hg73⟩ := h
    refine wl_split (t := 59) rfl (fun hc => ?_) (fun hc => ?_)
    · replace h := ct hc h
      refine wl_skip rfl rfl ?_
      refine wl_skip rfl rfl ?_
      refine wl_skip rfl rfl ?_
      refine wl_skip rfl rfl ?_
      refine wl_skip rfl rfl ?_
      refine wl_skip rfl rfl ?_
      refine wl_skip rfl rfl ?_
      refine wl_skip rfl rfl ?_
      refine wl_skip rfl rfl ?_
      refine wl_skip rfl rfl ?_
      refine wl_skip rfl rfl ?_
      refine wl_skip rfl rfl ?_
      refine wl_skip rfl rfl ?_
      simp only [Option.some.injEq, Prod.mk.injEq] at h
      obtain ⟨rfl, rfl, rfl, rfl⟩ := h
      have h := hg73; clear hg73; try dsimp only at h
      refine wl_pure (v := .bool true) tt_ok rfl rfl ?_
      refine wl_nil (wx_then ?_)
      replace h := ct rfl h
      refine wc_cond_true rfl ?_
      refine wc_seq (wc_region ?_)
      refine wl_pure tt_ok rfl rfl ?_
      refine wl_nil (wx_then (wc_ret (wx_block_ret (wx_then_ret ?_))))
      obtain rfl := Option.some.inj h
      have h := hl35; clear hl35; try dsimp only [orE_l, orE_r] at h
      refine wx_then_ret (wx_block_ret (wx_then_ret ?_))
      simp only [Option.some.injEq] at h
      obtain rfl := h
      exact wx_pf tt_ok (.inl rfl) Try.results3 (Res.tmp rfl Res.nil) rfl
    replace h := cf hc h
    refine wl_run rfl ?_
    refine wl_pure tt_ok rfl rfl ?_
    refine wl_run rfl ?_
    refine wl_pure tt_ok rfl rfl ?_
    refine wl_run rfl ?_
    refine wl_pure tt_ok rfl rfl ?_
    refine wl_run rfl ?_
    refine wl_pure (v := .int .i64 (IntKind.wrap .i64 (j35_9 + (1 : Int)))) tt_ok rfl rfl ?_
    refine wl_run rfl ?_
    refine wl_pure (v := .int .u64 (IntKind.wrap .u64 (IntKind.wrap .i64 (j35_9 + (1 : Int))))) tt_ok rfl rfl ?_
    refine wl_run rfl ?_
    refine wl_pure (v := .int .u64 (IntKind.wrap .u64 ((4 : Int) * (IntKind.wrap .u64 (IntKind.wrap .i64 (j35_9 + (1 : Int))))))) tt_ok rfl rfl ?_
    refine wl_run rfl ?_
    refine wl_pure (v := .int .u64 (IntKind.wrap .u64 ((IntKind.wrap .u64 ((Int.tmod p0 288230376151711744) * (4 : Int))) + (IntKind.wrap .u64 ((4 : Int) * (IntKind.wrap .u64 (IntKind.wrap .i64 (j35_9 + (1 : Int))))))))) tt_ok rfl rfl ?_
    refine wl_run rfl ?_
    refine wl_pure tt_ok rfl rfl ?_
    refine wl_run rfl ?_
    refine wl_pure tt_ok rfl rfl ?_
    replace h := bsome h; obtain ⟨v69, x69, h⟩ := h
    refine wl_run rfl ?_
    refine wl_val (v := .pointer (some ((adOf p2a0).add (j35_9.toNat * 1 + 0)))) (val_ix (enc := (e1 .u64)) tt_ok rfl rfl rfl rfl p2N0 p2S0 (e1_len _) rfl x69) rfl ?_
    refine wl_run rfl ?_
    refine wl_val (v := .int .u64 v69) (val_le (enc := (e1 .u64)) (xs := p2) tt_ok rfl p2S0 rsub_nil (e1_len _) x69 rfl) rfl ?_
    replace h := bsome h; obtain ⟨⟨o71_0, v71⟩, x71, h⟩ := h; try dsimp only at h
    refine wl_run rfl ?_
    refine wl_cs Try.call7 rfl rfl rfl (s_sp (k_watch_Watch_Other (p0 := (T_watch_Watch.mk j35_n12_0_f0 j35_n12_0_f1 j35_n12_0_f2)) j35_n12_0_f1N0 j35_n12_0_f1V0 x71) (pCons (Sel.sc (Sel.sa (Sel.sc Sel.hc))) (pApp (Sel.sc (Sel.sa (Sel.sc Sel.ha))) pNil)) (fun _ _ => trivial)) rfl ?_
    rintro _ _ ⟨_, ⟨o71_0a0, o71_0n0, o71_0c0, o71_0B0, o71_0N0, o71_0V0, rfl, rfl⟩, rfl⟩
    refine wl_run rfl ?_
    refine wl_pure (v := .bool (v71 != (0 : Int))) tt_ok rfl rfl ?_
    simp only [Option.some.injEq, Prod.mk.injEq] at h
    obtain ⟨rfl, rfl, rfl, rfl⟩ := h
    have h := hg73; clear hg73; try dsimp only at h
    refine wl_pure (v := .bool (v71 != (0 : Int))) tt_ok rfl rfl ?_
    refine wl_nil (wx_then ?_)
    refine wc_cond rfl (fun hc => ?_) (fun hc => ?_)
    · replace h := ct hc h
      refine wc_seq (wc_region ?_)
      refine wl_pure tt_ok rfl rfl ?_
      refine wl_nil (wx_then (wc_ret (wx_block_ret (wx_then_ret ?_))))
      obtain rfl := Option.some.inj h
      have h := hl35; clear hl35; try dsimp only [orE_l, orE_r] at h
      refine wx_then_ret (wx_block_ret (wx_then_ret ?_))
      simp only [Option.some.injEq] at h
      obtain rfl := h
      exact wx_pf tt_ok (.inl rfl) Try.results3 (Res.tmp rfl Res.nil) rfl
    replace h := cf hc h
    refine wc_skip (wx_block (wx_then (wc_region ?_)))
    refine wl_pure tt_ok rfl rfl ?_
    refine wl_pure (v := .int .i64 (IntKind.wrap .i64 (j35_9 + (1 : Int)))) tt_ok rfl rfl ?_
    refine wl_pure tt_ok rfl rfl ?_
    refine wl_nil ?_
    exact wx_round m35 (Nat.lt_succ_self m35) ⟨(IntKind.wrap .i64 (j35_9 + (1 : Int))), o57_0.rows, o57_0.l, o57_0.clashed, o71_0.rows, o71_0.l, o71_0.clashed, o57_0a0, o57_0n0, o57_0c0, o57_0B0, o71_0a0, o71_0n0, o71_0c0, o71_0B0, h, o57_0N0, o57_0V0, o71_0N0, o71_0V0, rfl, rfl⟩ (agree_cons rfl (agree_cons rfl (agree_cons rfl (agree_cons rfl (agree_cons rfl (agree_cons rfl (agree_cons rfl agree_nil))))))) (pSub (pCons (Sel.sc (Sel.sa (Sel.sc (Sel.sa Sel.hc)))) (pCons (Sel.sc (Sel.sa Sel.hc)) (pCons Sel.hc (pApp (Sel.sa Sel.ha) (pApp Sel.ha pNil))))))
  replace h := cf hc h
  refine wc_exit (wx_then_exit ?_)
  obtain rfl := Option.some.inj h
  have h := hl35; clear hl35; try dsimp only [orE_l, orE_r] at h
  refine wx_then_exit (wx_block_exit (wx_then (wc_seq (wc_region ?_))))
  refine wl_val (v := .pointer (some ⟨b4, 0, none⟩)) (val_ia (j := 0) tt_ok rfl rfl rfl rfl rfl rfl rfl) rfl ?_
  refine wl_val (v := .int .u64 p1.1) (val_load tt_ok rfl (List.Mem.head _) rfl) rfl ?_
  refine wl_val (v := .pointer (some ⟨b4, 1, none⟩)) (val_ia (j := 1) tt_ok rfl rfl rfl rfl rfl rfl rfl) rfl ?_
  refine wl_val (v := .int .u64 p1.2) (val_load tt_ok rfl (List.Mem.head _) rfl) rfl ?_
  refine wl_pure (v := .bool (p1.1 != p1.2)) tt_ok rfl rfl ?_
  refine wl_pure tt_ok rfl rfl ?_
  refine wl_nil (wx_then (wc_seq (wc_region ?_)))
  iterate 2 refine wl_pure tt_ok rfl rfl ?_
  refine wl_val (v := .pointer (some ⟨b4, 1, none⟩)) (val_ia (j := 1) tt_ok rfl rfl rfl rfl rfl rfl rfl) rfl ?_
  refine wl_val (v := .int .u64 p1.2) (val_load tt_ok rfl (List.Mem.head _) rfl) rfl ?_
  replace h := bsome h; obtain ⟨⟨o83_0, v83⟩, x83, h⟩ := h; try dsimp only at h
  refine wl_cs Try.call7 rfl rfl rfl (s_sp (k_watch_Watch_Other (p0 := (T_watch_Watch.mk j35_n11_0_f0 j35_n11_0_f1 j35_n11_0_f2)) j35_n11_0_f1N0 j35_n11_0_f1V0 x83) (pCons (Sel.sc Sel.hc) (pApp (Sel.sc (Sel.sc Sel.ha)) pNil)) (fun _ _ => trivial)) rfl ?_
  rintro _ _ ⟨_, ⟨o83_0a0, o83_0n0, o83_0c0, o83_0B0, o83_0N0, o83_0V0, rfl, rfl⟩, rfl⟩
  refine wl_pure (v := .bool (v83 == (14 : Int))) tt_ok rfl rfl ?_
  refine wl_pure tt_ok rfl rfl ?_
  refine wl_pure (v := .bool ((v83 == (14 : Int)) == (p1.1 != p1.2))) tt_ok rfl rfl ?_
  refine wl_pure tt_ok rfl rfl ?_
  replace h := bsome h; obtain ⟨⟨v96, g96_n12_0_f0, g96_n12_0_f1, g96_n12_0_f2⟩, h, hg96⟩ := h
  refine wl_split (t := 87) rfl (fun hc => ?_) (fun hc => ?_)
  · replace h := ct hc h
    refine wl_run rfl ?_
    refine wl_pure tt_ok rfl rfl ?_
    refine wl_run rfl ?_
    refine wl_pure tt_ok rfl rfl ?_
    refine wl_run rfl ?_
    refine wl_val (v := .pointer (some ⟨b4, 1, none⟩)) (val_ia (j := 1) tt_ok rfl rfl rfl rfl rfl rfl rfl) rfl ?_
    refine wl_run rfl ?_
    refine wl_val (v := .int .u64 p1.2) (val_load tt_ok rfl (List.Mem.tail _ (mR (List.Mem.head _))) rfl) rfl ?_
    replace h := bsome h; obtain ⟨⟨o92_0, v92⟩, x92, h⟩ := h; try dsimp only at h
    refine wl_run rfl ?_
    refine wl_cs Try.call7 rfl rfl rfl (s_sp (k_watch_Watch_Other (p0 := (T_watch_Watch.mk j35_n12_0_f0 j35_n12_0_f1 j35_n12_0_f2)) j35_n12_0_f1N0 j35_n12_0_f1V0 x92) (pCons (Sel.sc (Sel.sa (Sel.sc Sel.hc))) (pApp (Sel.sc (Sel.sa (Sel.sc Sel.ha))) pNil)) (fun _ _ => trivial)) rfl ?_
    rintro _ _ ⟨_, ⟨o92_0a0, o92_0n0, o92_0c0, o92_0B0, o92_0N0, o92_0V0, rfl, rfl⟩, rfl⟩
    refine wl_run rfl ?_
    refine wl_pure (v := .bool (v92 == (14 : Int))) tt_ok rfl rfl ?_
    refine wl_run rfl ?_
    refine wl_pure tt_ok rfl rfl ?_
    refine wl_run rfl ?_
    refine wl_pure (v := .bool ((v92 == (14 : Int)) == (p1.1 != p1.2))) tt_ok rfl rfl ?_
    simp only [Option.some.injEq, Prod.mk.injEq] at h
    obtain ⟨rfl, rfl, rfl, rfl⟩ := h
    have h := hg96; clear hg96; try dsimp only at h
    refine wl_pure (v := .bool ((v92 == (14 : Int)) == (p1.1 != p1.2))) tt_ok rfl rfl ?_
    refine wl_pure tt_ok rfl rfl ?_
    replace h := bsome h; obtain ⟨v99, h, hg99⟩ := h
    refine wl_split (t := 97) rfl (fun hc => ?_) (fun hc => ?_)
    · replace h := ct hc h
      replace h := bsome h; obtain ⟨v98, x98, h⟩ := h
      refine wl_run rfl ?_
      refine wl_cq Try.call5 rfl rfl rfl (q_pf (k_hindcastlaw29_awake x98) (fun _ _ => trivial)) rfl ?_
      simp only [Option.some.injEq, Prod.mk.injEq] at h
      obtain rfl := h
      have h := hg99; clear hg99
      refine wl_pure (v := .bool v98) tt_ok rfl rfl ?_
      refine wl_pure tt_ok rfl rfl ?_
      refine wl_nil (wx_then (wc_ret ?_))
      simp only [Option.some.injEq] at h
      obtain rfl := h
      exact wx_pf tt_ok (.inl rfl) Try.results3 (Res.tmp rfl Res.nil) rfl
    replace h := cf hc h
    refine wl_skip rfl rfl ?_
    simp only [Option.some.injEq, Prod.mk.injEq] at h
    obtain rfl := h
    have h := hg99; clear hg99
    refine wl_pure (v := .bool false) tt_ok rfl rfl ?_
    refine wl_pure tt_ok rfl rfl ?_
    refine wl_nil (wx_then (wc_ret ?_))
    simp only [Option.some.injEq] at h
    obtain rfl := h
    exact wx_pf tt_ok (.inl rfl) Try.results3 (Res.tmp rfl Res.nil) rfl
  replace h := cf hc h
  refine wl_skip rfl rfl ?_
  refine wl_skip rfl rfl ?_
  refine wl_skip rfl rfl ?_
  refine wl_skip rfl rfl ?_
  refine wl_skip rfl rfl ?_
  refine wl_skip rfl rfl ?_
  refine wl_skip rfl rfl ?_
  refine wl_skip rfl rfl ?_
  simp only [Option.some.injEq, Prod.mk.injEq] at h
  obtain ⟨rfl, rfl, rfl, rfl⟩ := h
  have h := hg96; clear hg96; try dsimp only at h
  refine wl_pure (v := .bool false) tt_ok rfl rfl ?_
  refine wl_pure tt_ok rfl rfl ?_
  replace h := bsome h; obtain ⟨v99, h, hg99⟩ := h
  replace h := cf rfl h
  refine wl_skip rfl rfl ?_
  simp only [Option.some.injEq, Prod.mk.injEq] at h
  obtain rfl := h
  have h := hg99; clear hg99
  refine wl_pure (v := .bool false) tt_ok rfl rfl ?_
  refine wl_pure tt_ok rfl rfl ?_
  refine wl_nil (wx_then (wc_ret ?_))
  simp only [Option.some.injEq] at h
  obtain rfl := h
  exact wx_pf tt_ok (.inl rfl) Try.results3 (Res.tmp rfl Res.nil) rfl

end Go.Proofs.Ythlnellnlhkphaa
