/-
  Each function computes what its model says. Printed by a program of this claim's own.
-/
import Derived.Test.YtfjmhnfaoifehaaTab
import Derived.Test.YtfjmhnfaoifehaaMod
namespace Go.Proofs.Ytfjmhnfaoifehaa
open Go.Proofs.Ytfjmhnfaoifehaa.Eng
set_option linter.unusedVariables false
set_option linter.unusedSimpArgs false
set_option maxHeartbeats 4000000
set_option maxRecDepth 20000

theorem k_queue_New {F : Nat} {p0 : Int} {r0 : T_queue_Queue} (h : m_queue_New F p0 = some r0) :
    SpD Try.prog 8 [.int .u64 p0] [] (fun w => True) (fun v D => ∃ (r0b : Nat) (r0a0 : Option Addr) (r0n0 r0c0 : Nat) (r0B0 : List Blk), r0n0 = r0.l.length ∧ Own 31 1 r0a0 r0n0 r0c0 (flat (e1 .u8) r0.l) r0B0 ∧ v = .pointer (some ⟨r0b, 0, none⟩) ∧ D = fun F => (⟨r0b, [.int .u64 r0.first_, .slice r0a0 r0n0 r0c0, .int .u8 r0.last], 52, (0, 0)⟩ :: (r0B0 ++ F))) := by
  unfold m_queue_New at h
  refine sp_of_wc Try.func8 rfl Try.ntmps8 rfl rfl (fun w0 hR => ?_)
  refine wc_seq ?_
  refine wc_region ?_
  refine wl_pure tt_ok rfl rfl ?_
  refine wl_nil ?_
  refine wx_then ?_
  refine wc_seq ?_
  refine wc_region ?_
  refine wl_pure tt_ok rfl rfl ?_
  refine wl_pure (v := .agg #[.int .u64 p0, .slice none 0 0, .int .u8 (0 : Int)]) tt_ok rfl rfl ?_
  refine wl_box rfl rfl rfl (fun b5 => ?_)
  refine wl_pure tt_ok rfl rfl ?_
  refine wl_nil ?_
  refine wx_then ?_
  refine wc_ret ?_
  simp only [Option.some.injEq] at h
  obtain rfl := h
  exact wx_spD tt_ok (.inl rfl) Try.results8 (Res.tmp rfl Res.nil) ⟨b5, none, 0, 0, [], rfl, Own.zero, rfl, rfl⟩ (fun F => by simp) (pSub (pCons Sel.hc (pNo pNil)))

theorem k_hindcastref24_New {F : Nat} {p0 : Int} {r0 : T_hindcastref24_Queue} (h : m_hindcastref24_New F p0 = some r0) :
    SpD Try.prog 14 [.int .u64 p0] [] (fun w => True) (fun v D => ∃ (r0b : Nat) (r0a0 : Option Addr) (r0n0 r0c0 : Nat) (r0B0 : List Blk), r0n0 = r0.L.length ∧ Own 31 1 r0a0 r0n0 r0c0 (flat (e1 .u8) r0.L) r0B0 ∧ v = .pointer (some ⟨r0b, 0, none⟩) ∧ D = fun F => (⟨r0b, [.int .u64 r0.Begin, .int .u64 r0.First, .slice r0a0 r0n0 r0c0], 46, (0, 0)⟩ :: (r0B0 ++ F))) := by
  unfold m_hindcastref24_New at h
  refine sp_of_wc Try.func14 rfl Try.ntmps14 rfl rfl (fun w0 hR => ?_)
  refine wc_seq ?_
  refine wc_region ?_
  refine wl_pure tt_ok rfl rfl ?_
  refine wl_nil ?_
  refine wx_then ?_
  refine wc_seq ?_
  refine wc_region ?_
  refine wl_pure tt_ok rfl rfl ?_
  refine wl_pure tt_ok rfl rfl ?_
  refine wl_pure (v := .agg #[.int .u64 p0, .int .u64 p0, .slice none 0 0]) tt_ok rfl rfl ?_
  refine wl_box rfl rfl rfl (fun b6 => ?_)
  refine wl_pure tt_ok rfl rfl ?_
  refine wl_nil ?_
  refine wx_then ?_
  refine wc_ret ?_
  simp only [Option.some.injEq] at h
  obtain rfl := h
  exact wx_spD tt_ok (.inl rfl) Try.results14 (Res.tmp rfl Res.nil) ⟨b6, none, 0, 0, [], rfl, Own.zero, rfl, rfl⟩ (fun F => by simp) (pSub (pCons Sel.hc (pNo pNil)))

theorem k_input_Legal {F : Nat} {p0 : Int} {r0 : Bool} (h : m_input_Legal F p0 = some r0) :
    Pf Try.prog 27 [.int .u8 p0] (fun w => True) (.bool r0) := by
  unfold m_input_Legal at h
  refine pf_of_wc Try.func27 rfl Try.ntmps27 rfl rfl (fun w0 hR => ?_)
  refine wc_seq ?_
  refine wc_region ?_
  refine wl_pure tt_ok rfl rfl ?_
  refine wl_nil ?_
  refine wx_then ?_
  refine wc_seq ?_
  refine wc_region ?_
  refine wl_pure tt_ok rfl rfl ?_
  refine wl_pure (v := .bool (decide (p0 < (64 : Int)))) tt_ok rfl rfl ?_
  refine wl_pure tt_ok rfl rfl ?_
  refine wl_nil ?_
  refine wx_then ?_
  refine wc_ret ?_
  simp only [Option.some.injEq] at h
  obtain rfl := h
  exact wx_pf tt_ok (.inl rfl) Try.results27 (Res.tmp rfl Res.nil) rfl

theorem k_queue_Queue_Known {F : Nat} {p0 : T_queue_Queue} {p0b p0t : Nat} {p0a0 : Option Addr} {p0n0 p0c0 : Nat} {p0B0 : List Blk} {r0 : Int} (p0N0 : p0n0 = p0.l.length) (p0V0 : Own 31 1 p0a0 p0n0 p0c0 (flat (e1 .u8) p0.l) p0B0) (h : m_queue_Queue_Known F p0 = some r0) :
    Rd2 Try.prog 9 [.pointer (some ⟨p0b, 0, none⟩)] (⟨p0b, [.int .u64 p0.first_, .slice p0a0 p0n0 p0c0, .int .u8 p0.last], p0t, (0, 0)⟩ :: (p0B0 ++ [])) (fun w => True) (.int .u64 r0) := by
  unfold m_queue_Queue_Known at h
  refine sp_of_wc Try.func9 rfl Try.ntmps9 rfl rfl (fun w0 hR => ?_)
  refine wc_seq ?_
  refine wc_region ?_
  refine wl_pure tt_ok rfl rfl ?_
  refine wl_nil ?_
  refine wx_then ?_
  refine wc_seq ?_
  refine wc_seq ?_
  refine wc_region ?_
  refine wl_pure tt_ok rfl rfl ?_
  refine wl_pure (v := .bool false) tt_ok rfl rfl ?_
  refine wl_nil ?_
  refine wx_then ?_
  refine wc_cond_false rfl ?_
  refine wc_skip ?_
  refine wx_then ?_
  refine wc_seq ?_
  refine wc_quiet (by kernel_rfl) (by kernel_rfl) ?_
  refine wq_pure tt_ok rfl rfl ?_
  refine wq_pure tt_ok rfl rfl ?_
  refine wq_pure (v := .pointer (some ⟨p0b, 0, none⟩)) tt_ok rfl rfl ?_
  refine wq_val (v := .int .u64 p0.first_) (val_load tt_ok rfl (List.Mem.head _) rfl) rfl ?_
  refine wq_pure tt_ok rfl rfl ?_
  refine wq_pure tt_ok rfl rfl ?_
  refine wq_pure (v := .pointer (some ⟨p0b, 1, none⟩)) tt_ok rfl rfl ?_
  refine wq_val (v := .slice p0a0 p0n0 p0c0) (val_load tt_ok rfl (List.Mem.head _) rfl) rfl ?_
  refine wq_val (v := .int .i64 (p0.l.length : Int)) (val_len tt_ok rfl rfl p0N0) rfl ?_
  refine wq_pure (v := .int .u64 (IntKind.wrap .u64 (p0.l.length : Int))) tt_ok rfl rfl ?_
  refine wq_pure (v := .int .u64 (IntKind.wrap .u64 (p0.first_ + (IntKind.wrap .u64 (p0.l.length : Int))))) tt_ok rfl rfl ?_
  refine wq_pure tt_ok rfl rfl ?_
  refine wq_nil ?_
  refine wx_then ?_
  refine wc_ret ?_
  simp only [Option.some.injEq] at h
  obtain rfl := h
  exact wx_rd tt_ok (.inl rfl) Try.results9 (Res.tmp rfl Res.nil) (pSub (pCons Sel.hc (pApp Sel.ha pNil))) rfl

theorem k_queue_Queue_from {F : Nat} {p0 : T_queue_Queue} {p0b p0t : Nat} {p0a0 : Option Addr} {p0n0 p0c0 : Nat} {p0B0 : List Blk} {p1 : Int} {r0 : (List Int)} (p0N0 : p0n0 = p0.l.length) (p0V0 : Own 31 1 p0a0 p0n0 p0c0 (flat (e1 .u8) p0.l) p0B0) (h : m_queue_Queue_from F p0 p1 = some r0) :
    SpD Try.prog 28 [.pointer (some ⟨p0b, 0, none⟩), .int .u64 p1] (⟨p0b, [.int .u64 p0.first_, .slice p0a0 p0n0 p0c0, .int .u8 p0.last], p0t, (0, 0)⟩ :: (p0B0 ++ [])) (fun w => True) (fun v D => ∃ (r0a : Option Addr) (r0n r0c : Nat), r0n = r0.length ∧ r0n ≤ r0c ∧ (∀ w A B, Rds w A B p0a0 (flat (e1 .u8) p0.l) → Rds w A B r0a (flat (e1 .u8) r0)) ∧ v = .slice r0a r0n r0c ∧ D = fun F => (⟨p0b, [.int .u64 p0.first_, .slice p0a0 p0n0 p0c0, .int .u8 p0.last], p0t, (0, 0)⟩ :: (p0B0 ++ F))) := by
  unfold m_queue_Queue_from at h
  refine sp_of_wc Try.func28 rfl Try.ntmps28 rfl rfl (fun w0 hR => ?_)
  refine wc_seq ?_
  refine wc_region ?_
  refine wl_pure tt_ok rfl rfl ?_
  refine wl_nil ?_
  refine wx_then ?_
  refine wc_seq ?_
  refine wc_seq ?_
  refine wc_region ?_
  refine wl_pure tt_ok rfl rfl ?_
  refine wl_pure (v := .bool false) tt_ok rfl rfl ?_
  refine wl_pure tt_ok rfl rfl ?_
  refine wl_run rfl ?_
  refine wl_pure tt_ok rfl rfl ?_
  refine wl_run rfl ?_
  refine wl_pure tt_ok rfl rfl ?_
  refine wl_run rfl ?_
  refine wl_pure tt_ok rfl rfl ?_
  refine wl_run rfl ?_
  refine wl_pure (v := .pointer (some ⟨p0b, 0, none⟩)) tt_ok rfl rfl ?_
  refine wl_run rfl ?_
  refine wl_val (v := .int .u64 p0.first_) (val_load tt_ok rfl (List.Mem.head _) rfl) rfl ?_
  refine wl_run rfl ?_
  refine wl_pure (v := .bool (decide (p1 < p0.first_))) tt_ok rfl rfl ?_
  refine wl_pure (v := .bool (decide (p1 < p0.first_))) tt_ok rfl rfl ?_
  refine wl_pure tt_ok rfl rfl ?_
  replace h := bsome h; obtain ⟨v20, h, hg20⟩ := h
  refine wl_split (t := 15) rfl (fun hc => ?_) (fun hc => ?_)
  · replace h := ct hc h
    refine wl_skip rfl rfl ?_
    refine wl_skip rfl rfl ?_
    refine wl_skip rfl rfl ?_
    refine wl_skip rfl rfl ?_
    simp only [Option.some.injEq, Prod.mk.injEq] at h
    obtain rfl := h
    have h := hg20; clear hg20
    refine wl_pure (v := .bool true) tt_ok rfl rfl ?_
    refine wl_nil ?_
    refine wx_then ?_
    replace h := ct rfl h
    refine wc_cond_true rfl ?_
    refine wc_seq ?_
    refine wc_region ?_
    refine wl_pure tt_ok rfl rfl ?_
    refine wl_nil ?_
    refine wx_then ?_
    refine wc_ret ?_
    refine wx_then_ret ?_
    simp only [Option.some.injEq] at h
    obtain rfl := h
    exact wx_spD tt_ok (.inl rfl) Try.results28 (Res.tmp rfl Res.nil) ⟨none, 0, 0, rfl, (Nat.le_refl _), (fun _ _ _ _ => Rds.nil), rfl, rfl⟩ (fun F => by simp) (pSub (pCons Sel.hc (pApp Sel.ha pNil)))
  replace h := cf hc h
  refine wl_run rfl ?_
  refine wl_pure tt_ok rfl rfl ?_
  refine wl_run rfl ?_
  refine wl_pure tt_ok rfl rfl ?_
  replace h := bsome h; obtain ⟨v18, x18, h⟩ := h
  refine wl_run rfl ?_
  refine wl_cq Try.call9 rfl rfl rfl (q_rd (k_queue_Queue_Known (p0 := p0) p0N0 p0V0 x18) (pCons Sel.hc (pApp Sel.ha pNil)) (fun _ _ => trivial)) rfl ?_
  refine wl_run rfl ?_
  refine wl_pure (v := .bool (decide (v18 ≤ p1))) tt_ok rfl rfl ?_
  simp only [Option.some.injEq, Prod.mk.injEq] at h
  obtain rfl := h
  have h := hg20; clear hg20
  refine wl_pure (v := .bool (decide (v18 ≤ p1))) tt_ok rfl rfl ?_
  refine wl_nil ?_
  refine wx_then ?_
  refine wc_cond rfl (fun hc => ?_) (fun hc => ?_)
  · replace h := ct hc h
    refine wc_seq ?_
    refine wc_region ?_
    refine wl_pure tt_ok rfl rfl ?_
    refine wl_nil ?_
    refine wx_then ?_
    refine wc_ret ?_
    refine wx_then_ret ?_
    simp only [Option.some.injEq] at h
    obtain rfl := h
    exact wx_spD tt_ok (.inl rfl) Try.results28 (Res.tmp rfl Res.nil) ⟨none, 0, 0, rfl, (Nat.le_refl _), (fun _ _ _ _ => Rds.nil), rfl, rfl⟩ (fun F => by simp) (pSub (pCons Sel.hc (pApp Sel.ha pNil)))
  replace h := cf hc h
  refine wc_skip ?_
  refine wx_then ?_
  refine wc_seq ?_
  refine wc_quiet (by kernel_rfl) (by kernel_rfl) ?_
  refine wq_pure tt_ok rfl rfl ?_
  refine wq_pure tt_ok rfl rfl ?_
  refine wq_pure (v := .pointer (some ⟨p0b, 1, none⟩)) tt_ok rfl rfl ?_
  refine wq_val (v := .slice p0a0 p0n0 p0c0) (val_load tt_ok rfl (List.Mem.head _) rfl) rfl ?_
  refine wq_pure tt_ok rfl rfl ?_
  refine wq_pure tt_ok rfl rfl ?_
  refine wq_pure tt_ok rfl rfl ?_
  refine wq_pure (v := .pointer (some ⟨p0b, 0, none⟩)) tt_ok rfl rfl ?_
  refine wq_val (v := .int .u64 p0.first_) (val_load tt_ok rfl (List.Mem.head _) rfl) rfl ?_
  refine wq_pure (v := .int .u64 (IntKind.wrap .u64 (p1 - p0.first_))) tt_ok rfl rfl ?_
  refine wq_pure tt_ok rfl rfl ?_
  refine wq_pure tt_ok rfl rfl ?_
  refine wq_pure (v := .pointer (some ⟨p0b, 1, none⟩)) tt_ok rfl rfl ?_
  refine wq_val (v := .slice p0a0 p0n0 p0c0) (val_load tt_ok rfl (List.Mem.head _) rfl) rfl ?_
  refine wq_val (v := .int .i64 (p0.l.length : Int)) (val_len tt_ok rfl rfl p0N0) rfl ?_
  refine wq_pure tt_ok rfl rfl ?_
  refine wq_pure tt_ok rfl rfl ?_
  refine wq_pure (v := .pointer (some ⟨p0b, 1, none⟩)) tt_ok rfl rfl ?_
  refine wq_val (v := .slice p0a0 p0n0 p0c0) (val_load tt_ok rfl (List.Mem.head _) rfl) rfl ?_
  refine wq_val (v := .int .i64 (p0.l.length : Int)) (val_len tt_ok rfl rfl p0N0) rfl ?_
  replace h := bsome h; obtain ⟨v41, x41, h⟩ := h
  refine wq_cut (enc := (e1 .u8)) tt_ok rfl rfl rfl p0N0 (vec_some p0V0) (e1_len _) (vec_cap p0V0) (.inr ⟨_, _, rfl, rfl⟩) (.inr ⟨_, _, rfl, rfl⟩) (.inr ⟨_, _, rfl, rfl⟩) (by intro h; first | rfl | cases h) (cut3b x41 p0N0 (vec_cap p0V0)) (cut3a x41) rfl ?_
  intro a41 n41_ c41 N41 H41 I41 O41 Z41
  refine wq_pure tt_ok rfl rfl ?_
  refine wq_nil ?_
  refine wx_then ?_
  refine wc_ret ?_
  simp only [Option.some.injEq] at h
  obtain rfl := h
  exact wx_spD tt_ok (.inl rfl) Try.results28 (Res.tmp rfl Res.nil) ⟨a41, n41_, c41, N41, H41, (fun w A B h => I41 w A B ((fun _ _ _ h => h) w A B h)), rfl, rfl⟩ (fun F => by simp) (pSub (pCons Sel.hc (pApp Sel.ha pNil)))

theorem k_queue_Queue_At {F : Nat} {p0 : T_queue_Queue} {p0b p0t : Nat} {p0a0 : Option Addr} {p0n0 p0c0 : Nat} {p0B0 : List Blk} {p1 : Int} {r0 : Int} {r1 : Bool} (p0N0 : p0n0 = p0.l.length) (p0V0 : Own 31 1 p0a0 p0n0 p0c0 (flat (e1 .u8) p0.l) p0B0) (h : m_queue_Queue_At F p0 p1 = some (r0, r1)) :
    Rd2 Try.prog 18 [.pointer (some ⟨p0b, 0, none⟩), .int .u64 p1] (⟨p0b, [.int .u64 p0.first_, .slice p0a0 p0n0 p0c0, .int .u8 p0.last], p0t, (0, 0)⟩ :: (p0B0 ++ [])) (fun w => True) (.tuple #[.int .u8 r0, .bool r1]) := by
  unfold m_queue_Queue_At at h
  refine sp_of_wc Try.func18 rfl Try.ntmps18 rfl rfl (fun w0 hR => ?_)
  refine wc_seq ?_
  refine wc_region ?_
  refine wl_pure tt_ok rfl rfl ?_
  refine wl_pure tt_ok rfl rfl ?_
  refine wl_nil ?_
  refine wx_then ?_
  refine wc_seq ?_
  refine wc_seq ?_
  refine wc_region ?_
  refine wl_pure tt_ok rfl rfl ?_
  refine wl_pure tt_ok rfl rfl ?_
  replace h := bsome h; obtain ⟨v9, x9, h⟩ := h
  refine wl_cs Try.call28 rfl rfl rfl (s_sp (k_queue_Queue_from (p0 := p0) p0N0 p0V0 x9) (pCons Sel.hc (pApp Sel.ha pNil)) (fun _ _ => trivial)) rfl ?_
  rintro _ _ ⟨_, ⟨v9a, v9n, v9c, Nv9, Hv9, Iv9, rfl, rfl⟩, rfl⟩
  refine wl_pure tt_ok rfl rfl ?_
  refine wl_nil ?_
  refine wx_then ?_
  refine wc_seq ?_
  refine wc_region ?_
  refine wl_pure tt_ok rfl rfl ?_
  refine wl_val (v := .int .i64 (v9.length : Int)) (val_len tt_ok rfl rfl Nv9) rfl ?_
  refine wl_pure (v := .bool (decide ((0 : Int) < (v9.length : Int)))) tt_ok rfl rfl ?_
  refine wl_nil ?_
  refine wx_then ?_
  refine wc_cond rfl (fun hc => ?_) (fun hc => ?_)
  · replace h := ct hc h
    refine wc_seq ?_
    refine wc_region ?_
    refine wl_pure tt_ok rfl rfl ?_
    replace h := bsome h; obtain ⟨v14, x14, h⟩ := h
    refine wl_val (v := .pointer (some ((adOf v9a).add ((0 : Int).toNat * 1 + 0)))) (val_ix (enc := (e1 .u8)) tt_ok rfl rfl rfl rfl Nv9 (Iv9 _ _ _ (Rds.of_vec p0V0)) (e1_len _) rfl x14) rfl ?_
    refine wl_val (v := .int .u8 v14) (val_le (enc := (e1 .u8)) (xs := v9) tt_ok rfl (Iv9 _ _ _ (Rds.of_vec p0V0)) ⟨_, (Sel.sc Sel.ha)⟩ (e1_len _) x14 rfl) rfl ?_
    refine wl_pure tt_ok rfl rfl ?_
    refine wl_pure tt_ok rfl rfl ?_
    refine wl_nil ?_
    refine wx_then ?_
    refine wc_ret ?_
    refine wx_then_ret ?_
    simp only [Option.some.injEq, Prod.mk.injEq] at h
    obtain ⟨rfl, rfl⟩ := h
    exact wx_rd tt_ok (.inl rfl) Try.results18 (Res.tmp rfl (Res.tmp rfl Res.nil)) (pSub (pCons Sel.hc (pApp Sel.ha pNil))) rfl
  replace h := cf hc h
  refine wc_skip ?_
  refine wx_then ?_
  refine wc_seq ?_
  refine wc_region ?_
  refine wl_pure tt_ok rfl rfl ?_
  refine wl_pure tt_ok rfl rfl ?_
  refine wl_nil ?_
  refine wx_then ?_
  refine wc_ret ?_
  simp only [Option.some.injEq, Prod.mk.injEq] at h
  obtain ⟨rfl, rfl⟩ := h
  exact wx_rd tt_ok (.inl rfl) Try.results18 (Res.tmp rfl (Res.tmp rfl Res.nil)) (pSub (pCons Sel.hc (pApp Sel.ha pNil))) rfl

theorem k_queue_Queue_Add {F : Nat} {p0 : T_queue_Queue} {p0b p0t : Nat} {p0a0 : Option Addr} {p0n0 p0c0 : Nat} {p0B0 : List Blk} {p1 : Int} {p2 : Int} {r0 : T_queue_Queue} {r1 : Int} (p0N0 : p0n0 = p0.l.length) (p0V0 : Own 31 1 p0a0 p0n0 p0c0 (flat (e1 .u8) p0.l) p0B0) (h : m_queue_Queue_Add F p0 p1 p2 = some (r0, r1)) :
    SpD Try.prog 10 [.pointer (some ⟨p0b, 0, none⟩), .int .u64 p1, .int .u8 p2] (⟨p0b, [.int .u64 p0.first_, .slice p0a0 p0n0 p0c0, .int .u8 p0.last], p0t, (0, 0)⟩ :: (p0B0 ++ [])) (fun w => True) (fun v D => ∃ (r0a0 : Option Addr) (r0n0 r0c0 : Nat) (r0B0 : List Blk), r0n0 = r0.l.length ∧ Own 31 1 r0a0 r0n0 r0c0 (flat (e1 .u8) r0.l) r0B0 ∧ v = .int .i64 r1 ∧ D = fun F => (⟨p0b, [.int .u64 r0.first_, .slice r0a0 r0n0 r0c0, .int .u8 r0.last], p0t, (0, 0)⟩ :: (r0B0 ++ F))) := by
  unfold m_queue_Queue_Add at h
  refine sp_of_wc Try.func10 rfl Try.ntmps10 rfl rfl (fun w0 hR => ?_)
  refine wc_seq ?_
  refine wc_region ?_
  refine wl_pure tt_ok rfl rfl ?_
  refine wl_nil ?_
  refine wx_then ?_
  refine wc_seq ?_
  refine wc_block ?_
  refine wc_seq ?_
  refine wc_region ?_
  refine wl_pure tt_ok rfl rfl ?_
  refine wl_pure (v := .bool false) tt_ok rfl rfl ?_
  refine wl_pure tt_ok rfl rfl ?_
  refine wl_nil ?_
  refine wx_then ?_
  refine wc_cond_false rfl ?_
  refine wc_seq ?_
  refine wc_region ?_
  refine wl_pure tt_ok rfl rfl ?_
  replace h := bsome h; obtain ⟨v14, x14, h⟩ := h
  refine wl_cq Try.call27 rfl rfl rfl (q_pf (k_input_Legal x14) (fun _ _ => trivial)) rfl ?_
  refine wl_pure (v := .bool (!v14)) tt_ok rfl rfl ?_
  refine wl_pure tt_ok rfl rfl ?_
  refine wl_nil ?_
  refine wx_then ?_
  refine wc_cond rfl (fun hc => ?_) (fun hc => ?_)
  · replace h := ct hc h
    refine wc_seq ?_
    refine wc_region ?_
    refine wl_pure tt_ok rfl rfl ?_
    refine wl_nil ?_
    refine wx_then ?_
    refine wc_ret ?_
    refine wx_block_ret ?_
    refine wx_then_ret ?_
    simp only [Option.some.injEq, Prod.mk.injEq] at h
    obtain ⟨rfl, rfl⟩ := h
    exact wx_spD tt_ok (.inl rfl) Try.results10 (Res.tmp rfl Res.nil) ⟨p0a0, p0n0, p0c0, p0B0, p0N0, p0V0, rfl, rfl⟩ (fun F => by simp) (pSub (pCons Sel.hc (pApp Sel.ha pNil)))
  replace h := cf hc h
  refine wc_seq ?_
  refine wc_region ?_
  refine wl_pure tt_ok rfl rfl ?_
  refine wl_pure tt_ok rfl rfl ?_
  refine wl_pure tt_ok rfl rfl ?_
  refine wl_pure (v := .pointer (some ⟨p0b, 0, none⟩)) tt_ok rfl rfl ?_
  refine wl_val (v := .int .u64 p0.first_) (val_load tt_ok rfl (List.Mem.head _) rfl) rfl ?_
  refine wl_pure (v := .bool (decide (p1 < p0.first_))) tt_ok rfl rfl ?_
  refine wl_pure tt_ok rfl rfl ?_
  refine wl_nil ?_
  refine wx_then ?_
  refine wc_cond rfl (fun hc => ?_) (fun hc => ?_)
  · replace h := ct hc h
    refine wc_seq ?_
    refine wc_region ?_
    refine wl_pure tt_ok rfl rfl ?_
    refine wl_nil ?_
    refine wx_then ?_
    refine wc_ret ?_
    refine wx_block_ret ?_
    refine wx_then_ret ?_
    simp only [Option.some.injEq, Prod.mk.injEq] at h
    obtain ⟨rfl, rfl⟩ := h
    exact wx_spD tt_ok (.inl rfl) Try.results10 (Res.tmp rfl Res.nil) ⟨p0a0, p0n0, p0c0, p0B0, p0N0, p0V0, rfl, rfl⟩ (fun F => by simp) (pSub (pCons Sel.hc (pApp Sel.ha pNil)))
  replace h := cf hc h
  refine wc_skip ?_
  refine wx_block ?_
  refine wx_then ?_
  refine wc_seq ?_
  refine wc_seq ?_
  refine wc_region ?_
  refine wl_pure tt_ok rfl rfl ?_
  refine wl_pure tt_ok rfl rfl ?_
  replace h := bsome h; obtain ⟨⟨v26_0, v26_1⟩, x26, h⟩ := h; try dsimp only at h
  refine wl_cq Try.call18 rfl rfl rfl (q_rd (k_queue_Queue_At (p0 := p0) p0N0 p0V0 x26) (pCons Sel.hc (pApp Sel.ha pNil)) (fun _ _ => trivial)) rfl ?_
  refine wl_pure tt_ok rfl rfl ?_
  refine wl_pure tt_ok rfl rfl ?_
  refine wl_pure tt_ok rfl rfl ?_
  refine wl_pure tt_ok rfl rfl ?_
  refine wl_pure tt_ok rfl rfl ?_
  refine wl_nil ?_
  refine wx_then ?_
  refine wc_block ?_
  refine wc_seq ?_
  refine wc_region ?_
  refine wl_pure tt_ok rfl rfl ?_
  refine wl_pure tt_ok rfl rfl ?_
  replace h := bsome h; obtain ⟨v35, h, hg35⟩ := h
  refine wl_split (t := 31) rfl (fun hc => ?_) (fun hc => ?_)
  · replace h := ct hc h
    refine wl_run rfl ?_
    refine wl_pure tt_ok rfl rfl ?_
    refine wl_run rfl ?_
    refine wl_pure tt_ok rfl rfl ?_
    refine wl_run rfl ?_
    refine wl_pure (v := .bool (v26_0 != p2)) tt_ok rfl rfl ?_
    simp only [Option.some.injEq, Prod.mk.injEq] at h
    obtain rfl := h
    have h := hg35; clear hg35
    refine wl_pure (v := .bool (v26_0 != p2)) tt_ok rfl rfl ?_
    refine wl_pure tt_ok rfl rfl ?_
    refine wl_nil ?_
    refine wx_then ?_
    refine wc_cond rfl (fun hc => ?_) (fun hc => ?_)
    · replace h := ct hc h
      refine wc_seq ?_
      refine wc_region ?_
      refine wl_pure tt_ok rfl rfl ?_
      refine wl_nil ?_
      refine wx_then ?_
      refine wc_ret ?_
      refine wx_block_ret ?_
      refine wx_then_ret ?_
      simp only [Option.some.injEq, Prod.mk.injEq] at h
      obtain ⟨rfl, rfl⟩ := h
      exact wx_spD tt_ok (.inl rfl) Try.results10 (Res.tmp rfl Res.nil) ⟨p0a0, p0n0, p0c0, p0B0, p0N0, p0V0, rfl, rfl⟩ (fun F => by simp) (pSub (pCons Sel.hc (pApp Sel.ha pNil)))
    replace h := cf hc h
    refine wc_seq ?_
    refine wc_region ?_
    refine wl_pure tt_ok rfl rfl ?_
    refine wl_pure tt_ok rfl rfl ?_
    refine wl_nil ?_
    refine wx_then ?_
    refine wc_cond rfl (fun hc => ?_) (fun hc => ?_)
    · replace h := ct hc h
      refine wc_seq ?_
      refine wc_region ?_
      refine wl_pure tt_ok rfl rfl ?_
      refine wl_nil ?_
      refine wx_then ?_
      refine wc_ret ?_
      refine wx_block_ret ?_
      refine wx_then_ret ?_
      simp only [Option.some.injEq, Prod.mk.injEq] at h
      obtain ⟨rfl, rfl⟩ := h
      exact wx_spD tt_ok (.inl rfl) Try.results10 (Res.tmp rfl Res.nil) ⟨p0a0, p0n0, p0c0, p0B0, p0N0, p0V0, rfl, rfl⟩ (fun F => by simp) (pSub (pCons Sel.hc (pApp Sel.ha pNil)))
    replace h := cf hc h
    refine wc_seq ?_
    refine wc_region ?_
    refine wl_pure tt_ok rfl rfl ?_
    refine wl_pure tt_ok rfl rfl ?_
    replace h := bsome h; obtain ⟨v41, x41, h⟩ := h
    refine wl_cq Try.call9 rfl rfl rfl (q_rd (k_queue_Queue_Known (p0 := p0) p0N0 p0V0 x41) (pCons Sel.hc (pApp Sel.ha pNil)) (fun _ _ => trivial)) rfl ?_
    refine wl_pure (v := .bool (decide (v41 < p1))) tt_ok rfl rfl ?_
    refine wl_pure tt_ok rfl rfl ?_
    replace h := bsome h; obtain ⟨v46, h, hg46⟩ := h
    refine wl_split (t := 43) rfl (fun hc => ?_) (fun hc => ?_)
    · replace h := ct hc h
      refine wl_skip rfl rfl ?_
      refine wl_skip rfl rfl ?_
      simp only [Option.some.injEq, Prod.mk.injEq] at h
      obtain rfl := h
      have h := hg46; clear hg46
      refine wl_pure (v := .bool true) tt_ok rfl rfl ?_
      refine wl_pure tt_ok rfl rfl ?_
      refine wl_nil ?_
      refine wx_then ?_
      replace h := ct rfl h
      refine wc_cond_true rfl ?_
      refine wc_seq ?_
      refine wc_region ?_
      refine wl_pure tt_ok rfl rfl ?_
      refine wl_nil ?_
      refine wx_then ?_
      refine wc_ret ?_
      refine wx_block_ret ?_
      refine wx_then_ret ?_
      simp only [Option.some.injEq, Prod.mk.injEq] at h
      obtain ⟨rfl, rfl⟩ := h
      exact wx_spD tt_ok (.inl rfl) Try.results10 (Res.tmp rfl Res.nil) ⟨p0a0, p0n0, p0c0, p0B0, p0N0, p0V0, rfl, rfl⟩ (fun F => by simp) (pSub (pCons Sel.hc (pApp Sel.ha pNil)))
    replace h := cf hc h
    refine wl_run rfl ?_
    refine wl_pure tt_ok rfl rfl ?_
    refine wl_run rfl ?_
    refine wl_pure (v := .bool (p1 == (18446744073709551615 : Int))) tt_ok rfl rfl ?_
    simp only [Option.some.injEq, Prod.mk.injEq] at h
    obtain rfl := h
    have h := hg46; clear hg46
    refine wl_pure (v := .bool (p1 == (18446744073709551615 : Int))) tt_ok rfl rfl ?_
    refine wl_pure tt_ok rfl rfl ?_
    refine wl_nil ?_
    refine wx_then ?_
    refine wc_cond rfl (fun hc => ?_) (fun hc => ?_)
    · replace h := ct hc h
      refine wc_seq ?_
      refine wc_region ?_
      refine wl_pure tt_ok rfl rfl ?_
      refine wl_nil ?_
      refine wx_then ?_
      refine wc_ret ?_
      refine wx_block_ret ?_
      refine wx_then_ret ?_
      simp only [Option.some.injEq, Prod.mk.injEq] at h
      obtain ⟨rfl, rfl⟩ := h
      exact wx_spD tt_ok (.inl rfl) Try.results10 (Res.tmp rfl Res.nil) ⟨p0a0, p0n0, p0c0, p0B0, p0N0, p0V0, rfl, rfl⟩ (fun F => by simp) (pSub (pCons Sel.hc (pApp Sel.ha pNil)))
    replace h := cf hc h
    refine wc_seq ?_
    refine wc_region ?_
    refine wl_pure tt_ok rfl rfl ?_
    refine wl_pure tt_ok rfl rfl ?_
    refine wl_pure (v := .pointer (some ⟨p0b, 1, none⟩)) tt_ok rfl rfl ?_
    refine wl_val (v := .slice p0a0 p0n0 p0c0) (val_load tt_ok rfl (List.Mem.head _) rfl) rfl ?_
    refine wl_val (v := .int .i64 (p0.l.length : Int)) (val_len tt_ok rfl rfl p0N0) rfl ?_
    refine wl_pure (v := .bool (decide ((24 : Int) ≤ (p0.l.length : Int)))) tt_ok rfl rfl ?_
    refine wl_pure tt_ok rfl rfl ?_
    refine wl_nil ?_
    refine wx_then ?_
    refine wc_cond rfl (fun hc => ?_) (fun hc => ?_)
    · replace h := ct hc h
      refine wc_seq ?_
      refine wc_region ?_
      refine wl_pure tt_ok rfl rfl ?_
      refine wl_nil ?_
      refine wx_then ?_
      refine wc_ret ?_
      refine wx_block_ret ?_
      refine wx_then_ret ?_
      simp only [Option.some.injEq, Prod.mk.injEq] at h
      obtain ⟨rfl, rfl⟩ := h
      exact wx_spD tt_ok (.inl rfl) Try.results10 (Res.tmp rfl Res.nil) ⟨p0a0, p0n0, p0c0, p0B0, p0N0, p0V0, rfl, rfl⟩ (fun F => by simp) (pSub (pCons Sel.hc (pApp Sel.ha pNil)))
    replace h := cf hc h
    refine wc_skip ?_
    refine wx_block ?_
    refine wx_then ?_
    refine wc_seq ?_
    refine wc_region ?_
    refine wl_pure tt_ok rfl rfl ?_
    refine wl_pure tt_ok rfl rfl ?_
    refine wl_pure tt_ok rfl rfl ?_
    refine wl_pure tt_ok rfl rfl ?_
    refine wl_pure (v := .pointer (some ⟨p0b, 1, none⟩)) tt_ok rfl rfl ?_
    refine wl_val (v := .slice p0a0 p0n0 p0c0) (val_load tt_ok rfl (List.Mem.head _) rfl) rfl ?_
    refine wl_pure tt_ok rfl rfl ?_
    refine wl_chg (chg_bsv (enc := (e1 .u8)) (xs := ([p2] : List Int)) tt_ok rfl rfl rfl rfl rfl rfl rfl rfl (e1_len _)) rfl ?_
    rintro _ _ ⟨a61, n61_, c61, B61, rfl, N61, V61, rfl⟩
    replace h := bsome h; obtain ⟨v62, x62, h⟩ := h
    refine wl_chg (chg_app (enc := (e1 .u8)) (ys := ([p2] : List Int)) tt_ok rfl rfl rfl rfl rfl rfl p0N0 N61 p0V0 (Sel.sa (Sel.sc Sel.ha)) (Rds.of_vec V61) ⟨_, Sel.ha⟩ (e1_len _) (fun _ => rfl) rfl x62) rfl ?_
    rintro _ _ ⟨a62, n62_, c62, B62, rfl, N62, V62, rfl⟩
    refine wl_pure tt_ok rfl rfl ?_
    refine wl_pure tt_ok rfl rfl ?_
    refine wl_pure (v := .pointer (some ⟨p0b, 1, none⟩)) tt_ok rfl rfl ?_
    apply wl_store tt_ok; rfl; exact (Upd.right (Upd.right Upd.here)); rfl; rfl; rfl; rfl; rfl; rfl
    refine wl_pure tt_ok rfl rfl ?_
    refine wl_pure (v := .pointer (some ⟨p0b, 2, none⟩)) tt_ok rfl rfl ?_
    apply wl_store tt_ok; rfl; exact (Upd.right (Upd.right Upd.here)); rfl; rfl; rfl; rfl; rfl; rfl
    refine wl_nil ?_
    refine wx_then ?_
    refine wc_seq ?_
    refine wc_region ?_
    refine wl_pure tt_ok rfl rfl ?_
    refine wl_nil ?_
    refine wx_then ?_
    refine wc_ret ?_
    simp only [Option.some.injEq, Prod.mk.injEq] at h
    obtain ⟨rfl, rfl⟩ := h
    exact wx_spD tt_ok (.inl rfl) Try.results10 (Res.tmp rfl Res.nil) ⟨a62, n62_, c62, B62, N62, V62, rfl, rfl⟩ (fun F => by simp) (pSub (pCons (Sel.sa (Sel.sa Sel.hc)) (pApp Sel.ha pNil)))
  replace h := cf hc h
  refine wl_skip rfl rfl ?_
  refine wl_skip rfl rfl ?_
  refine wl_skip rfl rfl ?_
  simp only [Option.some.injEq, Prod.mk.injEq] at h
  obtain rfl := h
  have h := hg35; clear hg35
  refine wl_pure (v := .bool false) tt_ok rfl rfl ?_
  refine wl_pure tt_ok rfl rfl ?_
  refine wl_nil ?_
  refine wx_then ?_
  replace h := cf rfl h
  refine wc_cond_false rfl ?_
  refine wc_seq ?_
  refine wc_region ?_
  refine wl_pure tt_ok rfl rfl ?_
  refine wl_pure tt_ok rfl rfl ?_
  refine wl_nil ?_
  refine wx_then ?_
  refine wc_cond rfl (fun hc => ?_) (fun hc => ?_)
  · replace h := ct hc h
    refine wc_seq ?_
    refine wc_region ?_
    refine wl_pure tt_ok rfl rfl ?_
    refine wl_nil ?_
    refine wx_then ?_
    refine wc_ret ?_
    refine wx_block_ret ?_
    refine wx_then_ret ?_
    simp only [Option.some.injEq, Prod.mk.injEq] at h
    obtain ⟨rfl, rfl⟩ := h
    exact wx_spD tt_ok (.inl rfl) Try.results10 (Res.tmp rfl Res.nil) ⟨p0a0, p0n0, p0c0, p0B0, p0N0, p0V0, rfl, rfl⟩ (fun F => by simp) (pSub (pCons Sel.hc (pApp Sel.ha pNil)))
  replace h := cf hc h
  refine wc_seq ?_
  refine wc_region ?_
  refine wl_pure tt_ok rfl rfl ?_
  refine wl_pure tt_ok rfl rfl ?_
  replace h := bsome h; obtain ⟨v41, x41, h⟩ := h
  refine wl_cq Try.call9 rfl rfl rfl (q_rd (k_queue_Queue_Known (p0 := p0) p0N0 p0V0 x41) (pCons Sel.hc (pApp Sel.ha pNil)) (fun _ _ => trivial)) rfl ?_
  refine wl_pure (v := .bool (decide (v41 < p1))) tt_ok rfl rfl ?_
  refine wl_pure tt_ok rfl rfl ?_
  replace h := bsome h; obtain ⟨v46, h, hg46⟩ := h
  refine wl_split (t := 43) rfl (fun hc => ?_) (fun hc => ?_)
  · replace h := ct hc h
    refine wl_skip rfl rfl ?_
    refine wl_skip rfl rfl ?_
    simp only [Option.some.injEq, Prod.mk.injEq] at h
    obtain rfl := h
    have h := hg46; clear hg46
    refine wl_pure (v := .bool true) tt_ok rfl rfl ?_
    refine wl_pure tt_ok rfl rfl ?_
    refine wl_nil ?_
    refine wx_then ?_
    replace h := ct rfl h
    refine wc_cond_true rfl ?_
    refine wc_seq ?_
    refine wc_region ?_
    refine wl_pure tt_ok rfl rfl ?_
    refine wl_nil ?_
    refine wx_then ?_
    refine wc_ret ?_
    refine wx_block_ret ?_
    refine wx_then_ret ?_
    simp only [Option.some.injEq, Prod.mk.injEq] at h
    obtain ⟨rfl, rfl⟩ := h
    exact wx_spD tt_ok (.inl rfl) Try.results10 (Res.tmp rfl Res.nil) ⟨p0a0, p0n0, p0c0, p0B0, p0N0, p0V0, rfl, rfl⟩ (fun F => by simp) (pSub (pCons Sel.hc (pApp Sel.ha pNil)))
  replace h := cf hc h
  refine wl_run rfl ?_
  refine wl_pure tt_ok rfl rfl ?_
  refine wl_run rfl ?_
  refine wl_pure (v := .bool (p1 == (18446744073709551615 : Int))) tt_ok rfl rfl ?_
  simp only [Option.some.injEq, Prod.mk.injEq] at h
  obtain rfl := h
  have h := hg46; clear hg46
  refine wl_pure (v := .bool (p1 == (18446744073709551615 : Int))) tt_ok rfl rfl ?_
  refine wl_pure tt_ok rfl rfl ?_
  refine wl_nil ?_
  refine wx_then ?_
  refine wc_cond rfl (fun hc => ?_) (fun hc => ?_)
  · replace h := ct hc h
    refine wc_seq ?_
    refine wc_region ?_
    refine wl_pure tt_ok rfl rfl ?_
    refine wl_nil ?_
    refine wx_then ?_
    refine wc_ret ?_
    refine wx_block_ret ?_
    refine wx_then_ret ?_
    simp only [Option.some.injEq, Prod.mk.injEq] at h
    obtain ⟨rfl, rfl⟩ := h
    exact wx_spD tt_ok (.inl rfl) Try.results10 (Res.tmp rfl Res.nil) ⟨p0a0, p0n0, p0c0, p0B0, p0N0, p0V0, rfl, rfl⟩ (fun F => by simp) (pSub (pCons Sel.hc (pApp Sel.ha pNil)))
  replace h := cf hc h
  refine wc_seq ?_
  refine wc_region ?_
  refine wl_pure tt_ok rfl rfl ?_
  refine wl_pure tt_ok rfl rfl ?_
  refine wl_pure (v := .pointer (some ⟨p0b, 1, none⟩)) tt_ok rfl rfl ?_
  refine wl_val (v := .slice p0a0 p0n0 p0c0) (val_load tt_ok rfl (List.Mem.head _) rfl) rfl ?_
  refine wl_val (v := .int .i64 (p0.l.length : Int)) (val_len tt_ok rfl rfl p0N0) rfl ?_
  refine wl_pure (v := .bool (decide ((24 : Int) ≤ (p0.l.length : Int)))) tt_ok rfl rfl ?_
  refine wl_pure tt_ok rfl rfl ?_
  refine wl_nil ?_
  refine wx_then ?_
  refine wc_cond rfl (fun hc => ?_) (fun hc => ?_)
  · replace h := ct hc h
    refine wc_seq ?_
    refine wc_region ?_
    refine wl_pure tt_ok rfl rfl ?_
    refine wl_nil ?_
    refine wx_then ?_
    refine wc_ret ?_
    refine wx_block_ret ?_
    refine wx_then_ret ?_
    simp only [Option.some.injEq, Prod.mk.injEq] at h
    obtain ⟨rfl, rfl⟩ := h
    exact wx_spD tt_ok (.inl rfl) Try.results10 (Res.tmp rfl Res.nil) ⟨p0a0, p0n0, p0c0, p0B0, p0N0, p0V0, rfl, rfl⟩ (fun F => by simp) (pSub (pCons Sel.hc (pApp Sel.ha pNil)))
  replace h := cf hc h
  refine wc_skip ?_
  refine wx_block ?_
  refine wx_then ?_
  refine wc_seq ?_
  refine wc_region ?_
  refine wl_pure tt_ok rfl rfl ?_
  refine wl_pure tt_ok rfl rfl ?_
  refine wl_pure tt_ok rfl rfl ?_
  refine wl_pure tt_ok rfl rfl ?_
  refine wl_pure (v := .pointer (some ⟨p0b, 1, none⟩)) tt_ok rfl rfl ?_
  refine wl_val (v := .slice p0a0 p0n0 p0c0) (val_load tt_ok rfl (List.Mem.head _) rfl) rfl ?_
  refine wl_pure tt_ok rfl rfl ?_
  refine wl_chg (chg_bsv (enc := (e1 .u8)) (xs := ([p2] : List Int)) tt_ok rfl rfl rfl rfl rfl rfl rfl rfl (e1_len _)) rfl ?_
  rintro _ _ ⟨a61, n61_, c61, B61, rfl, N61, V61, rfl⟩
  replace h := bsome h; obtain ⟨v62, x62, h⟩ := h
  refine wl_chg (chg_app (enc := (e1 .u8)) (ys := ([p2] : List Int)) tt_ok rfl rfl rfl rfl rfl rfl p0N0 N61 p0V0 (Sel.sa (Sel.sc Sel.ha)) (Rds.of_vec V61) ⟨_, Sel.ha⟩ (e1_len _) (fun _ => rfl) rfl x62) rfl ?_
  rintro _ _ ⟨a62, n62_, c62, B62, rfl, N62, V62, rfl⟩
  refine wl_pure tt_ok rfl rfl ?_
  refine wl_pure tt_ok rfl rfl ?_
  refine wl_pure (v := .pointer (some ⟨p0b, 1, none⟩)) tt_ok rfl rfl ?_
  apply wl_store tt_ok; rfl; exact (Upd.right (Upd.right Upd.here)); rfl; rfl; rfl; rfl; rfl; rfl
  refine wl_pure tt_ok rfl rfl ?_
  refine wl_pure (v := .pointer (some ⟨p0b, 2, none⟩)) tt_ok rfl rfl ?_
  apply wl_store tt_ok; rfl; exact (Upd.right (Upd.right Upd.here)); rfl; rfl; rfl; rfl; rfl; rfl
  refine wl_nil ?_
  refine wx_then ?_
  refine wc_seq ?_
  refine wc_region ?_
  refine wl_pure tt_ok rfl rfl ?_
  refine wl_nil ?_
  refine wx_then ?_
  refine wc_ret ?_
  simp only [Option.some.injEq, Prod.mk.injEq] at h
  obtain ⟨rfl, rfl⟩ := h
  exact wx_spD tt_ok (.inl rfl) Try.results10 (Res.tmp rfl Res.nil) ⟨a62, n62_, c62, B62, N62, V62, rfl, rfl⟩ (fun F => by simp) (pSub (pCons (Sel.sa (Sel.sa Sel.hc)) (pApp Sel.ha pNil)))

theorem k_hindcastlaw24_at {F : Nat} {p0 : T_queue_Queue} {p0b p0t : Nat} {p0a0 : Option Addr} {p0n0 p0c0 : Nat} {p0B0 : List Blk} {p1 : Int} {p2 : Int} {r0 : Bool} (p0N0 : p0n0 = p0.l.length) (p0V0 : Own 31 1 p0a0 p0n0 p0c0 (flat (e1 .u8) p0.l) p0B0) (h : m_hindcastlaw24_at F p0 p1 p2 = some r0) :
    Rd2 Try.prog 11 [.pointer (some ⟨p0b, 0, none⟩), .int .u64 p1, .int .u8 p2] (⟨p0b, [.int .u64 p0.first_, .slice p0a0 p0n0 p0c0, .int .u8 p0.last], p0t, (0, 0)⟩ :: (p0B0 ++ [])) (fun w => True) (.bool r0) := by
  unfold m_hindcastlaw24_at at h
  refine sp_of_wc Try.func11 rfl Try.ntmps11 rfl rfl (fun w0 hR => ?_)
  refine wc_seq ?_
  refine wc_region ?_
  refine wl_pure tt_ok rfl rfl ?_
  refine wl_nil ?_
  refine wx_then ?_
  refine wc_seq ?_
  refine wc_region ?_
  refine wl_pure tt_ok rfl rfl ?_
  refine wl_pure tt_ok rfl rfl ?_
  replace h := bsome h; obtain ⟨⟨v12_0, v12_1⟩, x12, h⟩ := h; try dsimp only at h
  refine wl_cq Try.call18 rfl rfl rfl (q_rd (k_queue_Queue_At (p0 := p0) p0N0 p0V0 x12) (pCons Sel.hc (pApp Sel.ha pNil)) (fun _ _ => trivial)) rfl ?_
  refine wl_pure tt_ok rfl rfl ?_
  refine wl_pure tt_ok rfl rfl ?_
  refine wl_pure tt_ok rfl rfl ?_
  refine wl_pure tt_ok rfl rfl ?_
  refine wl_pure tt_ok rfl rfl ?_
  refine wl_nil ?_
  refine wx_then ?_
  refine wc_seq ?_
  refine wc_region ?_
  refine wl_pure tt_ok rfl rfl ?_
  refine wl_pure tt_ok rfl rfl ?_
  replace h := bsome h; obtain ⟨v20, h, hg20⟩ := h
  refine wl_split (t := 16) rfl (fun hc => ?_) (fun hc => ?_)
  · replace h := ct hc h
    refine wl_run rfl ?_
    refine wl_pure tt_ok rfl rfl ?_
    refine wl_run rfl ?_
    refine wl_pure tt_ok rfl rfl ?_
    refine wl_run rfl ?_
    refine wl_pure (v := .bool (v12_0 == p2)) tt_ok rfl rfl ?_
    simp only [Option.some.injEq, Prod.mk.injEq] at h
    obtain rfl := h
    have h := hg20; clear hg20
    refine wl_pure (v := .bool (v12_0 == p2)) tt_ok rfl rfl ?_
    refine wl_pure tt_ok rfl rfl ?_
    refine wl_nil ?_
    refine wx_then ?_
    refine wc_ret ?_
    simp only [Option.some.injEq] at h
    obtain rfl := h
    exact wx_rd tt_ok (.inl rfl) Try.results11 (Res.tmp rfl Res.nil) (pSub (pCons Sel.hc (pApp Sel.ha pNil))) rfl
  replace h := cf hc h
  refine wl_skip rfl rfl ?_
  refine wl_skip rfl rfl ?_
  refine wl_skip rfl rfl ?_
  simp only [Option.some.injEq, Prod.mk.injEq] at h
  obtain rfl := h
  have h := hg20; clear hg20
  refine wl_pure (v := .bool false) tt_ok rfl rfl ?_
  refine wl_pure tt_ok rfl rfl ?_
  refine wl_nil ?_
  refine wx_then ?_
  refine wc_ret ?_
  simp only [Option.some.injEq] at h
  obtain rfl := h
  exact wx_rd tt_ok (.inl rfl) Try.results11 (Res.tmp rfl Res.nil) (pSub (pCons Sel.hc (pApp Sel.ha pNil))) rfl

theorem k_queue_Queue_Guess {F : Nat} {p0 : T_queue_Queue} {p0b p0t : Nat} {p0a0 : Option Addr} {p0n0 p0c0 : Nat} {p0B0 : List Blk} {p1 : Int} {r0 : Int} (p0N0 : p0n0 = p0.l.length) (p0V0 : Own 31 1 p0a0 p0n0 p0c0 (flat (e1 .u8) p0.l) p0B0) (h : m_queue_Queue_Guess F p0 p1 = some r0) :
    Rd2 Try.prog 12 [.pointer (some ⟨p0b, 0, none⟩), .int .u64 p1] (⟨p0b, [.int .u64 p0.first_, .slice p0a0 p0n0 p0c0, .int .u8 p0.last], p0t, (0, 0)⟩ :: (p0B0 ++ [])) (fun w => True) (.int .u8 r0) := by
  unfold m_queue_Queue_Guess at h
  refine sp_of_wc Try.func12 rfl Try.ntmps12 rfl rfl (fun w0 hR => ?_)
  refine wc_seq ?_
  refine wc_region ?_
  refine wl_pure tt_ok rfl rfl ?_
  refine wl_nil ?_
  refine wx_then ?_
  refine wc_seq ?_
  refine wc_seq ?_
  refine wc_region ?_
  refine wl_pure tt_ok rfl rfl ?_
  refine wl_pure tt_ok rfl rfl ?_
  replace h := bsome h; obtain ⟨⟨v10_0, v10_1⟩, x10, h⟩ := h; try dsimp only at h
  refine wl_cq Try.call18 rfl rfl rfl (q_rd (k_queue_Queue_At (p0 := p0) p0N0 p0V0 x10) (pCons Sel.hc (pApp Sel.ha pNil)) (fun _ _ => trivial)) rfl ?_
  refine wl_pure tt_ok rfl rfl ?_
  refine wl_pure tt_ok rfl rfl ?_
  refine wl_pure tt_ok rfl rfl ?_
  refine wl_pure tt_ok rfl rfl ?_
  refine wl_pure tt_ok rfl rfl ?_
  refine wl_nil ?_
  refine wx_then ?_
  refine wc_seq ?_
  refine wc_region ?_
  refine wl_pure tt_ok rfl rfl ?_
  refine wl_pure tt_ok rfl rfl ?_
  replace h := bsome h; obtain ⟨v17, h, hg17⟩ := h
  refine wl_split (t := 14) rfl (fun hc => ?_) (fun hc => ?_)
  · replace h := ct hc h
    refine wl_skip rfl rfl ?_
    refine wl_skip rfl rfl ?_
    simp only [Option.some.injEq, Prod.mk.injEq] at h
    obtain rfl := h
    have h := hg17; clear hg17
    refine wl_pure (v := .bool true) tt_ok rfl rfl ?_
    refine wl_nil ?_
    refine wx_then ?_
    replace h := ct rfl h
    refine wc_cond_true rfl ?_
    refine wc_seq ?_
    refine wc_region ?_
    refine wl_pure tt_ok rfl rfl ?_
    refine wl_pure tt_ok rfl rfl ?_
    refine wl_nil ?_
    refine wx_then ?_
    refine wc_ret ?_
    refine wx_then_ret ?_
    simp only [Option.some.injEq] at h
    obtain rfl := h
    exact wx_rd tt_ok (.inl rfl) Try.results12 (Res.tmp rfl Res.nil) (pSub (pCons Sel.hc (pApp Sel.ha pNil))) rfl
  replace h := cf hc h
  refine wl_run rfl ?_
  refine wl_pure tt_ok rfl rfl ?_
  refine wl_run rfl ?_
  refine wl_pure (v := .bool false) tt_ok rfl rfl ?_
  simp only [Option.some.injEq, Prod.mk.injEq] at h
  obtain rfl := h
  have h := hg17; clear hg17
  refine wl_pure (v := .bool false) tt_ok rfl rfl ?_
  refine wl_nil ?_
  refine wx_then ?_
  replace h := cf rfl h
  refine wc_cond_false rfl ?_
  refine wc_skip ?_
  refine wx_then ?_
  refine wc_seq ?_
  refine wc_region ?_
  refine wl_pure tt_ok rfl rfl ?_
  refine wl_pure tt_ok rfl rfl ?_
  refine wl_pure (v := .pointer (some ⟨p0b, 2, none⟩)) tt_ok rfl rfl ?_
  refine wl_val (v := .int .u8 p0.last) (val_load tt_ok rfl (List.Mem.head _) rfl) rfl ?_
  refine wl_pure tt_ok rfl rfl ?_
  refine wl_nil ?_
  refine wx_then ?_
  refine wc_ret ?_
  simp only [Option.some.injEq] at h
  obtain rfl := h
  exact wx_rd tt_ok (.inl rfl) Try.results12 (Res.tmp rfl Res.nil) (pSub (pCons Sel.hc (pApp Sel.ha pNil))) rfl

theorem k_hindcastlaw24_no {F : Nat} {p0 : T_queue_Queue} {p0b p0t : Nat} {p0a0 : Option Addr} {p0n0 p0c0 : Nat} {p0B0 : List Blk} {p1 : Int} {r0 : Bool} (p0N0 : p0n0 = p0.l.length) (p0V0 : Own 31 1 p0a0 p0n0 p0c0 (flat (e1 .u8) p0.l) p0B0) (h : m_hindcastlaw24_no F p0 p1 = some r0) :
    Rd2 Try.prog 13 [.pointer (some ⟨p0b, 0, none⟩), .int .u64 p1] (⟨p0b, [.int .u64 p0.first_, .slice p0a0 p0n0 p0c0, .int .u8 p0.last], p0t, (0, 0)⟩ :: (p0B0 ++ [])) (fun w => True) (.bool r0) := by
  unfold m_hindcastlaw24_no at h
  refine sp_of_wc Try.func13 rfl Try.ntmps13 rfl rfl (fun w0 hR => ?_)
  refine wc_seq ?_
  refine wc_region ?_
  refine wl_pure tt_ok rfl rfl ?_
  refine wl_nil ?_
  refine wx_then ?_
  refine wc_seq ?_
  refine wc_region ?_
  refine wl_pure tt_ok rfl rfl ?_
  refine wl_pure tt_ok rfl rfl ?_
  replace h := bsome h; obtain ⟨⟨v10_0, v10_1⟩, x10, h⟩ := h; try dsimp only at h
  refine wl_cq Try.call18 rfl rfl rfl (q_rd (k_queue_Queue_At (p0 := p0) p0N0 p0V0 x10) (pCons Sel.hc (pApp Sel.ha pNil)) (fun _ _ => trivial)) rfl ?_
  refine wl_pure tt_ok rfl rfl ?_
  refine wl_pure tt_ok rfl rfl ?_
  refine wl_pure tt_ok rfl rfl ?_
  refine wl_pure tt_ok rfl rfl ?_
  refine wl_pure tt_ok rfl rfl ?_
  refine wl_nil ?_
  refine wx_then ?_
  refine wc_seq ?_
  refine wc_region ?_
  refine wl_pure tt_ok rfl rfl ?_
  refine wl_pure (v := .bool (!v10_1)) tt_ok rfl rfl ?_
  refine wl_pure tt_ok rfl rfl ?_
  replace h := bsome h; obtain ⟨v18, h, hg18⟩ := h
  refine wl_split (t := 15) rfl (fun hc => ?_) (fun hc => ?_)
  · replace h := ct hc h
    refine wl_run rfl ?_
    refine wl_pure tt_ok rfl rfl ?_
    refine wl_run rfl ?_
    refine wl_pure (v := .bool (v10_0 == (0 : Int))) tt_ok rfl rfl ?_
    simp only [Option.some.injEq, Prod.mk.injEq] at h
    obtain rfl := h
    have h := hg18; clear hg18
    refine wl_pure (v := .bool (v10_0 == (0 : Int))) tt_ok rfl rfl ?_
    refine wl_pure tt_ok rfl rfl ?_
    refine wl_nil ?_
    refine wx_then ?_
    refine wc_ret ?_
    simp only [Option.some.injEq] at h
    obtain rfl := h
    exact wx_rd tt_ok (.inl rfl) Try.results13 (Res.tmp rfl Res.nil) (pSub (pCons Sel.hc (pApp Sel.ha pNil))) rfl
  replace h := cf hc h
  refine wl_skip rfl rfl ?_
  refine wl_skip rfl rfl ?_
  simp only [Option.some.injEq, Prod.mk.injEq] at h
  obtain rfl := h
  have h := hg18; clear hg18
  refine wl_pure (v := .bool false) tt_ok rfl rfl ?_
  refine wl_pure tt_ok rfl rfl ?_
  refine wl_nil ?_
  refine wx_then ?_
  refine wc_ret ?_
  simp only [Option.some.injEq] at h
  obtain rfl := h
  exact wx_rd tt_ok (.inl rfl) Try.results13 (Res.tmp rfl Res.nil) (pSub (pCons Sel.hc (pApp Sel.ha pNil))) rfl

theorem k_hindcastlaw24_works {F : Nat} {r0 : Bool} (h : m_hindcastlaw24_works F = some r0) :
    Pf Try.prog 7 [] (fun w => True) (.bool r0) := by
  unfold m_hindcastlaw24_works at h
  refine pf_of_wc Try.func7 rfl Try.ntmps7 rfl rfl (fun w0 hR => ?_)
  refine wc_seq ?_
  refine wc_region ?_
  refine wl_pure tt_ok rfl rfl ?_
  refine wl_nil ?_
  refine wx_then ?_
  refine wc_seq ?_
  refine wc_region ?_
  replace h := bsome h; obtain ⟨v2, x2, h⟩ := h
  refine wl_cs Try.call8 rfl rfl rfl (s_sp (k_queue_New x2) pNil (fun _ _ => trivial)) rfl ?_
  rintro _ _ ⟨_, ⟨b2_0, v2a0, v2n0, v2c0, v2B0, v2N0, v2V0, rfl, rfl⟩, rfl⟩
  refine wl_pure tt_ok rfl rfl ?_
  refine wl_nil ?_
  refine wx_then ?_
  refine wc_seq ?_
  refine wc_region ?_
  refine wl_pure tt_ok rfl rfl ?_
  refine wl_pure (v := .bool true) tt_ok rfl rfl ?_
  refine wl_pure tt_ok rfl rfl ?_
  refine wl_run rfl ?_
  refine wl_pure tt_ok rfl rfl ?_
  replace h := bsome h; obtain ⟨⟨o7_0, v7⟩, x7, h⟩ := h; try dsimp only at h
  refine wl_run rfl ?_
  refine wl_cs Try.call10 rfl rfl rfl (s_sp (k_queue_Queue_Add (p0 := v2) v2N0 v2V0 x7) (pCons Sel.hc (pApp Sel.ha pNil)) (fun _ _ => trivial)) rfl ?_
  rintro _ _ ⟨_, ⟨o7_0a0, o7_0n0, o7_0c0, o7_0B0, o7_0N0, o7_0V0, rfl, rfl⟩, rfl⟩
  refine wl_run rfl ?_
  refine wl_pure (v := .bool (v7 == (0 : Int))) tt_ok rfl rfl ?_
  refine wl_pure (v := .bool (v7 == (0 : Int))) tt_ok rfl rfl ?_
  refine wl_pure tt_ok rfl rfl ?_
  replace h := bsome h; obtain ⟨⟨v14, g14_n2_0_f0, g14_n2_0_f1, g14_n2_0_f2⟩, h, hg14⟩ := h
  refine wl_split (t := 10) rfl (fun hc => ?_) (fun hc => ?_)
  · replace h := ct hc h
    refine wl_run rfl ?_
    refine wl_pure tt_ok rfl rfl ?_
    replace h := bsome h; obtain ⟨⟨o12_0, v12⟩, x12, h⟩ := h; try dsimp only at h
    refine wl_run rfl ?_
    refine wl_cs Try.call10 rfl rfl rfl (s_sp (k_queue_Queue_Add (p0 := o7_0) o7_0N0 o7_0V0 x12) (pCons Sel.hc (pApp Sel.ha pNil)) (fun _ _ => trivial)) rfl ?_
    rintro _ _ ⟨_, ⟨o12_0a0, o12_0n0, o12_0c0, o12_0B0, o12_0N0, o12_0V0, rfl, rfl⟩, rfl⟩
    refine wl_run rfl ?_
    refine wl_pure (v := .bool (v12 == (14 : Int))) tt_ok rfl rfl ?_
    simp only [Option.some.injEq, Prod.mk.injEq] at h
    obtain ⟨rfl, rfl, rfl, rfl⟩ := h
    have h := hg14; clear hg14; try dsimp only at h
    refine wl_pure (v := .bool (v12 == (14 : Int))) tt_ok rfl rfl ?_
    refine wl_pure tt_ok rfl rfl ?_
    replace h := bsome h; obtain ⟨v19, h, hg19⟩ := h
    refine wl_split (t := 15) rfl (fun hc => ?_) (fun hc => ?_)
    · replace h := ct hc h
      refine wl_run rfl ?_
      refine wl_pure tt_ok rfl rfl ?_
      replace h := bsome h; obtain ⟨v17, x17, h⟩ := h
      refine wl_run rfl ?_
      refine wl_cq Try.call9 rfl rfl rfl (q_rd (k_queue_Queue_Known (p0 := o12_0) o12_0N0 o12_0V0 x17) (pCons Sel.hc (pApp Sel.ha pNil)) (fun _ _ => trivial)) rfl ?_
      refine wl_run rfl ?_
      refine wl_pure (v := .bool (v17 == (6 : Int))) tt_ok rfl rfl ?_
      simp only [Option.some.injEq, Prod.mk.injEq] at h
      obtain rfl := h
      have h := hg19; clear hg19
      refine wl_pure (v := .bool (v17 == (6 : Int))) tt_ok rfl rfl ?_
      refine wl_pure tt_ok rfl rfl ?_
      replace h := bsome h; obtain ⟨v23, h, hg23⟩ := h
      refine wl_split (t := 20) rfl (fun hc => ?_) (fun hc => ?_)
      · replace h := ct hc h
        refine wl_run rfl ?_
        refine wl_pure tt_ok rfl rfl ?_
        replace h := bsome h; obtain ⟨v22, x22, h⟩ := h
        refine wl_run rfl ?_
        refine wl_cq Try.call11 rfl rfl rfl (q_rd (k_hindcastlaw24_at (p0 := o12_0) o12_0N0 o12_0V0 x22) (pCons Sel.hc (pApp Sel.ha pNil)) (fun _ _ => trivial)) rfl ?_
        simp only [Option.some.injEq, Prod.mk.injEq] at h
        obtain rfl := h
        have h := hg23; clear hg23
        refine wl_pure (v := .bool v22) tt_ok rfl rfl ?_
        refine wl_pure tt_ok rfl rfl ?_
        replace h := bsome h; obtain ⟨v28, h, hg28⟩ := h
        refine wl_split (t := 24) rfl (fun hc => ?_) (fun hc => ?_)
        · replace h := ct hc h
          refine wl_run rfl ?_
          refine wl_pure tt_ok rfl rfl ?_
          replace h := bsome h; obtain ⟨v26, x26, h⟩ := h
          refine wl_run rfl ?_
          refine wl_cq Try.call12 rfl rfl rfl (q_rd (k_queue_Queue_Guess (p0 := o12_0) o12_0N0 o12_0V0 x26) (pCons Sel.hc (pApp Sel.ha pNil)) (fun _ _ => trivial)) rfl ?_
          refine wl_run rfl ?_
          refine wl_pure (v := .bool (v26 == (7 : Int))) tt_ok rfl rfl ?_
          simp only [Option.some.injEq, Prod.mk.injEq] at h
          obtain rfl := h
          have h := hg28; clear hg28
          refine wl_pure (v := .bool (v26 == (7 : Int))) tt_ok rfl rfl ?_
          refine wl_pure tt_ok rfl rfl ?_
          replace h := bsome h; obtain ⟨v32, h, hg32⟩ := h
          refine wl_split (t := 29) rfl (fun hc => ?_) (fun hc => ?_)
          · replace h := ct hc h
            refine wl_run rfl ?_
            refine wl_pure tt_ok rfl rfl ?_
            replace h := bsome h; obtain ⟨v31, x31, h⟩ := h
            refine wl_run rfl ?_
            refine wl_cq Try.call13 rfl rfl rfl (q_rd (k_hindcastlaw24_no (p0 := o12_0) o12_0N0 o12_0V0 x31) (pCons Sel.hc (pApp Sel.ha pNil)) (fun _ _ => trivial)) rfl ?_
            simp only [Option.some.injEq, Prod.mk.injEq] at h
            obtain rfl := h
            have h := hg32; clear hg32
            refine wl_pure (v := .bool v31) tt_ok rfl rfl ?_
            refine wl_pure tt_ok rfl rfl ?_
            refine wl_nil ?_
            refine wx_then ?_
            refine wc_ret ?_
            simp only [Option.some.injEq] at h
            obtain rfl := h
            exact wx_pf tt_ok (.inl rfl) Try.results7 (Res.tmp rfl Res.nil) rfl
          replace h := cf hc h
          refine wl_skip rfl rfl ?_
          refine wl_skip rfl rfl ?_
          simp only [Option.some.injEq, Prod.mk.injEq] at h
          obtain rfl := h
          have h := hg32; clear hg32
          refine wl_pure (v := .bool false) tt_ok rfl rfl ?_
          refine wl_pure tt_ok rfl rfl ?_
          refine wl_nil ?_
          refine wx_then ?_
          refine wc_ret ?_
          simp only [Option.some.injEq] at h
          obtain rfl := h
          exact wx_pf tt_ok (.inl rfl) Try.results7 (Res.tmp rfl Res.nil) rfl
        replace h := cf hc h
        refine wl_skip rfl rfl ?_
        refine wl_skip rfl rfl ?_
        refine wl_skip rfl rfl ?_
        simp only [Option.some.injEq, Prod.mk.injEq] at h
        obtain rfl := h
        have h := hg28; clear hg28
        refine wl_pure (v := .bool false) tt_ok rfl rfl ?_
        refine wl_pure tt_ok rfl rfl ?_
        replace h := bsome h; obtain ⟨v32, h, hg32⟩ := h
        replace h := cf rfl h
        refine wl_skip rfl rfl ?_
        refine wl_skip rfl rfl ?_
        simp only [Option.some.injEq, Prod.mk.injEq] at h
        obtain rfl := h
        have h := hg32; clear hg32
        refine wl_pure (v := .bool false) tt_ok rfl rfl ?_
        refine wl_pure tt_ok rfl rfl ?_
        refine wl_nil ?_
        refine wx_then ?_
        refine wc_ret ?_
        simp only [Option.some.injEq] at h
        obtain rfl := h
        exact wx_pf tt_ok (.inl rfl) Try.results7 (Res.tmp rfl Res.nil) rfl
      replace h := cf hc h
      refine wl_skip rfl rfl ?_
      refine wl_skip rfl rfl ?_
      simp only [Option.some.injEq, Prod.mk.injEq] at h
      obtain rfl := h
      have h := hg23; clear hg23
      refine wl_pure (v := .bool false) tt_ok rfl rfl ?_
      refine wl_pure tt_ok rfl rfl ?_
      replace h := bsome h; obtain ⟨v28, h, hg28⟩ := h
      replace h := cf rfl h
      refine wl_skip rfl rfl ?_
      refine wl_skip rfl rfl ?_
      refine wl_skip rfl rfl ?_
      simp only [Option.some.injEq, Prod.mk.injEq] at h
      obtain rfl := h
      have h := hg28; clear hg28
      refine wl_pure (v := .bool false) tt_ok rfl rfl ?_
      refine wl_pure tt_ok rfl rfl ?_
      replace h := bsome h; obtain ⟨v32, h, hg32⟩ := h
      replace h := cf rfl h
      refine wl_skip rfl rfl ?_
      refine wl_skip rfl rfl ?_
      simp only [Option.some.injEq, Prod.mk.injEq] at h
      obtain rfl := h
      have h := hg32; clear hg32
      refine wl_pure (v := .bool false) tt_ok rfl rfl ?_
      refine wl_pure tt_ok rfl rfl ?_
      refine wl_nil ?_
      refine wx_then ?_
      refine wc_ret ?_
      simp only [Option.some.injEq] at h
      obtain rfl := h
      exact wx_pf tt_ok (.inl rfl) Try.results7 (Res.tmp rfl Res.nil) rfl
    replace h := cf hc h
    refine wl_skip rfl rfl ?_
    refine wl_skip rfl rfl ?_
    refine wl_skip rfl rfl ?_
    simp only [Option.some.injEq, Prod.mk.injEq] at h
    obtain rfl := h
    have h := hg19; clear hg19
    refine wl_pure (v := .bool false) tt_ok rfl rfl ?_
    refine wl_pure tt_ok rfl rfl ?_
    replace h := bsome h; obtain ⟨v23, h, hg23⟩ := h
    replace h := cf rfl h
    refine wl_skip rfl rfl ?_
    refine wl_skip rfl rfl ?_
    simp only [Option.some.injEq, Prod.mk.injEq] at h
    obtain rfl := h
    have h := hg23; clear hg23
    refine wl_pure (v := .bool false) tt_ok rfl rfl ?_
    refine wl_pure tt_ok rfl rfl ?_
    replace h := bsome h; obtain ⟨v28, h, hg28⟩ := h
    replace h := cf rfl h
    refine wl_skip rfl rfl ?_
    refine wl_skip rfl rfl ?_
    refine wl_skip rfl rfl ?_
    simp only [Option.some.injEq, Prod.mk.injEq] at h
    obtain rfl := h
    have h := hg28; clear hg28
    refine wl_pure (v := .bool false) tt_ok rfl rfl ?_
    refine wl_pure tt_ok rfl rfl ?_
    replace h := bsome h; obtain ⟨v32, h, hg32⟩ := h
    replace h := cf rfl h
    refine wl_skip rfl rfl ?_
    refine wl_skip rfl rfl ?_
    simp only [Option.some.injEq, Prod.mk.injEq] at h
    obtain rfl := h
    have h := hg32; clear hg32
    refine wl_pure (v := .bool false) tt_ok rfl rfl ?_
    refine wl_pure tt_ok rfl rfl ?_
    refine wl_nil ?_
    refine wx_then ?_
    refine wc_ret ?_
    simp only [Option.some.injEq] at h
    obtain rfl := h
    exact wx_pf tt_ok (.inl rfl) Try.results7 (Res.tmp rfl Res.nil) rfl
  replace h := cf hc h
  refine wl_skip rfl rfl ?_
  refine wl_skip rfl rfl ?_
  refine wl_skip rfl rfl ?_
  simp only [Option.some.injEq, Prod.mk.injEq] at h
  obtain ⟨rfl, rfl, rfl, rfl⟩ := h
  have h := hg14; clear hg14; try dsimp only at h
  refine wl_pure (v := .bool false) tt_ok rfl rfl ?_
  refine wl_pure tt_ok rfl rfl ?_
  replace h := bsome h; obtain ⟨v19, h, hg19⟩ := h
  replace h := cf rfl h
  refine wl_skip rfl rfl ?_
  refine wl_skip rfl rfl ?_
  refine wl_skip rfl rfl ?_
  simp only [Option.some.injEq, Prod.mk.injEq] at h
  obtain rfl := h
  have h := hg19; clear hg19
  refine wl_pure (v := .bool false) tt_ok rfl rfl ?_
  refine wl_pure tt_ok rfl rfl ?_
  replace h := bsome h; obtain ⟨v23, h, hg23⟩ := h
  replace h := cf rfl h
  refine wl_skip rfl rfl ?_
  refine wl_skip rfl rfl ?_
  simp only [Option.some.injEq, Prod.mk.injEq] at h
  obtain rfl := h
  have h := hg23; clear hg23
  refine wl_pure (v := .bool false) tt_ok rfl rfl ?_
  refine wl_pure tt_ok rfl rfl ?_
  replace h := bsome h; obtain ⟨v28, h, hg28⟩ := h
  replace h := cf rfl h
  refine wl_skip rfl rfl ?_
  refine wl_skip rfl rfl ?_
  refine wl_skip rfl rfl ?_
  simp only [Option.some.injEq, Prod.mk.injEq] at h
  obtain rfl := h
  have h := hg28; clear hg28
  refine wl_pure (v := .bool false) tt_ok rfl rfl ?_
  refine wl_pure tt_ok rfl rfl ?_
  replace h := bsome h; obtain ⟨v32, h, hg32⟩ := h
  replace h := cf rfl h
  refine wl_skip rfl rfl ?_
  refine wl_skip rfl rfl ?_
  simp only [Option.some.injEq, Prod.mk.injEq] at h
  obtain rfl := h
  have h := hg32; clear hg32
  refine wl_pure (v := .bool false) tt_ok rfl rfl ?_
  refine wl_pure tt_ok rfl rfl ?_
  refine wl_nil ?_
  refine wx_then ?_
  refine wc_ret ?_
  simp only [Option.some.injEq] at h
  obtain rfl := h
  exact wx_pf tt_ok (.inl rfl) Try.results7 (Res.tmp rfl Res.nil) rfl

theorem k_hindcastref24_Queue_Known {F : Nat} {p0 : T_hindcastref24_Queue} {p0b p0t : Nat} {p0a0 : Option Addr} {p0n0 p0c0 : Nat} {p0B0 : List Blk} {r0 : Int} (p0N0 : p0n0 = p0.L.length) (p0V0 : Own 31 1 p0a0 p0n0 p0c0 (flat (e1 .u8) p0.L) p0B0) (h : m_hindcastref24_Queue_Known F p0 = some r0) :
    Rd2 Try.prog 21 [.pointer (some ⟨p0b, 0, none⟩)] (⟨p0b, [.int .u64 p0.Begin, .int .u64 p0.First, .slice p0a0 p0n0 p0c0], p0t, (0, 0)⟩ :: (p0B0 ++ [])) (fun w => True) (.int .u64 r0) := by
  unfold m_hindcastref24_Queue_Known at h
  refine sp_of_wc Try.func21 rfl Try.ntmps21 rfl rfl (fun w0 hR => ?_)
  refine wc_seq ?_
  refine wc_region ?_
  refine wl_pure tt_ok rfl rfl ?_
  refine wl_nil ?_
  refine wx_then ?_
  refine wc_seq ?_
  refine wc_quiet (by kernel_rfl) (by kernel_rfl) ?_
  refine wq_pure tt_ok rfl rfl ?_
  refine wq_pure tt_ok rfl rfl ?_
  refine wq_pure (v := .pointer (some ⟨p0b, 0, none⟩)) tt_ok rfl rfl ?_
  refine wq_val (v := .int .u64 p0.Begin) (val_load tt_ok rfl (List.Mem.head _) rfl) rfl ?_
  refine wq_pure tt_ok rfl rfl ?_
  refine wq_pure tt_ok rfl rfl ?_
  refine wq_pure (v := .pointer (some ⟨p0b, 2, none⟩)) tt_ok rfl rfl ?_
  refine wq_val (v := .slice p0a0 p0n0 p0c0) (val_load tt_ok rfl (List.Mem.head _) rfl) rfl ?_
  refine wq_val (v := .int .i64 (p0.L.length : Int)) (val_len tt_ok rfl rfl p0N0) rfl ?_
  refine wq_pure (v := .int .u64 (IntKind.wrap .u64 (p0.L.length : Int))) tt_ok rfl rfl ?_
  refine wq_pure (v := .int .u64 (IntKind.wrap .u64 (p0.Begin + (IntKind.wrap .u64 (p0.L.length : Int))))) tt_ok rfl rfl ?_
  refine wq_pure tt_ok rfl rfl ?_
  refine wq_nil ?_
  refine wx_then ?_
  refine wc_ret ?_
  simp only [Option.some.injEq] at h
  obtain rfl := h
  exact wx_rd tt_ok (.inl rfl) Try.results21 (Res.tmp rfl Res.nil) (pSub (pCons Sel.hc (pApp Sel.ha pNil))) rfl

theorem k_hindcastref24_Queue_At {F : Nat} {p0 : T_hindcastref24_Queue} {p0b p0t : Nat} {p0a0 : Option Addr} {p0n0 p0c0 : Nat} {p0B0 : List Blk} {p1 : Int} {r0 : Int} {r1 : Bool} (p0N0 : p0n0 = p0.L.length) (p0V0 : Own 31 1 p0a0 p0n0 p0c0 (flat (e1 .u8) p0.L) p0B0) (h : m_hindcastref24_Queue_At F p0 p1 = some (r0, r1)) :
    Rd2 Try.prog 19 [.pointer (some ⟨p0b, 0, none⟩), .int .u64 p1] (⟨p0b, [.int .u64 p0.Begin, .int .u64 p0.First, .slice p0a0 p0n0 p0c0], p0t, (0, 0)⟩ :: (p0B0 ++ [])) (fun w => True) (.tuple #[.int .u8 r0, .bool r1]) := by
  unfold m_hindcastref24_Queue_At at h
  refine sp_of_wc Try.func19 rfl Try.ntmps19 rfl rfl (fun w0 hR => ?_)
  refine wc_seq ?_
  refine wc_region ?_
  refine wl_pure tt_ok rfl rfl ?_
  refine wl_pure tt_ok rfl rfl ?_
  refine wl_nil ?_
  refine wx_then ?_
  refine wc_seq ?_
  refine wc_seq ?_
  refine wc_region ?_
  refine wl_pure tt_ok rfl rfl ?_
  refine wl_pure tt_ok rfl rfl ?_
  refine wl_pure tt_ok rfl rfl ?_
  refine wl_pure (v := .pointer (some ⟨p0b, 1, none⟩)) tt_ok rfl rfl ?_
  refine wl_val (v := .int .u64 p0.First) (val_load tt_ok rfl (List.Mem.head _) rfl) rfl ?_
  refine wl_pure (v := .bool (decide (p1 < p0.First))) tt_ok rfl rfl ?_
  refine wl_pure tt_ok rfl rfl ?_
  replace h := bsome h; obtain ⟨v17, h, hg17⟩ := h
  refine wl_split (t := 12) rfl (fun hc => ?_) (fun hc => ?_)
  · replace h := ct hc h
    refine wl_skip rfl rfl ?_
    refine wl_skip rfl rfl ?_
    refine wl_skip rfl rfl ?_
    refine wl_skip rfl rfl ?_
    simp only [Option.some.injEq, Prod.mk.injEq] at h
    obtain rfl := h
    have h := hg17; clear hg17
    refine wl_pure (v := .bool true) tt_ok rfl rfl ?_
    refine wl_nil ?_
    refine wx_then ?_
    replace h := ct rfl h
    refine wc_cond_true rfl ?_
    refine wc_seq ?_
    refine wc_region ?_
    refine wl_pure tt_ok rfl rfl ?_
    refine wl_pure tt_ok rfl rfl ?_
    refine wl_nil ?_
    refine wx_then ?_
    refine wc_ret ?_
    refine wx_then_ret ?_
    simp only [Option.some.injEq, Prod.mk.injEq] at h
    obtain ⟨rfl, rfl⟩ := h
    exact wx_rd tt_ok (.inl rfl) Try.results19 (Res.tmp rfl (Res.tmp rfl Res.nil)) (pSub (pCons Sel.hc (pApp Sel.ha pNil))) rfl
  replace h := cf hc h
  refine wl_run rfl ?_
  refine wl_pure tt_ok rfl rfl ?_
  refine wl_run rfl ?_
  refine wl_pure tt_ok rfl rfl ?_
  replace h := bsome h; obtain ⟨v15, x15, h⟩ := h
  refine wl_run rfl ?_
  refine wl_cq Try.call21 rfl rfl rfl (q_rd (k_hindcastref24_Queue_Known (p0 := p0) p0N0 p0V0 x15) (pCons Sel.hc (pApp Sel.ha pNil)) (fun _ _ => trivial)) rfl ?_
  refine wl_run rfl ?_
  refine wl_pure (v := .bool (decide (v15 ≤ p1))) tt_ok rfl rfl ?_
  simp only [Option.some.injEq, Prod.mk.injEq] at h
  obtain rfl := h
  have h := hg17; clear hg17
  refine wl_pure (v := .bool (decide (v15 ≤ p1))) tt_ok rfl rfl ?_
  refine wl_nil ?_
  refine wx_then ?_
  refine wc_cond rfl (fun hc => ?_) (fun hc => ?_)
  · replace h := ct hc h
    refine wc_seq ?_
    refine wc_region ?_
    refine wl_pure tt_ok rfl rfl ?_
    refine wl_pure tt_ok rfl rfl ?_
    refine wl_nil ?_
    refine wx_then ?_
    refine wc_ret ?_
    refine wx_then_ret ?_
    simp only [Option.some.injEq, Prod.mk.injEq] at h
    obtain ⟨rfl, rfl⟩ := h
    exact wx_rd tt_ok (.inl rfl) Try.results19 (Res.tmp rfl (Res.tmp rfl Res.nil)) (pSub (pCons Sel.hc (pApp Sel.ha pNil))) rfl
  replace h := cf hc h
  refine wc_skip ?_
  refine wx_then ?_
  refine wc_seq ?_
  refine wc_quiet (by kernel_rfl) (by kernel_rfl) ?_
  refine wq_pure tt_ok rfl rfl ?_
  refine wq_pure tt_ok rfl rfl ?_
  refine wq_pure (v := .pointer (some ⟨p0b, 2, none⟩)) tt_ok rfl rfl ?_
  refine wq_val (v := .slice p0a0 p0n0 p0c0) (val_load tt_ok rfl (List.Mem.head _) rfl) rfl ?_
  refine wq_pure tt_ok rfl rfl ?_
  refine wq_pure tt_ok rfl rfl ?_
  refine wq_pure tt_ok rfl rfl ?_
  refine wq_pure (v := .pointer (some ⟨p0b, 0, none⟩)) tt_ok rfl rfl ?_
  refine wq_val (v := .int .u64 p0.Begin) (val_load tt_ok rfl (List.Mem.head _) rfl) rfl ?_
  refine wq_pure (v := .int .u64 (IntKind.wrap .u64 (p1 - p0.Begin))) tt_ok rfl rfl ?_
  replace h := bsome h; obtain ⟨v28, x28, h⟩ := h
  refine wq_val (v := .pointer (some ((adOf p0a0).add ((IntKind.wrap .u64 (p1 - p0.Begin)).toNat * 1 + 0)))) (val_ix (enc := (e1 .u8)) tt_ok rfl rfl rfl rfl p0N0 (Rds.of_vec p0V0) (e1_len _) rfl x28) rfl ?_
  refine wq_val (v := .int .u8 v28) (val_le (enc := (e1 .u8)) (xs := p0.L) tt_ok rfl (Rds.of_vec p0V0) ⟨_, (Sel.sc Sel.ha)⟩ (e1_len _) x28 rfl) rfl ?_
  refine wq_pure tt_ok rfl rfl ?_
  refine wq_pure tt_ok rfl rfl ?_
  refine wq_nil ?_
  refine wx_then ?_
  refine wc_ret ?_
  simp only [Option.some.injEq, Prod.mk.injEq] at h
  obtain ⟨rfl, rfl⟩ := h
  exact wx_rd tt_ok (.inl rfl) Try.results19 (Res.tmp rfl (Res.tmp rfl Res.nil)) (pSub (pCons Sel.hc (pApp Sel.ha pNil))) rfl

theorem k_hindcastref24_Queue_Add {F : Nat} {p0 : T_hindcastref24_Queue} {p0b p0t : Nat} {p0a0 : Option Addr} {p0n0 p0c0 : Nat} {p0B0 : List Blk} {p1 : Int} {p2 : Int} {r0 : T_hindcastref24_Queue} {r1 : Int} (p0N0 : p0n0 = p0.L.length) (p0V0 : Own 31 1 p0a0 p0n0 p0c0 (flat (e1 .u8) p0.L) p0B0) (h : m_hindcastref24_Queue_Add F p0 p1 p2 = some (r0, r1)) :
    SpD Try.prog 15 [.pointer (some ⟨p0b, 0, none⟩), .int .u64 p1, .int .u8 p2] (⟨p0b, [.int .u64 p0.Begin, .int .u64 p0.First, .slice p0a0 p0n0 p0c0], p0t, (0, 0)⟩ :: (p0B0 ++ [])) (fun w => True) (fun v D => ∃ (r0a0 : Option Addr) (r0n0 r0c0 : Nat) (r0B0 : List Blk), r0n0 = r0.L.length ∧ Own 31 1 r0a0 r0n0 r0c0 (flat (e1 .u8) r0.L) r0B0 ∧ v = .int .i64 r1 ∧ D = fun F => (⟨p0b, [.int .u64 r0.Begin, .int .u64 r0.First, .slice r0a0 r0n0 r0c0], p0t, (0, 0)⟩ :: (r0B0 ++ F))) := by
  unfold m_hindcastref24_Queue_Add at h
  refine sp_of_wc Try.func15 rfl Try.ntmps15 rfl rfl (fun w0 hR => ?_)
  refine wc_seq ?_
  refine wc_region ?_
  refine wl_pure tt_ok rfl rfl ?_
  refine wl_nil ?_
  refine wx_then ?_
  refine wc_seq ?_
  refine wc_seq ?_
  refine wc_region ?_
  refine wl_pure tt_ok rfl rfl ?_
  refine wl_pure (v := .bool (decide ((64 : Int) ≤ p2))) tt_ok rfl rfl ?_
  refine wl_nil ?_
  refine wx_then ?_
  refine wc_cond rfl (fun hc => ?_) (fun hc => ?_)
  · replace h := ct hc h
    refine wc_seq ?_
    refine wc_region ?_
    refine wl_pure tt_ok rfl rfl ?_
    refine wl_nil ?_
    refine wx_then ?_
    refine wc_ret ?_
    refine wx_then_ret ?_
    simp only [Option.some.injEq, Prod.mk.injEq] at h
    obtain ⟨rfl, rfl⟩ := h
    exact wx_spD tt_ok (.inl rfl) Try.results15 (Res.tmp rfl Res.nil) ⟨p0a0, p0n0, p0c0, p0B0, p0N0, p0V0, rfl, rfl⟩ (fun F => by simp) (pSub (pCons Sel.hc (pApp Sel.ha pNil)))
  replace h := cf hc h
  refine wc_skip ?_
  refine wx_then ?_
  refine wc_seq ?_
  refine wc_seq ?_
  refine wc_region ?_
  refine wl_pure tt_ok rfl rfl ?_
  refine wl_pure tt_ok rfl rfl ?_
  refine wl_pure tt_ok rfl rfl ?_
  refine wl_pure (v := .pointer (some ⟨p0b, 1, none⟩)) tt_ok rfl rfl ?_
  refine wl_val (v := .int .u64 p0.First) (val_load tt_ok rfl (List.Mem.head _) rfl) rfl ?_
  refine wl_pure (v := .bool (decide (p1 < p0.First))) tt_ok rfl rfl ?_
  refine wl_nil ?_
  refine wx_then ?_
  refine wc_cond rfl (fun hc => ?_) (fun hc => ?_)
  · replace h := ct hc h
    refine wc_seq ?_
    refine wc_region ?_
    refine wl_pure tt_ok rfl rfl ?_
    refine wl_nil ?_
    refine wx_then ?_
    refine wc_ret ?_
    refine wx_then_ret ?_
    simp only [Option.some.injEq, Prod.mk.injEq] at h
    obtain ⟨rfl, rfl⟩ := h
    exact wx_spD tt_ok (.inl rfl) Try.results15 (Res.tmp rfl Res.nil) ⟨p0a0, p0n0, p0c0, p0B0, p0N0, p0V0, rfl, rfl⟩ (fun F => by simp) (pSub (pCons Sel.hc (pApp Sel.ha pNil)))
  replace h := cf hc h
  refine wc_skip ?_
  refine wx_then ?_
  refine wc_seq ?_
  refine wc_region ?_
  refine wl_pure tt_ok rfl rfl ?_
  refine wl_pure tt_ok rfl rfl ?_
  replace h := bsome h; obtain ⟨⟨v20_0, v20_1⟩, x20, h⟩ := h; try dsimp only at h
  refine wl_cq Try.call19 rfl rfl rfl (q_rd (k_hindcastref24_Queue_At (p0 := p0) p0N0 p0V0 x20) (pCons Sel.hc (pApp Sel.ha pNil)) (fun _ _ => trivial)) rfl ?_
  refine wl_pure tt_ok rfl rfl ?_
  refine wl_pure tt_ok rfl rfl ?_
  refine wl_pure tt_ok rfl rfl ?_
  refine wl_pure tt_ok rfl rfl ?_
  refine wl_pure tt_ok rfl rfl ?_
  refine wl_nil ?_
  refine wx_then ?_
  refine wc_seq ?_
  refine wc_seq ?_
  refine wc_region ?_
  refine wl_pure tt_ok rfl rfl ?_
  refine wl_pure tt_ok rfl rfl ?_
  replace h := bsome h; obtain ⟨v28, h, hg28⟩ := h
  refine wl_split (t := 24) rfl (fun hc => ?_) (fun hc => ?_)
  · replace h := ct hc h
    refine wl_run rfl ?_
    refine wl_pure tt_ok rfl rfl ?_
    refine wl_run rfl ?_
    refine wl_pure tt_ok rfl rfl ?_
    refine wl_run rfl ?_
    refine wl_pure (v := .bool (v20_0 != p2)) tt_ok rfl rfl ?_
    simp only [Option.some.injEq, Prod.mk.injEq] at h
    obtain rfl := h
    have h := hg28; clear hg28
    refine wl_pure (v := .bool (v20_0 != p2)) tt_ok rfl rfl ?_
    refine wl_nil ?_
    refine wx_then ?_
    refine wc_cond rfl (fun hc => ?_) (fun hc => ?_)
    · replace h := ct hc h
      refine wc_seq ?_
      refine wc_region ?_
      refine wl_pure tt_ok rfl rfl ?_
      refine wl_nil ?_
      refine wx_then ?_
      refine wc_ret ?_
      refine wx_then_ret ?_
      simp only [Option.some.injEq, Prod.mk.injEq] at h
      obtain ⟨rfl, rfl⟩ := h
      exact wx_spD tt_ok (.inl rfl) Try.results15 (Res.tmp rfl Res.nil) ⟨p0a0, p0n0, p0c0, p0B0, p0N0, p0V0, rfl, rfl⟩ (fun F => by simp) (pSub (pCons Sel.hc (pApp Sel.ha pNil)))
    replace h := cf hc h
    refine wc_skip ?_
    refine wx_then ?_
    refine wc_seq ?_
    refine wc_seq ?_
    refine wc_region ?_
    refine wl_pure tt_ok rfl rfl ?_
    refine wl_nil ?_
    refine wx_then ?_
    refine wc_cond rfl (fun hc => ?_) (fun hc => ?_)
    · replace h := ct hc h
      refine wc_seq ?_
      refine wc_region ?_
      refine wl_pure tt_ok rfl rfl ?_
      refine wl_nil ?_
      refine wx_then ?_
      refine wc_ret ?_
      refine wx_then_ret ?_
      simp only [Option.some.injEq, Prod.mk.injEq] at h
      obtain ⟨rfl, rfl⟩ := h
      exact wx_spD tt_ok (.inl rfl) Try.results15 (Res.tmp rfl Res.nil) ⟨p0a0, p0n0, p0c0, p0B0, p0N0, p0V0, rfl, rfl⟩ (fun F => by simp) (pSub (pCons Sel.hc (pApp Sel.ha pNil)))
    replace h := cf hc h
    refine wc_skip ?_
    refine wx_then ?_
    refine wc_seq ?_
    refine wc_seq ?_
    refine wc_region ?_
    refine wl_pure tt_ok rfl rfl ?_
    refine wl_pure tt_ok rfl rfl ?_
    replace h := bsome h; obtain ⟨v32, x32, h⟩ := h
    refine wl_cq Try.call21 rfl rfl rfl (q_rd (k_hindcastref24_Queue_Known (p0 := p0) p0N0 p0V0 x32) (pCons Sel.hc (pApp Sel.ha pNil)) (fun _ _ => trivial)) rfl ?_
    refine wl_pure (v := .bool (p1 != v32)) tt_ok rfl rfl ?_
    refine wl_pure tt_ok rfl rfl ?_
    replace h := bsome h; obtain ⟨v37, h, hg37⟩ := h
    refine wl_split (t := 34) rfl (fun hc => ?_) (fun hc => ?_)
    · replace h := ct hc h
      refine wl_skip rfl rfl ?_
      refine wl_skip rfl rfl ?_
      simp only [Option.some.injEq, Prod.mk.injEq] at h
      obtain rfl := h
      have h := hg37; clear hg37
      refine wl_pure (v := .bool true) tt_ok rfl rfl ?_
      refine wl_nil ?_
      refine wx_then ?_
      replace h := ct rfl h
      refine wc_cond_true rfl ?_
      refine wc_seq ?_
      refine wc_region ?_
      refine wl_pure tt_ok rfl rfl ?_
      refine wl_nil ?_
      refine wx_then ?_
      refine wc_ret ?_
      refine wx_then_ret ?_
      simp only [Option.some.injEq, Prod.mk.injEq] at h
      obtain ⟨rfl, rfl⟩ := h
      exact wx_spD tt_ok (.inl rfl) Try.results15 (Res.tmp rfl Res.nil) ⟨p0a0, p0n0, p0c0, p0B0, p0N0, p0V0, rfl, rfl⟩ (fun F => by simp) (pSub (pCons Sel.hc (pApp Sel.ha pNil)))
    replace h := cf hc h
    refine wl_run rfl ?_
    refine wl_pure tt_ok rfl rfl ?_
    refine wl_run rfl ?_
    refine wl_pure (v := .bool (p1 == (18446744073709551615 : Int))) tt_ok rfl rfl ?_
    simp only [Option.some.injEq, Prod.mk.injEq] at h
    obtain rfl := h
    have h := hg37; clear hg37
    refine wl_pure (v := .bool (p1 == (18446744073709551615 : Int))) tt_ok rfl rfl ?_
    refine wl_nil ?_
    refine wx_then ?_
    refine wc_cond rfl (fun hc => ?_) (fun hc => ?_)
    · replace h := ct hc h
      refine wc_seq ?_
      refine wc_region ?_
      refine wl_pure tt_ok rfl rfl ?_
      refine wl_nil ?_
      refine wx_then ?_
      refine wc_ret ?_
      refine wx_then_ret ?_
      simp only [Option.some.injEq, Prod.mk.injEq] at h
      obtain ⟨rfl, rfl⟩ := h
      exact wx_spD tt_ok (.inl rfl) Try.results15 (Res.tmp rfl Res.nil) ⟨p0a0, p0n0, p0c0, p0B0, p0N0, p0V0, rfl, rfl⟩ (fun F => by simp) (pSub (pCons Sel.hc (pApp Sel.ha pNil)))
    replace h := cf hc h
    refine wc_skip ?_
    refine wx_then ?_
    refine wc_seq ?_
    refine wc_seq ?_
    refine wc_quiet (by kernel_rfl) (by kernel_rfl) ?_
    refine wq_pure tt_ok rfl rfl ?_
    replace h := bsome h; obtain ⟨v39, x39, h⟩ := h
    refine wq_cq Try.call21 rfl rfl rfl (q_rd (k_hindcastref24_Queue_Known (p0 := p0) p0N0 p0V0 x39) (pCons Sel.hc (pApp Sel.ha pNil)) (fun _ _ => trivial)) rfl ?_
    refine wq_pure tt_ok rfl rfl ?_
    refine wq_pure tt_ok rfl rfl ?_
    refine wq_pure (v := .pointer (some ⟨p0b, 1, none⟩)) tt_ok rfl rfl ?_
    refine wq_val (v := .int .u64 p0.First) (val_load tt_ok rfl (List.Mem.head _) rfl) rfl ?_
    refine wq_pure (v := .int .u64 (IntKind.wrap .u64 (v39 - p0.First))) tt_ok rfl rfl ?_
    refine wq_pure (v := .bool (decide ((24 : Int) ≤ (IntKind.wrap .u64 (v39 - p0.First))))) tt_ok rfl rfl ?_
    refine wq_nil ?_
    refine wx_then ?_
    refine wc_cond rfl (fun hc => ?_) (fun hc => ?_)
    · replace h := ct hc h
      refine wc_seq ?_
      refine wc_region ?_
      refine wl_pure tt_ok rfl rfl ?_
      refine wl_nil ?_
      refine wx_then ?_
      refine wc_ret ?_
      refine wx_then_ret ?_
      simp only [Option.some.injEq, Prod.mk.injEq] at h
      obtain ⟨rfl, rfl⟩ := h
      exact wx_spD tt_ok (.inl rfl) Try.results15 (Res.tmp rfl Res.nil) ⟨p0a0, p0n0, p0c0, p0B0, p0N0, p0V0, rfl, rfl⟩ (fun F => by simp) (pSub (pCons Sel.hc (pApp Sel.ha pNil)))
    replace h := cf hc h
    refine wc_skip ?_
    refine wx_then ?_
    refine wc_seq ?_
    refine wc_region ?_
    refine wl_pure tt_ok rfl rfl ?_
    refine wl_pure tt_ok rfl rfl ?_
    refine wl_pure tt_ok rfl rfl ?_
    refine wl_pure (v := .pointer (some ⟨p0b, 2, none⟩)) tt_ok rfl rfl ?_
    refine wl_val (v := .slice p0a0 p0n0 p0c0) (val_load tt_ok rfl (List.Mem.head _) rfl) rfl ?_
    refine wl_pure tt_ok rfl rfl ?_
    refine wl_chg (chg_bsv (enc := (e1 .u8)) (xs := ([p2] : List Int)) tt_ok rfl rfl rfl rfl rfl rfl rfl rfl (e1_len _)) rfl ?_
    rintro _ _ ⟨a52, n52_, c52, B52, rfl, N52, V52, rfl⟩
    replace h := bsome h; obtain ⟨v53, x53, h⟩ := h
    refine wl_chg (chg_app (enc := (e1 .u8)) (ys := ([p2] : List Int)) tt_ok rfl rfl rfl rfl rfl rfl p0N0 N52 p0V0 (Sel.sa (Sel.sc Sel.ha)) (Rds.of_vec V52) ⟨_, Sel.ha⟩ (e1_len _) (fun _ => rfl) rfl x53) rfl ?_
    rintro _ _ ⟨a53, n53_, c53, B53, rfl, N53, V53, rfl⟩
    refine wl_pure tt_ok rfl rfl ?_
    refine wl_pure (v := .pointer (some ⟨p0b, 2, none⟩)) tt_ok rfl rfl ?_
    apply wl_store tt_ok; rfl; exact (Upd.right (Upd.right Upd.here)); rfl; rfl; rfl; rfl; rfl; rfl
    refine wl_nil ?_
    refine wx_then ?_
    refine wc_seq ?_
    refine wc_region ?_
    refine wl_pure tt_ok rfl rfl ?_
    refine wl_nil ?_
    refine wx_then ?_
    refine wc_ret ?_
    simp only [Option.some.injEq, Prod.mk.injEq] at h
    obtain ⟨rfl, rfl⟩ := h
    exact wx_spD tt_ok (.inl rfl) Try.results15 (Res.tmp rfl Res.nil) ⟨a53, n53_, c53, B53, N53, V53, rfl, rfl⟩ (fun F => by simp) (pSub (pCons (Sel.sa (Sel.sa Sel.hc)) (pApp Sel.ha pNil)))
  replace h := cf hc h
  refine wl_skip rfl rfl ?_
  refine wl_skip rfl rfl ?_
  refine wl_skip rfl rfl ?_
  simp only [Option.some.injEq, Prod.mk.injEq] at h
  obtain rfl := h
  have h := hg28; clear hg28
  refine wl_pure (v := .bool false) tt_ok rfl rfl ?_
  refine wl_nil ?_
  refine wx_then ?_
  replace h := cf rfl h
  refine wc_cond_false rfl ?_
  refine wc_skip ?_
  refine wx_then ?_
  refine wc_seq ?_
  refine wc_seq ?_
  refine wc_region ?_
  refine wl_pure tt_ok rfl rfl ?_
  refine wl_nil ?_
  refine wx_then ?_
  refine wc_cond rfl (fun hc => ?_) (fun hc => ?_)
  · replace h := ct hc h
    refine wc_seq ?_
    refine wc_region ?_
    refine wl_pure tt_ok rfl rfl ?_
    refine wl_nil ?_
    refine wx_then ?_
    refine wc_ret ?_
    refine wx_then_ret ?_
    simp only [Option.some.injEq, Prod.mk.injEq] at h
    obtain ⟨rfl, rfl⟩ := h
    exact wx_spD tt_ok (.inl rfl) Try.results15 (Res.tmp rfl Res.nil) ⟨p0a0, p0n0, p0c0, p0B0, p0N0, p0V0, rfl, rfl⟩ (fun F => by simp) (pSub (pCons Sel.hc (pApp Sel.ha pNil)))
  replace h := cf hc h
  refine wc_skip ?_
  refine wx_then ?_
  refine wc_seq ?_
  refine wc_seq ?_
  refine wc_region ?_
  refine wl_pure tt_ok rfl rfl ?_
  refine wl_pure tt_ok rfl rfl ?_
  replace h := bsome h; obtain ⟨v32, x32, h⟩ := h
  refine wl_cq Try.call21 rfl rfl rfl (q_rd (k_hindcastref24_Queue_Known (p0 := p0) p0N0 p0V0 x32) (pCons Sel.hc (pApp Sel.ha pNil)) (fun _ _ => trivial)) rfl ?_
  refine wl_pure (v := .bool (p1 != v32)) tt_ok rfl rfl ?_
  refine wl_pure tt_ok rfl rfl ?_
  replace h := bsome h; obtain ⟨v37, h, hg37⟩ := h
  refine wl_split (t := 34) rfl (fun hc => ?_) (fun hc => ?_)
  · replace h := ct hc h
    refine wl_skip rfl rfl ?_
    refine wl_skip rfl rfl ?_
    simp only [Option.some.injEq, Prod.mk.injEq] at h
    obtain rfl := h
    have h := hg37; clear hg37
    refine wl_pure (v := .bool true) tt_ok rfl rfl ?_
    refine wl_nil ?_
    refine wx_then ?_
    replace h := ct rfl h
    refine wc_cond_true rfl ?_
    refine wc_seq ?_
    refine wc_region ?_
    refine wl_pure tt_ok rfl rfl ?_
    refine wl_nil ?_
    refine wx_then ?_
    refine wc_ret ?_
    refine wx_then_ret ?_
    simp only [Option.some.injEq, Prod.mk.injEq] at h
    obtain ⟨rfl, rfl⟩ := h
    exact wx_spD tt_ok (.inl rfl) Try.results15 (Res.tmp rfl Res.nil) ⟨p0a0, p0n0, p0c0, p0B0, p0N0, p0V0, rfl, rfl⟩ (fun F => by simp) (pSub (pCons Sel.hc (pApp Sel.ha pNil)))
  replace h := cf hc h
  refine wl_run rfl ?_
  refine wl_pure tt_ok rfl rfl ?_
  refine wl_run rfl ?_
  refine wl_pure (v := .bool (p1 == (18446744073709551615 : Int))) tt_ok rfl rfl ?_
  simp only [Option.some.injEq, Prod.mk.injEq] at h
  obtain rfl := h
  have h := hg37; clear hg37
  refine wl_pure (v := .bool (p1 == (18446744073709551615 : Int))) tt_ok rfl rfl ?_
  refine wl_nil ?_
  refine wx_then ?_
  refine wc_cond rfl (fun hc => ?_) (fun hc => ?_)
  · replace h := ct hc h
    refine wc_seq ?_
    refine wc_region ?_
    refine wl_pure tt_ok rfl rfl ?_
    refine wl_nil ?_
    refine wx_then ?_
    refine wc_ret ?_
    refine wx_then_ret ?_
    simp only [Option.some.injEq, Prod.mk.injEq] at h
    obtain ⟨rfl, rfl⟩ := h
    exact wx_spD tt_ok (.inl rfl) Try.results15 (Res.tmp rfl Res.nil) ⟨p0a0, p0n0, p0c0, p0B0, p0N0, p0V0, rfl, rfl⟩ (fun F => by simp) (pSub (pCons Sel.hc (pApp Sel.ha pNil)))
  replace h := cf hc h
  refine wc_skip ?_
  refine wx_then ?_
  refine wc_seq ?_
  refine wc_seq ?_
  refine wc_quiet (by kernel_rfl) (by kernel_rfl) ?_
  refine wq_pure tt_ok rfl rfl ?_
  replace h := bsome h; obtain ⟨v39, x39, h⟩ := h
  refine wq_cq Try.call21 rfl rfl rfl (q_rd (k_hindcastref24_Queue_Known (p0 := p0) p0N0 p0V0 x39) (pCons Sel.hc (pApp Sel.ha pNil)) (fun _ _ => trivial)) rfl ?_
  refine wq_pure tt_ok rfl rfl ?_
  refine wq_pure tt_ok rfl rfl ?_
  refine wq_pure (v := .pointer (some ⟨p0b, 1, none⟩)) tt_ok rfl rfl ?_
  refine wq_val (v := .int .u64 p0.First) (val_load tt_ok rfl (List.Mem.head _) rfl) rfl ?_
  refine wq_pure (v := .int .u64 (IntKind.wrap .u64 (v39 - p0.First))) tt_ok rfl rfl ?_
  refine wq_pure (v := .bool (decide ((24 : Int) ≤ (IntKind.wrap .u64 (v39 - p0.First))))) tt_ok rfl rfl ?_
  refine wq_nil ?_
  refine wx_then ?_
  refine wc_cond rfl (fun hc => ?_) (fun hc => ?_)
  · replace h := ct hc h
    refine wc_seq ?_
    refine wc_region ?_
    refine wl_pure tt_ok rfl rfl ?_
    refine wl_nil ?_
    refine wx_then ?_
    refine wc_ret ?_
    refine wx_then_ret ?_
    simp only [Option.some.injEq, Prod.mk.injEq] at h
    obtain ⟨rfl, rfl⟩ := h
    exact wx_spD tt_ok (.inl rfl) Try.results15 (Res.tmp rfl Res.nil) ⟨p0a0, p0n0, p0c0, p0B0, p0N0, p0V0, rfl, rfl⟩ (fun F => by simp) (pSub (pCons Sel.hc (pApp Sel.ha pNil)))
  replace h := cf hc h
  refine wc_skip ?_
  refine wx_then ?_
  refine wc_seq ?_
  refine wc_region ?_
  refine wl_pure tt_ok rfl rfl ?_
  refine wl_pure tt_ok rfl rfl ?_
  refine wl_pure tt_ok rfl rfl ?_
  refine wl_pure (v := .pointer (some ⟨p0b, 2, none⟩)) tt_ok rfl rfl ?_
  refine wl_val (v := .slice p0a0 p0n0 p0c0) (val_load tt_ok rfl (List.Mem.head _) rfl) rfl ?_
  refine wl_pure tt_ok rfl rfl ?_
  refine wl_chg (chg_bsv (enc := (e1 .u8)) (xs := ([p2] : List Int)) tt_ok rfl rfl rfl rfl rfl rfl rfl rfl (e1_len _)) rfl ?_
  rintro _ _ ⟨a52, n52_, c52, B52, rfl, N52, V52, rfl⟩
  replace h := bsome h; obtain ⟨v53, x53, h⟩ := h
  refine wl_chg (chg_app (enc := (e1 .u8)) (ys := ([p2] : List Int)) tt_ok rfl rfl rfl rfl rfl rfl p0N0 N52 p0V0 (Sel.sa (Sel.sc Sel.ha)) (Rds.of_vec V52) ⟨_, Sel.ha⟩ (e1_len _) (fun _ => rfl) rfl x53) rfl ?_
  rintro _ _ ⟨a53, n53_, c53, B53, rfl, N53, V53, rfl⟩
  refine wl_pure tt_ok rfl rfl ?_
  refine wl_pure (v := .pointer (some ⟨p0b, 2, none⟩)) tt_ok rfl rfl ?_
  apply wl_store tt_ok; rfl; exact (Upd.right (Upd.right Upd.here)); rfl; rfl; rfl; rfl; rfl; rfl
  refine wl_nil ?_
  refine wx_then ?_
  refine wc_seq ?_
  refine wc_region ?_
  refine wl_pure tt_ok rfl rfl ?_
  refine wl_nil ?_
  refine wx_then ?_
  refine wc_ret ?_
  simp only [Option.some.injEq, Prod.mk.injEq] at h
  obtain ⟨rfl, rfl⟩ := h
  exact wx_spD tt_ok (.inl rfl) Try.results15 (Res.tmp rfl Res.nil) ⟨a53, n53_, c53, B53, N53, V53, rfl, rfl⟩ (fun F => by simp) (pSub (pCons (Sel.sa (Sel.sa Sel.hc)) (pApp Sel.ha pNil)))

theorem k_queue_Queue_First {F : Nat} {p0 : T_queue_Queue} {p0b p0t : Nat} {p0a0 : Option Addr} {p0n0 p0c0 : Nat} {p0B0 : List Blk} {r0 : Int} (p0N0 : p0n0 = p0.l.length) (p0V0 : Own 31 1 p0a0 p0n0 p0c0 (flat (e1 .u8) p0.l) p0B0) (h : m_queue_Queue_First F p0 = some r0) :
    Rd2 Try.prog 20 [.pointer (some ⟨p0b, 0, none⟩)] (⟨p0b, [.int .u64 p0.first_, .slice p0a0 p0n0 p0c0, .int .u8 p0.last], p0t, (0, 0)⟩ :: (p0B0 ++ [])) (fun w => True) (.int .u64 r0) := by
  unfold m_queue_Queue_First at h
  refine sp_of_wc Try.func20 rfl Try.ntmps20 rfl rfl (fun w0 hR => ?_)
  refine wc_seq ?_
  refine wc_region ?_
  refine wl_pure tt_ok rfl rfl ?_
  refine wl_nil ?_
  refine wx_then ?_
  refine wc_seq ?_
  refine wc_seq ?_
  refine wc_region ?_
  refine wl_pure tt_ok rfl rfl ?_
  refine wl_pure (v := .bool false) tt_ok rfl rfl ?_
  refine wl_nil ?_
  refine wx_then ?_
  refine wc_cond_false rfl ?_
  refine wc_skip ?_
  refine wx_then ?_
  refine wc_seq ?_
  refine wc_region ?_
  refine wl_pure tt_ok rfl rfl ?_
  refine wl_pure tt_ok rfl rfl ?_
  refine wl_pure (v := .pointer (some ⟨p0b, 0, none⟩)) tt_ok rfl rfl ?_
  refine wl_val (v := .int .u64 p0.first_) (val_load tt_ok rfl (List.Mem.head _) rfl) rfl ?_
  refine wl_pure tt_ok rfl rfl ?_
  refine wl_nil ?_
  refine wx_then ?_
  refine wc_ret ?_
  simp only [Option.some.injEq] at h
  obtain rfl := h
  exact wx_rd tt_ok (.inl rfl) Try.results20 (Res.tmp rfl Res.nil) (pSub (pCons Sel.hc (pApp Sel.ha pNil))) rfl

theorem k_hindcastref24_Queue_Guess {F : Nat} {p0 : T_hindcastref24_Queue} {p0b p0t : Nat} {p0a0 : Option Addr} {p0n0 p0c0 : Nat} {p0B0 : List Blk} {p1 : Int} {r0 : Int} (p0N0 : p0n0 = p0.L.length) (p0V0 : Own 31 1 p0a0 p0n0 p0c0 (flat (e1 .u8) p0.L) p0B0) (h : m_hindcastref24_Queue_Guess F p0 p1 = some r0) :
    Rd2 Try.prog 22 [.pointer (some ⟨p0b, 0, none⟩), .int .u64 p1] (⟨p0b, [.int .u64 p0.Begin, .int .u64 p0.First, .slice p0a0 p0n0 p0c0], p0t, (0, 0)⟩ :: (p0B0 ++ [])) (fun w => True) (.int .u8 r0) := by
  unfold m_hindcastref24_Queue_Guess at h
  refine sp_of_wc Try.func22 rfl Try.ntmps22 rfl rfl (fun w0 hR => ?_)
  refine wc_seq ?_
  refine wc_region ?_
  refine wl_pure tt_ok rfl rfl ?_
  refine wl_nil ?_
  refine wx_then ?_
  refine wc_seq ?_
  refine wc_region ?_
  refine wl_pure tt_ok rfl rfl ?_
  refine wl_pure tt_ok rfl rfl ?_
  replace h := bsome h; obtain ⟨⟨v10_0, v10_1⟩, x10, h⟩ := h; try dsimp only at h
  refine wl_cq Try.call19 rfl rfl rfl (q_rd (k_hindcastref24_Queue_At (p0 := p0) p0N0 p0V0 x10) (pCons Sel.hc (pApp Sel.ha pNil)) (fun _ _ => trivial)) rfl ?_
  refine wl_pure tt_ok rfl rfl ?_
  refine wl_pure tt_ok rfl rfl ?_
  refine wl_pure tt_ok rfl rfl ?_
  refine wl_pure tt_ok rfl rfl ?_
  refine wl_pure tt_ok rfl rfl ?_
  refine wl_nil ?_
  refine wx_then ?_
  refine wc_seq ?_
  refine wc_seq ?_
  refine wc_region ?_
  refine wl_pure tt_ok rfl rfl ?_
  refine wl_nil ?_
  refine wx_then ?_
  refine wc_cond rfl (fun hc => ?_) (fun hc => ?_)
  · replace h := ct hc h
    refine wc_seq ?_
    refine wc_region ?_
    refine wl_pure tt_ok rfl rfl ?_
    refine wl_pure tt_ok rfl rfl ?_
    refine wl_nil ?_
    refine wx_then ?_
    refine wc_ret ?_
    refine wx_then_ret ?_
    simp only [Option.some.injEq] at h
    obtain rfl := h
    exact wx_rd tt_ok (.inl rfl) Try.results22 (Res.tmp rfl Res.nil) (pSub (pCons Sel.hc (pApp Sel.ha pNil))) rfl
  replace h := cf hc h
  refine wc_skip ?_
  refine wx_then ?_
  refine wc_seq ?_
  refine wc_seq ?_
  refine wc_region ?_
  refine wl_pure tt_ok rfl rfl ?_
  refine wl_pure tt_ok rfl rfl ?_
  refine wl_pure (v := .pointer (some ⟨p0b, 2, none⟩)) tt_ok rfl rfl ?_
  refine wl_val (v := .slice p0a0 p0n0 p0c0) (val_load tt_ok rfl (List.Mem.head _) rfl) rfl ?_
  refine wl_val (v := .int .i64 (p0.L.length : Int)) (val_len tt_ok rfl rfl p0N0) rfl ?_
  refine wl_pure (v := .bool ((p0.L.length : Int) == (0 : Int))) tt_ok rfl rfl ?_
  refine wl_nil ?_
  refine wx_then ?_
  refine wc_cond rfl (fun hc => ?_) (fun hc => ?_)
  · replace h := ct hc h
    refine wc_seq ?_
    refine wc_region ?_
    refine wl_pure tt_ok rfl rfl ?_
    refine wl_nil ?_
    refine wx_then ?_
    refine wc_ret ?_
    refine wx_then_ret ?_
    simp only [Option.some.injEq] at h
    obtain rfl := h
    exact wx_rd tt_ok (.inl rfl) Try.results22 (Res.tmp rfl Res.nil) (pSub (pCons Sel.hc (pApp Sel.ha pNil))) rfl
  replace h := cf hc h
  refine wc_skip ?_
  refine wx_then ?_
  refine wc_seq ?_
  refine wc_quiet (by kernel_rfl) (by kernel_rfl) ?_
  refine wq_pure tt_ok rfl rfl ?_
  refine wq_pure tt_ok rfl rfl ?_
  refine wq_pure (v := .pointer (some ⟨p0b, 2, none⟩)) tt_ok rfl rfl ?_
  refine wq_val (v := .slice p0a0 p0n0 p0c0) (val_load tt_ok rfl (List.Mem.head _) rfl) rfl ?_
  refine wq_pure tt_ok rfl rfl ?_
  refine wq_pure tt_ok rfl rfl ?_
  refine wq_pure (v := .pointer (some ⟨p0b, 2, none⟩)) tt_ok rfl rfl ?_
  refine wq_val (v := .slice p0a0 p0n0 p0c0) (val_load tt_ok rfl (List.Mem.head _) rfl) rfl ?_
  refine wq_val (v := .int .i64 (p0.L.length : Int)) (val_len tt_ok rfl rfl p0N0) rfl ?_
  refine wq_pure (v := .int .i64 (IntKind.wrap .i64 ((p0.L.length : Int) - (1 : Int)))) tt_ok rfl rfl ?_
  replace h := bsome h; obtain ⟨v31, x31, h⟩ := h
  refine wq_val (v := .pointer (some ((adOf p0a0).add ((IntKind.wrap .i64 ((p0.L.length : Int) - (1 : Int))).toNat * 1 + 0)))) (val_ix (enc := (e1 .u8)) tt_ok rfl rfl rfl rfl p0N0 (Rds.of_vec p0V0) (e1_len _) rfl x31) rfl ?_
  refine wq_val (v := .int .u8 v31) (val_le (enc := (e1 .u8)) (xs := p0.L) tt_ok rfl (Rds.of_vec p0V0) ⟨_, (Sel.sc Sel.ha)⟩ (e1_len _) x31 rfl) rfl ?_
  refine wq_pure tt_ok rfl rfl ?_
  refine wq_nil ?_
  refine wx_then ?_
  refine wc_ret ?_
  simp only [Option.some.injEq] at h
  obtain rfl := h
  exact wx_rd tt_ok (.inl rfl) Try.results22 (Res.tmp rfl Res.nil) (pSub (pCons Sel.hc (pApp Sel.ha pNil))) rfl

theorem k_queue_Queue_Slice {F : Nat} {p0 : T_queue_Queue} {p0b p0t : Nat} {p0a0 : Option Addr} {p0n0 p0c0 : Nat} {p0B0 : List Blk} {p1 : Int} {p2 : Int} {r0 : (List Int)} (p0N0 : p0n0 = p0.l.length) (p0V0 : Own 31 1 p0a0 p0n0 p0c0 (flat (e1 .u8) p0.l) p0B0) (h : m_queue_Queue_Slice F p0 p1 p2 = some r0) :
    SpD Try.prog 24 [.pointer (some ⟨p0b, 0, none⟩), .int .u64 p1, .int .i64 p2] (⟨p0b, [.int .u64 p0.first_, .slice p0a0 p0n0 p0c0, .int .u8 p0.last], p0t, (0, 0)⟩ :: (p0B0 ++ [])) (fun w => True) (fun v D => ∃ (r0a0 : Option Addr) (r0n0 r0c0 : Nat) (r0B0 : List Blk), r0n0 = r0.length ∧ Own 31 1 r0a0 r0n0 r0c0 (flat (e1 .u8) r0) r0B0 ∧ v = .slice r0a0 r0n0 r0c0 ∧ D = fun F => (⟨p0b, [.int .u64 p0.first_, .slice p0a0 p0n0 p0c0, .int .u8 p0.last], p0t, (0, 0)⟩ :: (p0B0 ++ (r0B0 ++ F)))) := by
  unfold m_queue_Queue_Slice at h
  refine sp_of_wc Try.func24 rfl Try.ntmps24 rfl rfl (fun w0 hR => ?_)
  refine wc_seq ?_
  refine wc_region ?_
  refine wl_pure tt_ok rfl rfl ?_
  refine wl_nil ?_
  refine wx_then ?_
  refine wc_seq ?_
  refine wc_region ?_
  refine wl_pure tt_ok rfl rfl ?_
  refine wl_pure tt_ok rfl rfl ?_
  replace h := bsome h; obtain ⟨v10, x10, h⟩ := h
  refine wl_cs Try.call28 rfl rfl rfl (s_sp (k_queue_Queue_from (p0 := p0) p0N0 p0V0 x10) (pCons Sel.hc (pApp Sel.ha pNil)) (fun _ _ => trivial)) rfl ?_
  rintro _ _ ⟨_, ⟨v10a, v10n, v10c, Nv10, Hv10, Iv10, rfl, rfl⟩, rfl⟩
  refine wl_pure tt_ok rfl rfl ?_
  refine wl_nil ?_
  refine wx_then ?_
  refine wc_seq ?_
  refine wc_region ?_
  refine wl_pure tt_ok rfl rfl ?_
  refine wl_pure tt_ok rfl rfl ?_
  refine wl_pure tt_ok rfl rfl ?_
  refine wl_val (v := .int .i64 (v10.length : Int)) (val_len tt_ok rfl rfl Nv10) rfl ?_
  refine wl_pure (v := .int .i64 (min p2 (v10.length : Int))) tt_ok rfl rfl ?_
  refine wl_pure (v := .int .i64 (max (0 : Int) (min p2 (v10.length : Int)))) tt_ok rfl rfl ?_
  replace h := bsome h; obtain ⟨v17, x17, h⟩ := h
  refine wl_cut (enc := (e1 .u8)) tt_ok rfl rfl rfl Nv10 (fun h => (Rds.there (w0 := w0) (A := (ids (⟨p0b, [.int .u64 p0.first_, .slice p0a0 p0n0 p0c0, .int .u8 p0.last], p0t, (0, 0)⟩ :: (p0B0 ++ [])))) (Iv10 _ _ _ (Rds.of_vec p0V0)) h).1) (e1_len _) Hv10 (.inl ⟨rfl, rfl⟩) (.inr ⟨_, _, rfl, rfl⟩) (.inl ⟨rfl, rfl⟩) (by intro h; first | rfl | cases h) (cut2 x17 Nv10 Hv10) x17 rfl ?_
  intro a17 n17_ c17 N17 H17 I17 O17 Z17
  replace h := bsome h; obtain ⟨v18, x18, h⟩ := h
  refine wl_chg (chg_app (enc := (e1 .u8)) (ys := v17) tt_ok rfl rfl rfl rfl rfl rfl rfl N17 Own.zero pNil (I17 _ _ _ (Iv10 _ _ _ (Rds.of_vec p0V0))) ⟨_, (Sel.sc Sel.ha)⟩ (e1_len _) (fun _ => rfl) rfl x18) rfl ?_
  rintro _ _ ⟨a18, n18_, c18, B18, rfl, N18, V18, rfl⟩
  refine wl_pure tt_ok rfl rfl ?_
  refine wl_nil ?_
  refine wx_then ?_
  refine wc_ret ?_
  simp only [Option.some.injEq] at h
  obtain rfl := h
  exact wx_spD tt_ok (.inl rfl) Try.results24 (Res.tmp rfl Res.nil) ⟨a18, n18_, c18, B18, N18, V18, rfl, rfl⟩ (fun F => by simp) (pSub (pCons (Sel.sa Sel.hc) (pApp (Sel.sa Sel.ha) (pApp Sel.ha pNil))))

theorem k_hindcastref24_Queue_Slice {F : Nat} {p0 : T_hindcastref24_Queue} {p0b p0t : Nat} {p0a0 : Option Addr} {p0n0 p0c0 : Nat} {p0B0 : List Blk} {p1 : Int} {p2 : Int} {r0 : (List Int)} (p0N0 : p0n0 = p0.L.length) (p0V0 : Own 31 1 p0a0 p0n0 p0c0 (flat (e1 .u8) p0.L) p0B0) (h : m_hindcastref24_Queue_Slice F p0 p1 p2 = some r0) :
    SpD Try.prog 25 [.pointer (some ⟨p0b, 0, none⟩), .int .u64 p1, .int .i64 p2] (⟨p0b, [.int .u64 p0.Begin, .int .u64 p0.First, .slice p0a0 p0n0 p0c0], p0t, (0, 0)⟩ :: (p0B0 ++ [])) (fun w => True) (fun v D => ∃ (r0a0 : Option Addr) (r0n0 r0c0 : Nat) (r0B0 : List Blk), r0n0 = r0.length ∧ Own 31 1 r0a0 r0n0 r0c0 (flat (e1 .u8) r0) r0B0 ∧ v = .slice r0a0 r0n0 r0c0 ∧ D = fun F => (⟨p0b, [.int .u64 p0.Begin, .int .u64 p0.First, .slice p0a0 p0n0 p0c0], p0t, (0, 0)⟩ :: (p0B0 ++ (r0B0 ++ F)))) := by
  unfold m_hindcastref24_Queue_Slice at h
  refine sp_of_wc Try.func25 rfl Try.ntmps25 rfl rfl (fun w0 hR => ?_)
  refine wc_seq ?_
  refine wc_region ?_
  refine wl_pure tt_ok rfl rfl ?_
  refine wl_nil ?_
  refine wx_then ?_
  refine wc_seq ?_
  refine wc_region ?_
  refine wl_pure tt_ok rfl rfl ?_
  refine wl_nil ?_
  refine wx_then ?_
  refine wc_seq ?_
  refine wc_block ?_
  replace h := bsome h; obtain ⟨l7_7, h, hl7⟩ := h
  refine wc_loop (fun m E L => ∃ (j7_1 : Int) (j7_7 : (List Int)) (j7_7a0 : Option Addr) (j7_7n0 : Nat) (j7_7c0 : Nat) (j7_7B0 : List Blk), m_hindcastref24_Queue_Slice_L6 F p0 p2 m j7_1 j7_7 = some l7_7 ∧ j7_7n0 = j7_7.length ∧ Own 31 1 j7_7a0 j7_7n0 j7_7c0 (flat (e1 .u8) j7_7) j7_7B0 ∧ E = [(0, .pointer (some ⟨p0b, 0, none⟩)), (1, .int .u64 j7_1), (2, .int .i64 p2), (6, .slice none 0 0), (7, .slice j7_7a0 j7_7n0 j7_7c0)] ∧ L = (⟨p0b, [.int .u64 p0.Begin, .int .u64 p0.First, .slice p0a0 p0n0 p0c0], p0t, (0, 0)⟩ :: (p0B0 ++ (j7_7B0 ++ [])))) F ⟨p1, ([] : List Int), none, 0, 0, [], h, rfl, Own.zero, rfl, rfl⟩ (agree_cons rfl (agree_cons rfl (agree_cons rfl (agree_cons rfl (agree_cons rfl agree_nil))))) (pSub (pCons Sel.hc (pApp Sel.ha (pNo pNil)))) ?_
  clear h
  rintro m7 _ _ ⟨j7_1, j7_7, j7_7a0, j7_7n0, j7_7c0, j7_7B0, h, j7_7N0, j7_7V0, rfl, rfl⟩
  rcases m7 with _ | m7
  · rw [m_hindcastref24_Queue_Slice_L6.eq_1] at h; cases h
  rw [m_hindcastref24_Queue_Slice_L6.eq_2] at h
  refine wc_seq ?_
  refine wc_seq ?_
  refine wc_region ?_
  refine wl_pure tt_ok rfl rfl ?_
  refine wl_val (v := .int .i64 (j7_7.length : Int)) (val_len tt_ok rfl rfl j7_7N0) rfl ?_
  refine wl_pure tt_ok rfl rfl ?_
  refine wl_pure (v := .bool (decide ((j7_7.length : Int) < p2))) tt_ok rfl rfl ?_
  refine wl_nil ?_
  refine wx_then ?_
  refine wc_cond rfl (fun hc => ?_) (fun hc => ?_)
  · replace h := ct hc h
    refine wc_skip ?_
    refine wx_then ?_
    refine wc_block ?_
    refine wc_seq ?_
    refine wc_region ?_
    refine wl_pure tt_ok rfl rfl ?_
    refine wl_pure tt_ok rfl rfl ?_
    replace h := bsome h; obtain ⟨⟨v17_0, v17_1⟩, x17, h⟩ := h; try dsimp only at h
    refine wl_cq Try.call19 rfl rfl rfl (q_rd (k_hindcastref24_Queue_At (p0 := p0) p0N0 p0V0 x17) (pCons Sel.hc (pApp Sel.ha pNil)) (fun _ _ => trivial)) rfl ?_
    refine wl_pure tt_ok rfl rfl ?_
    refine wl_pure tt_ok rfl rfl ?_
    refine wl_pure tt_ok rfl rfl ?_
    refine wl_pure tt_ok rfl rfl ?_
    refine wl_pure tt_ok rfl rfl ?_
    refine wl_nil ?_
    refine wx_then ?_
    refine wc_seq ?_
    refine wc_seq ?_
    refine wc_region ?_
    refine wl_pure tt_ok rfl rfl ?_
    refine wl_pure (v := .bool (!v17_1)) tt_ok rfl rfl ?_
    refine wl_nil ?_
    refine wx_then ?_
    refine wc_cond rfl (fun hc => ?_) (fun hc => ?_)
    · replace h := ct hc h
      refine wc_exit ?_
      refine wx_then_exit ?_
      refine wx_block_other (by rfl) ?_
      simp only [Option.some.injEq] at h
      obtain rfl := h
      have h := hl7; clear hl7; try dsimp only [orE_l, orE_r] at h
      refine wx_then_exit ?_
      refine wx_block_exit ?_
      refine wx_then ?_
      refine wc_seq ?_
      refine wc_region ?_
      refine wl_pure tt_ok rfl rfl ?_
      refine wl_pure tt_ok rfl rfl ?_
      refine wl_nil ?_
      refine wx_then ?_
      refine wc_ret ?_
      simp only [Option.some.injEq] at h
      obtain rfl := h
      exact wx_spD tt_ok (.inl rfl) Try.results25 (Res.tmp rfl Res.nil) ⟨j7_7a0, j7_7n0, j7_7c0, j7_7B0, j7_7N0, j7_7V0, rfl, rfl⟩ (fun F => by simp) (pSub (pCons Sel.hc (pApp Sel.ha (pApp Sel.ha pNil))))
    replace h := cf hc h
    refine wc_skip ?_
    refine wx_then ?_
    refine wc_seq ?_
    refine wc_region ?_
    refine wl_pure tt_ok rfl rfl ?_
    refine wl_pure tt_ok rfl rfl ?_
    refine wl_chg (chg_bsv (enc := (e1 .u8)) (xs := ([v17_0] : List Int)) tt_ok rfl rfl rfl rfl rfl rfl rfl rfl (e1_len _)) rfl ?_
    rintro _ _ ⟨a24, n24_, c24, B24, rfl, N24, V24, rfl⟩
    replace h := bsome h; obtain ⟨v25, x25, h⟩ := h
    refine wl_chg (chg_app (enc := (e1 .u8)) (ys := ([v17_0] : List Int)) tt_ok rfl rfl rfl rfl rfl rfl j7_7N0 N24 j7_7V0 (Sel.sa (Sel.sc (Sel.sa Sel.ha))) (Rds.of_vec V24) ⟨_, Sel.ha⟩ (e1_len _) (fun _ => rfl) rfl x25) rfl ?_
    rintro _ _ ⟨a25, n25_, c25, B25, rfl, N25, V25, rfl⟩
    refine wl_pure tt_ok rfl rfl ?_
    refine wl_nil ?_
    refine wx_then ?_
    refine wc_region ?_
    refine wl_pure tt_ok rfl rfl ?_
    refine wl_pure (v := .int .u64 (IntKind.wrap .u64 (j7_1 + (1 : Int)))) tt_ok rfl rfl ?_
    refine wl_pure tt_ok rfl rfl ?_
    refine wl_nil ?_
    refine wx_block ?_
    exact wx_round m7 (Nat.lt_succ_self m7) ⟨(IntKind.wrap .u64 (j7_1 + (1 : Int))), v25, a25, n25_, c25, B25, h, N25, V25, rfl, rfl⟩ (agree_cons rfl (agree_cons rfl (agree_cons rfl (agree_cons rfl (agree_cons rfl agree_nil))))) (pSub (pCons (Sel.sa (Sel.sa Sel.hc)) (pApp (Sel.sa (Sel.sa Sel.ha)) (pApp Sel.ha pNil))))
  replace h := cf hc h
  refine wc_exit ?_
  refine wx_then_exit ?_
  simp only [Option.some.injEq] at h
  obtain rfl := h
  have h := hl7; clear hl7; try dsimp only [orE_l, orE_r] at h
  refine wx_then_exit ?_
  refine wx_block_exit ?_
  refine wx_then ?_
  refine wc_seq ?_
  refine wc_region ?_
  refine wl_pure tt_ok rfl rfl ?_
  refine wl_pure tt_ok rfl rfl ?_
  refine wl_nil ?_
  refine wx_then ?_
  refine wc_ret ?_
  simp only [Option.some.injEq] at h
  obtain rfl := h
  exact wx_spD tt_ok (.inl rfl) Try.results25 (Res.tmp rfl Res.nil) ⟨j7_7a0, j7_7n0, j7_7c0, j7_7B0, j7_7N0, j7_7V0, rfl, rfl⟩ (fun F => by simp) (pSub (pCons Sel.hc (pApp Sel.ha (pApp Sel.ha pNil))))

theorem k_hindcastref06_Same {F : Nat} {p0 : (List Int)} {p0a0 : Option Addr} {p0n0 p0c0 : Nat} {p1 : (List Int)} {p1a0 : Option Addr} {p1n0 p1c0 : Nat} {r0 : Bool} (p0N0 : p0n0 = p0.length) (p0H0 : p0n0 ≤ p0c0) (p1N0 : p1n0 = p1.length) (p1H0 : p1n0 ≤ p1c0) (h : m_hindcastref06_Same F p0 p1 = some r0) :
    Pf Try.prog 23 [.slice p0a0 p0n0 p0c0, .slice p1a0 p1n0 p1c0] (fun w => Rds w [] [] p0a0 (flat (e1 .u8) p0) ∧ Rds w [] [] p1a0 (flat (e1 .u8) p1)) (.bool r0) := by
  unfold m_hindcastref06_Same at h
  refine pf_of_wc Try.func23 rfl Try.ntmps23 rfl rfl (fun w0 hR => ?_)
  obtain ⟨p0S0, p1S0⟩ := hR
  refine wc_seq ?_
  refine wc_region ?_
  refine wl_pure tt_ok rfl rfl ?_
  refine wl_nil ?_
  refine wx_then ?_
  refine wc_seq ?_
  refine wc_seq ?_
  refine wc_region ?_
  refine wl_pure tt_ok rfl rfl ?_
  refine wl_val (v := .int .i64 (p0.length : Int)) (val_len tt_ok rfl rfl p0N0) rfl ?_
  refine wl_pure tt_ok rfl rfl ?_
  refine wl_val (v := .int .i64 (p1.length : Int)) (val_len tt_ok rfl rfl p1N0) rfl ?_
  refine wl_pure (v := .bool ((p0.length : Int) != (p1.length : Int))) tt_ok rfl rfl ?_
  refine wl_nil ?_
  refine wx_then ?_
  refine wc_cond rfl (fun hc => ?_) (fun hc => ?_)
  · replace h := ct hc h
    refine wc_seq ?_
    refine wc_region ?_
    refine wl_pure tt_ok rfl rfl ?_
    refine wl_nil ?_
    refine wx_then ?_
    refine wc_ret ?_
    refine wx_then_ret ?_
    simp only [Option.some.injEq] at h
    obtain rfl := h
    exact wx_pf tt_ok (.inl rfl) Try.results23 (Res.tmp rfl Res.nil) rfl
  replace h := cf hc h
  refine wc_skip ?_
  refine wx_then ?_
  refine wc_seq ?_
  refine wc_seq ?_
  refine wc_region ?_
  refine wl_pure tt_ok rfl rfl ?_
  refine wl_nil ?_
  refine wx_then ?_
  refine wc_block ?_
  replace h := bsome h; obtain ⟨o15, h, hl15⟩ := h
  refine wc_loop (fun m E L => ∃ (j15_5 : Int), m_hindcastref06_Same_L14 F p0 p1 m j15_5 = some o15 ∧ E = [(0, .slice p0a0 p0n0 p0c0), (1, .slice p1a0 p1n0 p1c0), (4, .bool false), (5, .int .i64 j15_5)] ∧ L = []) F ⟨(0 : Int), h, rfl, rfl⟩ (agree_cons rfl (agree_cons rfl (agree_cons rfl (agree_cons rfl agree_nil)))) (pSub pNil) ?_
  clear h
  rintro m15 _ _ ⟨j15_5, h, rfl, rfl⟩
  rcases m15 with _ | m15
  · rw [m_hindcastref06_Same_L14.eq_1] at h; cases h
  rw [m_hindcastref06_Same_L14.eq_2] at h
  refine wc_seq ?_
  refine wc_seq ?_
  refine wc_region ?_
  refine wl_pure tt_ok rfl rfl ?_
  refine wl_pure tt_ok rfl rfl ?_
  refine wl_val (v := .int .i64 (p0.length : Int)) (val_len tt_ok rfl rfl p0N0) rfl ?_
  refine wl_pure (v := .bool (decide (j15_5 < (p0.length : Int)))) tt_ok rfl rfl ?_
  refine wl_nil ?_
  refine wx_then ?_
  refine wc_cond rfl (fun hc => ?_) (fun hc => ?_)
  · replace h := ct hc h
    refine wc_skip ?_
    refine wx_then ?_
    refine wc_seq ?_
    refine wc_block ?_
    refine wc_seq ?_
    refine wc_quiet (by kernel_rfl) (by kernel_rfl) ?_
    refine wq_pure tt_ok rfl rfl ?_
    refine wq_pure tt_ok rfl rfl ?_
    replace h := bsome h; obtain ⟨v19, x19, h⟩ := h
    refine wq_val (v := .pointer (some ((adOf p0a0).add (j15_5.toNat * 1 + 0)))) (val_ix (enc := (e1 .u8)) tt_ok rfl rfl rfl rfl p0N0 p0S0 (e1_len _) rfl x19) rfl ?_
    refine wq_val (v := .int .u8 v19) (val_le (enc := (e1 .u8)) (xs := p0) tt_ok rfl p0S0 rsub_nil (e1_len _) x19 rfl) rfl ?_
    refine wq_pure tt_ok rfl rfl ?_
    refine wq_pure tt_ok rfl rfl ?_
    replace h := bsome h; obtain ⟨v23, x23, h⟩ := h
    refine wq_val (v := .pointer (some ((adOf p1a0).add (j15_5.toNat * 1 + 0)))) (val_ix (enc := (e1 .u8)) tt_ok rfl rfl rfl rfl p1N0 p1S0 (e1_len _) rfl x23) rfl ?_
    refine wq_val (v := .int .u8 v23) (val_le (enc := (e1 .u8)) (xs := p1) tt_ok rfl p1S0 rsub_nil (e1_len _) x23 rfl) rfl ?_
    refine wq_pure (v := .bool (v19 != v23)) tt_ok rfl rfl ?_
    refine wq_nil ?_
    refine wx_then ?_
    refine wc_cond rfl (fun hc => ?_) (fun hc => ?_)
    · replace h := ct hc h
      refine wc_seq ?_
      refine wc_region ?_
      refine wl_pure tt_ok rfl rfl ?_
      refine wl_nil ?_
      refine wx_then ?_
      refine wc_ret ?_
      refine wx_block_ret ?_
      refine wx_then_ret ?_
      obtain rfl := Option.some.inj h
      have h := hl15; clear hl15; try dsimp only [orE_l, orE_r] at h
      refine wx_then_ret ?_
      refine wx_block_ret ?_
      refine wx_then_ret ?_
      simp only [Option.some.injEq] at h
      obtain rfl := h
      exact wx_pf tt_ok (.inl rfl) Try.results23 (Res.tmp rfl Res.nil) rfl
    replace h := cf hc h
    refine wc_skip ?_
    refine wx_block ?_
    refine wx_then ?_
    refine wc_region ?_
    refine wl_pure tt_ok rfl rfl ?_
    refine wl_pure (v := .int .i64 (IntKind.wrap .i64 (j15_5 + (1 : Int)))) tt_ok rfl rfl ?_
    refine wl_pure tt_ok rfl rfl ?_
    refine wl_nil ?_
    exact wx_round m15 (Nat.lt_succ_self m15) ⟨(IntKind.wrap .i64 (j15_5 + (1 : Int))), h, rfl, rfl⟩ (agree_cons rfl (agree_cons rfl (agree_cons rfl (agree_cons rfl agree_nil)))) (pSub pNil)
  replace h := cf hc h
  refine wc_exit ?_
  refine wx_then_exit ?_
  obtain rfl := Option.some.inj h
  have h := hl15; clear hl15; try dsimp only [orE_l, orE_r] at h
  refine wx_then_exit ?_
  refine wx_block_exit ?_
  refine wx_then ?_
  refine wc_seq ?_
  refine wc_region ?_
  refine wl_pure tt_ok rfl rfl ?_
  refine wl_nil ?_
  refine wx_then ?_
  refine wc_ret ?_
  simp only [Option.some.injEq] at h
  obtain rfl := h
  exact wx_pf tt_ok (.inl rfl) Try.results23 (Res.tmp rfl Res.nil) rfl

theorem k_queue_Queue_Drop {F : Nat} {p0 : T_queue_Queue} {p0b p0t : Nat} {p0a0 : Option Addr} {p0n0 p0c0 : Nat} {p0B0 : List Blk} {p1 : Int} {r0 : T_queue_Queue} (p0N0 : p0n0 = p0.l.length) (p0V0 : Own 31 1 p0a0 p0n0 p0c0 (flat (e1 .u8) p0.l) p0B0) (h : m_queue_Queue_Drop F p0 p1 = some r0) :
    SpD Try.prog 16 [.pointer (some ⟨p0b, 0, none⟩), .int .u64 p1] (⟨p0b, [.int .u64 p0.first_, .slice p0a0 p0n0 p0c0, .int .u8 p0.last], p0t, (0, 0)⟩ :: (p0B0 ++ [])) (fun w => True) (fun v D => ∃ (r0a0 : Option Addr) (r0n0 r0c0 : Nat) (r0B0 : List Blk), r0n0 = r0.l.length ∧ Own 31 1 r0a0 r0n0 r0c0 (flat (e1 .u8) r0.l) r0B0 ∧ v = .tuple #[] ∧ D = fun F => (⟨p0b, [.int .u64 r0.first_, .slice r0a0 r0n0 r0c0, .int .u8 r0.last], p0t, (0, 0)⟩ :: (r0B0 ++ F))) := by
  unfold m_queue_Queue_Drop at h
  refine sp_of_wc Try.func16 rfl Try.ntmps16 rfl rfl (fun w0 hR => ?_)
  refine wc_seq ?_
  refine wc_seq ?_
  refine wc_region ?_
  refine wl_pure tt_ok rfl rfl ?_
  refine wl_pure (v := .bool false) tt_ok rfl rfl ?_
  refine wl_pure tt_ok rfl rfl ?_
  refine wl_run rfl ?_
  refine wl_pure tt_ok rfl rfl ?_
  refine wl_run rfl ?_
  refine wl_pure tt_ok rfl rfl ?_
  refine wl_run rfl ?_
  refine wl_pure tt_ok rfl rfl ?_
  refine wl_run rfl ?_
  refine wl_pure (v := .pointer (some ⟨p0b, 0, none⟩)) tt_ok rfl rfl ?_
  refine wl_run rfl ?_
  refine wl_val (v := .int .u64 p0.first_) (val_load tt_ok rfl (List.Mem.head _) rfl) rfl ?_
  refine wl_run rfl ?_
  refine wl_pure (v := .bool (decide (p1 ≤ p0.first_))) tt_ok rfl rfl ?_
  refine wl_pure (v := .bool (decide (p1 ≤ p0.first_))) tt_ok rfl rfl ?_
  refine wl_nil ?_
  refine wx_then ?_
  refine wc_cond rfl (fun hc => ?_) (fun hc => ?_)
  · replace h := ct hc h
    refine wc_ret ?_
    refine wx_then_ret ?_
    simp only [Option.some.injEq] at h
    obtain rfl := h
    exact wx_spD tt_ok (.inl rfl) Try.results16 Res.nil ⟨p0a0, p0n0, p0c0, p0B0, p0N0, p0V0, rfl, rfl⟩ (fun F => by simp) (pSub (pCons Sel.hc (pApp Sel.ha pNil)))
  replace h := cf hc h
  refine wc_skip ?_
  refine wx_then ?_
  refine wc_seq ?_
  refine wc_region ?_
  refine wl_pure tt_ok rfl rfl ?_
  refine wl_pure tt_ok rfl rfl ?_
  replace h := bsome h; obtain ⟨v17, x17, h⟩ := h
  refine wl_cq Try.call9 rfl rfl rfl (q_rd (k_queue_Queue_Known (p0 := p0) p0N0 p0V0 x17) (pCons Sel.hc (pApp Sel.ha pNil)) (fun _ _ => trivial)) rfl ?_
  refine wl_pure (v := .int .u64 (min p1 v17)) tt_ok rfl rfl ?_
  refine wl_pure tt_ok rfl rfl ?_
  refine wl_nil ?_
  refine wx_then ?_
  refine wc_seq ?_
  refine wc_k2 (Ls := (⟨p0b, [.int .u64 p0.first_, .slice p0a0 p0n0 p0c0, .int .u8 p0.last], p0t, (0, 0)⟩ :: (p0B0 ++ []))) [15, 16] [15, 16] [0, 1, 3, 7, 0, 16, 48, 112, 0, 0, 512, 1536, 3584, 7936, 16368, 32767, 65535] [0, 1, 2, 3, 4, 5, 6, 7, 8, 9, 10, 11, 12, 13, 14, 15, 16] (by kernel_rfl) (by kernel_rfl) (by kernel_rfl) ?_
  refine k_val rfl rfl rfl (pSub (pCons Sel.hc (pApp Sel.ha pNil))) (stepV_ok tt_ok rfl) rfl ?_
  refine k_val rfl rfl rfl (pSub (pCons Sel.hc (pApp Sel.ha pNil))) (stepV_ok tt_ok rfl) rfl ?_
  refine k_val (v := .pointer (some ⟨p0b, 1, none⟩)) rfl rfl rfl (pSub (pCons Sel.hc (pApp Sel.ha pNil))) (stepV_ok tt_ok rfl) rfl ?_
  refine k_val (v := .slice p0a0 p0n0 p0c0) rfl rfl rfl (pSub (pCons Sel.hc (pApp Sel.ha pNil))) (val_load tt_ok rfl (List.Mem.head _) rfl) rfl ?_
  refine k_val rfl rfl rfl (pSub (pCons Sel.hc (pApp Sel.ha pNil))) (stepV_ok tt_ok rfl) rfl ?_
  refine k_val rfl rfl rfl (pSub (pCons Sel.hc (pApp Sel.ha pNil))) (stepV_ok tt_ok rfl) rfl ?_
  refine k_val (v := .pointer (some ⟨p0b, 1, none⟩)) rfl rfl rfl (pSub (pCons Sel.hc (pApp Sel.ha pNil))) (stepV_ok tt_ok rfl) rfl ?_
  refine k_val (v := .slice p0a0 p0n0 p0c0) rfl rfl rfl (pSub (pCons Sel.hc (pApp Sel.ha pNil))) (val_load tt_ok rfl (List.Mem.head _) rfl) rfl ?_
  refine k_val rfl rfl rfl (pSub (pCons Sel.hc (pApp Sel.ha pNil))) (stepV_ok tt_ok rfl) rfl ?_
  refine k_val rfl rfl rfl (pSub (pCons Sel.hc (pApp Sel.ha pNil))) (stepV_ok tt_ok rfl) rfl ?_
  refine k_val rfl rfl rfl (pSub (pCons Sel.hc (pApp Sel.ha pNil))) (stepV_ok tt_ok rfl) rfl ?_
  refine k_val (v := .pointer (some ⟨p0b, 0, none⟩)) rfl rfl rfl (pSub (pCons Sel.hc (pApp Sel.ha pNil))) (stepV_ok tt_ok rfl) rfl ?_
  refine k_val (v := .int .u64 p0.first_) rfl rfl rfl (pSub (pCons Sel.hc (pApp Sel.ha pNil))) (val_load tt_ok rfl (List.Mem.head _) rfl) rfl ?_
  refine k_val (v := .int .u64 (IntKind.wrap .u64 ((min p1 v17) - p0.first_))) rfl rfl rfl (pSub (pCons Sel.hc (pApp Sel.ha pNil))) (stepV_ok tt_ok rfl) rfl ?_
  replace h := bsome h; obtain ⟨v33, x33, h⟩ := h
  refine k_cut (enc := (e1 .u8)) rfl rfl rfl (pSub (pCons Sel.hc (pApp Sel.ha pNil))) tt_ok rfl rfl rfl p0N0 (vec_some p0V0) (e1_len _) (vec_cap p0V0) (.inr ⟨_, _, rfl, rfl⟩) (.inl ⟨rfl, by rw [p0N0]⟩) (.inl ⟨rfl, rfl⟩) (by intro h; first | rfl | cases h) (cut2 x33 p0N0 (vec_cap p0V0)) x33 rfl ?_
  intro a33 n33_ c33 N33 H33 I33 O33 Z33
  refine k_chg rfl rfl rfl (chg_copy (enc := (e1 .u8)) (ys := v33) tt_ok rfl rfl rfl rfl p0N0 N33 p0V0 (Sel.sc Sel.ha) (Rds.of_vec (O33 _ rfl p0V0)) ⟨_, (Sel.sc Sel.ha)⟩ (e1_len _) (fun _ => rfl)) rfl (.inl rfl) ?_
  rintro _ _ ⟨Bk10_15, rfl, Nk10_15, Vk10_15, rfl⟩
  refine k_chg rfl rfl rfl (Chg.of_val (stepV_ok tt_ok rfl)) rfl (.inl rfl) ?_
  rintro _ _ ⟨rfl, rfl⟩
  refine k_end (by kernel_rfl) ?_
  refine wx_then ?_
  refine wc_region ?_
  refine wl_pure tt_ok rfl rfl ?_
  refine wl_pure tt_ok rfl rfl ?_
  refine wl_pure tt_ok rfl rfl ?_
  refine wl_pure tt_ok rfl rfl ?_
  refine wl_pure (v := .pointer (some ⟨p0b, 1, none⟩)) tt_ok rfl rfl ?_
  refine wl_val (v := .slice p0a0 p0n0 p0c0) (val_load tt_ok rfl (mR (List.Mem.head _)) rfl) rfl ?_
  refine wl_pure tt_ok rfl rfl ?_
  replace h := bsome h; obtain ⟨v42, x42, h⟩ := h
  refine wl_cut (enc := (e1 .u8)) tt_ok rfl rfl rfl Nk10_15 (vec_some Vk10_15) (e1_len _) (vec_cap Vk10_15) (.inl ⟨rfl, rfl⟩) (.inr ⟨_, _, rfl, rfl⟩) (.inl ⟨rfl, rfl⟩) (by intro h; first | rfl | cases h) (cut2 x42 Nk10_15 (vec_cap Vk10_15)) x42 rfl ?_
  intro a42 n42_ c42 N42 H42 I42 O42 Z42
  refine wl_pure tt_ok rfl rfl ?_
  refine wl_pure tt_ok rfl rfl ?_
  refine wl_pure (v := .pointer (some ⟨p0b, 1, none⟩)) tt_ok rfl rfl ?_
  apply wl_store tt_ok; rfl; exact (Upd.right Upd.here); rfl; rfl; rfl; rfl; rfl; rfl
  refine wl_pure tt_ok rfl rfl ?_
  refine wl_pure (v := .pointer (some ⟨p0b, 0, none⟩)) tt_ok rfl rfl ?_
  apply wl_store tt_ok; rfl; exact (Upd.right Upd.here); rfl; rfl; rfl; rfl; rfl; rfl
  refine wl_nil ?_
  simp only [Option.some.injEq] at h
  obtain rfl := h
  exact wx_spD tt_ok (.inr rfl) Try.results16 Res.nil ⟨a42, n42_, c42, Bk10_15, N42, (O42 _ rfl Vk10_15), rfl, rfl⟩ (fun F => by simp) (pSub (pCons (Sel.sa Sel.hc) (pApp Sel.ha pNil)))

theorem k_hindcastref24_Queue_Drop {F : Nat} {p0 : T_hindcastref24_Queue} {p0b p0t : Nat} {p0a0 : Option Addr} {p0n0 p0c0 : Nat} {p0B0 : List Blk} {p1 : Int} {r0 : T_hindcastref24_Queue} (p0N0 : p0n0 = p0.L.length) (p0V0 : Own 31 1 p0a0 p0n0 p0c0 (flat (e1 .u8) p0.L) p0B0) (h : m_hindcastref24_Queue_Drop F p0 p1 = some r0) :
    SpD Try.prog 17 [.pointer (some ⟨p0b, 0, none⟩), .int .u64 p1] (⟨p0b, [.int .u64 p0.Begin, .int .u64 p0.First, .slice p0a0 p0n0 p0c0], p0t, (0, 0)⟩ :: (p0B0 ++ [])) (fun w => True) (fun v D => ∃ (r0a0 : Option Addr) (r0n0 r0c0 : Nat) (r0B0 : List Blk), r0n0 = r0.L.length ∧ Own 31 1 r0a0 r0n0 r0c0 (flat (e1 .u8) r0.L) r0B0 ∧ v = .tuple #[] ∧ D = fun F => (⟨p0b, [.int .u64 r0.Begin, .int .u64 r0.First, .slice r0a0 r0n0 r0c0], p0t, (0, 0)⟩ :: (r0B0 ++ F))) := by
  unfold m_hindcastref24_Queue_Drop at h
  refine sp_of_wc Try.func17 rfl Try.ntmps17 rfl rfl (fun w0 hR => ?_)
  refine wc_seq ?_
  refine wc_seq ?_
  refine wc_region ?_
  refine wl_pure tt_ok rfl rfl ?_
  refine wl_pure tt_ok rfl rfl ?_
  replace h := bsome h; obtain ⟨v6, x6, h⟩ := h
  refine wl_cq Try.call21 rfl rfl rfl (q_rd (k_hindcastref24_Queue_Known (p0 := p0) p0N0 p0V0 x6) (pCons Sel.hc (pApp Sel.ha pNil)) (fun _ _ => trivial)) rfl ?_
  refine wl_pure (v := .bool (decide (v6 < p1))) tt_ok rfl rfl ?_
  refine wl_nil ?_
  refine wx_then ?_
  replace h := bsome h; obtain ⟨j4_1, h, hj4⟩ := h
  refine wc_join2 (fun E L => E = [(0, .pointer (some ⟨p0b, 0, none⟩)), (1, .int .u64 j4_1)] ∧ L = (⟨p0b, [.int .u64 p0.Begin, .int .u64 p0.First, .slice p0a0 p0n0 p0c0], p0t, (0, 0)⟩ :: (p0B0 ++ []))) ?_ ?_
  · refine wc_cond rfl (fun hc => ?_) (fun hc => ?_)
    · replace h := ct hc h
      refine wc_region ?_
      refine wl_pure tt_ok rfl rfl ?_
      replace h := bsome h; obtain ⟨v9, x9, h⟩ := h
      refine wl_cq Try.call21 rfl rfl rfl (q_rd (k_hindcastref24_Queue_Known (p0 := p0) p0N0 p0V0 x9) (pCons Sel.hc (pApp Sel.ha pNil)) (fun _ _ => trivial)) rfl ?_
      refine wl_pure tt_ok rfl rfl ?_
      refine wl_nil ?_
      simp only [Option.some.injEq] at h
      obtain rfl := h
      exact wx_join ⟨rfl, rfl⟩ (agree_cons rfl (agree_cons rfl agree_nil)) (pSub (pCons Sel.hc (pApp Sel.ha pNil)))
    replace h := cf hc h
    refine wc_skip ?_
    simp only [Option.some.injEq] at h
    obtain rfl := h
    exact wx_join ⟨rfl, rfl⟩ (agree_cons rfl (agree_cons rfl agree_nil)) (pSub (pCons Sel.hc (pApp Sel.ha pNil)))
  rintro _ _ ⟨rfl, rfl⟩
  have h := hj4; clear hj4
  refine wc_seq ?_
  refine wc_region ?_
  refine wl_pure tt_ok rfl rfl ?_
  refine wl_pure tt_ok rfl rfl ?_
  refine wl_pure tt_ok rfl rfl ?_
  refine wl_pure (v := .pointer (some ⟨p0b, 1, none⟩)) tt_ok rfl rfl ?_
  refine wl_val (v := .int .u64 p0.First) (val_load tt_ok rfl (List.Mem.head _) rfl) rfl ?_
  refine wl_pure (v := .bool (decide (p0.First < j4_1))) tt_ok rfl rfl ?_
  refine wl_nil ?_
  refine wx_then ?_
  refine wc_cond rfl (fun hc => ?_) (fun hc => ?_)
  · replace h := ct hc h
    refine wc_region ?_
    refine wl_pure tt_ok rfl rfl ?_
    refine wl_pure tt_ok rfl rfl ?_
    refine wl_pure tt_ok rfl rfl ?_
    refine wl_pure (v := .pointer (some ⟨p0b, 1, none⟩)) tt_ok rfl rfl ?_
    apply wl_store tt_ok; rfl; exact Upd.here; rfl; rfl; rfl; rfl; rfl; rfl
    refine wl_nil ?_
    simp only [Option.some.injEq] at h
    obtain rfl := h
    exact wx_spD tt_ok (.inr rfl) Try.results17 Res.nil ⟨p0a0, p0n0, p0c0, p0B0, p0N0, p0V0, rfl, rfl⟩ (fun F => by simp) (pSub (pCons Sel.hc (pApp Sel.ha pNil)))
  replace h := cf hc h
  refine wc_skip ?_
  simp only [Option.some.injEq] at h
  obtain rfl := h
  exact wx_spD tt_ok (.inr rfl) Try.results17 Res.nil ⟨p0a0, p0n0, p0c0, p0B0, p0N0, p0V0, rfl, rfl⟩ (fun F => by simp) (pSub (pCons Sel.hc (pApp Sel.ha pNil)))

theorem k_hindcastlaw24_QueuePlays {F : Nat} {p0 : Int} {p1 : (List T_hindcastlaw24_Act)} {p1a0 : Option Addr} {p1n0 p1c0 : Nat} {r0 : Bool} (p1N0 : p1n0 = p1.length) (p1H0 : p1n0 ≤ p1c0) (h : m_hindcastlaw24_QueuePlays F p0 p1 = some r0) :
    Pf Try.prog 4 [.int .u64 p0, .slice p1a0 p1n0 p1c0] (fun w => Rds w [] [] p1a0 (flat c_T_hindcastlaw24_Act p1)) (.bool r0) := by
  unfold m_hindcastlaw24_QueuePlays at h
  refine pf_of_wc Try.func4 rfl Try.ntmps4 rfl rfl (fun w0 hR => ?_)
  have p1S0 := hR
  refine wc_seq ?_
  refine wc_region ?_
  refine wl_pure tt_ok rfl rfl ?_
  refine wl_nil ?_
  refine wx_then ?_
  refine wc_seq ?_
  refine wc_region ?_
  refine wl_pure tt_ok rfl rfl ?_
  replace h := bsome h; obtain ⟨v14, x14, h⟩ := h
  refine wl_cs Try.call8 rfl rfl rfl (s_sp (k_queue_New x14) pNil (fun _ _ => trivial)) rfl ?_
  rintro _ _ ⟨_, ⟨b14_0, v14a0, v14n0, v14c0, v14B0, v14N0, v14V0, rfl, rfl⟩, rfl⟩
  refine wl_pure tt_ok rfl rfl ?_
  refine wl_nil ?_
  refine wx_then ?_
  refine wc_seq ?_
  refine wc_region ?_
  refine wl_pure tt_ok rfl rfl ?_
  replace h := bsome h; obtain ⟨v16, x16, h⟩ := h
  refine wl_cs Try.call14 rfl rfl rfl (s_sp (k_hindcastref24_New x16) pNil (fun _ _ => trivial)) rfl ?_
  rintro _ _ ⟨_, ⟨b16_0, v16a0, v16n0, v16c0, v16B0, v16N0, v16V0, rfl, rfl⟩, rfl⟩
  refine wl_pure tt_ok rfl rfl ?_
  refine wl_nil ?_
  refine wx_then ?_
  refine wc_seq ?_
  refine wc_seq ?_
  refine wc_region ?_
  refine wl_pure tt_ok rfl rfl ?_
  refine wl_pure (v := .bool false) tt_ok rfl rfl ?_
  refine wl_nil ?_
  refine wx_then ?_
  refine wc_cond_false rfl ?_
  refine wc_skip ?_
  refine wx_then ?_
  refine wc_seq ?_
  refine wc_seq ?_
  refine wc_region ?_
  refine wl_pure tt_ok rfl rfl ?_
  refine wl_val (v := .int .i64 (p1.length : Int)) (val_len tt_ok rfl rfl p1N0) rfl ?_
  refine wl_pure (v := .bool (decide ((200 : Int) < (p1.length : Int)))) tt_ok rfl rfl ?_
  refine wl_nil ?_
  refine wx_then ?_
  refine wc_cond rfl (fun hc => ?_) (fun hc => ?_)
  · replace h := ct hc h
    refine wc_seq ?_
    refine wc_region ?_
    replace h := bsome h; obtain ⟨v22, x22, h⟩ := h
    refine wl_cq Try.call7 rfl rfl rfl (q_pf (k_hindcastlaw24_works x22) (fun _ _ => trivial)) rfl ?_
    refine wl_pure tt_ok rfl rfl ?_
    refine wl_nil ?_
    refine wx_then ?_
    refine wc_ret ?_
    refine wx_then_ret ?_
    simp only [Option.some.injEq] at h
    obtain rfl := h
    exact wx_pf tt_ok (.inl rfl) Try.results4 (Res.tmp rfl Res.nil) rfl
  replace h := cf hc h
  refine wc_skip ?_
  refine wx_then ?_
  refine wc_seq ?_
  refine wc_seq ?_
  refine wc_region ?_
  refine wl_pure tt_ok rfl rfl ?_
  refine wl_nil ?_
  refine wx_then ?_
  refine wc_block ?_
  replace h := bsome h; obtain ⟨o27, h, hl27⟩ := h
  refine wc_loop (fun m E L => ∃ (j27_7 : Int) (j27_n14_0_f0 : Int) (j27_n14_0_f1 : (List Int)) (j27_n14_0_f2 : Int) (j27_n16_0_f0 : Int) (j27_n16_0_f1 : Int) (j27_n16_0_f2 : (List Int)) (j27_n14_0_f1a0 : Option Addr) (j27_n14_0_f1n0 : Nat) (j27_n14_0_f1c0 : Nat) (j27_n14_0_f1B0 : List Blk) (j27_n16_0_f2a0 : Option Addr) (j27_n16_0_f2n0 : Nat) (j27_n16_0_f2c0 : Nat) (j27_n16_0_f2B0 : List Blk), m_hindcastlaw24_QueuePlays_L26 F p1 m j27_7 j27_n14_0_f0 j27_n14_0_f1 j27_n14_0_f2 j27_n16_0_f0 j27_n16_0_f1 j27_n16_0_f2 = some o27 ∧ j27_n14_0_f1n0 = j27_n14_0_f1.length ∧ Own 31 1 j27_n14_0_f1a0 j27_n14_0_f1n0 j27_n14_0_f1c0 (flat (e1 .u8) j27_n14_0_f1) j27_n14_0_f1B0 ∧ j27_n16_0_f2n0 = j27_n16_0_f2.length ∧ Own 31 1 j27_n16_0_f2a0 j27_n16_0_f2n0 j27_n16_0_f2c0 (flat (e1 .u8) j27_n16_0_f2) j27_n16_0_f2B0 ∧ E = [(1, .slice p1a0 p1n0 p1c0), (4, .bool false), (5, .pointer (some ⟨b14_0, 0, none⟩)), (6, .pointer (some ⟨b16_0, 0, none⟩)), (7, .int .i64 j27_7)] ∧ L = (⟨b14_0, [.int .u64 j27_n14_0_f0, .slice j27_n14_0_f1a0 j27_n14_0_f1n0 j27_n14_0_f1c0, .int .u8 j27_n14_0_f2], 52, (0, 0)⟩ :: (⟨b16_0, [.int .u64 j27_n16_0_f0, .int .u64 j27_n16_0_f1, .slice j27_n16_0_f2a0 j27_n16_0_f2n0 j27_n16_0_f2c0], 46, (0, 0)⟩ :: (j27_n14_0_f1B0 ++ (j27_n16_0_f2B0 ++ []))))) F ⟨(0 : Int), v14.first_, v14.l, v14.last, v16.Begin, v16.First, v16.L, v14a0, v14n0, v14c0, v14B0, v16a0, v16n0, v16c0, v16B0, h, v14N0, v14V0, v16N0, v16V0, rfl, rfl⟩ (agree_cons rfl (agree_cons rfl (agree_cons rfl (agree_cons rfl (agree_cons rfl agree_nil))))) (pSub (pCons (Sel.sc (Sel.sa Sel.hc)) (pCons Sel.hc (pApp (Sel.sa Sel.ha) (pApp Sel.ha pNil))))) ?_
  clear h
  rintro m27 _ _ ⟨j27_7, j27_n14_0_f0, j27_n14_0_f1, j27_n14_0_f2, j27_n16_0_f0, j27_n16_0_f1, j27_n16_0_f2, j27_n14_0_f1a0, j27_n14_0_f1n0, j27_n14_0_f1c0, j27_n14_0_f1B0, j27_n16_0_f2a0, j27_n16_0_f2n0, j27_n16_0_f2c0, j27_n16_0_f2B0, h, j27_n14_0_f1N0, j27_n14_0_f1V0, j27_n16_0_f2N0, j27_n16_0_f2V0, rfl, rfl⟩
  rcases m27 with _ | m27
  · rw [m_hindcastlaw24_QueuePlays_L26.eq_1] at h; cases h
  rw [m_hindcastlaw24_QueuePlays_L26.eq_2] at h
  refine wc_seq ?_
  refine wc_seq ?_
  refine wc_region ?_
  refine wl_pure tt_ok rfl rfl ?_
  refine wl_pure tt_ok rfl rfl ?_
  refine wl_val (v := .int .i64 (p1.length : Int)) (val_len tt_ok rfl rfl p1N0) rfl ?_
  refine wl_pure (v := .bool (decide (j27_7 < (p1.length : Int)))) tt_ok rfl rfl ?_
  refine wl_nil ?_
  refine wx_then ?_
  refine wc_cond rfl (fun hc => ?_) (fun hc => ?_)
  · replace h := ct hc h
    refine wc_skip ?_
    refine wx_then ?_
    refine wc_seq ?_
    refine wc_block ?_
    refine wc_seq ?_
    refine wc_region ?_
    refine wl_pure tt_ok rfl rfl ?_
    refine wl_pure tt_ok rfl rfl ?_
    replace h := bsome h; obtain ⟨v31, x31, h⟩ := h
    refine wl_val (v := .pointer (some ((adOf p1a0).add (j27_7.toNat * 5 + 0)))) (val_ix (enc := c_T_hindcastlaw24_Act) tt_ok rfl rfl rfl rfl p1N0 p1S0 c_T_hindcastlaw24_Act_len rfl x31) rfl ?_
    refine wl_val (v := .agg #[.int .u8 v31.What, .int .u64 v31.F, .int .u64 v31.Ask, .int .u8 v31.I, .int .i64 v31.N]) (val_le (enc := c_T_hindcastlaw24_Act) (xs := p1) tt_ok rfl p1S0 rsub_nil c_T_hindcastlaw24_Act_len x31 rfl) rfl ?_
    refine wl_alloc tt_ok rfl rfl (fun b8 => ?_)
    apply wl_store tt_ok; rfl; exact Upd.here; rfl; rfl; rfl; rfl; rfl; rfl
    refine wl_nil ?_
    refine wx_then ?_
    refine wc_seq ?_
    refine wc_seq ?_
    refine wc_region ?_
    refine wl_pure (v := .pointer (some ⟨b8, 0, none⟩)) tt_ok rfl rfl ?_
    refine wl_val (v := .int .u8 v31.What) (val_load tt_ok rfl (List.Mem.head _) rfl) rfl ?_
    refine wl_pure (v := .int .u8 (Int.tmod v31.What 4)) tt_ok rfl rfl ?_
    refine wl_pure (v := .bool (decide ((Int.tmod v31.What 4) < (3 : Int)))) tt_ok rfl rfl ?_
    refine wl_nil ?_
    refine wx_then ?_
    refine wc_cond rfl (fun hc => ?_) (fun hc => ?_)
    · replace h := ct hc h
      refine wc_seq ?_
      refine wc_k2 (Ls := (⟨b8, [.int .u8 v31.What, .int .u64 v31.F, .int .u64 v31.Ask, .int .u8 v31.I, .int .i64 v31.N], 40, (0, 0)⟩ :: (⟨b16_0, [.int .u64 j27_n16_0_f0, .int .u64 j27_n16_0_f1, .slice j27_n16_0_f2a0 j27_n16_0_f2n0 j27_n16_0_f2c0], 46, (0, 0)⟩ :: (j27_n16_0_f2B0 ++ [])))) [5, 11, 12] [11, 12] [0, 0, 2, 0, 8, 31, 0, 0, 128, 0, 512, 2047, 4095] [0, 1, 2, 3, 4, 6, 7, 8, 9, 10, 5, 11, 12] (by kernel_rfl) (by kernel_rfl) (by kernel_rfl) ?_
      refine k_val rfl rfl rfl (pSub (pCons Sel.hc (pCons (Sel.sc Sel.hc) (pApp (Sel.sc (Sel.sa Sel.ha)) pNil)))) (stepV_ok tt_ok rfl) rfl ?_
      refine k_val (v := .pointer (some ⟨b8, 1, none⟩)) rfl rfl rfl (pSub (pCons Sel.hc (pCons (Sel.sc Sel.hc) (pApp (Sel.sc (Sel.sa Sel.ha)) pNil)))) (stepV_ok tt_ok rfl) rfl ?_
      refine k_val (v := .int .u64 v31.F) rfl rfl rfl (pSub (pCons Sel.hc (pCons (Sel.sc Sel.hc) (pApp (Sel.sc (Sel.sa Sel.ha)) pNil)))) (val_load tt_ok rfl (List.Mem.head _) rfl) rfl ?_
      refine k_val (v := .pointer (some ⟨b8, 3, none⟩)) rfl rfl rfl (pSub (pCons Sel.hc (pCons (Sel.sc Sel.hc) (pApp (Sel.sc (Sel.sa Sel.ha)) pNil)))) (stepV_ok tt_ok rfl) rfl ?_
      refine k_val (v := .int .u8 v31.I) rfl rfl rfl (pSub (pCons Sel.hc (pCons (Sel.sc Sel.hc) (pApp (Sel.sc (Sel.sa Sel.ha)) pNil)))) (val_load tt_ok rfl (List.Mem.head _) rfl) rfl ?_
      refine k_val rfl rfl rfl (pSub (pCons Sel.hc (pCons (Sel.sc Sel.hc) (pApp (Sel.sc (Sel.sa Sel.ha)) pNil)))) (stepV_ok tt_ok rfl) rfl ?_
      refine k_val (v := .pointer (some ⟨b8, 1, none⟩)) rfl rfl rfl (pSub (pCons Sel.hc (pCons (Sel.sc Sel.hc) (pApp (Sel.sc (Sel.sa Sel.ha)) pNil)))) (stepV_ok tt_ok rfl) rfl ?_
      refine k_val (v := .int .u64 v31.F) rfl rfl rfl (pSub (pCons Sel.hc (pCons (Sel.sc Sel.hc) (pApp (Sel.sc (Sel.sa Sel.ha)) pNil)))) (val_load tt_ok rfl (List.Mem.head _) rfl) rfl ?_
      refine k_val (v := .pointer (some ⟨b8, 3, none⟩)) rfl rfl rfl (pSub (pCons Sel.hc (pCons (Sel.sc Sel.hc) (pApp (Sel.sc (Sel.sa Sel.ha)) pNil)))) (stepV_ok tt_ok rfl) rfl ?_
      refine k_val (v := .int .u8 v31.I) rfl rfl rfl (pSub (pCons Sel.hc (pCons (Sel.sc Sel.hc) (pApp (Sel.sc (Sel.sa Sel.ha)) pNil)))) (val_load tt_ok rfl (List.Mem.head _) rfl) rfl ?_
      replace h := bsome h; obtain ⟨⟨o42_0, v42⟩, x42, h⟩ := h; try dsimp only at h
      refine k_cs rfl rfl rfl Try.call10 rfl rfl rfl (s_sp (k_queue_Queue_Add (p0 := (T_queue_Queue.mk j27_n14_0_f0 j27_n14_0_f1 j27_n14_0_f2)) j27_n14_0_f1N0 j27_n14_0_f1V0 x42) (pCons (Sel.sc Sel.hc) (pApp (Sel.sc (Sel.sc Sel.ha)) pNil)) (fun _ _ => trivial)) rfl (.inr (by rintro _ _ ⟨_, ⟨_, _, _, _, _, _, rfl, rfl⟩, rfl⟩; exact ⟨_, (pCons (Sel.sc (Sel.sa Sel.hc)) (pCons (Sel.sc (Sel.sa Sel.hc)) (pApp (Sel.sc (Sel.sa Sel.ha)) pNil)))⟩)) ?_
      rintro _ _ ⟨_, ⟨o42_0a0, o42_0n0, o42_0c0, o42_0B0, o42_0N0, o42_0V0, rfl, rfl⟩, rfl⟩
      replace h := bsome h; obtain ⟨⟨o48_0, v48⟩, x48, h⟩ := h; try dsimp only at h
      refine k_cs rfl rfl rfl Try.call15 rfl rfl rfl (s_sp (k_hindcastref24_Queue_Add (p0 := (T_hindcastref24_Queue.mk j27_n16_0_f0 j27_n16_0_f1 j27_n16_0_f2)) j27_n16_0_f2N0 j27_n16_0_f2V0 x48) (pCons (Sel.sc (Sel.sa (Sel.sc Sel.hc))) (pApp (Sel.sc (Sel.sa (Sel.sc Sel.ha))) pNil)) (fun _ _ => trivial)) rfl (.inl rfl) ?_
      rintro _ _ ⟨_, ⟨o48_0a0, o48_0n0, o48_0c0, o48_0B0, o48_0N0, o48_0V0, rfl, rfl⟩, rfl⟩
      refine k_chg rfl rfl rfl (Chg.of_val (v := .bool (v42 != v48)) (stepV_ok tt_ok rfl)) rfl (.inl rfl) ?_
      rintro _ _ ⟨rfl, rfl⟩
      refine k_end (by kernel_rfl) ?_
      refine wx_then ?_
      refine wc_cond rfl (fun hc => ?_) (fun hc => ?_)
      · replace h := ct hc h
        refine wc_seq ?_
        refine wc_region ?_
        refine wl_pure tt_ok rfl rfl ?_
        refine wl_nil ?_
        refine wx_then ?_
        refine wc_ret ?_
        refine wx_then_ret ?_
        refine wx_block_ret ?_
        refine wx_then_ret ?_
        obtain rfl := Option.some.inj h
        have h := hl27; clear hl27; try dsimp only [orE_l, orE_r] at h
        refine wx_then_ret ?_
        refine wx_block_ret ?_
        refine wx_then_ret ?_
        simp only [Option.some.injEq] at h
        obtain rfl := h
        exact wx_pf tt_ok (.inl rfl) Try.results4 (Res.tmp rfl Res.nil) rfl
      replace h := cf hc h
      refine wc_skip ?_
      refine wx_then ?_
      refine wc_seq ?_
      refine wc_region ?_
      refine wl_pure tt_ok rfl rfl ?_
      refine wl_pure (v := .pointer (some ⟨b8, 2, none⟩)) tt_ok rfl rfl ?_
      refine wl_val (v := .int .u64 v31.Ask) (val_load tt_ok rfl (List.Mem.tail _ (mR (List.Mem.tail _ (mR (List.Mem.head _))))) rfl) rfl ?_
      replace h := bsome h; obtain ⟨⟨v62_0, v62_1⟩, x62, h⟩ := h; try dsimp only at h
      refine wl_cq Try.call18 rfl rfl rfl (q_rd (k_queue_Queue_At (p0 := o42_0) o42_0N0 o42_0V0 x62) (pCons (Sel.sc (Sel.sa Sel.hc)) (pApp (Sel.sc (Sel.sa Sel.ha)) pNil)) (fun _ _ => trivial)) rfl ?_
      refine wl_pure tt_ok rfl rfl ?_
      refine wl_pure tt_ok rfl rfl ?_
      refine wl_pure tt_ok rfl rfl ?_
      refine wl_pure tt_ok rfl rfl ?_
      refine wl_pure tt_ok rfl rfl ?_
      refine wl_nil ?_
      refine wx_then ?_
      refine wc_seq ?_
      refine wc_region ?_
      refine wl_pure tt_ok rfl rfl ?_
      refine wl_pure (v := .pointer (some ⟨b8, 2, none⟩)) tt_ok rfl rfl ?_
      refine wl_val (v := .int .u64 v31.Ask) (val_load tt_ok rfl (List.Mem.tail _ (mR (List.Mem.tail _ (mR (List.Mem.head _))))) rfl) rfl ?_
      replace h := bsome h; obtain ⟨⟨v69_0, v69_1⟩, x69, h⟩ := h; try dsimp only at h
      refine wl_cq Try.call19 rfl rfl rfl (q_rd (k_hindcastref24_Queue_At (p0 := o48_0) o48_0N0 o48_0V0 x69) (pCons Sel.hc (pApp Sel.ha pNil)) (fun _ _ => trivial)) rfl ?_
      refine wl_pure tt_ok rfl rfl ?_
      refine wl_pure tt_ok rfl rfl ?_
      refine wl_pure tt_ok rfl rfl ?_
      refine wl_pure tt_ok rfl rfl ?_
      refine wl_pure tt_ok rfl rfl ?_
      refine wl_nil ?_
      refine wx_then ?_
      refine wc_seq ?_
      refine wc_k2 (Ls := (⟨b16_0, [.int .u64 o48_0.Begin, .int .u64 o48_0.First, .slice o48_0a0 o48_0n0 o48_0c0], 46, (0, 0)⟩ :: (o48_0B0 ++ (⟨b14_0, [.int .u64 o42_0.first_, .slice o42_0a0 o42_0n0 o42_0c0, .int .u8 o42_0.last], 52, (0, 0)⟩ :: (o42_0B0 ++ (⟨b8, [.int .u8 v31.What, .int .u64 v31.F, .int .u64 v31.Ask, .int .u8 v31.I, .int .i64 v31.N], 40, (0, 0)⟩ :: [])))))) [10, 19, 21, 28, 32, 41, 47, 48] [] [0, 0, 3, 7, 15, 15, 63, 127, 255, 511, 1023, 511, 2559, 6655, 14847, 32767, 65535, 131071, 262143, 524287, 262143, 2097151, 4194303, 8388607, 16777215, 33554431, 33554431, 100663295, 268435455, 33554431, 33554431, 1107296255, 4294967295, 8589934591, 17179869183, 34359738367, 68719476735, 68719476735, 206158430207, 68719476735, 618475290623, 2199023255551, 68719476735, 68719476735, 8864812498943, 68719476735, 35253091565567, 140737488355327, 281474976710655, 562949953421311, 1125899906842623] [0, 1, 2, 3, 4, 5, 6, 7, 8, 9, 11, 12, 13, 14, 10, 15, 16, 17, 18, 20, 19, 21, 22, 23, 24, 25, 26, 27, 29, 30, 31, 28, 32, 33, 34, 35, 36, 37, 38, 39, 40, 42, 43, 44, 45, 46, 41, 47, 48, 49, 50] (by kernel_rfl) (by kernel_rfl) (by kernel_rfl) ?_
      refine k_val rfl rfl rfl (pSub (pCons Sel.hc (pApp Sel.ha (pCons Sel.hc (pApp Sel.ha (pCons Sel.hc pNil)))))) (stepV_ok tt_ok rfl) rfl ?_
      refine k_val rfl rfl rfl (pSub (pCons Sel.hc (pApp Sel.ha (pCons Sel.hc (pApp Sel.ha (pCons Sel.hc pNil)))))) (stepV_ok tt_ok rfl) rfl ?_
      refine k_val (v := .bool (v62_0 != v69_0)) rfl rfl rfl (pSub (pCons Sel.hc (pApp Sel.ha (pCons Sel.hc (pApp Sel.ha (pCons Sel.hc pNil)))))) (stepV_ok tt_ok rfl) rfl ?_
      refine k_val rfl rfl rfl (pSub (pCons Sel.hc (pApp Sel.ha (pCons Sel.hc (pApp Sel.ha (pCons Sel.hc pNil)))))) (stepV_ok tt_ok rfl) rfl ?_
      replace h := bsome h; obtain ⟨v79, h, hg79⟩ := h
      refine k_split (t := 75) rfl (fun hc => ?_) (fun hc => ?_)
      · replace h := ct hc h
        refine k_skip rfl rfl (pSub (pCons Sel.hc (pApp Sel.ha (pCons Sel.hc (pApp Sel.ha (pCons Sel.hc pNil)))))) rfl ?_
        refine k_skip rfl rfl (pSub (pCons Sel.hc (pApp Sel.ha (pCons Sel.hc (pApp Sel.ha (pCons Sel.hc pNil)))))) rfl ?_
        refine k_skip rfl rfl (pSub (pCons Sel.hc (pApp Sel.ha (pCons Sel.hc (pApp Sel.ha (pCons Sel.hc pNil)))))) rfl ?_
        simp only [Option.some.injEq, Prod.mk.injEq] at h
        obtain rfl := h
        have h := hg79; clear hg79
        refine k_val (v := .bool true) rfl rfl rfl (pSub (pCons Sel.hc (pApp Sel.ha (pCons Sel.hc (pApp Sel.ha (pCons Sel.hc pNil)))))) (stepV_ok tt_ok rfl) rfl ?_
        refine k_val rfl rfl rfl (pSub (pCons Sel.hc (pApp Sel.ha (pCons Sel.hc (pApp Sel.ha (pCons Sel.hc pNil)))))) (stepV_ok tt_ok rfl) rfl ?_
        replace h := bsome h; obtain ⟨v88, h, hg88⟩ := h
        replace h := ct rfl h
        refine k_skip rfl rfl (pSub (pCons Sel.hc (pApp Sel.ha (pCons Sel.hc (pApp Sel.ha (pCons Sel.hc pNil)))))) rfl ?_
        refine k_skip rfl rfl (pSub (pCons Sel.hc (pApp Sel.ha (pCons Sel.hc (pApp Sel.ha (pCons Sel.hc pNil)))))) rfl ?_
        refine k_skip rfl rfl (pSub (pCons Sel.hc (pApp Sel.ha (pCons Sel.hc (pApp Sel.ha (pCons Sel.hc pNil)))))) rfl ?_
        refine k_skip rfl rfl (pSub (pCons Sel.hc (pApp Sel.ha (pCons Sel.hc (pApp Sel.ha (pCons Sel.hc pNil)))))) rfl ?_
        refine k_skip rfl rfl (pSub (pCons Sel.hc (pApp Sel.ha (pCons Sel.hc (pApp Sel.ha (pCons Sel.hc pNil)))))) rfl ?_
        refine k_skip rfl rfl (pSub (pCons Sel.hc (pApp Sel.ha (pCons Sel.hc (pApp Sel.ha (pCons Sel.hc pNil)))))) rfl ?_
        refine k_skip rfl rfl (pSub (pCons Sel.hc (pApp Sel.ha (pCons Sel.hc (pApp Sel.ha (pCons Sel.hc pNil)))))) rfl ?_
        simp only [Option.some.injEq, Prod.mk.injEq] at h
        obtain rfl := h
        have h := hg88; clear hg88
        refine k_val (v := .bool true) rfl rfl rfl (pSub (pCons Sel.hc (pApp Sel.ha (pCons Sel.hc (pApp Sel.ha (pCons Sel.hc pNil)))))) (stepV_ok tt_ok rfl) rfl ?_
        refine k_val rfl rfl rfl (pSub (pCons Sel.hc (pApp Sel.ha (pCons Sel.hc (pApp Sel.ha (pCons Sel.hc pNil)))))) (stepV_ok tt_ok rfl) rfl ?_
        replace h := bsome h; obtain ⟨v95, h, hg95⟩ := h
        replace h := ct rfl h
        refine k_skip rfl rfl (pSub (pCons Sel.hc (pApp Sel.ha (pCons Sel.hc (pApp Sel.ha (pCons Sel.hc pNil)))))) rfl ?_
        refine k_skip rfl rfl (pSub (pCons Sel.hc (pApp Sel.ha (pCons Sel.hc (pApp Sel.ha (pCons Sel.hc pNil)))))) rfl ?_
        refine k_skip rfl rfl (pSub (pCons Sel.hc (pApp Sel.ha (pCons Sel.hc (pApp Sel.ha (pCons Sel.hc pNil)))))) rfl ?_
        refine k_skip rfl rfl (pSub (pCons Sel.hc (pApp Sel.ha (pCons Sel.hc (pApp Sel.ha (pCons Sel.hc pNil)))))) rfl ?_
        refine k_skip rfl rfl (pSub (pCons Sel.hc (pApp Sel.ha (pCons Sel.hc (pApp Sel.ha (pCons Sel.hc pNil)))))) rfl ?_
        simp only [Option.some.injEq, Prod.mk.injEq] at h
        obtain rfl := h
        have h := hg95; clear hg95
        refine k_val (v := .bool true) rfl rfl rfl (pSub (pCons Sel.hc (pApp Sel.ha (pCons Sel.hc (pApp Sel.ha (pCons Sel.hc pNil)))))) (stepV_ok tt_ok rfl) rfl ?_
        refine k_val rfl rfl rfl (pSub (pCons Sel.hc (pApp Sel.ha (pCons Sel.hc (pApp Sel.ha (pCons Sel.hc pNil)))))) (stepV_ok tt_ok rfl) rfl ?_
        replace h := bsome h; obtain ⟨v106, h, hg106⟩ := h
        replace h := ct rfl h
        refine k_skip rfl rfl (pSub (pCons Sel.hc (pApp Sel.ha (pCons Sel.hc (pApp Sel.ha (pCons Sel.hc pNil)))))) rfl ?_
        refine k_skip rfl rfl (pSub (pCons Sel.hc (pApp Sel.ha (pCons Sel.hc (pApp Sel.ha (pCons Sel.hc pNil)))))) rfl ?_
        refine k_skip rfl rfl (pSub (pCons Sel.hc (pApp Sel.ha (pCons Sel.hc (pApp Sel.ha (pCons Sel.hc pNil)))))) rfl ?_
        refine k_skip rfl rfl (pSub (pCons Sel.hc (pApp Sel.ha (pCons Sel.hc (pApp Sel.ha (pCons Sel.hc pNil)))))) rfl ?_
        refine k_skip rfl rfl (pSub (pCons Sel.hc (pApp Sel.ha (pCons Sel.hc (pApp Sel.ha (pCons Sel.hc pNil)))))) rfl ?_
        refine k_skip rfl rfl (pSub (pCons Sel.hc (pApp Sel.ha (pCons Sel.hc (pApp Sel.ha (pCons Sel.hc pNil)))))) rfl ?_
        refine k_skip rfl rfl (pSub (pCons Sel.hc (pApp Sel.ha (pCons Sel.hc (pApp Sel.ha (pCons Sel.hc pNil)))))) rfl ?_
        refine k_skip rfl rfl (pSub (pCons Sel.hc (pApp Sel.ha (pCons Sel.hc (pApp Sel.ha (pCons Sel.hc pNil)))))) rfl ?_
        refine k_skip rfl rfl (pSub (pCons Sel.hc (pApp Sel.ha (pCons Sel.hc (pApp Sel.ha (pCons Sel.hc pNil)))))) rfl ?_
        simp only [Option.some.injEq, Prod.mk.injEq] at h
        obtain rfl := h
        have h := hg106; clear hg106
        refine k_val (v := .bool true) rfl rfl rfl (pSub (pCons Sel.hc (pApp Sel.ha (pCons Sel.hc (pApp Sel.ha (pCons Sel.hc pNil)))))) (stepV_ok tt_ok rfl) rfl ?_
        refine k_val rfl rfl rfl (pSub (pCons Sel.hc (pApp Sel.ha (pCons Sel.hc (pApp Sel.ha (pCons Sel.hc pNil)))))) (stepV_ok tt_ok rfl) rfl ?_
        replace h := bsome h; obtain ⟨v122, h, hg122⟩ := h
        replace h := ct rfl h
        refine k_skip rfl rfl (pSub (pCons Sel.hc (pApp Sel.ha (pCons Sel.hc (pApp Sel.ha (pCons Sel.hc pNil)))))) rfl ?_
        refine k_skip rfl rfl (pSub (pCons Sel.hc (pApp Sel.ha (pCons Sel.hc (pApp Sel.ha (pCons Sel.hc pNil)))))) rfl ?_
        refine k_skip rfl rfl (pSub (pCons Sel.hc (pApp Sel.ha (pCons Sel.hc (pApp Sel.ha (pCons Sel.hc pNil)))))) rfl ?_
        refine k_skip rfl rfl (pSub (pCons Sel.hc (pApp Sel.ha (pCons Sel.hc (pApp Sel.ha (pCons Sel.hc pNil)))))) rfl ?_
        refine k_skip rfl rfl (pSub (pCons Sel.hc (pApp Sel.ha (pCons Sel.hc (pApp Sel.ha (pCons Sel.hc pNil)))))) rfl ?_
        refine k_skip rfl rfl (pSub (pCons Sel.hc (pApp Sel.ha (pCons Sel.hc (pApp Sel.ha (pCons Sel.hc pNil)))))) rfl ?_
        refine k_skip rfl rfl (pSub (pCons Sel.hc (pApp Sel.ha (pCons Sel.hc (pApp Sel.ha (pCons Sel.hc pNil)))))) rfl ?_
        refine k_skip rfl rfl (pSub (pCons Sel.hc (pApp Sel.ha (pCons Sel.hc (pApp Sel.ha (pCons Sel.hc pNil)))))) rfl ?_
        refine k_skip rfl rfl (pSub (pCons Sel.hc (pApp Sel.ha (pCons Sel.hc (pApp Sel.ha (pCons Sel.hc pNil)))))) rfl ?_
        refine k_skip rfl rfl (pSub (pCons Sel.hc (pApp Sel.ha (pCons Sel.hc (pApp Sel.ha (pCons Sel.hc pNil)))))) rfl ?_
        refine k_skip rfl rfl (pSub (pCons Sel.hc (pApp Sel.ha (pCons Sel.hc (pApp Sel.ha (pCons Sel.hc pNil)))))) rfl ?_
        refine k_skip rfl rfl (pSub (pCons Sel.hc (pApp Sel.ha (pCons Sel.hc (pApp Sel.ha (pCons Sel.hc pNil)))))) rfl ?_
        refine k_skip rfl rfl (pSub (pCons Sel.hc (pApp Sel.ha (pCons Sel.hc (pApp Sel.ha (pCons Sel.hc pNil)))))) rfl ?_
        refine k_skip rfl rfl (pSub (pCons Sel.hc (pApp Sel.ha (pCons Sel.hc (pApp Sel.ha (pCons Sel.hc pNil)))))) rfl ?_
        simp only [Option.some.injEq, Prod.mk.injEq] at h
        obtain rfl := h
        have h := hg122; clear hg122
        refine k_val (v := .bool true) rfl rfl rfl (pSub (pCons Sel.hc (pApp Sel.ha (pCons Sel.hc (pApp Sel.ha (pCons Sel.hc pNil)))))) (stepV_ok tt_ok rfl) rfl ?_
        refine k_end (by kernel_rfl) ?_
        refine wx_then ?_
        replace h := ct rfl h
        refine wc_cond_true rfl ?_
        refine wc_seq ?_
        refine wc_region ?_
        refine wl_pure tt_ok rfl rfl ?_
        refine wl_nil ?_
        refine wx_then ?_
        refine wc_ret ?_
        refine wx_block_ret ?_
        refine wx_then_ret ?_
        obtain rfl := Option.some.inj h
        have h := hl27; clear hl27; try dsimp only [orE_l, orE_r] at h
        refine wx_then_ret ?_
        refine wx_block_ret ?_
        refine wx_then_ret ?_
        simp only [Option.some.injEq] at h
        obtain rfl := h
        exact wx_pf tt_ok (.inl rfl) Try.results4 (Res.tmp rfl Res.nil) rfl
      replace h := cf hc h
      refine k_val rfl rfl rfl (pSub (pCons Sel.hc (pApp Sel.ha (pCons Sel.hc (pApp Sel.ha (pCons Sel.hc pNil)))))) (stepV_ok tt_ok rfl) rfl ?_
      refine k_val rfl rfl rfl (pSub (pCons Sel.hc (pApp Sel.ha (pCons Sel.hc (pApp Sel.ha (pCons Sel.hc pNil)))))) (stepV_ok tt_ok rfl) rfl ?_
      refine k_val (v := .bool (v62_1 != v69_1)) rfl rfl rfl (pSub (pCons Sel.hc (pApp Sel.ha (pCons Sel.hc (pApp Sel.ha (pCons Sel.hc pNil)))))) (stepV_ok tt_ok rfl) rfl ?_
      simp only [Option.some.injEq, Prod.mk.injEq] at h
      obtain rfl := h
      have h := hg79; clear hg79
      refine k_val (v := .bool (v62_1 != v69_1)) rfl rfl rfl (pSub (pCons Sel.hc (pApp Sel.ha (pCons Sel.hc (pApp Sel.ha (pCons Sel.hc pNil)))))) (stepV_ok tt_ok rfl) rfl ?_
      refine k_val rfl rfl rfl (pSub (pCons Sel.hc (pApp Sel.ha (pCons Sel.hc (pApp Sel.ha (pCons Sel.hc pNil)))))) (stepV_ok tt_ok rfl) rfl ?_
      replace h := bsome h; obtain ⟨v88, h, hg88⟩ := h
      refine k_split (t := 80) rfl (fun hc => ?_) (fun hc => ?_)
      · replace h := ct hc h
        refine k_skip rfl rfl (pSub (pCons Sel.hc (pApp Sel.ha (pCons Sel.hc (pApp Sel.ha (pCons Sel.hc pNil)))))) rfl ?_
        refine k_skip rfl rfl (pSub (pCons Sel.hc (pApp Sel.ha (pCons Sel.hc (pApp Sel.ha (pCons Sel.hc pNil)))))) rfl ?_
        refine k_skip rfl rfl (pSub (pCons Sel.hc (pApp Sel.ha (pCons Sel.hc (pApp Sel.ha (pCons Sel.hc pNil)))))) rfl ?_
        refine k_skip rfl rfl (pSub (pCons Sel.hc (pApp Sel.ha (pCons Sel.hc (pApp Sel.ha (pCons Sel.hc pNil)))))) rfl ?_
        refine k_skip rfl rfl (pSub (pCons Sel.hc (pApp Sel.ha (pCons Sel.hc (pApp Sel.ha (pCons Sel.hc pNil)))))) rfl ?_
        refine k_skip rfl rfl (pSub (pCons Sel.hc (pApp Sel.ha (pCons Sel.hc (pApp Sel.ha (pCons Sel.hc pNil)))))) rfl ?_
        refine k_skip rfl rfl (pSub (pCons Sel.hc (pApp Sel.ha (pCons Sel.hc (pApp Sel.ha (pCons Sel.hc pNil)))))) rfl ?_
        simp only [Option.some.injEq, Prod.mk.injEq] at h
        obtain rfl := h
        have h := hg88; clear hg88
        refine k_val (v := .bool true) rfl rfl rfl (pSub (pCons Sel.hc (pApp Sel.ha (pCons Sel.hc (pApp Sel.ha (pCons Sel.hc pNil)))))) (stepV_ok tt_ok rfl) rfl ?_
        refine k_val rfl rfl rfl (pSub (pCons Sel.hc (pApp Sel.ha (pCons Sel.hc (pApp Sel.ha (pCons Sel.hc pNil)))))) (stepV_ok tt_ok rfl) rfl ?_
        replace h := bsome h; obtain ⟨v95, h, hg95⟩ := h
        replace h := ct rfl h
        refine k_skip rfl rfl (pSub (pCons Sel.hc (pApp Sel.ha (pCons Sel.hc (pApp Sel.ha (pCons Sel.hc pNil)))))) rfl ?_
        refine k_skip rfl rfl (pSub (pCons Sel.hc (pApp Sel.ha (pCons Sel.hc (pApp Sel.ha (pCons Sel.hc pNil)))))) rfl ?_
        refine k_skip rfl rfl (pSub (pCons Sel.hc (pApp Sel.ha (pCons Sel.hc (pApp Sel.ha (pCons Sel.hc pNil)))))) rfl ?_
        refine k_skip rfl rfl (pSub (pCons Sel.hc (pApp Sel.ha (pCons Sel.hc (pApp Sel.ha (pCons Sel.hc pNil)))))) rfl ?_
        refine k_skip rfl rfl (pSub (pCons Sel.hc (pApp Sel.ha (pCons Sel.hc (pApp Sel.ha (pCons Sel.hc pNil)))))) rfl ?_
        simp only [Option.some.injEq, Prod.mk.injEq] at h
        obtain rfl := h
        have h := hg95; clear hg95
        refine k_val (v := .bool true) rfl rfl rfl (pSub (pCons Sel.hc (pApp Sel.ha (pCons Sel.hc (pApp Sel.ha (pCons Sel.hc pNil)))))) (stepV_ok tt_ok rfl) rfl ?_
        refine k_val rfl rfl rfl (pSub (pCons Sel.hc (pApp Sel.ha (pCons Sel.hc (pApp Sel.ha (pCons Sel.hc pNil)))))) (stepV_ok tt_ok rfl) rfl ?_
        replace h := bsome h; obtain ⟨v106, h, hg106⟩ := h
        replace h := ct rfl h
        refine k_skip rfl rfl (pSub (pCons Sel.hc (pApp Sel.ha (pCons Sel.hc (pApp Sel.ha (pCons Sel.hc pNil)))))) rfl ?_
        refine k_skip rfl rfl (pSub (pCons Sel.hc (pApp Sel.ha (pCons Sel.hc (pApp Sel.ha (pCons Sel.hc pNil)))))) rfl ?_
        refine k_skip rfl rfl (pSub (pCons Sel.hc (pApp Sel.ha (pCons Sel.hc (pApp Sel.ha (pCons Sel.hc pNil)))))) rfl ?_
        refine k_skip rfl rfl (pSub (pCons Sel.hc (pApp Sel.ha (pCons Sel.hc (pApp Sel.ha (pCons Sel.hc pNil)))))) rfl ?_
        refine k_skip rfl rfl (pSub (pCons Sel.hc (pApp Sel.ha (pCons Sel.hc (pApp Sel.ha (pCons Sel.hc pNil)))))) rfl ?_
        refine k_skip rfl rfl (pSub (pCons Sel.hc (pApp Sel.ha (pCons Sel.hc (pApp Sel.ha (pCons Sel.hc pNil)))))) rfl ?_
        refine k_skip rfl rfl (pSub (pCons Sel.hc (pApp Sel.ha (pCons Sel.hc (pApp Sel.ha (pCons Sel.hc pNil)))))) rfl ?_
        refine k_skip rfl rfl (pSub (pCons Sel.hc (pApp Sel.ha (pCons Sel.hc (pApp Sel.ha (pCons Sel.hc pNil)))))) rfl ?_
        refine k_skip rfl rfl (pSub (pCons Sel.hc (pApp Sel.ha (pCons Sel.hc (pApp Sel.ha (pCons Sel.hc pNil)))))) rfl ?_
        simp only [Option.some.injEq, Prod.mk.injEq] at h
        obtain rfl := h
        have h := hg106; clear hg106
        refine k_val (v := .bool true) rfl rfl rfl (pSub (pCons Sel.hc (pApp Sel.ha (pCons Sel.hc (pApp Sel.ha (pCons Sel.hc pNil)))))) (stepV_ok tt_ok rfl) rfl ?_
        refine k_val rfl rfl rfl (pSub (pCons Sel.hc (pApp Sel.ha (pCons Sel.hc (pApp Sel.ha (pCons Sel.hc pNil)))))) (stepV_ok tt_ok rfl) rfl ?_
        replace h := bsome h; obtain ⟨v122, h, hg122⟩ := h
        replace h := ct rfl h
        refine k_skip rfl rfl (pSub (pCons Sel.hc (pApp Sel.ha (pCons Sel.hc (pApp Sel.ha (pCons Sel.hc pNil)))))) rfl ?_
        refine k_skip rfl rfl (pSub (pCons Sel.hc (pApp Sel.ha (pCons Sel.hc (pApp Sel.ha (pCons Sel.hc pNil)))))) rfl ?_
        refine k_skip rfl rfl (pSub (pCons Sel.hc (pApp Sel.ha (pCons Sel.hc (pApp Sel.ha (pCons Sel.hc pNil)))))) rfl ?_
        refine k_skip rfl rfl (pSub (pCons Sel.hc (pApp Sel.ha (pCons Sel.hc (pApp Sel.ha (pCons Sel.hc pNil)))))) rfl ?_
        refine k_skip rfl rfl (pSub (pCons Sel.hc (pApp Sel.ha (pCons Sel.hc (pApp Sel.ha (pCons Sel.hc pNil)))))) rfl ?_
        refine k_skip rfl rfl (pSub (pCons Sel.hc (pApp Sel.ha (pCons Sel.hc (pApp Sel.ha (pCons Sel.hc pNil)))))) rfl ?_
        refine k_skip rfl rfl (pSub (pCons Sel.hc (pApp Sel.ha (pCons Sel.hc (pApp Sel.ha (pCons Sel.hc pNil)))))) rfl ?_
        refine k_skip rfl rfl (pSub (pCons Sel.hc (pApp Sel.ha (pCons Sel.hc (pApp Sel.ha (pCons Sel.hc pNil)))))) rfl ?_
        refine k_skip rfl rfl (pSub (pCons Sel.hc (pApp Sel.ha (pCons Sel.hc (pApp Sel.ha (pCons Sel.hc pNil)))))) rfl ?_
        refine k_skip rfl rfl (pSub (pCons Sel.hc (pApp Sel.ha (pCons Sel.hc (pApp Sel.ha (pCons Sel.hc pNil)))))) rfl ?_
        refine k_skip rfl rfl (pSub (pCons Sel.hc (pApp Sel.ha (pCons Sel.hc (pApp Sel.ha (pCons Sel.hc pNil)))))) rfl ?_
        refine k_skip rfl rfl (pSub (pCons Sel.hc (pApp Sel.ha (pCons Sel.hc (pApp Sel.ha (pCons Sel.hc pNil)))))) rfl ?_
        refine k_skip rfl rfl (pSub (pCons Sel.hc (pApp Sel.ha (pCons Sel.hc (pApp Sel.ha (pCons Sel.hc pNil)))))) rfl ?_
        refine k_skip rfl rfl (pSub (pCons Sel.hc (pApp Sel.ha (pCons Sel.hc (pApp Sel.ha (pCons Sel.hc pNil)))))) rfl ?_
        simp only [Option.some.injEq, Prod.mk.injEq] at h
        obtain rfl := h
        have h := hg122; clear hg122
        refine k_val (v := .bool true) rfl rfl rfl (pSub (pCons Sel.hc (pApp Sel.ha (pCons Sel.hc (pApp Sel.ha (pCons Sel.hc pNil)))))) (stepV_ok tt_ok rfl) rfl ?_
        refine k_end (by kernel_rfl) ?_
        refine wx_then ?_
        replace h := ct rfl h
        refine wc_cond_true rfl ?_
        refine wc_seq ?_
        refine wc_region ?_
        refine wl_pure tt_ok rfl rfl ?_
        refine wl_nil ?_
        refine wx_then ?_
        refine wc_ret ?_
        refine wx_block_ret ?_
        refine wx_then_ret ?_
        obtain rfl := Option.some.inj h
        have h := hl27; clear hl27; try dsimp only [orE_l, orE_r] at h
        refine wx_then_ret ?_
        refine wx_block_ret ?_
        refine wx_then_ret ?_
        simp only [Option.some.injEq] at h
        obtain rfl := h
        exact wx_pf tt_ok (.inl rfl) Try.results4 (Res.tmp rfl Res.nil) rfl
      replace h := cf hc h
      refine k_val rfl rfl rfl (pSub (pCons Sel.hc (pApp Sel.ha (pCons Sel.hc (pApp Sel.ha (pCons Sel.hc pNil)))))) (stepV_ok tt_ok rfl) rfl ?_
      refine k_val rfl rfl rfl (pSub (pCons Sel.hc (pApp Sel.ha (pCons Sel.hc (pApp Sel.ha (pCons Sel.hc pNil)))))) (stepV_ok tt_ok rfl) rfl ?_
      refine k_val rfl rfl rfl (pSub (pCons Sel.hc (pApp Sel.ha (pCons Sel.hc (pApp Sel.ha (pCons Sel.hc pNil)))))) (stepV_ok tt_ok rfl) rfl ?_
      refine k_val (v := .pointer (some ⟨b16_0, 1, none⟩)) rfl rfl rfl (pSub (pCons Sel.hc (pApp Sel.ha (pCons Sel.hc (pApp Sel.ha (pCons Sel.hc pNil)))))) (stepV_ok tt_ok rfl) rfl ?_
      refine k_val (v := .int .u64 o48_0.First) rfl rfl rfl (pSub (pCons Sel.hc (pApp Sel.ha (pCons Sel.hc (pApp Sel.ha (pCons Sel.hc pNil)))))) (val_load tt_ok rfl (List.Mem.head _) rfl) rfl ?_
      replace h := bsome h; obtain ⟨v82, x82, h⟩ := h
      refine k_cq rfl rfl rfl Try.call20 rfl rfl rfl (q_rd (k_queue_Queue_First (p0 := o42_0) o42_0N0 o42_0V0 x82) (pCons (Sel.sc (Sel.sa Sel.hc)) (pApp (Sel.sc (Sel.sa Sel.ha)) pNil)) (fun _ _ => trivial)) rfl (pSub (pCons Sel.hc (pApp Sel.ha (pCons Sel.hc (pApp Sel.ha (pCons Sel.hc pNil)))))) ?_
      refine k_val (v := .bool (v82 != o48_0.First)) rfl rfl rfl (pSub (pCons Sel.hc (pApp Sel.ha (pCons Sel.hc (pApp Sel.ha (pCons Sel.hc pNil)))))) (stepV_ok tt_ok rfl) rfl ?_
      simp only [Option.some.injEq, Prod.mk.injEq] at h
      obtain rfl := h
      have h := hg88; clear hg88
      refine k_val (v := .bool (v82 != o48_0.First)) rfl rfl rfl (pSub (pCons Sel.hc (pApp Sel.ha (pCons Sel.hc (pApp Sel.ha (pCons Sel.hc pNil)))))) (stepV_ok tt_ok rfl) rfl ?_
      refine k_val rfl rfl rfl (pSub (pCons Sel.hc (pApp Sel.ha (pCons Sel.hc (pApp Sel.ha (pCons Sel.hc pNil)))))) (stepV_ok tt_ok rfl) rfl ?_
      replace h := bsome h; obtain ⟨v95, h, hg95⟩ := h
      refine k_split (t := 89) rfl (fun hc => ?_) (fun hc => ?_)
      · replace h := ct hc h
        refine k_skip rfl rfl (pSub (pCons Sel.hc (pApp Sel.ha (pCons Sel.hc (pApp Sel.ha (pCons Sel.hc pNil)))))) rfl ?_
        refine k_skip rfl rfl (pSub (pCons Sel.hc (pApp Sel.ha (pCons Sel.hc (pApp Sel.ha (pCons Sel.hc pNil)))))) rfl ?_
        refine k_skip rfl rfl (pSub (pCons Sel.hc (pApp Sel.ha (pCons Sel.hc (pApp Sel.ha (pCons Sel.hc pNil)))))) rfl ?_
        refine k_skip rfl rfl (pSub (pCons Sel.hc (pApp Sel.ha (pCons Sel.hc (pApp Sel.ha (pCons Sel.hc pNil)))))) rfl ?_
        refine k_skip rfl rfl (pSub (pCons Sel.hc (pApp Sel.ha (pCons Sel.hc (pApp Sel.ha (pCons Sel.hc pNil)))))) rfl ?_
        simp only [Option.some.injEq, Prod.mk.injEq] at h
        obtain rfl := h
        have h := hg95; clear hg95
        refine k_val (v := .bool true) rfl rfl rfl (pSub (pCons Sel.hc (pApp Sel.ha (pCons Sel.hc (pApp Sel.ha (pCons Sel.hc pNil)))))) (stepV_ok tt_ok rfl) rfl ?_
        refine k_val rfl rfl rfl (pSub (pCons Sel.hc (pApp Sel.ha (pCons Sel.hc (pApp Sel.ha (pCons Sel.hc pNil)))))) (stepV_ok tt_ok rfl) rfl ?_
        replace h := bsome h; obtain ⟨v106, h, hg106⟩ := h
        replace h := ct rfl h
        refine k_skip rfl rfl (pSub (pCons Sel.hc (pApp Sel.ha (pCons Sel.hc (pApp Sel.ha (pCons Sel.hc pNil)))))) rfl ?_
        refine k_skip rfl rfl (pSub (pCons Sel.hc (pApp Sel.ha (pCons Sel.hc (pApp Sel.ha (pCons Sel.hc pNil)))))) rfl ?_
        refine k_skip rfl rfl (pSub (pCons Sel.hc (pApp Sel.ha (pCons Sel.hc (pApp Sel.ha (pCons Sel.hc pNil)))))) rfl ?_
        refine k_skip rfl rfl (pSub (pCons Sel.hc (pApp Sel.ha (pCons Sel.hc (pApp Sel.ha (pCons Sel.hc pNil)))))) rfl ?_
        refine k_skip rfl rfl (pSub (pCons Sel.hc (pApp Sel.ha (pCons Sel.hc (pApp Sel.ha (pCons Sel.hc pNil)))))) rfl ?_
        refine k_skip rfl rfl (pSub (pCons Sel.hc (pApp Sel.ha (pCons Sel.hc (pApp Sel.ha (pCons Sel.hc pNil)))))) rfl ?_
        refine k_skip rfl rfl (pSub (pCons Sel.hc (pApp Sel.ha (pCons Sel.hc (pApp Sel.ha (pCons Sel.hc pNil)))))) rfl ?_
        refine k_skip rfl rfl (pSub (pCons Sel.hc (pApp Sel.ha (pCons Sel.hc (pApp Sel.ha (pCons Sel.hc pNil)))))) rfl ?_
        refine k_skip rfl rfl (pSub (pCons Sel.hc (pApp Sel.ha (pCons Sel.hc (pApp Sel.ha (pCons Sel.hc pNil)))))) rfl ?_
        simp only [Option.some.injEq, Prod.mk.injEq] at h
        obtain rfl := h
        have h := hg106; clear hg106
        refine k_val (v := .bool true) rfl rfl rfl (pSub (pCons Sel.hc (pApp Sel.ha (pCons Sel.hc (pApp Sel.ha (pCons Sel.hc pNil)))))) (stepV_ok tt_ok rfl) rfl ?_
        refine k_val rfl rfl rfl (pSub (pCons Sel.hc (pApp Sel.ha (pCons Sel.hc (pApp Sel.ha (pCons Sel.hc pNil)))))) (stepV_ok tt_ok rfl) rfl ?_
        replace h := bsome h; obtain ⟨v122, h, hg122⟩ := h
        replace h := ct rfl h
        refine k_skip rfl rfl (pSub (pCons Sel.hc (pApp Sel.ha (pCons Sel.hc (pApp Sel.ha (pCons Sel.hc pNil)))))) rfl ?_
        refine k_skip rfl rfl (pSub (pCons Sel.hc (pApp Sel.ha (pCons Sel.hc (pApp Sel.ha (pCons Sel.hc pNil)))))) rfl ?_
        refine k_skip rfl rfl (pSub (pCons Sel.hc (pApp Sel.ha (pCons Sel.hc (pApp Sel.ha (pCons Sel.hc pNil)))))) rfl ?_
        refine k_skip rfl rfl (pSub (pCons Sel.hc (pApp Sel.ha (pCons Sel.hc (pApp Sel.ha (pCons Sel.hc pNil)))))) rfl ?_
        refine k_skip rfl rfl (pSub (pCons Sel.hc (pApp Sel.ha (pCons Sel.hc (pApp Sel.ha (pCons Sel.hc pNil)))))) rfl ?_
        refine k_skip rfl rfl (pSub (pCons Sel.hc (pApp Sel.ha (pCons Sel.hc (pApp Sel.ha (pCons Sel.hc pNil)))))) rfl ?_
        refine k_skip rfl rfl (pSub (pCons Sel.hc (pApp Sel.ha (pCons Sel.hc (pApp Sel.ha (pCons Sel.hc pNil)))))) rfl ?_
        refine k_skip rfl rfl (pSub (pCons Sel.hc (pApp Sel.ha (pCons Sel.hc (pApp Sel.ha (pCons Sel.hc pNil)))))) rfl ?_
        refine k_skip rfl rfl (pSub (pCons Sel.hc (pApp Sel.ha (pCons Sel.hc (pApp Sel.ha (pCons Sel.hc pNil)))))) rfl ?_
        refine k_skip rfl rfl (pSub (pCons Sel.hc (pApp Sel.ha (pCons Sel.hc (pApp Sel.ha (pCons Sel.hc pNil)))))) rfl ?_
        refine k_skip rfl rfl (pSub (pCons Sel.hc (pApp Sel.ha (pCons Sel.hc (pApp Sel.ha (pCons Sel.hc pNil)))))) rfl ?_
        refine k_skip rfl rfl (pSub (pCons Sel.hc (pApp Sel.ha (pCons Sel.hc (pApp Sel.ha (pCons Sel.hc pNil)))))) rfl ?_
        refine k_skip rfl rfl (pSub (pCons Sel.hc (pApp Sel.ha (pCons Sel.hc (pApp Sel.ha (pCons Sel.hc pNil)))))) rfl ?_
        refine k_skip rfl rfl (pSub (pCons Sel.hc (pApp Sel.ha (pCons Sel.hc (pApp Sel.ha (pCons Sel.hc pNil)))))) rfl ?_
        simp only [Option.some.injEq, Prod.mk.injEq] at h
        obtain rfl := h
        have h := hg122; clear hg122
        refine k_val (v := .bool true) rfl rfl rfl (pSub (pCons Sel.hc (pApp Sel.ha (pCons Sel.hc (pApp Sel.ha (pCons Sel.hc pNil)))))) (stepV_ok tt_ok rfl) rfl ?_
        refine k_end (by kernel_rfl) ?_
        refine wx_then ?_
        replace h := ct rfl h
        refine wc_cond_true rfl ?_
        refine wc_seq ?_
        refine wc_region ?_
        refine wl_pure tt_ok rfl rfl ?_
        refine wl_nil ?_
        refine wx_then ?_
        refine wc_ret ?_
        refine wx_block_ret ?_
        refine wx_then_ret ?_
        obtain rfl := Option.some.inj h
        have h := hl27; clear hl27; try dsimp only [orE_l, orE_r] at h
        refine wx_then_ret ?_
        refine wx_block_ret ?_
        refine wx_then_ret ?_
        simp only [Option.some.injEq] at h
        obtain rfl := h
        exact wx_pf tt_ok (.inl rfl) Try.results4 (Res.tmp rfl Res.nil) rfl
      replace h := cf hc h
      refine k_val rfl rfl rfl (pSub (pCons Sel.hc (pApp Sel.ha (pCons Sel.hc (pApp Sel.ha (pCons Sel.hc pNil)))))) (stepV_ok tt_ok rfl) rfl ?_
      refine k_val rfl rfl rfl (pSub (pCons Sel.hc (pApp Sel.ha (pCons Sel.hc (pApp Sel.ha (pCons Sel.hc pNil)))))) (stepV_ok tt_ok rfl) rfl ?_
      replace h := bsome h; obtain ⟨v91, x91, h⟩ := h
      refine k_cq rfl rfl rfl Try.call9 rfl rfl rfl (q_rd (k_queue_Queue_Known (p0 := o42_0) o42_0N0 o42_0V0 x91) (pCons (Sel.sc (Sel.sa Sel.hc)) (pApp (Sel.sc (Sel.sa Sel.ha)) pNil)) (fun _ _ => trivial)) rfl (pSub (pCons Sel.hc (pApp Sel.ha (pCons Sel.hc (pApp Sel.ha (pCons Sel.hc pNil)))))) ?_
      replace h := bsome h; obtain ⟨v93, x93, h⟩ := h
      refine k_cq rfl rfl rfl Try.call21 rfl rfl rfl (q_rd (k_hindcastref24_Queue_Known (p0 := o48_0) o48_0N0 o48_0V0 x93) (pCons Sel.hc (pApp Sel.ha pNil)) (fun _ _ => trivial)) rfl (pSub (pCons Sel.hc (pApp Sel.ha (pCons Sel.hc (pApp Sel.ha (pCons Sel.hc pNil)))))) ?_
      refine k_val (v := .bool (v91 != v93)) rfl rfl rfl (pSub (pCons Sel.hc (pApp Sel.ha (pCons Sel.hc (pApp Sel.ha (pCons Sel.hc pNil)))))) (stepV_ok tt_ok rfl) rfl ?_
      simp only [Option.some.injEq, Prod.mk.injEq] at h
      obtain rfl := h
      have h := hg95; clear hg95
      refine k_val (v := .bool (v91 != v93)) rfl rfl rfl (pSub (pCons Sel.hc (pApp Sel.ha (pCons Sel.hc (pApp Sel.ha (pCons Sel.hc pNil)))))) (stepV_ok tt_ok rfl) rfl ?_
      refine k_val rfl rfl rfl (pSub (pCons Sel.hc (pApp Sel.ha (pCons Sel.hc (pApp Sel.ha (pCons Sel.hc pNil)))))) (stepV_ok tt_ok rfl) rfl ?_
      replace h := bsome h; obtain ⟨v106, h, hg106⟩ := h
      refine k_split (t := 96) rfl (fun hc => ?_) (fun hc => ?_)
      · replace h := ct hc h
        refine k_skip rfl rfl (pSub (pCons Sel.hc (pApp Sel.ha (pCons Sel.hc (pApp Sel.ha (pCons Sel.hc pNil)))))) rfl ?_
        refine k_skip rfl rfl (pSub (pCons Sel.hc (pApp Sel.ha (pCons Sel.hc (pApp Sel.ha (pCons Sel.hc pNil)))))) rfl ?_
        refine k_skip rfl rfl (pSub (pCons Sel.hc (pApp Sel.ha (pCons Sel.hc (pApp Sel.ha (pCons Sel.hc pNil)))))) rfl ?_
        refine k_skip rfl rfl (pSub (pCons Sel.hc (pApp Sel.ha (pCons Sel.hc (pApp Sel.ha (pCons Sel.hc pNil)))))) rfl ?_
        refine k_skip rfl rfl (pSub (pCons Sel.hc (pApp Sel.ha (pCons Sel.hc (pApp Sel.ha (pCons Sel.hc pNil)))))) rfl ?_
        refine k_skip rfl rfl (pSub (pCons Sel.hc (pApp Sel.ha (pCons Sel.hc (pApp Sel.ha (pCons Sel.hc pNil)))))) rfl ?_
        refine k_skip rfl rfl (pSub (pCons Sel.hc (pApp Sel.ha (pCons Sel.hc (pApp Sel.ha (pCons Sel.hc pNil)))))) rfl ?_
        refine k_skip rfl rfl (pSub (pCons Sel.hc (pApp Sel.ha (pCons Sel.hc (pApp Sel.ha (pCons Sel.hc pNil)))))) rfl ?_
        refine k_skip rfl rfl (pSub (pCons Sel.hc (pApp Sel.ha (pCons Sel.hc (pApp Sel.ha (pCons Sel.hc pNil)))))) rfl ?_
        simp only [Option.some.injEq, Prod.mk.injEq] at h
        obtain rfl := h
        have h := hg106; clear hg106
        refine k_val (v := .bool true) rfl rfl rfl (pSub (pCons Sel.hc (pApp Sel.ha (pCons Sel.hc (pApp Sel.ha (pCons Sel.hc pNil)))))) (stepV_ok tt_ok rfl) rfl ?_
        refine k_val rfl rfl rfl (pSub (pCons Sel.hc (pApp Sel.ha (pCons Sel.hc (pApp Sel.ha (pCons Sel.hc pNil)))))) (stepV_ok tt_ok rfl) rfl ?_
        replace h := bsome h; obtain ⟨v122, h, hg122⟩ := h
        replace h := ct rfl h
        refine k_skip rfl rfl (pSub (pCons Sel.hc (pApp Sel.ha (pCons Sel.hc (pApp Sel.ha (pCons Sel.hc pNil)))))) rfl ?_
        refine k_skip rfl rfl (pSub (pCons Sel.hc (pApp Sel.ha (pCons Sel.hc (pApp Sel.ha (pCons Sel.hc pNil)))))) rfl ?_
        refine k_skip rfl rfl (pSub (pCons Sel.hc (pApp Sel.ha (pCons Sel.hc (pApp Sel.ha (pCons Sel.hc pNil)))))) rfl ?_
        refine k_skip rfl rfl (pSub (pCons Sel.hc (pApp Sel.ha (pCons Sel.hc (pApp Sel.ha (pCons Sel.hc pNil)))))) rfl ?_
        refine k_skip rfl rfl (pSub (pCons Sel.hc (pApp Sel.ha (pCons Sel.hc (pApp Sel.ha (pCons Sel.hc pNil)))))) rfl ?_
        refine k_skip rfl rfl (pSub (pCons Sel.hc (pApp Sel.ha (pCons Sel.hc (pApp Sel.ha (pCons Sel.hc pNil)))))) rfl ?_
        refine k_skip rfl rfl (pSub (pCons Sel.hc (pApp Sel.ha (pCons Sel.hc (pApp Sel.ha (pCons Sel.hc pNil)))))) rfl ?_
        refine k_skip rfl rfl (pSub (pCons Sel.hc (pApp Sel.ha (pCons Sel.hc (pApp Sel.ha (pCons Sel.hc pNil)))))) rfl ?_
        refine k_skip rfl rfl (pSub (pCons Sel.hc (pApp Sel.ha (pCons Sel.hc (pApp Sel.ha (pCons Sel.hc pNil)))))) rfl ?_
        refine k_skip rfl rfl (pSub (pCons Sel.hc (pApp Sel.ha (pCons Sel.hc (pApp Sel.ha (pCons Sel.hc pNil)))))) rfl ?_
        refine k_skip rfl rfl (pSub (pCons Sel.hc (pApp Sel.ha (pCons Sel.hc (pApp Sel.ha (pCons Sel.hc pNil)))))) rfl ?_
        refine k_skip rfl rfl (pSub (pCons Sel.hc (pApp Sel.ha (pCons Sel.hc (pApp Sel.ha (pCons Sel.hc pNil)))))) rfl ?_
        refine k_skip rfl rfl (pSub (pCons Sel.hc (pApp Sel.ha (pCons Sel.hc (pApp Sel.ha (pCons Sel.hc pNil)))))) rfl ?_
        refine k_skip rfl rfl (pSub (pCons Sel.hc (pApp Sel.ha (pCons Sel.hc (pApp Sel.ha (pCons Sel.hc pNil)))))) rfl ?_
        simp only [Option.some.injEq, Prod.mk.injEq] at h
        obtain rfl := h
        have h := hg122; clear hg122
        refine k_val (v := .bool true) rfl rfl rfl (pSub (pCons Sel.hc (pApp Sel.ha (pCons Sel.hc (pApp Sel.ha (pCons Sel.hc pNil)))))) (stepV_ok tt_ok rfl) rfl ?_
        refine k_end (by kernel_rfl) ?_
        refine wx_then ?_
        replace h := ct rfl h
        refine wc_cond_true rfl ?_
        refine wc_seq ?_
        refine wc_region ?_
        refine wl_pure tt_ok rfl rfl ?_
        refine wl_nil ?_
        refine wx_then ?_
        refine wc_ret ?_
        refine wx_block_ret ?_
        refine wx_then_ret ?_
        obtain rfl := Option.some.inj h
        have h := hl27; clear hl27; try dsimp only [orE_l, orE_r] at h
        refine wx_then_ret ?_
        refine wx_block_ret ?_
        refine wx_then_ret ?_
        simp only [Option.some.injEq] at h
        obtain rfl := h
        exact wx_pf tt_ok (.inl rfl) Try.results4 (Res.tmp rfl Res.nil) rfl
      replace h := cf hc h
      refine k_val rfl rfl rfl (pSub (pCons Sel.hc (pApp Sel.ha (pCons Sel.hc (pApp Sel.ha (pCons Sel.hc pNil)))))) (stepV_ok tt_ok rfl) rfl ?_
      refine k_val (v := .pointer (some ⟨b8, 2, none⟩)) rfl rfl rfl (pSub (pCons Sel.hc (pApp Sel.ha (pCons Sel.hc (pApp Sel.ha (pCons Sel.hc pNil)))))) (stepV_ok tt_ok rfl) rfl ?_
      refine k_val (v := .int .u64 v31.Ask) rfl rfl rfl (pSub (pCons Sel.hc (pApp Sel.ha (pCons Sel.hc (pApp Sel.ha (pCons Sel.hc pNil)))))) (val_load tt_ok rfl (List.Mem.tail _ (mR (List.Mem.tail _ (mR (List.Mem.head _))))) rfl) rfl ?_
      refine k_val rfl rfl rfl (pSub (pCons Sel.hc (pApp Sel.ha (pCons Sel.hc (pApp Sel.ha (pCons Sel.hc pNil)))))) (stepV_ok tt_ok rfl) rfl ?_
      refine k_val (v := .pointer (some ⟨b8, 2, none⟩)) rfl rfl rfl (pSub (pCons Sel.hc (pApp Sel.ha (pCons Sel.hc (pApp Sel.ha (pCons Sel.hc pNil)))))) (stepV_ok tt_ok rfl) rfl ?_
      refine k_val (v := .int .u64 v31.Ask) rfl rfl rfl (pSub (pCons Sel.hc (pApp Sel.ha (pCons Sel.hc (pApp Sel.ha (pCons Sel.hc pNil)))))) (val_load tt_ok rfl (List.Mem.tail _ (mR (List.Mem.tail _ (mR (List.Mem.head _))))) rfl) rfl ?_
      replace h := bsome h; obtain ⟨v100, x100, h⟩ := h
      refine k_cq rfl rfl rfl Try.call12 rfl rfl rfl (q_rd (k_queue_Queue_Guess (p0 := o42_0) o42_0N0 o42_0V0 x100) (pCons (Sel.sc (Sel.sa Sel.hc)) (pApp (Sel.sc (Sel.sa Sel.ha)) pNil)) (fun _ _ => trivial)) rfl (pSub (pCons Sel.hc (pApp Sel.ha (pCons Sel.hc (pApp Sel.ha (pCons Sel.hc pNil)))))) ?_
      replace h := bsome h; obtain ⟨v104, x104, h⟩ := h
      refine k_cq rfl rfl rfl Try.call22 rfl rfl rfl (q_rd (k_hindcastref24_Queue_Guess (p0 := o48_0) o48_0N0 o48_0V0 x104) (pCons Sel.hc (pApp Sel.ha pNil)) (fun _ _ => trivial)) rfl (pSub (pCons Sel.hc (pApp Sel.ha (pCons Sel.hc (pApp Sel.ha (pCons Sel.hc pNil)))))) ?_
      refine k_val (v := .bool (v100 != v104)) rfl rfl rfl (pSub (pCons Sel.hc (pApp Sel.ha (pCons Sel.hc (pApp Sel.ha (pCons Sel.hc pNil)))))) (stepV_ok tt_ok rfl) rfl ?_
      simp only [Option.some.injEq, Prod.mk.injEq] at h
      obtain rfl := h
      have h := hg106; clear hg106
      refine k_val (v := .bool (v100 != v104)) rfl rfl rfl (pSub (pCons Sel.hc (pApp Sel.ha (pCons Sel.hc (pApp Sel.ha (pCons Sel.hc pNil)))))) (stepV_ok tt_ok rfl) rfl ?_
      refine k_val rfl rfl rfl (pSub (pCons Sel.hc (pApp Sel.ha (pCons Sel.hc (pApp Sel.ha (pCons Sel.hc pNil)))))) (stepV_ok tt_ok rfl) rfl ?_
      replace h := bsome h; obtain ⟨v122, h, hg122⟩ := h
      refine k_split (t := 107) rfl (fun hc => ?_) (fun hc => ?_)
      · replace h := ct hc h
        refine k_skip rfl rfl (pSub (pCons Sel.hc (pApp Sel.ha (pCons Sel.hc (pApp Sel.ha (pCons Sel.hc pNil)))))) rfl ?_
        refine k_skip rfl rfl (pSub (pCons Sel.hc (pApp Sel.ha (pCons Sel.hc (pApp Sel.ha (pCons Sel.hc pNil)))))) rfl ?_
        refine k_skip rfl rfl (pSub (pCons Sel.hc (pApp Sel.ha (pCons Sel.hc (pApp Sel.ha (pCons Sel.hc pNil)))))) rfl ?_
        refine k_skip rfl rfl (pSub (pCons Sel.hc (pApp Sel.ha (pCons Sel.hc (pApp Sel.ha (pCons Sel.hc pNil)))))) rfl ?_
        refine k_skip rfl rfl (pSub (pCons Sel.hc (pApp Sel.ha (pCons Sel.hc (pApp Sel.ha (pCons Sel.hc pNil)))))) rfl ?_
        refine k_skip rfl rfl (pSub (pCons Sel.hc (pApp Sel.ha (pCons Sel.hc (pApp Sel.ha (pCons Sel.hc pNil)))))) rfl ?_
        refine k_skip rfl rfl (pSub (pCons Sel.hc (pApp Sel.ha (pCons Sel.hc (pApp Sel.ha (pCons Sel.hc pNil)))))) rfl ?_
        refine k_skip rfl rfl (pSub (pCons Sel.hc (pApp Sel.ha (pCons Sel.hc (pApp Sel.ha (pCons Sel.hc pNil)))))) rfl ?_
        refine k_skip rfl rfl (pSub (pCons Sel.hc (pApp Sel.ha (pCons Sel.hc (pApp Sel.ha (pCons Sel.hc pNil)))))) rfl ?_
        refine k_skip rfl rfl (pSub (pCons Sel.hc (pApp Sel.ha (pCons Sel.hc (pApp Sel.ha (pCons Sel.hc pNil)))))) rfl ?_
        refine k_skip rfl rfl (pSub (pCons Sel.hc (pApp Sel.ha (pCons Sel.hc (pApp Sel.ha (pCons Sel.hc pNil)))))) rfl ?_
        refine k_skip rfl rfl (pSub (pCons Sel.hc (pApp Sel.ha (pCons Sel.hc (pApp Sel.ha (pCons Sel.hc pNil)))))) rfl ?_
        refine k_skip rfl rfl (pSub (pCons Sel.hc (pApp Sel.ha (pCons Sel.hc (pApp Sel.ha (pCons Sel.hc pNil)))))) rfl ?_
        refine k_skip rfl rfl (pSub (pCons Sel.hc (pApp Sel.ha (pCons Sel.hc (pApp Sel.ha (pCons Sel.hc pNil)))))) rfl ?_
        simp only [Option.some.injEq, Prod.mk.injEq] at h
        obtain rfl := h
        have h := hg122; clear hg122
        refine k_val (v := .bool true) rfl rfl rfl (pSub (pCons Sel.hc (pApp Sel.ha (pCons Sel.hc (pApp Sel.ha (pCons Sel.hc pNil)))))) (stepV_ok tt_ok rfl) rfl ?_
        refine k_end (by kernel_rfl) ?_
        refine wx_then ?_
        replace h := ct rfl h
        refine wc_cond_true rfl ?_
        refine wc_seq ?_
        refine wc_region ?_
        refine wl_pure tt_ok rfl rfl ?_
        refine wl_nil ?_
        refine wx_then ?_
        refine wc_ret ?_
        refine wx_block_ret ?_
        refine wx_then_ret ?_
        obtain rfl := Option.some.inj h
        have h := hl27; clear hl27; try dsimp only [orE_l, orE_r] at h
        refine wx_then_ret ?_
        refine wx_block_ret ?_
        refine wx_then_ret ?_
        simp only [Option.some.injEq] at h
        obtain rfl := h
        exact wx_pf tt_ok (.inl rfl) Try.results4 (Res.tmp rfl Res.nil) rfl
      replace h := cf hc h
      refine k_val rfl rfl rfl (pSub (pCons Sel.hc (pApp Sel.ha (pCons Sel.hc (pApp Sel.ha (pCons Sel.hc pNil)))))) (stepV_ok tt_ok rfl) rfl ?_
      refine k_val (v := .pointer (some ⟨b8, 2, none⟩)) rfl rfl rfl (pSub (pCons Sel.hc (pApp Sel.ha (pCons Sel.hc (pApp Sel.ha (pCons Sel.hc pNil)))))) (stepV_ok tt_ok rfl) rfl ?_
      refine k_val (v := .int .u64 v31.Ask) rfl rfl rfl (pSub (pCons Sel.hc (pApp Sel.ha (pCons Sel.hc (pApp Sel.ha (pCons Sel.hc pNil)))))) (val_load tt_ok rfl (List.Mem.tail _ (mR (List.Mem.tail _ (mR (List.Mem.head _))))) rfl) rfl ?_
      refine k_val (v := .pointer (some ⟨b8, 4, none⟩)) rfl rfl rfl (pSub (pCons Sel.hc (pApp Sel.ha (pCons Sel.hc (pApp Sel.ha (pCons Sel.hc pNil)))))) (stepV_ok tt_ok rfl) rfl ?_
      refine k_val (v := .int .i64 v31.N) rfl rfl rfl (pSub (pCons Sel.hc (pApp Sel.ha (pCons Sel.hc (pApp Sel.ha (pCons Sel.hc pNil)))))) (val_load tt_ok rfl (List.Mem.tail _ (mR (List.Mem.tail _ (mR (List.Mem.head _))))) rfl) rfl ?_
      refine k_val rfl rfl rfl (pSub (pCons Sel.hc (pApp Sel.ha (pCons Sel.hc (pApp Sel.ha (pCons Sel.hc pNil)))))) (stepV_ok tt_ok rfl) rfl ?_
      refine k_val (v := .pointer (some ⟨b8, 2, none⟩)) rfl rfl rfl (pSub (pCons Sel.hc (pApp Sel.ha (pCons Sel.hc (pApp Sel.ha (pCons Sel.hc pNil)))))) (stepV_ok tt_ok rfl) rfl ?_
      refine k_val (v := .int .u64 v31.Ask) rfl rfl rfl (pSub (pCons Sel.hc (pApp Sel.ha (pCons Sel.hc (pApp Sel.ha (pCons Sel.hc pNil)))))) (val_load tt_ok rfl (List.Mem.tail _ (mR (List.Mem.tail _ (mR (List.Mem.head _))))) rfl) rfl ?_
      refine k_val (v := .pointer (some ⟨b8, 4, none⟩)) rfl rfl rfl (pSub (pCons Sel.hc (pApp Sel.ha (pCons Sel.hc (pApp Sel.ha (pCons Sel.hc pNil)))))) (stepV_ok tt_ok rfl) rfl ?_
      refine k_val (v := .int .i64 v31.N) rfl rfl rfl (pSub (pCons Sel.hc (pApp Sel.ha (pCons Sel.hc (pApp Sel.ha (pCons Sel.hc pNil)))))) (val_load tt_ok rfl (List.Mem.tail _ (mR (List.Mem.tail _ (mR (List.Mem.head _))))) rfl) rfl ?_
      replace h := bsome h; obtain ⟨v113, x113, h⟩ := h
      refine k_cs rfl rfl rfl Try.call24 rfl rfl rfl (s_sp (k_queue_Queue_Slice (p0 := o42_0) o42_0N0 o42_0V0 x113) (pCons (Sel.sc (Sel.sa Sel.hc)) (pApp (Sel.sc (Sel.sa Sel.ha)) pNil)) (fun _ _ => trivial)) rfl (.inr (by rintro _ _ ⟨_, ⟨_, _, _, _, _, _, rfl, rfl⟩, rfl⟩; exact ⟨_, (pCons (Sel.sc (Sel.sa (Sel.sa Sel.hc))) (pApp (Sel.sc (Sel.sa (Sel.sa Sel.ha))) (pCons Sel.hc (pApp Sel.ha (pCons (Sel.sa Sel.hc) pNil)))))⟩)) ?_
      rintro _ _ ⟨_, ⟨v113a0, v113n0, v113c0, v113B0, v113N0, v113V0, rfl, rfl⟩, rfl⟩
      replace h := bsome h; obtain ⟨v119, x119, h⟩ := h
      refine k_cs rfl rfl rfl Try.call25 rfl rfl rfl (s_sp (k_hindcastref24_Queue_Slice (p0 := o48_0) o48_0N0 o48_0V0 x119) (pCons (Sel.sc (Sel.sa (Sel.sa Sel.hc))) (pApp (Sel.sc (Sel.sa (Sel.sa Sel.ha))) pNil)) (fun _ _ => trivial)) rfl (.inr (by rintro _ _ ⟨_, ⟨_, _, _, _, _, _, rfl, rfl⟩, rfl⟩; exact ⟨_, (pCons Sel.hc (pApp Sel.ha (pCons (Sel.sa Sel.hc) (pApp (Sel.sa Sel.ha) (pCons (Sel.sa (Sel.sa Sel.hc)) pNil)))))⟩)) ?_
      rintro _ _ ⟨_, ⟨v119a0, v119n0, v119c0, v119B0, v119N0, v119V0, rfl, rfl⟩, rfl⟩
      replace h := bsome h; obtain ⟨v120, x120, h⟩ := h
      refine k_cq rfl rfl rfl Try.call23 rfl rfl rfl (q_pf (k_hindcastref06_Same (p0 := v113) (p1 := v119) v113N0 (vec_cap v113V0) v119N0 (vec_cap v119V0) x120) (fun w hI => ⟨(Rds.call (Rds.of_vec v113V0) pNil ⟨_, (Sel.sc (Sel.sa (Sel.sa (Sel.sc (Sel.sa Sel.ha)))))⟩) w hI, (Rds.call (Rds.of_vec v119V0) pNil ⟨_, (Sel.sc (Sel.sa Sel.ha))⟩) w hI⟩)) rfl (pSub (pCons Sel.hc (pApp Sel.ha (pCons (Sel.sa Sel.hc) (pApp (Sel.sa Sel.ha) (pCons (Sel.sa (Sel.sa Sel.hc)) pNil)))))) ?_
      refine k_val (v := .bool (!v120)) rfl rfl rfl (pSub (pCons Sel.hc (pApp Sel.ha (pCons (Sel.sa Sel.hc) (pApp (Sel.sa Sel.ha) (pCons (Sel.sa (Sel.sa Sel.hc)) pNil)))))) (stepV_ok tt_ok rfl) rfl ?_
      simp only [Option.some.injEq, Prod.mk.injEq] at h
      obtain rfl := h
      have h := hg122; clear hg122
      refine k_val (v := .bool (!v120)) rfl rfl rfl (pSub (pCons Sel.hc (pApp Sel.ha (pCons (Sel.sa Sel.hc) (pApp (Sel.sa Sel.ha) (pCons (Sel.sa (Sel.sa Sel.hc)) pNil)))))) (stepV_ok tt_ok rfl) rfl ?_
      refine k_end (by kernel_rfl) ?_
      refine wx_then ?_
      refine wc_cond rfl (fun hc => ?_) (fun hc => ?_)
      · replace h := ct hc h
        refine wc_seq ?_
        refine wc_region ?_
        refine wl_pure tt_ok rfl rfl ?_
        refine wl_nil ?_
        refine wx_then ?_
        refine wc_ret ?_
        refine wx_block_ret ?_
        refine wx_then_ret ?_
        obtain rfl := Option.some.inj h
        have h := hl27; clear hl27; try dsimp only [orE_l, orE_r] at h
        refine wx_then_ret ?_
        refine wx_block_ret ?_
        refine wx_then_ret ?_
        simp only [Option.some.injEq] at h
        obtain rfl := h
        exact wx_pf tt_ok (.inl rfl) Try.results4 (Res.tmp rfl Res.nil) rfl
      replace h := cf hc h
      refine wc_skip ?_
      refine wx_block ?_
      refine wx_then ?_
      refine wc_region ?_
      refine wl_pure tt_ok rfl rfl ?_
      refine wl_pure (v := .int .i64 (IntKind.wrap .i64 (j27_7 + (1 : Int)))) tt_ok rfl rfl ?_
      refine wl_pure tt_ok rfl rfl ?_
      refine wl_nil ?_
      exact wx_round m27 (Nat.lt_succ_self m27) ⟨(IntKind.wrap .i64 (j27_7 + (1 : Int))), o42_0.first_, o42_0.l, o42_0.last, o48_0.Begin, o48_0.First, o48_0.L, o42_0a0, o42_0n0, o42_0c0, o42_0B0, o48_0a0, o48_0n0, o48_0c0, o48_0B0, h, o42_0N0, o42_0V0, o48_0N0, o48_0V0, rfl, rfl⟩ (agree_cons rfl (agree_cons rfl (agree_cons rfl (agree_cons rfl (agree_cons rfl agree_nil))))) (pSub (pCons (Sel.sc (Sel.sa (Sel.sa Sel.hc))) (pCons Sel.hc (pApp (Sel.sa (Sel.sa Sel.ha)) (pApp Sel.ha pNil)))))
    replace h := cf hc h
    refine wc_seq ?_
    refine wc_region ?_
    refine wl_pure tt_ok rfl rfl ?_
    refine wl_pure (v := .pointer (some ⟨b8, 1, none⟩)) tt_ok rfl rfl ?_
    refine wl_val (v := .int .u64 v31.F) (val_load tt_ok rfl (List.Mem.head _) rfl) rfl ?_
    replace h := bsome h; obtain ⟨o53_0, x53, h⟩ := h
    refine wl_cs Try.call16 rfl rfl rfl (s_sp (k_queue_Queue_Drop (p0 := (T_queue_Queue.mk j27_n14_0_f0 j27_n14_0_f1 j27_n14_0_f2)) j27_n14_0_f1N0 j27_n14_0_f1V0 x53) (pCons (Sel.sc Sel.hc) (pApp (Sel.sc (Sel.sc Sel.ha)) pNil)) (fun _ _ => trivial)) rfl ?_
    rintro _ _ ⟨_, ⟨o53_0a0, o53_0n0, o53_0c0, o53_0B0, o53_0N0, o53_0V0, rfl, rfl⟩, rfl⟩
    refine wl_nil ?_
    refine wx_then ?_
    refine wc_region ?_
    refine wl_pure tt_ok rfl rfl ?_
    refine wl_pure (v := .pointer (some ⟨b8, 1, none⟩)) tt_ok rfl rfl ?_
    refine wl_val (v := .int .u64 v31.F) (val_load tt_ok rfl (List.Mem.tail _ (mR (List.Mem.head _))) rfl) rfl ?_
    replace h := bsome h; obtain ⟨o57_0, x57, h⟩ := h
    refine wl_cs Try.call17 rfl rfl rfl (s_sp (k_hindcastref24_Queue_Drop (p0 := (T_hindcastref24_Queue.mk j27_n16_0_f0 j27_n16_0_f1 j27_n16_0_f2)) j27_n16_0_f2N0 j27_n16_0_f2V0 x57) (pCons (Sel.sc (Sel.sa (Sel.sc Sel.hc))) (pApp (Sel.sc (Sel.sa (Sel.sc Sel.ha))) pNil)) (fun _ _ => trivial)) rfl ?_
    rintro _ _ ⟨_, ⟨o57_0a0, o57_0n0, o57_0c0, o57_0B0, o57_0N0, o57_0V0, rfl, rfl⟩, rfl⟩
    refine wl_nil ?_
    refine wx_then ?_
    refine wc_seq ?_
    refine wc_region ?_
    refine wl_pure tt_ok rfl rfl ?_
    refine wl_pure (v := .pointer (some ⟨b8, 2, none⟩)) tt_ok rfl rfl ?_
    refine wl_val (v := .int .u64 v31.Ask) (val_load tt_ok rfl (List.Mem.tail _ (mR (List.Mem.tail _ (mR (List.Mem.head _))))) rfl) rfl ?_
    replace h := bsome h; obtain ⟨⟨v62_0, v62_1⟩, x62, h⟩ := h; try dsimp only at h
    refine wl_cq Try.call18 rfl rfl rfl (q_rd (k_queue_Queue_At (p0 := o53_0) o53_0N0 o53_0V0 x62) (pCons (Sel.sc (Sel.sa Sel.hc)) (pApp (Sel.sc (Sel.sa Sel.ha)) pNil)) (fun _ _ => trivial)) rfl ?_
    refine wl_pure tt_ok rfl rfl ?_
    refine wl_pure tt_ok rfl rfl ?_
    refine wl_pure tt_ok rfl rfl ?_
    refine wl_pure tt_ok rfl rfl ?_
    refine wl_pure tt_ok rfl rfl ?_
    refine wl_nil ?_
    refine wx_then ?_
    refine wc_seq ?_
    refine wc_region ?_
    refine wl_pure tt_ok rfl rfl ?_
    refine wl_pure (v := .pointer (some ⟨b8, 2, none⟩)) tt_ok rfl rfl ?_
    refine wl_val (v := .int .u64 v31.Ask) (val_load tt_ok rfl (List.Mem.tail _ (mR (List.Mem.tail _ (mR (List.Mem.head _))))) rfl) rfl ?_
    replace h := bsome h; obtain ⟨⟨v69_0, v69_1⟩, x69, h⟩ := h; try dsimp only at h
    refine wl_cq Try.call19 rfl rfl rfl (q_rd (k_hindcastref24_Queue_At (p0 := o57_0) o57_0N0 o57_0V0 x69) (pCons Sel.hc (pApp Sel.ha pNil)) (fun _ _ => trivial)) rfl ?_
    refine wl_pure tt_ok rfl rfl ?_
    refine wl_pure tt_ok rfl rfl ?_
    refine wl_pure tt_ok rfl rfl ?_
    refine wl_pure tt_ok rfl rfl ?_
    refine wl_pure tt_ok rfl rfl ?_
    refine wl_nil ?_
    refine wx_then ?_
    refine wc_seq ?_
    refine wc_k2 (Ls := (⟨b16_0, [.int .u64 o57_0.Begin, .int .u64 o57_0.First, .slice o57_0a0 o57_0n0 o57_0c0], 46, (0, 0)⟩ :: (o57_0B0 ++ (⟨b14_0, [.int .u64 o53_0.first_, .slice o53_0a0 o53_0n0 o53_0c0, .int .u8 o53_0.last], 52, (0, 0)⟩ :: (o53_0B0 ++ (⟨b8, [.int .u8 v31.What, .int .u64 v31.F, .int .u64 v31.Ask, .int .u8 v31.I, .int .i64 v31.N], 40, (0, 0)⟩ :: [])))))) [10, 19, 21, 28, 32, 41, 47, 48] [] [0, 0, 3, 7, 15, 15, 63, 127, 255, 511, 1023, 511, 2559, 6655, 14847, 32767, 65535, 131071, 262143, 524287, 262143, 2097151, 4194303, 8388607, 16777215, 33554431, 33554431, 100663295, 268435455, 33554431, 33554431, 1107296255, 4294967295, 8589934591, 17179869183, 34359738367, 68719476735, 68719476735, 206158430207, 68719476735, 618475290623, 2199023255551, 68719476735, 68719476735, 8864812498943, 68719476735, 35253091565567, 140737488355327, 281474976710655, 562949953421311, 1125899906842623] [0, 1, 2, 3, 4, 5, 6, 7, 8, 9, 11, 12, 13, 14, 10, 15, 16, 17, 18, 20, 19, 21, 22, 23, 24, 25, 26, 27, 29, 30, 31, 28, 32, 33, 34, 35, 36, 37, 38, 39, 40, 42, 43, 44, 45, 46, 41, 47, 48, 49, 50] (by kernel_rfl) (by kernel_rfl) (by kernel_rfl) ?_
    refine k_val rfl rfl rfl (pSub (pCons Sel.hc (pApp Sel.ha (pCons Sel.hc (pApp Sel.ha (pCons Sel.hc pNil)))))) (stepV_ok tt_ok rfl) rfl ?_
    refine k_val rfl rfl rfl (pSub (pCons Sel.hc (pApp Sel.ha (pCons Sel.hc (pApp Sel.ha (pCons Sel.hc pNil)))))) (stepV_ok tt_ok rfl) rfl ?_
    refine k_val (v := .bool (v62_0 != v69_0)) rfl rfl rfl (pSub (pCons Sel.hc (pApp Sel.ha (pCons Sel.hc (pApp Sel.ha (pCons Sel.hc pNil)))))) (stepV_ok tt_ok rfl) rfl ?_
    refine k_val rfl rfl rfl (pSub (pCons Sel.hc (pApp Sel.ha (pCons Sel.hc (pApp Sel.ha (pCons Sel.hc pNil)))))) (stepV_ok tt_ok rfl) rfl ?_
    replace h := bsome h; obtain ⟨v79, h, hg79⟩ := h
    refine k_split (t := 75) rfl (fun hc => ?_) (fun hc => ?_)
    · replace h := ct hc h
      refine k_skip rfl rfl (pSub (pCons Sel.hc (pApp Sel.ha (pCons Sel.hc (pApp Sel.ha (pCons Sel.hc pNil)))))) rfl ?_
      refine k_skip rfl rfl (pSub (pCons Sel.hc (pApp Sel.ha (pCons Sel.hc (pApp Sel.ha (pCons Sel.hc pNil)))))) rfl ?_
      refine k_skip rfl rfl (pSub (pCons Sel.hc (pApp Sel.ha (pCons Sel.hc (pApp Sel.ha (pCons Sel.hc pNil)))))) rfl ?_
      simp only [Option.some.injEq, Prod.mk.injEq] at h
      obtain rfl := h
      have h := hg79; clear hg79
      refine k_val (v := .bool true) rfl rfl rfl (pSub (pCons Sel.hc (pApp Sel.ha (pCons Sel.hc (pApp Sel.ha (pCons Sel.hc pNil)))))) (stepV_ok tt_ok rfl) rfl ?_
      refine k_val rfl rfl rfl (pSub (pCons Sel.hc (pApp Sel.ha (pCons Sel.hc (pApp Sel.ha (pCons Sel.hc pNil)))))) (stepV_ok tt_ok rfl) rfl ?_
      replace h := bsome h; obtain ⟨v88, h, hg88⟩ := h
      replace h := ct rfl h
      refine k_skip rfl rfl (pSub (pCons Sel.hc (pApp Sel.ha (pCons Sel.hc (pApp Sel.ha (pCons Sel.hc pNil)))))) rfl ?_
      refine k_skip rfl rfl (pSub (pCons Sel.hc (pApp Sel.ha (pCons Sel.hc (pApp Sel.ha (pCons Sel.hc pNil)))))) rfl ?_
      refine k_skip rfl rfl (pSub (pCons Sel.hc (pApp Sel.ha (pCons Sel.hc (pApp Sel.ha (pCons Sel.hc pNil)))))) rfl ?_
      refine k_skip rfl rfl (pSub (pCons Sel.hc (pApp Sel.ha (pCons Sel.hc (pApp Sel.ha (pCons Sel.hc pNil)))))) rfl ?_
      refine k_skip rfl rfl (pSub (pCons Sel.hc (pApp Sel.ha (pCons Sel.hc (pApp Sel.ha (pCons Sel.hc pNil)))))) rfl ?_
      refine k_skip rfl rfl (pSub (pCons Sel.hc (pApp Sel.ha (pCons Sel.hc (pApp Sel.ha (pCons Sel.hc pNil)))))) rfl ?_
      refine k_skip rfl rfl (pSub (pCons Sel.hc (pApp Sel.ha (pCons Sel.hc (pApp Sel.ha (pCons Sel.hc pNil)))))) rfl ?_
      simp only [Option.some.injEq, Prod.mk.injEq] at h
      obtain rfl := h
      have h := hg88; clear hg88
      refine k_val (v := .bool true) rfl rfl rfl (pSub (pCons Sel.hc (pApp Sel.ha (pCons Sel.hc (pApp Sel.ha (pCons Sel.hc pNil)))))) (stepV_ok tt_ok rfl) rfl ?_
      refine k_val rfl rfl rfl (pSub (pCons Sel.hc (pApp Sel.ha (pCons Sel.hc (pApp Sel.ha (pCons Sel.hc pNil)))))) (stepV_ok tt_ok rfl) rfl ?_
      replace h := bsome h; obtain ⟨v95, h, hg95⟩ := h
      replace h := ct rfl h
      refine k_skip rfl rfl (pSub (pCons Sel.hc (pApp Sel.ha (pCons Sel.hc (pApp Sel.ha (pCons Sel.hc pNil)))))) rfl ?_
      refine k_skip rfl rfl (pSub (pCons Sel.hc (pApp Sel.ha (pCons Sel.hc (pApp Sel.ha (pCons Sel.hc pNil)))))) rfl ?_
      refine k_skip rfl rfl (pSub (pCons Sel.hc (pApp Sel.ha (pCons Sel.hc (pApp Sel.ha (pCons Sel.hc pNil)))))) rfl ?_
      refine k_skip rfl rfl (pSub (pCons Sel.hc (pApp Sel.ha (pCons Sel.hc (pApp Sel.ha (pCons Sel.hc pNil)))))) rfl ?_
      refine k_skip rfl rfl (pSub (pCons Sel.hc (pApp Sel.ha (pCons Sel.hc (pApp Sel.ha (pCons Sel.hc pNil)))))) rfl ?_
      simp only [Option.some.injEq, Prod.mk.injEq] at h
      obtain rfl := h
      have h := hg95; clear hg95
      refine k_val (v := .bool true) rfl rfl rfl (pSub (pCons Sel.hc (pApp Sel.ha (pCons Sel.hc (pApp Sel.ha (pCons Sel.hc pNil)))))) (stepV_ok tt_ok rfl) rfl ?_
      refine k_val rfl rfl rfl (pSub (pCons Sel.hc (pApp Sel.ha (pCons Sel.hc (pApp Sel.ha (pCons Sel.hc pNil)))))) (stepV_ok tt_ok rfl) rfl ?_
      replace h := bsome h; obtain ⟨v106, h, hg106⟩ := h
      replace h := ct rfl h
      refine k_skip rfl rfl (pSub (pCons Sel.hc (pApp Sel.ha (pCons Sel.hc (pApp Sel.ha (pCons Sel.hc pNil)))))) rfl ?_
      refine k_skip rfl rfl (pSub (pCons Sel.hc (pApp Sel.ha (pCons Sel.hc (pApp Sel.ha (pCons Sel.hc pNil)))))) rfl ?_
      refine k_skip rfl rfl (pSub (pCons Sel.hc (pApp Sel.ha (pCons Sel.hc (pApp Sel.ha (pCons Sel.hc pNil)))))) rfl ?_
      refine k_skip rfl rfl (pSub (pCons Sel.hc (pApp Sel.ha (pCons Sel.hc (pApp Sel.ha (pCons Sel.hc pNil)))))) rfl ?_
      refine k_skip rfl rfl (pSub (pCons Sel.hc (pApp Sel.ha (pCons Sel.hc (pApp Sel.ha (pCons Sel.hc pNil)))))) rfl ?_
      refine k_skip rfl rfl (pSub (pCons Sel.hc (pApp Sel.ha (pCons Sel.hc (pApp Sel.ha (pCons Sel.hc pNil)))))) rfl ?_
      refine k_skip rfl rfl (pSub (pCons Sel.hc (pApp Sel.ha (pCons Sel.hc (pApp Sel.ha (pCons Sel.hc pNil)))))) rfl ?_
      refine k_skip rfl rfl (pSub (pCons Sel.hc (pApp Sel.ha (pCons Sel.hc (pApp Sel.ha (pCons Sel.hc pNil)))))) rfl ?_
      refine k_skip rfl rfl (pSub (pCons Sel.hc (pApp Sel.ha (pCons Sel.hc (pApp Sel.ha (pCons Sel.hc pNil)))))) rfl ?_
      simp only [Option.some.injEq, Prod.mk.injEq] at h
      obtain rfl := h
      have h := hg106; clear hg106
      refine k_val (v := .bool true) rfl rfl rfl (pSub (pCons Sel.hc (pApp Sel.ha (pCons Sel.hc (pApp Sel.ha (pCons Sel.hc pNil)))))) (stepV_ok tt_ok rfl) rfl ?_
      refine k_val rfl rfl rfl (pSub (pCons Sel.hc (pApp Sel.ha (pCons Sel.hc (pApp Sel.ha (pCons Sel.hc pNil)))))) (stepV_ok tt_ok rfl) rfl ?_
      replace h := bsome h; obtain ⟨v122, h, hg122⟩ := h
      replace h := ct rfl h
      refine k_skip rfl rfl (pSub (pCons Sel.hc (pApp Sel.ha (pCons Sel.hc (pApp Sel.ha (pCons Sel.hc pNil)))))) rfl ?_
      refine k_skip rfl rfl (pSub (pCons Sel.hc (pApp Sel.ha (pCons Sel.hc (pApp Sel.ha (pCons Sel.hc pNil)))))) rfl ?_
      refine k_skip rfl rfl (pSub (pCons Sel.hc (pApp Sel.ha (pCons Sel.hc (pApp Sel.ha (pCons Sel.hc pNil)))))) rfl ?_
      refine k_skip rfl rfl (pSub (pCons Sel.hc (pApp Sel.ha (pCons Sel.hc (pApp Sel.ha (pCons Sel.hc pNil)))))) rfl ?_
      refine k_skip rfl rfl (pSub (pCons Sel.hc (pApp Sel.ha (pCons Sel.hc (pApp Sel.ha (pCons Sel.hc pNil)))))) rfl ?_
      refine k_skip rfl rfl (pSub (pCons Sel.hc (pApp Sel.ha (pCons Sel.hc (pApp Sel.ha (pCons Sel.hc pNil)))))) rfl ?_
      refine k_skip rfl rfl (pSub (pCons Sel.hc (pApp Sel.ha (pCons Sel.hc (pApp Sel.ha (pCons Sel.hc pNil)))))) rfl ?_
      refine k_skip rfl rfl (pSub (pCons Sel.hc (pApp Sel.ha (pCons Sel.hc (pApp Sel.ha (pCons Sel.hc pNil)))))) rfl ?_
      refine k_skip rfl rfl (pSub (pCons Sel.hc (pApp Sel.ha (pCons Sel.hc (pApp Sel.ha (pCons Sel.hc pNil)))))) rfl ?_
      refine k_skip rfl rfl (pSub (pCons Sel.hc (pApp Sel.ha (pCons Sel.hc (pApp Sel.ha (pCons Sel.hc pNil)))))) rfl ?_
      refine k_skip rfl rfl (pSub (pCons Sel.hc (pApp Sel.ha (pCons Sel.hc (pApp Sel.ha (pCons Sel.hc pNil)))))) rfl ?_
      refine k_skip rfl rfl (pSub (pCons Sel.hc (pApp Sel.ha (pCons Sel.hc (pApp Sel.ha (pCons Sel.hc pNil)))))) rfl ?_
      refine k_skip rfl rfl (pSub (pCons Sel.hc (pApp Sel.ha (pCons Sel.hc (pApp Sel.ha (pCons Sel.hc pNil)))))) rfl ?_
      refine k_skip rfl rfl (pSub (pCons Sel.hc (pApp Sel.ha (pCons Sel.hc (pApp Sel.ha (pCons Sel.hc pNil)))))) rfl ?_
      simp only [Option.some.injEq, Prod.mk.injEq] at h
      obtain rfl := h
      have h := hg122; clear hg122
      refine k_val (v := .bool true) rfl rfl rfl (pSub (pCons Sel.hc (pApp Sel.ha (pCons Sel.hc (pApp Sel.ha (pCons Sel.hc pNil)))))) (stepV_ok tt_ok rfl) rfl ?_
      refine k_end (by kernel_rfl) ?_
      refine wx_then ?_
      replace h := ct rfl h
      refine wc_cond_true rfl ?_
      refine wc_seq ?_
      refine wc_region ?_
      refine wl_pure tt_ok rfl rfl ?_
      refine wl_nil ?_
      refine wx_then ?_
      refine wc_ret ?_
      refine wx_block_ret ?_
      refine wx_then_ret ?_
      obtain rfl := Option.some.inj h
      have h := hl27; clear hl27; try dsimp only [orE_l, orE_r] at h
      refine wx_then_ret ?_
      refine wx_block_ret ?_
      refine wx_then_ret ?_
      simp only [Option.some.injEq] at h
      obtain rfl := h
      exact wx_pf tt_ok (.inl rfl) Try.results4 (Res.tmp rfl Res.nil) rfl
    replace h := cf hc h
    refine k_val rfl rfl rfl (pSub (pCons Sel.hc (pApp Sel.ha (pCons Sel.hc (pApp Sel.ha (pCons Sel.hc pNil)))))) (stepV_ok tt_ok rfl) rfl ?_
    refine k_val rfl rfl rfl (pSub (pCons Sel.hc (pApp Sel.ha (pCons Sel.hc (pApp Sel.ha (pCons Sel.hc pNil)))))) (stepV_ok tt_ok rfl) rfl ?_
    refine k_val (v := .bool (v62_1 != v69_1)) rfl rfl rfl (pSub (pCons Sel.hc (pApp Sel.ha (pCons Sel.hc (pApp Sel.ha (pCons Sel.hc pNil)))))) (stepV_ok tt_ok rfl) rfl ?_
    simp only [Option.some.injEq, Prod.mk.injEq] at h
    obtain rfl := h
    have h := hg79; clear hg79
    refine k_val (v := .bool (v62_1 != v69_1)) rfl rfl rfl (pSub (pCons Sel.hc (pApp Sel.ha (pCons Sel.hc (pApp Sel.ha (pCons Sel.hc pNil)))))) (stepV_ok tt_ok rfl) rfl ?_
    refine k_val rfl rfl rfl (pSub (pCons Sel.hc (pApp Sel.ha (pCons Sel.hc (pApp Sel.ha (pCons Sel.hc pNil)))))) (stepV_ok tt_ok rfl) rfl ?_
    replace h := bsome h; obtain ⟨v88, h, hg88⟩ := h
    refine k_split (t := 80) rfl (fun hc => ?_) (fun hc => ?_)
    · replace h := ct hc h
      refine k_skip rfl rfl (pSub (pCons Sel.hc (pApp Sel.ha (pCons Sel.hc (pApp Sel.ha (pCons Sel.hc pNil)))))) rfl ?_
      refine k_skip rfl rfl (pSub (pCons Sel.hc (pApp Sel.ha (pCons Sel.hc (pApp Sel.ha (pCons Sel.hc pNil)))))) rfl ?_
      refine k_skip rfl rfl (pSub (pCons Sel.hc (pApp Sel.ha (pCons Sel.hc (pApp Sel.ha (pCons Sel.hc pNil)))))) rfl ?_
      refine k_skip rfl rfl (pSub (pCons Sel.hc (pApp Sel.ha (pCons Sel.hc (pApp Sel.ha (pCons Sel.hc pNil)))))) rfl ?_
      refine k_skip rfl rfl (pSub (pCons Sel.hc (pApp Sel.ha (pCons Sel.hc (pApp Sel.ha (pCons Sel.hc pNil)))))) rfl ?_
      refine k_skip rfl rfl (pSub (pCons Sel.hc (pApp Sel.ha (pCons Sel.hc (pApp Sel.ha (pCons Sel.hc pNil)))))) rfl ?_
      refine k_skip rfl rfl (pSub (pCons Sel.hc (pApp Sel.ha (pCons Sel.hc (pApp Sel.ha (pCons Sel.hc pNil)))))) rfl ?_
      simp only [Option.some.injEq, Prod.mk.injEq] at h
      obtain rfl := h
      have h := hg88; clear hg88
      refine k_val (v := .bool true) rfl rfl rfl (pSub (pCons Sel.hc (pApp Sel.ha (pCons Sel.hc (pApp Sel.ha (pCons Sel.hc pNil)))))) (stepV_ok tt_ok rfl) rfl ?_
      refine k_val rfl rfl rfl (pSub (pCons Sel.hc (pApp Sel.ha (pCons Sel.hc (pApp Sel.ha (pCons Sel.hc pNil)))))) (stepV_ok tt_ok rfl) rfl ?_
      replace h := bsome h; obtain ⟨v95, h, hg95⟩ := h
      replace h := ct rfl h
      refine k_skip rfl rfl (pSub (pCons Sel.hc (pApp Sel.ha (pCons Sel.hc (pApp Sel.ha (pCons Sel.hc pNil)))))) rfl ?_
      refine k_skip rfl rfl (pSub (pCons Sel.hc (pApp Sel.ha (pCons Sel.hc (pApp Sel.ha (pCons Sel.hc pNil)))))) rfl ?_
      refine k_skip rfl rfl (pSub (pCons Sel.hc (pApp Sel.ha (pCons Sel.hc (pApp Sel.ha (pCons Sel.hc pNil)))))) rfl ?_
      refine k_skip rfl rfl (pSub (pCons Sel.hc (pApp Sel.ha (pCons Sel.hc (pApp Sel.ha (pCons Sel.hc pNil)))))) rfl ?_
      refine k_skip rfl rfl (pSub (pCons Sel.hc (pApp Sel.ha (pCons Sel.hc (pApp Sel.ha (pCons Sel.hc pNil)))))) rfl ?_
      simp only [Option.some.injEq, Prod.mk.injEq] at h
      obtain rfl := h
      have h := hg95; clear hg95
      refine k_val (v := .bool true) rfl rfl rfl (pSub (pCons Sel.hc (pApp Sel.ha (pCons Sel.hc (pApp Sel.ha (pCons Sel.hc pNil)))))) (stepV_ok tt_ok rfl) rfl ?_
      refine k_val rfl rfl rfl (pSub (pCons Sel.hc (pApp Sel.ha (pCons Sel.hc (pApp Sel.ha (pCons Sel.hc pNil)))))) (stepV_ok tt_ok rfl) rfl ?_
      replace h := bsome h; obtain ⟨v106, h, hg106⟩ := h
      replace h := ct rfl h
      refine k_skip rfl rfl (pSub (pCons Sel.hc (pApp Sel.ha (pCons Sel.hc (pApp Sel.ha (pCons Sel.hc pNil)))))) rfl ?_
      refine k_skip rfl rfl (pSub (pCons Sel.hc (pApp Sel.ha (pCons Sel.hc (pApp Sel.ha (pCons Sel.hc pNil)))))) rfl ?_
      refine k_skip rfl rfl (pSub (pCons Sel.hc (pApp Sel.ha (pCons Sel.hc (pApp Sel.ha (pCons Sel.hc pNil)))))) rfl ?_
      refine k_skip rfl rfl (pSub (pCons Sel.hc (pApp Sel.ha (pCons Sel.hc (pApp Sel.ha (pCons Sel.hc pNil)))))) rfl ?_
      refine k_skip rfl rfl (pSub (pCons Sel.hc (pApp Sel.ha (pCons Sel.hc (pApp Sel.ha (pCons Sel.hc pNil)))))) rfl ?_
      refine k_skip rfl rfl (pSub (pCons Sel.hc (pApp Sel.ha (pCons Sel.hc (pApp Sel.ha (pCons Sel.hc pNil)))))) rfl ?_
      refine k_skip rfl rfl (pSub (pCons Sel.hc (pApp Sel.ha (pCons Sel.hc (pApp Sel.ha (pCons Sel.hc pNil)))))) rfl ?_
      refine k_skip rfl rfl (pSub (pCons Sel.hc (pApp Sel.ha (pCons Sel.hc (pApp Sel.ha (pCons Sel.hc pNil)))))) rfl ?_
      refine k_skip rfl rfl (pSub (pCons Sel.hc (pApp Sel.ha (pCons Sel.hc (pApp Sel.ha (pCons Sel.hc pNil)))))) rfl ?_
      simp only [Option.some.injEq, Prod.mk.injEq] at h
      obtain rfl := h
      have h := hg106; clear hg106
      refine k_val (v := .bool true) rfl rfl rfl (pSub (pCons Sel.hc (pApp Sel.ha (pCons Sel.hc (pApp Sel.ha (pCons Sel.hc pNil)))))) (stepV_ok tt_ok rfl) rfl ?_
      refine k_val rfl rfl rfl (pSub (pCons Sel.hc (pApp Sel.ha (pCons Sel.hc (pApp Sel.ha (pCons Sel.hc pNil)))))) (stepV_ok tt_ok rfl) rfl ?_
      replace h := bsome h; obtain ⟨v122, h, hg122⟩ := h
      replace h := ct rfl h
      refine k_skip rfl rfl (pSub (pCons Sel.hc (pApp Sel.ha (pCons Sel.hc (pApp Sel.ha (pCons Sel.hc pNil)))))) rfl ?_
      refine k_skip rfl rfl (pSub (pCons Sel.hc (pApp Sel.ha (pCons Sel.hc (pApp Sel.ha (pCons Sel.hc pNil)))))) rfl ?_
      refine k_skip rfl rfl (pSub (pCons Sel.hc (pApp Sel.ha (pCons Sel.hc (pApp Sel.ha (pCons Sel.hc pNil)))))) rfl ?_
      refine k_skip rfl rfl (pSub (pCons Sel.hc (pApp Sel.ha (pCons Sel.hc (pApp Sel.ha (pCons Sel.hc pNil)))))) rfl ?_
      refine k_skip rfl rfl (pSub (pCons Sel.hc (pApp Sel.ha (pCons Sel.hc (pApp Sel.ha (pCons Sel.hc pNil)))))) rfl ?_
      refine k_skip rfl rfl (pSub (pCons Sel.hc (pApp Sel.ha (pCons Sel.hc (pApp Sel.ha (pCons Sel.hc pNil)))))) rfl ?_
      refine k_skip rfl rfl (pSub (pCons Sel.hc (pApp Sel.ha (pCons Sel.hc (pApp Sel.ha (pCons Sel.hc pNil)))))) rfl ?_
      refine k_skip rfl rfl (pSub (pCons Sel.hc (pApp Sel.ha (pCons Sel.hc (pApp Sel.ha (pCons Sel.hc pNil)))))) rfl ?_
      refine k_skip rfl rfl (pSub (pCons Sel.hc (pApp Sel.ha (pCons Sel.hc (pApp Sel.ha (pCons Sel.hc pNil)))))) rfl ?_
      refine k_skip rfl rfl (pSub (pCons Sel.hc (pApp Sel.ha (pCons Sel.hc (pApp Sel.ha (pCons Sel.hc pNil)))))) rfl ?_
      refine k_skip rfl rfl (pSub (pCons Sel.hc (pApp Sel.ha (pCons Sel.hc (pApp Sel.ha (pCons Sel.hc pNil)))))) rfl ?_
      refine k_skip rfl rfl (pSub (pCons Sel.hc (pApp Sel.ha (pCons Sel.hc (pApp Sel.ha (pCons Sel.hc pNil)))))) rfl ?_
      refine k_skip rfl rfl (pSub (pCons Sel.hc (pApp Sel.ha (pCons Sel.hc (pApp Sel.ha (pCons Sel.hc pNil)))))) rfl ?_
      refine k_skip rfl rfl (pSub (pCons Sel.hc (pApp Sel.ha (pCons Sel.hc (pApp Sel.ha (pCons Sel.hc pNil)))))) rfl ?_
      simp only [Option.some.injEq, Prod.mk.injEq] at h
      obtain rfl := h
      have h := hg122; clear hg122
      refine k_val (v := .bool true) rfl rfl rfl (pSub (pCons Sel.hc (pApp Sel.ha (pCons Sel.hc (pApp Sel.ha (pCons Sel.hc pNil)))))) (stepV_ok tt_ok rfl) rfl ?_
      refine k_end (by kernel_rfl) ?_
      refine wx_then ?_
      replace h := ct rfl h
      refine wc_cond_true rfl ?_
      refine wc_seq ?_
      refine wc_region ?_
      refine wl_pure tt_ok rfl rfl ?_
      refine wl_nil ?_
      refine wx_then ?_
      refine wc_ret ?_
      refine wx_block_ret ?_
      refine wx_then_ret ?_
      obtain rfl := Option.some.inj h
      have h := hl27; clear hl27; try dsimp only [orE_l, orE_r] at h
      refine wx_then_ret ?_
      refine wx_block_ret ?_
      refine wx_then_ret ?_
      simp only [Option.some.injEq] at h
      obtain rfl := h
      exact wx_pf tt_ok (.inl rfl) Try.results4 (Res.tmp rfl Res.nil) rfl
    replace h := cf hc h
    refine k_val rfl rfl rfl (pSub (pCons Sel.hc (pApp Sel.ha (pCons Sel.hc (pApp Sel.ha (pCons Sel.hc pNil)))))) (stepV_ok tt_ok rfl) rfl ?_
    refine k_val rfl rfl rfl (pSub (pCons Sel.hc (pApp Sel.ha (pCons Sel.hc (pApp Sel.ha (pCons Sel.hc pNil)))))) (stepV_ok tt_ok rfl) rfl ?_
    refine k_val rfl rfl rfl (pSub (pCons Sel.hc (pApp Sel.ha (pCons Sel.hc (pApp Sel.ha (pCons Sel.hc pNil)))))) (stepV_ok tt_ok rfl) rfl ?_
    refine k_val (v := .pointer (some ⟨b16_0, 1, none⟩)) rfl rfl rfl (pSub (pCons Sel.hc (pApp Sel.ha (pCons Sel.hc (pApp Sel.ha (pCons Sel.hc pNil)))))) (stepV_ok tt_ok rfl) rfl ?_
    refine k_val (v := .int .u64 o57_0.First) rfl rfl rfl (pSub (pCons Sel.hc (pApp Sel.ha (pCons Sel.hc (pApp Sel.ha (pCons Sel.hc pNil)))))) (val_load tt_ok rfl (List.Mem.head _) rfl) rfl ?_
    replace h := bsome h; obtain ⟨v82, x82, h⟩ := h
    refine k_cq rfl rfl rfl Try.call20 rfl rfl rfl (q_rd (k_queue_Queue_First (p0 := o53_0) o53_0N0 o53_0V0 x82) (pCons (Sel.sc (Sel.sa Sel.hc)) (pApp (Sel.sc (Sel.sa Sel.ha)) pNil)) (fun _ _ => trivial)) rfl (pSub (pCons Sel.hc (pApp Sel.ha (pCons Sel.hc (pApp Sel.ha (pCons Sel.hc pNil)))))) ?_
    refine k_val (v := .bool (v82 != o57_0.First)) rfl rfl rfl (pSub (pCons Sel.hc (pApp Sel.ha (pCons Sel.hc (pApp Sel.ha (pCons Sel.hc pNil)))))) (stepV_ok tt_ok rfl) rfl ?_
    simp only [Option.some.injEq, Prod.mk.injEq] at h
    obtain rfl := h
    have h := hg88; clear hg88
    refine k_val (v := .bool (v82 != o57_0.First)) rfl rfl rfl (pSub (pCons Sel.hc (pApp Sel.ha (pCons Sel.hc (pApp Sel.ha (pCons Sel.hc pNil)))))) (stepV_ok tt_ok rfl) rfl ?_
    refine k_val rfl rfl rfl (pSub (pCons Sel.hc (pApp Sel.ha (pCons Sel.hc (pApp Sel.ha (pCons Sel.hc pNil)))))) (stepV_ok tt_ok rfl) rfl ?_
    replace h := bsome h; obtain ⟨v95, h, hg95⟩ := h
    refine k_split (t := 89) rfl (fun hc => ?_) (fun hc => ?_)
    · replace h := ct hc h
      refine k_skip rfl rfl (pSub (pCons Sel.hc (pApp Sel.ha (pCons Sel.hc (pApp Sel.ha (pCons Sel.hc pNil)))))) rfl ?_
      refine k_skip rfl rfl (pSub (pCons Sel.hc (pApp Sel.ha (pCons Sel.hc (pApp Sel.ha (pCons Sel.hc pNil)))))) rfl ?_
      refine k_skip rfl rfl (pSub (pCons Sel.hc (pApp Sel.ha (pCons Sel.hc (pApp Sel.ha (pCons Sel.hc pNil)))))) rfl ?_
      refine k_skip rfl rfl (pSub (pCons Sel.hc (pApp Sel.ha (pCons Sel.hc (pApp Sel.ha (pCons Sel.hc pNil)))))) rfl ?_
      refine k_skip rfl rfl (pSub (pCons Sel.hc (pApp Sel.ha (pCons Sel.hc (pApp Sel.ha (pCons Sel.hc pNil)))))) rfl ?_
      simp only [Option.some.injEq, Prod.mk.injEq] at h
      obtain rfl := h
      have h := hg95; clear hg95
      refine k_val (v := .bool true) rfl rfl rfl (pSub (pCons Sel.hc (pApp Sel.ha (pCons Sel.hc (pApp Sel.ha (pCons Sel.hc pNil)))))) (stepV_ok tt_ok rfl) rfl ?_
      refine k_val rfl rfl rfl (pSub (pCons Sel.hc (pApp Sel.ha (pCons Sel.hc (pApp Sel.ha (pCons Sel.hc pNil)))))) (stepV_ok tt_ok rfl) rfl ?_
      replace h := bsome h; obtain ⟨v106, h, hg106⟩ := h
      replace h := ct rfl h
      refine k_skip rfl rfl (pSub (pCons Sel.hc (pApp Sel.ha (pCons Sel.hc (pApp Sel.ha (pCons Sel.hc pNil)))))) rfl ?_
      refine k_skip rfl rfl (pSub (pCons Sel.hc (pApp Sel.ha (pCons Sel.hc (pApp Sel.ha (pCons Sel.hc pNil)))))) rfl ?_
      refine k_skip rfl rfl (pSub (pCons Sel.hc (pApp Sel.ha (pCons Sel.hc (pApp Sel.ha (pCons Sel.hc pNil)))))) rfl ?_
      refine k_skip rfl rfl (pSub (pCons Sel.hc (pApp Sel.ha (pCons Sel.hc (pApp Sel.ha (pCons Sel.hc pNil)))))) rfl ?_
      refine k_skip rfl rfl (pSub (pCons Sel.hc (pApp Sel.ha (pCons Sel.hc (pApp Sel.ha (pCons Sel.hc pNil)))))) rfl ?_
      refine k_skip rfl rfl (pSub (pCons Sel.hc (pApp Sel.ha (pCons Sel.hc (pApp Sel.ha (pCons Sel.hc pNil)))))) rfl ?_
      refine k_skip rfl rfl (pSub (pCons Sel.hc (pApp Sel.ha (pCons Sel.hc (pApp Sel.ha (pCons Sel.hc pNil)))))) rfl ?_
      refine k_skip rfl rfl (pSub (pCons Sel.hc (pApp Sel.ha (pCons Sel.hc (pApp Sel.ha (pCons Sel.hc pNil)))))) rfl ?_
      refine k_skip rfl rfl (pSub (pCons Sel.hc (pApp Sel.ha (pCons Sel.hc (pApp Sel.ha (pCons Sel.hc pNil)))))) rfl ?_
      simp only [Option.some.injEq, Prod.mk.injEq] at h
      obtain rfl := h
      have h := hg106; clear hg106
      refine k_val (v := .bool true) rfl rfl rfl (pSub (pCons Sel.hc (pApp Sel.ha (pCons Sel.hc (pApp Sel.ha (pCons Sel.hc pNil)))))) (stepV_ok tt_ok rfl) rfl ?_
      refine k_val rfl rfl rfl (pSub (pCons Sel.hc (pApp Sel.ha (pCons Sel.hc (pApp Sel.ha (pCons Sel.hc pNil)))))) (stepV_ok tt_ok rfl) rfl ?_
      replace h := bsome h; obtain ⟨v122, h, hg122⟩ := h
      replace h := ct rfl h
      refine k_skip rfl rfl (pSub (pCons Sel.hc (pApp Sel.ha (pCons Sel.hc (pApp Sel.ha (pCons Sel.hc pNil)))))) rfl ?_
      refine k_skip rfl rfl (pSub (pCons Sel.hc (pApp Sel.ha (pCons Sel.hc (pApp Sel.ha (pCons Sel.hc pNil)))))) rfl ?_
      refine k_skip rfl rfl (pSub (pCons Sel.hc (pApp Sel.ha (pCons Sel.hc (pApp Sel.ha (pCons Sel.hc pNil)))))) rfl ?_
      refine k_skip rfl rfl (pSub (pCons Sel.hc (pApp Sel.ha (pCons Sel.hc (pApp Sel.ha (pCons Sel.hc pNil)))))) rfl ?_
      refine k_skip rfl rfl (pSub (pCons Sel.hc (pApp Sel.ha (pCons Sel.hc (pApp Sel.ha (pCons Sel.hc pNil)))))) rfl ?_
      refine k_skip rfl rfl (pSub (pCons Sel.hc (pApp Sel.ha (pCons Sel.hc (pApp Sel.ha (pCons Sel.hc pNil)))))) rfl ?_
      refine k_skip rfl rfl (pSub (pCons Sel.hc (pApp Sel.ha (pCons Sel.hc (pApp Sel.ha (pCons Sel.hc pNil)))))) rfl ?_
      refine k_skip rfl rfl (pSub (pCons Sel.hc (pApp Sel.ha (pCons Sel.hc (pApp Sel.ha (pCons Sel.hc pNil)))))) rfl ?_
      refine k_skip rfl rfl (pSub (pCons Sel.hc (pApp Sel.ha (pCons Sel.hc (pApp Sel.ha (pCons Sel.hc pNil)))))) rfl ?_
      refine k_skip rfl rfl (pSub (pCons Sel.hc (pApp Sel.ha (pCons Sel.hc (pApp Sel.ha (pCons Sel.hc pNil)))))) rfl ?_
      refine k_skip rfl rfl (pSub (pCons Sel.hc (pApp Sel.ha (pCons Sel.hc (pApp Sel.ha (pCons Sel.hc pNil)))))) rfl ?_
      refine k_skip rfl rfl (pSub (pCons Sel.hc (pApp Sel.ha (pCons Sel.hc (pApp Sel.ha (pCons Sel.hc pNil)))))) rfl ?_
      refine k_skip rfl rfl (pSub (pCons Sel.hc (pApp Sel.ha (pCons Sel.hc (pApp Sel.ha (pCons Sel.hc pNil)))))) rfl ?_
      refine k_skip rfl rfl (pSub (pCons Sel.hc (pApp Sel.ha (pCons Sel.hc (pApp Sel.ha (pCons Sel.hc pNil)))))) rfl ?_
      simp only [Option.some.injEq, Prod.mk.injEq] at h
      obtain rfl := h
      have h := hg122; clear hg122
      refine k_val (v := .bool true) rfl rfl rfl (pSub (pCons Sel.hc (pApp Sel.ha (pCons Sel.hc (pApp Sel.ha (pCons Sel.hc pNil)))))) (stepV_ok tt_ok rfl) rfl ?_
      refine k_end (by kernel_rfl) ?_
      refine wx_then ?_
      replace h := ct rfl h
      refine wc_cond_true rfl ?_
      refine wc_seq ?_
      refine wc_region ?_
      refine wl_pure tt_ok rfl rfl ?_
      refine wl_nil ?_
      refine wx_then ?_
      refine wc_ret ?_
      refine wx_block_ret ?_
      refine wx_then_ret ?_
      obtain rfl := Option.some.inj h
      have h := hl27; clear hl27; try dsimp only [orE_l, orE_r] at h
      refine wx_then_ret ?_
      refine wx_block_ret ?_
      refine wx_then_ret ?_
      simp only [Option.some.injEq] at h
      obtain rfl := h
      exact wx_pf tt_ok (.inl rfl) Try.results4 (Res.tmp rfl Res.nil) rfl
    replace h := cf hc h
    refine k_val rfl rfl rfl (pSub (pCons Sel.hc (pApp Sel.ha (pCons Sel.hc (pApp Sel.ha (pCons Sel.hc pNil)))))) (stepV_ok tt_ok rfl) rfl ?_
    refine k_val rfl rfl rfl (pSub (pCons Sel.hc (pApp Sel.ha (pCons Sel.hc (pApp Sel.ha (pCons Sel.hc pNil)))))) (stepV_ok tt_ok rfl) rfl ?_
    replace h := bsome h; obtain ⟨v91, x91, h⟩ := h
    refine k_cq rfl rfl rfl Try.call9 rfl rfl rfl (q_rd (k_queue_Queue_Known (p0 := o53_0) o53_0N0 o53_0V0 x91) (pCons (Sel.sc (Sel.sa Sel.hc)) (pApp (Sel.sc (Sel.sa Sel.ha)) pNil)) (fun _ _ => trivial)) rfl (pSub (pCons Sel.hc (pApp Sel.ha (pCons Sel.hc (pApp Sel.ha (pCons Sel.hc pNil)))))) ?_
    replace h := bsome h; obtain ⟨v93, x93, h⟩ := h
    refine k_cq rfl rfl rfl Try.call21 rfl rfl rfl (q_rd (k_hindcastref24_Queue_Known (p0 := o57_0) o57_0N0 o57_0V0 x93) (pCons Sel.hc (pApp Sel.ha pNil)) (fun _ _ => trivial)) rfl (pSub (pCons Sel.hc (pApp Sel.ha (pCons Sel.hc (pApp Sel.ha (pCons Sel.hc pNil)))))) ?_
    refine k_val (v := .bool (v91 != v93)) rfl rfl rfl (pSub (pCons Sel.hc (pApp Sel.ha (pCons Sel.hc (pApp Sel.ha (pCons Sel.hc pNil)))))) (stepV_ok tt_ok rfl) rfl ?_
    simp only [Option.some.injEq, Prod.mk.injEq] at h
    obtain rfl := h
    have h := hg95; clear hg95
    refine k_val (v := .bool (v91 != v93)) rfl rfl rfl (pSub (pCons Sel.hc (pApp Sel.ha (pCons Sel.hc (pApp Sel.ha (pCons Sel.hc pNil)))))) (stepV_ok tt_ok rfl) rfl ?_
    refine k_val rfl rfl rfl (pSub (pCons Sel.hc (pApp Sel.ha (pCons Sel.hc (pApp Sel.ha (pCons Sel.hc pNil)))))) (stepV_ok tt_ok rfl) rfl ?_
    replace h := bsome h; obtain ⟨v106, h, hg106⟩ := h
    refine k_split (t := 96) rfl (fun hc => ?_) (fun hc => ?_)
    · replace h := ct hc h
      refine k_skip rfl rfl (pSub (pCons Sel.hc (pApp Sel.ha (pCons Sel.hc (pApp Sel.ha (pCons Sel.hc pNil)))))) rfl ?_
      refine k_skip rfl rfl (pSub (pCons Sel.hc (pApp Sel.ha (pCons Sel.hc (pApp Sel.ha (pCons Sel.hc pNil)))))) rfl ?_
      refine k_skip rfl rfl (pSub (pCons Sel.hc (pApp Sel.ha (pCons Sel.hc (pApp Sel.ha (pCons Sel.hc pNil)))))) rfl ?_
      refine k_skip rfl rfl (pSub (pCons Sel.hc (pApp Sel.ha (pCons Sel.hc (pApp Sel.ha (pCons Sel.hc pNil)))))) rfl ?_
      refine k_skip rfl rfl (pSub (pCons Sel.hc (pApp Sel.ha (pCons Sel.hc (pApp Sel.ha (pCons Sel.hc pNil)))))) rfl ?_
      refine k_skip rfl rfl (pSub (pCons Sel.hc (pApp Sel.ha (pCons Sel.hc (pApp Sel.ha (pCons Sel.hc pNil)))))) rfl ?_
      refine k_skip rfl rfl (pSub (pCons Sel.hc (pApp Sel.ha (pCons Sel.hc (pApp Sel.ha (pCons Sel.hc pNil)))))) rfl ?_
      refine k_skip rfl rfl (pSub (pCons Sel.hc (pApp Sel.ha (pCons Sel.hc (pApp Sel.ha (pCons Sel.hc pNil)))))) rfl ?_
      refine k_skip rfl rfl (pSub (pCons Sel.hc (pApp Sel.ha (pCons Sel.hc (pApp Sel.ha (pCons Sel.hc pNil)))))) rfl ?_
      simp only [Option.some.injEq, Prod.mk.injEq] at h
      obtain rfl := h
      have h := hg106; clear hg106
      refine k_val (v := .bool true) rfl rfl rfl (pSub (pCons Sel.hc (pApp Sel.ha (pCons Sel.hc (pApp Sel.ha (pCons Sel.hc pNil)))))) (stepV_ok tt_ok rfl) rfl ?_
      refine k_val rfl rfl rfl (pSub (pCons Sel.hc (pApp Sel.ha (pCons Sel.hc (pApp Sel.ha (pCons Sel.hc pNil)))))) (stepV_ok tt_ok rfl) rfl ?_
      replace h := bsome h; obtain ⟨v122, h, hg122⟩ := h
      replace h := ct rfl h
      refine k_skip rfl rfl (pSub (pCons Sel.hc (pApp Sel.ha (pCons Sel.hc (pApp Sel.ha (pCons Sel.hc pNil)))))) rfl ?_
      refine k_skip rfl rfl (pSub (pCons Sel.hc (pApp Sel.ha (pCons Sel.hc (pApp Sel.ha (pCons Sel.hc pNil)))))) rfl ?_
      refine k_skip rfl rfl (pSub (pCons Sel.hc (pApp Sel.ha (pCons Sel.hc (pApp Sel.ha (pCons Sel.hc pNil)))))) rfl ?_
      refine k_skip rfl rfl (pSub (pCons Sel.hc (pApp Sel.ha (pCons Sel.hc (pApp Sel.ha (pCons Sel.hc pNil)))))) rfl ?_
      refine k_skip rfl rfl (pSub (pCons Sel.hc (pApp Sel.ha (pCons Sel.hc (pApp Sel.ha (pCons Sel.hc pNil)))))) rfl ?_
      refine k_skip rfl rfl (pSub (pCons Sel.hc (pApp Sel.ha (pCons Sel.hc (pApp Sel.ha (pCons Sel.hc pNil)))))) rfl ?_
      refine k_skip rfl rfl (pSub (pCons Sel.hc (pApp Sel.ha (pCons Sel.hc (pApp Sel.ha (pCons Sel.hc pNil)))))) rfl ?_
      refine k_skip rfl rfl (pSub (pCons Sel.hc (pApp Sel.ha (pCons Sel.hc (pApp Sel.ha (pCons Sel.hc pNil)))))) rfl ?_
      refine k_skip rfl rfl (pSub (pCons Sel.hc (pApp Sel.ha (pCons Sel.hc (pApp Sel.ha (pCons Sel.hc pNil)))))) rfl ?_
      refine k_skip rfl rfl (pSub (pCons Sel.hc (pApp Sel.ha (pCons Sel.hc (pApp Sel.ha (pCons Sel.hc pNil)))))) rfl ?_
      refine k_skip rfl rfl (pSub (pCons Sel.hc (pApp Sel.ha (pCons Sel.hc (pApp Sel.ha (pCons Sel.hc pNil)))))) rfl ?_
      refine k_skip rfl rfl (pSub (pCons Sel.hc (pApp Sel.ha (pCons Sel.hc (pApp Sel.ha (pCons Sel.hc pNil)))))) rfl ?_
      refine k_skip rfl rfl (pSub (pCons Sel.hc (pApp Sel.ha (pCons Sel.hc (pApp Sel.ha (pCons Sel.hc pNil)))))) rfl ?_
      refine k_skip rfl rfl (pSub (pCons Sel.hc (pApp Sel.ha (pCons Sel.hc (pApp Sel.ha (pCons Sel.hc pNil)))))) rfl ?_
      simp only [Option.some.injEq, Prod.mk.injEq] at h
      obtain rfl := h
      have h := hg122; clear hg122
      refine k_val (v := .bool true) rfl rfl rfl (pSub (pCons Sel.hc (pApp Sel.ha (pCons Sel.hc (pApp Sel.ha (pCons Sel.hc pNil)))))) (stepV_ok tt_ok rfl) rfl ?_
      refine k_end (by kernel_rfl) ?_
      refine wx_then ?_
      replace h := ct rfl h
      refine wc_cond_true rfl ?_
      refine wc_seq ?_
      refine wc_region ?_
      refine wl_pure tt_ok rfl rfl ?_
      refine wl_nil ?_
      refine wx_then ?_
      refine wc_ret ?_
      refine wx_block_ret ?_
      refine wx_then_ret ?_
      obtain rfl := Option.some.inj h
      have h := hl27; clear hl27; try dsimp only [orE_l, orE_r] at h
      refine wx_then_ret ?_
      refine wx_block_ret ?_
      refine wx_then_ret ?_
      simp only [Option.some.injEq] at h
      obtain rfl := h
      exact wx_pf tt_ok (.inl rfl) Try.results4 (Res.tmp rfl Res.nil) rfl
    replace h := cf hc h
    refine k_val rfl rfl rfl (pSub (pCons Sel.hc (pApp Sel.ha (pCons Sel.hc (pApp Sel.ha (pCons Sel.hc pNil)))))) (stepV_ok tt_ok rfl) rfl ?_
    refine k_val (v := .pointer (some ⟨b8, 2, none⟩)) rfl rfl rfl (pSub (pCons Sel.hc (pApp Sel.ha (pCons Sel.hc (pApp Sel.ha (pCons Sel.hc pNil)))))) (stepV_ok tt_ok rfl) rfl ?_
    refine k_val (v := .int .u64 v31.Ask) rfl rfl rfl (pSub (pCons Sel.hc (pApp Sel.ha (pCons Sel.hc (pApp Sel.ha (pCons Sel.hc pNil)))))) (val_load tt_ok rfl (List.Mem.tail _ (mR (List.Mem.tail _ (mR (List.Mem.head _))))) rfl) rfl ?_
    refine k_val rfl rfl rfl (pSub (pCons Sel.hc (pApp Sel.ha (pCons Sel.hc (pApp Sel.ha (pCons Sel.hc pNil)))))) (stepV_ok tt_ok rfl) rfl ?_
    refine k_val (v := .pointer (some ⟨b8, 2, none⟩)) rfl rfl rfl (pSub (pCons Sel.hc (pApp Sel.ha (pCons Sel.hc (pApp Sel.ha (pCons Sel.hc pNil)))))) (stepV_ok tt_ok rfl) rfl ?_
    refine k_val (v := .int .u64 v31.Ask) rfl rfl rfl (pSub (pCons Sel.hc (pApp Sel.ha (pCons Sel.hc (pApp Sel.ha (pCons Sel.hc pNil)))))) (val_load tt_ok rfl (List.Mem.tail _ (mR (List.Mem.tail _ (mR (List.Mem.head _))))) rfl) rfl ?_
    replace h := bsome h; obtain ⟨v100, x100, h⟩ := h
    refine k_cq rfl rfl rfl Try.call12 rfl rfl rfl (q_rd (k_queue_Queue_Guess (p0 := o53_0) o53_0N0 o53_0V0 x100) (pCons (Sel.sc (Sel.sa Sel.hc)) (pApp (Sel.sc (Sel.sa Sel.ha)) pNil)) (fun _ _ => trivial)) rfl (pSub (pCons Sel.hc (pApp Sel.ha (pCons Sel.hc (pApp Sel.ha (pCons Sel.hc pNil)))))) ?_
    replace h := bsome h; obtain ⟨v104, x104, h⟩ := h
    refine k_cq rfl rfl rfl Try.call22 rfl rfl rfl (q_rd (k_hindcastref24_Queue_Guess (p0 := o57_0) o57_0N0 o57_0V0 x104) (pCons Sel.hc (pApp Sel.ha pNil)) (fun _ _ => trivial)) rfl (pSub (pCons Sel.hc (pApp Sel.ha (pCons Sel.hc (pApp Sel.ha (pCons Sel.hc pNil)))))) ?_
    refine k_val (v := .bool (v100 != v104)) rfl rfl rfl (pSub (pCons Sel.hc (pApp Sel.ha (pCons Sel.hc (pApp Sel.ha (pCons Sel.hc pNil)))))) (stepV_ok tt_ok rfl) rfl ?_
    simp only [Option.some.injEq, Prod.mk.injEq] at h
    obtain rfl := h
    have h := hg106; clear hg106
    refine k_val (v := .bool (v100 != v104)) rfl rfl rfl (pSub (pCons Sel.hc (pApp Sel.ha (pCons Sel.hc (pApp Sel.ha (pCons Sel.hc pNil)))))) (stepV_ok tt_ok rfl) rfl ?_
    refine k_val rfl rfl rfl (pSub (pCons Sel.hc (pApp Sel.ha (pCons Sel.hc (pApp Sel.ha (pCons Sel.hc pNil)))))) (stepV_ok tt_ok rfl) rfl ?_
    replace h := bsome h; obtain ⟨v122, h, hg122⟩ := h
    refine k_split (t := 107) rfl (fun hc => ?_) (fun hc => ?_)
    · replace h := ct hc h
      refine k_skip rfl rfl (pSub (pCons Sel.hc (pApp Sel.ha (pCons Sel.hc (pApp Sel.ha (pCons Sel.hc pNil)))))) rfl ?_
      refine k_skip rfl rfl (pSub (pCons Sel.hc (pApp Sel.ha (pCons Sel.hc (pApp Sel.ha (pCons Sel.hc pNil)))))) rfl ?_
      refine k_skip rfl rfl (pSub (pCons Sel.hc (pApp Sel.ha (pCons Sel.hc (pApp Sel.ha (pCons Sel.hc pNil)))))) rfl ?_
      refine k_skip rfl rfl (pSub (pCons Sel.hc (pApp Sel.ha (pCons Sel.hc (pApp Sel.ha (pCons Sel.hc pNil)))))) rfl ?_
      refine k_skip rfl rfl (pSub (pCons Sel.hc (pApp Sel.ha (pCons Sel.hc (pApp Sel.ha (pCons Sel.hc pNil)))))) rfl ?_
      refine k_skip rfl rfl (pSub (pCons Sel.hc (pApp Sel.ha (pCons Sel.hc (pApp Sel.ha (pCons Sel.hc pNil)))))) rfl ?_
      refine k_skip rfl rfl (pSub (pCons Sel.hc (pApp Sel.ha (pCons Sel.hc (pApp Sel.ha (pCons Sel.hc pNil)))))) rfl ?_
      refine k_skip rfl rfl (pSub (pCons Sel.hc (pApp Sel.ha (pCons Sel.hc (pApp Sel.ha (pCons Sel.hc pNil)))))) rfl ?_
      refine k_skip rfl rfl (pSub (pCons Sel.hc (pApp Sel.ha (pCons Sel.hc (pApp Sel.ha (pCons Sel.hc pNil)))))) rfl ?_
      refine k_skip rfl rfl (pSub (pCons Sel.hc (pApp Sel.ha (pCons Sel.hc (pApp Sel.ha (pCons Sel.hc pNil)))))) rfl ?_
      refine k_skip rfl rfl (pSub (pCons Sel.hc (pApp Sel.ha (pCons Sel.hc (pApp Sel.ha (pCons Sel.hc pNil)))))) rfl ?_
      refine k_skip rfl rfl (pSub (pCons Sel.hc (pApp Sel.ha (pCons Sel.hc (pApp Sel.ha (pCons Sel.hc pNil)))))) rfl ?_
      refine k_skip rfl rfl (pSub (pCons Sel.hc (pApp Sel.ha (pCons Sel.hc (pApp Sel.ha (pCons Sel.hc pNil)))))) rfl ?_
      refine k_skip rfl rfl (pSub (pCons Sel.hc (pApp Sel.ha (pCons Sel.hc (pApp Sel.ha (pCons Sel.hc pNil)))))) rfl ?_
      simp only [Option.some.injEq, Prod.mk.injEq] at h
      obtain rfl := h
      have h := hg122; clear hg122
      refine k_val (v := .bool true) rfl rfl rfl (pSub (pCons Sel.hc (pApp Sel.ha (pCons Sel.hc (pApp Sel.ha (pCons Sel.hc pNil)))))) (stepV_ok tt_ok rfl) rfl ?_
      refine k_end (by kernel_rfl) ?_
      refine wx_then ?_
      replace h := ct rfl h
      refine wc_cond_true rfl ?_
      refine wc_seq ?_
      refine wc_region ?_
      refine wl_pure tt_ok rfl rfl ?_
      refine wl_nil ?_
      refine wx_then ?_
      refine wc_ret ?_
      refine wx_block_ret ?_
      refine wx_then_ret ?_
      obtain rfl := Option.some.inj h
      have h := hl27; clear hl27; try dsimp only [orE_l, orE_r] at h
      refine wx_then_ret ?_
      refine wx_block_ret ?_
      refine wx_then_ret ?_
      simp only [Option.some.injEq] at h
      obtain rfl := h
      exact wx_pf tt_ok (.inl rfl) Try.results4 (Res.tmp rfl Res.nil) rfl
    replace h := cf hc h
    refine k_val rfl rfl rfl (pSub (pCons Sel.hc (pApp Sel.ha (pCons Sel.hc (pApp Sel.ha (pCons Sel.hc pNil)))))) (stepV_ok tt_ok rfl) rfl ?_
    refine k_val (v := .pointer (some ⟨b8, 2, none⟩)) rfl rfl rfl (pSub (pCons Sel.hc (pApp Sel.ha (pCons Sel.hc (pApp Sel.ha (pCons Sel.hc pNil)))))) (stepV_ok tt_ok rfl) rfl ?_
    refine k_val (v := .int .u64 v31.Ask) rfl rfl rfl (pSub (pCons Sel.hc (pApp Sel.ha (pCons Sel.hc (pApp Sel.ha (pCons Sel.hc pNil)))))) (val_load tt_ok rfl (List.Mem.tail _ (mR (List.Mem.tail _ (mR (List.Mem.head _))))) rfl) rfl ?_
    refine k_val (v := .pointer (some ⟨b8, 4, none⟩)) rfl rfl rfl (pSub (pCons Sel.hc (pApp Sel.ha (pCons Sel.hc (pApp Sel.ha (pCons Sel.hc pNil)))))) (stepV_ok tt_ok rfl) rfl ?_
    refine k_val (v := .int .i64 v31.N) rfl rfl rfl (pSub (pCons Sel.hc (pApp Sel.ha (pCons Sel.hc (pApp Sel.ha (pCons Sel.hc pNil)))))) (val_load tt_ok rfl (List.Mem.tail _ (mR (List.Mem.tail _ (mR (List.Mem.head _))))) rfl) rfl ?_
    refine k_val rfl rfl rfl (pSub (pCons Sel.hc (pApp Sel.ha (pCons Sel.hc (pApp Sel.ha (pCons Sel.hc pNil)))))) (stepV_ok tt_ok rfl) rfl ?_
    refine k_val (v := .pointer (some ⟨b8, 2, none⟩)) rfl rfl rfl (pSub (pCons Sel.hc (pApp Sel.ha (pCons Sel.hc (pApp Sel.ha (pCons Sel.hc pNil)))))) (stepV_ok tt_ok rfl) rfl ?_
    refine k_val (v := .int .u64 v31.Ask) rfl rfl rfl (pSub (pCons Sel.hc (pApp Sel.ha (pCons Sel.hc (pApp Sel.ha (pCons Sel.hc pNil)))))) (val_load tt_ok rfl (List.Mem.tail _ (mR (List.Mem.tail _ (mR (List.Mem.head _))))) rfl) rfl ?_
    refine k_val (v := .pointer (some ⟨b8, 4, none⟩)) rfl rfl rfl (pSub (pCons Sel.hc (pApp Sel.ha (pCons Sel.hc (pApp Sel.ha (pCons Sel.hc pNil)))))) (stepV_ok tt_ok rfl) rfl ?_
    refine k_val (v := .int .i64 v31.N) rfl rfl rfl (pSub (pCons Sel.hc (pApp Sel.ha (pCons Sel.hc (pApp Sel.ha (pCons Sel.hc pNil)))))) (val_load tt_ok rfl (List.Mem.tail _ (mR (List.Mem.tail _ (mR (List.Mem.head _))))) rfl) rfl ?_
    replace h := bsome h; obtain ⟨v113, x113, h⟩ := h
    refine k_cs rfl rfl rfl Try.call24 rfl rfl rfl (s_sp (k_queue_Queue_Slice (p0 := o53_0) o53_0N0 o53_0V0 x113) (pCons (Sel.sc (Sel.sa Sel.hc)) (pApp (Sel.sc (Sel.sa Sel.ha)) pNil)) (fun _ _ => trivial)) rfl (.inr (by rintro _ _ ⟨_, ⟨_, _, _, _, _, _, rfl, rfl⟩, rfl⟩; exact ⟨_, (pCons (Sel.sc (Sel.sa (Sel.sa Sel.hc))) (pApp (Sel.sc (Sel.sa (Sel.sa Sel.ha))) (pCons Sel.hc (pApp Sel.ha (pCons (Sel.sa Sel.hc) pNil)))))⟩)) ?_
    rintro _ _ ⟨_, ⟨v113a0, v113n0, v113c0, v113B0, v113N0, v113V0, rfl, rfl⟩, rfl⟩
    replace h := bsome h; obtain ⟨v119, x119, h⟩ := h
    refine k_cs rfl rfl rfl Try.call25 rfl rfl rfl (s_sp (k_hindcastref24_Queue_Slice (p0 := o57_0) o57_0N0 o57_0V0 x119) (pCons (Sel.sc (Sel.sa (Sel.sa Sel.hc))) (pApp (Sel.sc (Sel.sa (Sel.sa Sel.ha))) pNil)) (fun _ _ => trivial)) rfl (.inr (by rintro _ _ ⟨_, ⟨_, _, _, _, _, _, rfl, rfl⟩, rfl⟩; exact ⟨_, (pCons Sel.hc (pApp Sel.ha (pCons (Sel.sa Sel.hc) (pApp (Sel.sa Sel.ha) (pCons (Sel.sa (Sel.sa Sel.hc)) pNil)))))⟩)) ?_
    rintro _ _ ⟨_, ⟨v119a0, v119n0, v119c0, v119B0, v119N0, v119V0, rfl, rfl⟩, rfl⟩
    replace h := bsome h; obtain ⟨v120, x120, h⟩ := h
    refine k_cq rfl rfl rfl Try.call23 rfl rfl rfl (q_pf (k_hindcastref06_Same (p0 := v113) (p1 := v119) v113N0 (vec_cap v113V0) v119N0 (vec_cap v119V0) x120) (fun w hI => ⟨(Rds.call (Rds.of_vec v113V0) pNil ⟨_, (Sel.sc (Sel.sa (Sel.sa (Sel.sc (Sel.sa Sel.ha)))))⟩) w hI, (Rds.call (Rds.of_vec v119V0) pNil ⟨_, (Sel.sc (Sel.sa Sel.ha))⟩) w hI⟩)) rfl (pSub (pCons Sel.hc (pApp Sel.ha (pCons (Sel.sa Sel.hc) (pApp (Sel.sa Sel.ha) (pCons (Sel.sa (Sel.sa Sel.hc)) pNil)))))) ?_
    refine k_val (v := .bool (!v120)) rfl rfl rfl (pSub (pCons Sel.hc (pApp Sel.ha (pCons (Sel.sa Sel.hc) (pApp (Sel.sa Sel.ha) (pCons (Sel.sa (Sel.sa Sel.hc)) pNil)))))) (stepV_ok tt_ok rfl) rfl ?_
    simp only [Option.some.injEq, Prod.mk.injEq] at h
    obtain rfl := h
    have h := hg122; clear hg122
    refine k_val (v := .bool (!v120)) rfl rfl rfl (pSub (pCons Sel.hc (pApp Sel.ha (pCons (Sel.sa Sel.hc) (pApp (Sel.sa Sel.ha) (pCons (Sel.sa (Sel.sa Sel.hc)) pNil)))))) (stepV_ok tt_ok rfl) rfl ?_
    refine k_end (by kernel_rfl) ?_
    refine wx_then ?_
    refine wc_cond rfl (fun hc => ?_) (fun hc => ?_)
    · replace h := ct hc h
      refine wc_seq ?_
      refine wc_region ?_
      refine wl_pure tt_ok rfl rfl ?_
      refine wl_nil ?_
      refine wx_then ?_
      refine wc_ret ?_
      refine wx_block_ret ?_
      refine wx_then_ret ?_
      obtain rfl := Option.some.inj h
      have h := hl27; clear hl27; try dsimp only [orE_l, orE_r] at h
      refine wx_then_ret ?_
      refine wx_block_ret ?_
      refine wx_then_ret ?_
      simp only [Option.some.injEq] at h
      obtain rfl := h
      exact wx_pf tt_ok (.inl rfl) Try.results4 (Res.tmp rfl Res.nil) rfl
    replace h := cf hc h
    refine wc_skip ?_
    refine wx_block ?_
    refine wx_then ?_
    refine wc_region ?_
    refine wl_pure tt_ok rfl rfl ?_
    refine wl_pure (v := .int .i64 (IntKind.wrap .i64 (j27_7 + (1 : Int)))) tt_ok rfl rfl ?_
    refine wl_pure tt_ok rfl rfl ?_
    refine wl_nil ?_
    exact wx_round m27 (Nat.lt_succ_self m27) ⟨(IntKind.wrap .i64 (j27_7 + (1 : Int))), o53_0.first_, o53_0.l, o53_0.last, o57_0.Begin, o57_0.First, o57_0.L, o53_0a0, o53_0n0, o53_0c0, o53_0B0, o57_0a0, o57_0n0, o57_0c0, o57_0B0, h, o53_0N0, o53_0V0, o57_0N0, o57_0V0, rfl, rfl⟩ (agree_cons rfl (agree_cons rfl (agree_cons rfl (agree_cons rfl (agree_cons rfl agree_nil))))) (pSub (pCons (Sel.sc (Sel.sa (Sel.sa Sel.hc))) (pCons Sel.hc (pApp (Sel.sa (Sel.sa Sel.ha)) (pApp Sel.ha pNil)))))
  replace h := cf hc h
  refine wc_exit ?_
  refine wx_then_exit ?_
  obtain rfl := Option.some.inj h
  have h := hl27; clear hl27; try dsimp only [orE_l, orE_r] at h
  refine wx_then_exit ?_
  refine wx_block_exit ?_
  refine wx_then ?_
  refine wc_seq ?_
  refine wc_region ?_
  replace h := bsome h; obtain ⟨v123, x123, h⟩ := h
  refine wl_cq Try.call7 rfl rfl rfl (q_pf (k_hindcastlaw24_works x123) (fun _ _ => trivial)) rfl ?_
  refine wl_pure tt_ok rfl rfl ?_
  refine wl_nil ?_
  refine wx_then ?_
  refine wc_ret ?_
  simp only [Option.some.injEq] at h
  obtain rfl := h
  exact wx_pf tt_ok (.inl rfl) Try.results4 (Res.tmp rfl Res.nil) rfl

end Go.Proofs.Ytfjmhnfaoifehaa
