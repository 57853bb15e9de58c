/-
  Each function computes what its model says. Printed by a program of this claim's own.
-/
import Derived.Test.YtfjmhnfaoifehaaTab
import Derived.Test.YtfjmhnfaoifehaaMod
import Derived.Test.YtfjmhnfaoifehaaWalk1
namespace Go.Proofs.Ytfjmhnfaoifehaa
open Go.Proofs.Ytfjmhnfaoifehaa.Eng
set_option linter.unusedVariables false
set_option linter.unusedSimpArgs false
set_option maxHeartbeats 4000000
set_option maxRecDepth 20000

theorem k_hindcastlaw24_QueueStays {F : Nat} {p0 : Int} {p1 : (List T_hindcastlaw24_Act)} {p1a0 : Option Addr} {p1n0 p1c0 : Nat} {r0 : Bool} (p1N0 : p1n0 = p1.length) (p1H0 : p1n0 ≤ p1c0) (h : m_hindcastlaw24_QueueStays F p0 p1 = some r0) :
    Pf Try.prog 5 [.int .u64 p0, .slice p1a0 p1n0 p1c0] (fun w => Rds w [] [] p1a0 (flat c_T_hindcastlaw24_Act p1)) (.bool r0) := by
  unfold m_hindcastlaw24_QueueStays at h
  refine pf_of_wc Try.func5 rfl Try.ntmps5 rfl rfl (fun w0 hR => ?_)
  have p1S0 := hR
  refine wc_seq ?_
  refine wc_region ?_
  refine wl_pure tt_ok rfl rfl ?_
  refine wl_nil ?_
  refine wx_then ?_
  refine wc_seq ?_
  refine wc_region ?_
  refine wl_pure tt_ok rfl rfl ?_
  replace h := bsome h; obtain ⟨v16, x16, h⟩ := h
  refine wl_cs Try.call8 rfl rfl rfl (s_sp (k_queue_New x16) pNil (fun _ _ => trivial)) rfl ?_
  rintro _ _ ⟨_, ⟨b16_0, v16a0, v16n0, v16c0, v16B0, v16N0, v16V0, rfl, rfl⟩, rfl⟩
  refine wl_pure tt_ok rfl rfl ?_
  refine wl_nil ?_
  refine wx_then ?_
  refine wc_seq ?_
  refine wc_seq ?_
  refine wc_region ?_
  refine wl_pure tt_ok rfl rfl ?_
  refine wl_pure (v := .bool false) tt_ok rfl rfl ?_
  refine wl_nil ?_
  refine wx_then ?_
  refine wc_cond_false rfl ?_
  refine wc_skip ?_
  refine wx_then ?_
  refine wc_seq ?_
  refine wc_seq ?_
  refine wc_region ?_
  refine wl_pure tt_ok rfl rfl ?_
  refine wl_val (v := .int .i64 (p1.length : Int)) (val_len tt_ok rfl rfl p1N0) rfl ?_
  refine wl_pure (v := .bool (decide ((200 : Int) < (p1.length : Int)))) tt_ok rfl rfl ?_
  refine wl_nil ?_
  refine wx_then ?_
  refine wc_cond rfl (fun hc => ?_) (fun hc => ?_)
  · replace h := ct hc h
    refine wc_seq ?_
    refine wc_region ?_
    replace h := bsome h; obtain ⟨v22, x22, h⟩ := h
    refine wl_cq Try.call7 rfl rfl rfl (q_pf (k_hindcastlaw24_works x22) (fun _ _ => trivial)) rfl ?_
    refine wl_pure tt_ok rfl rfl ?_
    refine wl_nil ?_
    refine wx_then ?_
    refine wc_ret ?_
    refine wx_then_ret ?_
    simp only [Option.some.injEq] at h
    obtain rfl := h
    exact wx_pf tt_ok (.inl rfl) Try.results5 (Res.tmp rfl Res.nil) rfl
  replace h := cf hc h
  refine wc_skip ?_
  refine wx_then ?_
  refine wc_seq ?_
  refine wc_seq ?_
  refine wc_region ?_
  refine wl_pure tt_ok rfl rfl ?_
  refine wl_nil ?_
  refine wx_then ?_
  refine wc_block ?_
  replace h := bsome h; obtain ⟨o25, h, hl25⟩ := h
  refine wc_loop (fun m E L => ∃ (j25_6 : Int) (j25_n16_0_f0 : Int) (j25_n16_0_f1 : (List Int)) (j25_n16_0_f2 : Int) (j25_n16_0_f1a0 : Option Addr) (j25_n16_0_f1n0 : Nat) (j25_n16_0_f1c0 : Nat) (j25_n16_0_f1B0 : List Blk), m_hindcastlaw24_QueueStays_L24 F p1 m j25_6 j25_n16_0_f0 j25_n16_0_f1 j25_n16_0_f2 = some o25 ∧ j25_n16_0_f1n0 = j25_n16_0_f1.length ∧ Own 31 1 j25_n16_0_f1a0 j25_n16_0_f1n0 j25_n16_0_f1c0 (flat (e1 .u8) j25_n16_0_f1) j25_n16_0_f1B0 ∧ E = [(1, .slice p1a0 p1n0 p1c0), (4, .bool false), (5, .pointer (some ⟨b16_0, 0, none⟩)), (6, .int .i64 j25_6)] ∧ L = (⟨b16_0, [.int .u64 j25_n16_0_f0, .slice j25_n16_0_f1a0 j25_n16_0_f1n0 j25_n16_0_f1c0, .int .u8 j25_n16_0_f2], 52, (0, 0)⟩ :: (j25_n16_0_f1B0 ++ []))) F ⟨(0 : Int), v16.first_, v16.l, v16.last, v16a0, v16n0, v16c0, v16B0, h, v16N0, v16V0, rfl, rfl⟩ (agree_cons rfl (agree_cons rfl (agree_cons rfl (agree_cons rfl agree_nil)))) (pSub (pCons Sel.hc (pApp Sel.ha pNil))) ?_
  clear h
  rintro m25 _ _ ⟨j25_6, j25_n16_0_f0, j25_n16_0_f1, j25_n16_0_f2, j25_n16_0_f1a0, j25_n16_0_f1n0, j25_n16_0_f1c0, j25_n16_0_f1B0, h, j25_n16_0_f1N0, j25_n16_0_f1V0, rfl, rfl⟩
  rcases m25 with _ | m25
  · rw [m_hindcastlaw24_QueueStays_L24.eq_1] at h; cases h
  rw [m_hindcastlaw24_QueueStays_L24.eq_2] at h
  refine wc_seq ?_
  refine wc_seq ?_
  refine wc_region ?_
  refine wl_pure tt_ok rfl rfl ?_
  refine wl_pure tt_ok rfl rfl ?_
  refine wl_val (v := .int .i64 (p1.length : Int)) (val_len tt_ok rfl rfl p1N0) rfl ?_
  refine wl_pure (v := .bool (decide (j25_6 < (p1.length : Int)))) tt_ok rfl rfl ?_
  refine wl_nil ?_
  refine wx_then ?_
  refine wc_cond rfl (fun hc => ?_) (fun hc => ?_)
  · replace h := ct hc h
    refine wc_skip ?_
    refine wx_then ?_
    refine wc_seq ?_
    refine wc_block ?_
    refine wc_seq ?_
    refine wc_region ?_
    refine wl_pure tt_ok rfl rfl ?_
    refine wl_pure tt_ok rfl rfl ?_
    replace h := bsome h; obtain ⟨v31, x31, h⟩ := h
    refine wl_val (v := .pointer (some ((adOf p1a0).add (j25_6.toNat * 5 + 0)))) (val_ix (enc := c_T_hindcastlaw24_Act) tt_ok rfl rfl rfl rfl p1N0 p1S0 c_T_hindcastlaw24_Act_len rfl x31) rfl ?_
    refine wl_val (v := .agg #[.int .u8 v31.What, .int .u64 v31.F, .int .u64 v31.Ask, .int .u8 v31.I, .int .i64 v31.N]) (val_le (enc := c_T_hindcastlaw24_Act) (xs := p1) tt_ok rfl p1S0 rsub_nil c_T_hindcastlaw24_Act_len x31 rfl) rfl ?_
    refine wl_alloc tt_ok rfl rfl (fun b7 => ?_)
    apply wl_store tt_ok; rfl; exact Upd.here; rfl; rfl; rfl; rfl; rfl; rfl
    refine wl_nil ?_
    refine wx_then ?_
    refine wc_seq ?_
    refine wc_region ?_
    refine wl_pure tt_ok rfl rfl ?_
    replace h := bsome h; obtain ⟨v34, x34, h⟩ := h
    refine wl_cq Try.call20 rfl rfl rfl (q_rd (k_queue_Queue_First (p0 := (T_queue_Queue.mk j25_n16_0_f0 j25_n16_0_f1 j25_n16_0_f2)) j25_n16_0_f1N0 j25_n16_0_f1V0 x34) (pCons (Sel.sc Sel.hc) (pApp (Sel.sc Sel.ha) pNil)) (fun _ _ => trivial)) rfl ?_
    refine wl_pure tt_ok rfl rfl ?_
    replace h := bsome h; obtain ⟨v36, x36, h⟩ := h
    refine wl_cq Try.call9 rfl rfl rfl (q_rd (k_queue_Queue_Known (p0 := (T_queue_Queue.mk j25_n16_0_f0 j25_n16_0_f1 j25_n16_0_f2)) j25_n16_0_f1N0 j25_n16_0_f1V0 x36) (pCons (Sel.sc Sel.hc) (pApp (Sel.sc Sel.ha) pNil)) (fun _ _ => trivial)) rfl ?_
    refine wl_pure tt_ok rfl rfl ?_
    refine wl_pure tt_ok rfl rfl ?_
    refine wl_nil ?_
    refine wx_then ?_
    refine wc_seq ?_
    refine wc_region ?_
    refine wl_pure tt_ok rfl rfl ?_
    refine wl_pure tt_ok rfl rfl ?_
    replace h := bsome h; obtain ⟨v39, x39, h⟩ := h
    refine wl_cs Try.call24 rfl rfl rfl (s_sp (k_queue_Queue_Slice (p0 := (T_queue_Queue.mk j25_n16_0_f0 j25_n16_0_f1 j25_n16_0_f2)) j25_n16_0_f1N0 j25_n16_0_f1V0 x39) (pCons (Sel.sc Sel.hc) (pApp (Sel.sc Sel.ha) pNil)) (fun _ _ => trivial)) rfl ?_
    rintro _ _ ⟨_, ⟨v39a0, v39n0, v39c0, v39B0, v39N0, v39V0, rfl, rfl⟩, rfl⟩
    refine wl_pure tt_ok rfl rfl ?_
    refine wl_nil ?_
    refine wx_then ?_
    refine wc_seq ?_
    refine wc_seq ?_
    refine wc_region ?_
    refine wl_pure tt_ok rfl rfl ?_
    refine wl_val (v := .int .i64 (v39.length : Int)) (val_len tt_ok rfl rfl v39N0) rfl ?_
    refine wl_pure (v := .int .u64 (IntKind.wrap .u64 (v39.length : Int))) tt_ok rfl rfl ?_
    refine wl_pure tt_ok rfl rfl ?_
    refine wl_pure tt_ok rfl rfl ?_
    refine wl_pure (v := .int .u64 (IntKind.wrap .u64 (v36 - v34))) tt_ok rfl rfl ?_
    refine wl_pure (v := .bool ((IntKind.wrap .u64 (v39.length : Int)) != (IntKind.wrap .u64 (v36 - v34)))) tt_ok rfl rfl ?_
    refine wl_pure tt_ok rfl rfl ?_
    replace h := bsome h; obtain ⟨v51, h, hg51⟩ := h
    refine wl_split (t := 47) rfl (fun hc => ?_) (fun hc => ?_)
    · replace h := ct hc h
      refine wl_skip rfl rfl ?_
      refine wl_skip rfl rfl ?_
      refine wl_skip rfl rfl ?_
      simp only [Option.some.injEq, Prod.mk.injEq] at h
      obtain rfl := h
      have h := hg51; clear hg51
      refine wl_pure (v := .bool true) tt_ok rfl rfl ?_
      refine wl_nil ?_
      refine wx_then ?_
      replace h := ct rfl h
      refine wc_cond_true rfl ?_
      refine wc_seq ?_
      refine wc_region ?_
      refine wl_pure tt_ok rfl rfl ?_
      refine wl_nil ?_
      refine wx_then ?_
      refine wc_ret ?_
      refine wx_then_ret ?_
      refine wx_block_ret ?_
      refine wx_then_ret ?_
      obtain rfl := Option.some.inj h
      have h := hl25; clear hl25; try dsimp only [orE_l, orE_r] at h
      refine wx_then_ret ?_
      refine wx_block_ret ?_
      refine wx_then_ret ?_
      simp only [Option.some.injEq] at h
      obtain rfl := h
      exact wx_pf tt_ok (.inl rfl) Try.results5 (Res.tmp rfl Res.nil) rfl
    replace h := cf hc h
    refine wl_run rfl ?_
    refine wl_pure tt_ok rfl rfl ?_
    refine wl_run rfl ?_
    refine wl_val (v := .int .i64 (v39.length : Int)) (val_len tt_ok rfl rfl v39N0) rfl ?_
    refine wl_run rfl ?_
    refine wl_pure (v := .bool (decide ((24 : Int) < (v39.length : Int)))) tt_ok rfl rfl ?_
    simp only [Option.some.injEq, Prod.mk.injEq] at h
    obtain rfl := h
    have h := hg51; clear hg51
    refine wl_pure (v := .bool (decide ((24 : Int) < (v39.length : Int)))) tt_ok rfl rfl ?_
    refine wl_nil ?_
    refine wx_then ?_
    refine wc_cond rfl (fun hc => ?_) (fun hc => ?_)
    · replace h := ct hc h
      refine wc_seq ?_
      refine wc_region ?_
      refine wl_pure tt_ok rfl rfl ?_
      refine wl_nil ?_
      refine wx_then ?_
      refine wc_ret ?_
      refine wx_then_ret ?_
      refine wx_block_ret ?_
      refine wx_then_ret ?_
      obtain rfl := Option.some.inj h
      have h := hl25; clear hl25; try dsimp only [orE_l, orE_r] at h
      refine wx_then_ret ?_
      refine wx_block_ret ?_
      refine wx_then_ret ?_
      simp only [Option.some.injEq] at h
      obtain rfl := h
      exact wx_pf tt_ok (.inl rfl) Try.results5 (Res.tmp rfl Res.nil) rfl
    replace h := cf hc h
    refine wc_skip ?_
    refine wx_then ?_
    refine wc_seq ?_
    refine wc_seq ?_
    refine wc_region ?_
    refine wl_pure (v := .pointer (some ⟨b7, 0, none⟩)) tt_ok rfl rfl ?_
    refine wl_val (v := .int .u8 v31.What) (val_load tt_ok rfl (List.Mem.tail _ (mR (mR (List.Mem.head _)))) rfl) rfl ?_
    refine wl_pure (v := .int .u8 (Int.tmod v31.What 4)) tt_ok rfl rfl ?_
    refine wl_pure (v := .bool (decide ((Int.tmod v31.What 4) < (3 : Int)))) tt_ok rfl rfl ?_
    refine wl_nil ?_
    refine wx_then ?_
    replace h := bsome h; obtain ⟨⟨j51_n16_0_f0, j51_n16_0_f1, j51_n16_0_f2⟩, h, hj51⟩ := h; try dsimp only at hj51
    refine wc_join2 (fun E L => ∃ (j51_n16_0_f1a0 : Option Addr) (j51_n16_0_f1n0 : Nat) (j51_n16_0_f1c0 : Nat) (j51_n16_0_f1B0 : List Blk), j51_n16_0_f1n0 = j51_n16_0_f1.length ∧ Own 31 1 j51_n16_0_f1a0 j51_n16_0_f1n0 j51_n16_0_f1c0 (flat (e1 .u8) j51_n16_0_f1) j51_n16_0_f1B0 ∧ E = [(1, .slice p1a0 p1n0 p1c0), (4, .bool false), (5, .pointer (some ⟨b16_0, 0, none⟩)), (6, .int .i64 j25_6), (8, .int .u64 v34), (9, .int .u64 v36), (10, .slice v39a0 v39n0 v39c0)] ∧ L = (⟨b16_0, [.int .u64 j51_n16_0_f0, .slice j51_n16_0_f1a0 j51_n16_0_f1n0 j51_n16_0_f1c0, .int .u8 j51_n16_0_f2], 52, (0, 0)⟩ :: (j51_n16_0_f1B0 ++ (v39B0 ++ [])))) ?_ ?_
    · refine wc_cond rfl (fun hc => ?_) (fun hc => ?_)
      · replace h := ct hc h
        refine wc_region ?_
        refine wl_pure tt_ok rfl rfl ?_
        refine wl_pure (v := .pointer (some ⟨b7, 1, none⟩)) tt_ok rfl rfl ?_
        refine wl_val (v := .int .u64 v31.F) (val_load tt_ok rfl (List.Mem.tail _ (mR (mR (List.Mem.head _)))) rfl) rfl ?_
        refine wl_pure (v := .pointer (some ⟨b7, 3, none⟩)) tt_ok rfl rfl ?_
        refine wl_val (v := .int .u8 v31.I) (val_load tt_ok rfl (List.Mem.tail _ (mR (mR (List.Mem.head _)))) rfl) rfl ?_
        replace h := bsome h; obtain ⟨⟨o61_0, v61⟩, x61, h⟩ := h; try dsimp only at h
        refine wl_cs Try.call10 rfl rfl rfl (s_sp (k_queue_Queue_Add (p0 := (T_queue_Queue.mk j25_n16_0_f0 j25_n16_0_f1 j25_n16_0_f2)) j25_n16_0_f1N0 j25_n16_0_f1V0 x61) (pCons Sel.hc (pApp Sel.ha pNil)) (fun _ _ => trivial)) rfl ?_
        rintro _ _ ⟨_, ⟨o61_0a0, o61_0n0, o61_0c0, o61_0B0, o61_0N0, o61_0V0, rfl, rfl⟩, rfl⟩
        refine wl_nil ?_
        simp only [Option.some.injEq, Prod.mk.injEq] at h
        obtain ⟨rfl, rfl, rfl⟩ := h
        exact wx_join ⟨o61_0a0, o61_0n0, o61_0c0, o61_0B0, o61_0N0, o61_0V0, rfl, rfl⟩ (agree_cons rfl (agree_cons rfl (agree_cons rfl (agree_cons rfl (agree_cons rfl (agree_cons rfl (agree_cons rfl agree_nil))))))) (pSub (pCons Sel.hc (pApp Sel.ha (pApp Sel.ha pNil))))
      replace h := cf hc h
      refine wc_region ?_
      refine wl_pure tt_ok rfl rfl ?_
      refine wl_pure (v := .pointer (some ⟨b7, 1, none⟩)) tt_ok rfl rfl ?_
      refine wl_val (v := .int .u64 v31.F) (val_load tt_ok rfl (List.Mem.tail _ (mR (mR (List.Mem.head _)))) rfl) rfl ?_
      replace h := bsome h; obtain ⟨o65_0, x65, h⟩ := h
      refine wl_cs Try.call16 rfl rfl rfl (s_sp (k_queue_Queue_Drop (p0 := (T_queue_Queue.mk j25_n16_0_f0 j25_n16_0_f1 j25_n16_0_f2)) j25_n16_0_f1N0 j25_n16_0_f1V0 x65) (pCons Sel.hc (pApp Sel.ha pNil)) (fun _ _ => trivial)) rfl ?_
      rintro _ _ ⟨_, ⟨o65_0a0, o65_0n0, o65_0c0, o65_0B0, o65_0N0, o65_0V0, rfl, rfl⟩, rfl⟩
      refine wl_nil ?_
      simp only [Option.some.injEq, Prod.mk.injEq] at h
      obtain ⟨rfl, rfl, rfl⟩ := h
      exact wx_join ⟨o65_0a0, o65_0n0, o65_0c0, o65_0B0, o65_0N0, o65_0V0, rfl, rfl⟩ (agree_cons rfl (agree_cons rfl (agree_cons rfl (agree_cons rfl (agree_cons rfl (agree_cons rfl (agree_cons rfl agree_nil))))))) (pSub (pCons Sel.hc (pApp Sel.ha (pApp Sel.ha pNil))))
    rintro _ _ ⟨j51_n16_0_f1a0, j51_n16_0_f1n0, j51_n16_0_f1c0, j51_n16_0_f1B0, j51_n16_0_f1N0, j51_n16_0_f1V0, rfl, rfl⟩
    have h := hj51; clear hj51
    refine wc_seq ?_
    refine wc_seq ?_
    refine wc_region ?_
    refine wl_pure tt_ok rfl rfl ?_
    replace h := bsome h; obtain ⟨v67, x67, h⟩ := h
    refine wl_cq Try.call9 rfl rfl rfl (q_rd (k_queue_Queue_Known (p0 := (T_queue_Queue.mk j51_n16_0_f0 j51_n16_0_f1 j51_n16_0_f2)) j51_n16_0_f1N0 j51_n16_0_f1V0 x67) (pCons Sel.hc (pApp Sel.ha pNil)) (fun _ _ => trivial)) rfl ?_
    refine wl_pure tt_ok rfl rfl ?_
    refine wl_pure (v := .bool (decide (v67 < v36))) tt_ok rfl rfl ?_
    refine wl_pure tt_ok rfl rfl ?_
    replace h := bsome h; obtain ⟨v75, h, hg75⟩ := h
    refine wl_split (t := 70) rfl (fun hc => ?_) (fun hc => ?_)
    · replace h := ct hc h
      refine wl_skip rfl rfl ?_
      refine wl_skip rfl rfl ?_
      refine wl_skip rfl rfl ?_
      refine wl_skip rfl rfl ?_
      simp only [Option.some.injEq, Prod.mk.injEq] at h
      obtain rfl := h
      have h := hg75; clear hg75
      refine wl_pure (v := .bool true) tt_ok rfl rfl ?_
      refine wl_pure tt_ok rfl rfl ?_
      replace h := bsome h; obtain ⟨v82, h, hg82⟩ := h
      replace h := ct rfl h
      refine wl_skip rfl rfl ?_
      refine wl_skip rfl rfl ?_
      refine wl_skip rfl rfl ?_
      refine wl_skip rfl rfl ?_
      refine wl_skip rfl rfl ?_
      simp only [Option.some.injEq, Prod.mk.injEq] at h
      obtain rfl := h
      have h := hg82; clear hg82
      refine wl_pure (v := .bool true) tt_ok rfl rfl ?_
      refine wl_nil ?_
      refine wx_then ?_
      replace h := ct rfl h
      refine wc_cond_true rfl ?_
      refine wc_seq ?_
      refine wc_region ?_
      refine wl_pure tt_ok rfl rfl ?_
      refine wl_nil ?_
      refine wx_then ?_
      refine wc_ret ?_
      refine wx_then_ret ?_
      refine wx_block_ret ?_
      refine wx_then_ret ?_
      obtain rfl := Option.some.inj h
      have h := hl25; clear hl25; try dsimp only [orE_l, orE_r] at h
      refine wx_then_ret ?_
      refine wx_block_ret ?_
      refine wx_then_ret ?_
      simp only [Option.some.injEq] at h
      obtain rfl := h
      exact wx_pf tt_ok (.inl rfl) Try.results5 (Res.tmp rfl Res.nil) rfl
    replace h := cf hc h
    refine wl_run rfl ?_
    refine wl_pure tt_ok rfl rfl ?_
    replace h := bsome h; obtain ⟨v72, x72, h⟩ := h
    refine wl_run rfl ?_
    refine wl_cq Try.call20 rfl rfl rfl (q_rd (k_queue_Queue_First (p0 := (T_queue_Queue.mk j51_n16_0_f0 j51_n16_0_f1 j51_n16_0_f2)) j51_n16_0_f1N0 j51_n16_0_f1V0 x72) (pCons Sel.hc (pApp Sel.ha pNil)) (fun _ _ => trivial)) rfl ?_
    refine wl_run rfl ?_
    refine wl_pure tt_ok rfl rfl ?_
    refine wl_run rfl ?_
    refine wl_pure (v := .bool (decide (v72 < v34))) tt_ok rfl rfl ?_
    simp only [Option.some.injEq, Prod.mk.injEq] at h
    obtain rfl := h
    have h := hg75; clear hg75
    refine wl_pure (v := .bool (decide (v72 < v34))) tt_ok rfl rfl ?_
    refine wl_pure tt_ok rfl rfl ?_
    replace h := bsome h; obtain ⟨v82, h, hg82⟩ := h
    refine wl_split (t := 76) rfl (fun hc => ?_) (fun hc => ?_)
    · replace h := ct hc h
      refine wl_skip rfl rfl ?_
      refine wl_skip rfl rfl ?_
      refine wl_skip rfl rfl ?_
      refine wl_skip rfl rfl ?_
      refine wl_skip rfl rfl ?_
      simp only [Option.some.injEq, Prod.mk.injEq] at h
      obtain rfl := h
      have h := hg82; clear hg82
      refine wl_pure (v := .bool true) tt_ok rfl rfl ?_
      refine wl_nil ?_
      refine wx_then ?_
      replace h := ct rfl h
      refine wc_cond_true rfl ?_
      refine wc_seq ?_
      refine wc_region ?_
      refine wl_pure tt_ok rfl rfl ?_
      refine wl_nil ?_
      refine wx_then ?_
      refine wc_ret ?_
      refine wx_then_ret ?_
      refine wx_block_ret ?_
      refine wx_then_ret ?_
      obtain rfl := Option.some.inj h
      have h := hl25; clear hl25; try dsimp only [orE_l, orE_r] at h
      refine wx_then_ret ?_
      refine wx_block_ret ?_
      refine wx_then_ret ?_
      simp only [Option.some.injEq] at h
      obtain rfl := h
      exact wx_pf tt_ok (.inl rfl) Try.results5 (Res.tmp rfl Res.nil) rfl
    replace h := cf hc h
    refine wl_run rfl ?_
    refine wl_pure tt_ok rfl rfl ?_
    replace h := bsome h; obtain ⟨v78, x78, h⟩ := h
    refine wl_run rfl ?_
    refine wl_cq Try.call20 rfl rfl rfl (q_rd (k_queue_Queue_First (p0 := (T_queue_Queue.mk j51_n16_0_f0 j51_n16_0_f1 j51_n16_0_f2)) j51_n16_0_f1N0 j51_n16_0_f1V0 x78) (pCons Sel.hc (pApp Sel.ha pNil)) (fun _ _ => trivial)) rfl ?_
    refine wl_run rfl ?_
    refine wl_pure tt_ok rfl rfl ?_
    replace h := bsome h; obtain ⟨v80, x80, h⟩ := h
    refine wl_run rfl ?_
    refine wl_cq Try.call9 rfl rfl rfl (q_rd (k_queue_Queue_Known (p0 := (T_queue_Queue.mk j51_n16_0_f0 j51_n16_0_f1 j51_n16_0_f2)) j51_n16_0_f1N0 j51_n16_0_f1V0 x80) (pCons Sel.hc (pApp Sel.ha pNil)) (fun _ _ => trivial)) rfl ?_
    refine wl_run rfl ?_
    refine wl_pure (v := .bool (decide (v80 < v78))) tt_ok rfl rfl ?_
    simp only [Option.some.injEq, Prod.mk.injEq] at h
    obtain rfl := h
    have h := hg82; clear hg82
    refine wl_pure (v := .bool (decide (v80 < v78))) tt_ok rfl rfl ?_
    refine wl_nil ?_
    refine wx_then ?_
    refine wc_cond rfl (fun hc => ?_) (fun hc => ?_)
    · replace h := ct hc h
      refine wc_seq ?_
      refine wc_region ?_
      refine wl_pure tt_ok rfl rfl ?_
      refine wl_nil ?_
      refine wx_then ?_
      refine wc_ret ?_
      refine wx_then_ret ?_
      refine wx_block_ret ?_
      refine wx_then_ret ?_
      obtain rfl := Option.some.inj h
      have h := hl25; clear hl25; try dsimp only [orE_l, orE_r] at h
      refine wx_then_ret ?_
      refine wx_block_ret ?_
      refine wx_then_ret ?_
      simp only [Option.some.injEq] at h
      obtain rfl := h
      exact wx_pf tt_ok (.inl rfl) Try.results5 (Res.tmp rfl Res.nil) rfl
    replace h := cf hc h
    refine wc_skip ?_
    refine wx_then ?_
    refine wc_seq ?_
    refine wc_region ?_
    refine wl_pure tt_ok rfl rfl ?_
    refine wl_pure tt_ok rfl rfl ?_
    replace h := bsome h; obtain ⟨v85, x85, h⟩ := h
    refine wl_cq Try.call20 rfl rfl rfl (q_rd (k_queue_Queue_First (p0 := (T_queue_Queue.mk j51_n16_0_f0 j51_n16_0_f1 j51_n16_0_f2)) j51_n16_0_f1N0 j51_n16_0_f1V0 x85) (pCons Sel.hc (pApp Sel.ha pNil)) (fun _ _ => trivial)) rfl ?_
    replace h := bsome h; obtain ⟨v86, x86, h⟩ := h
    refine wl_cs Try.call24 rfl rfl rfl (s_sp (k_queue_Queue_Slice (p0 := (T_queue_Queue.mk j51_n16_0_f0 j51_n16_0_f1 j51_n16_0_f2)) j51_n16_0_f1N0 j51_n16_0_f1V0 x86) (pCons Sel.hc (pApp Sel.ha pNil)) (fun _ _ => trivial)) rfl ?_
    rintro _ _ ⟨_, ⟨v86a0, v86n0, v86c0, v86B0, v86N0, v86V0, rfl, rfl⟩, rfl⟩
    refine wl_pure tt_ok rfl rfl ?_
    refine wl_nil ?_
    refine wx_then ?_
    refine wc_seq ?_
    refine wc_seq ?_
    refine wc_region ?_
    refine wl_pure tt_ok rfl rfl ?_
    refine wl_nil ?_
    refine wx_then ?_
    refine wc_block ?_
    replace h := bsome h; obtain ⟨o68, h, hl68⟩ := h
    refine wc_loop (fun m E L => ∃ (j68_12 : Int) (j68_11 : (List Int)) (j68_11a0 : Option Addr) (j68_11n0 : Nat) (j68_11c0 : Nat) (j68_11B0 : List Blk), m_hindcastlaw24_QueueStays_L67 F v34 v36 v39 j51_n16_0_f0 j51_n16_0_f1 j51_n16_0_f2 m j68_12 j68_11 = some o68 ∧ j68_11n0 = j68_11.length ∧ Own 31 1 j68_11a0 j68_11n0 j68_11c0 (flat (e1 .u8) j68_11) j68_11B0 ∧ E = [(1, .slice p1a0 p1n0 p1c0), (4, .bool false), (5, .pointer (some ⟨b16_0, 0, none⟩)), (6, .int .i64 j25_6), (8, .int .u64 v34), (9, .int .u64 v36), (10, .slice v39a0 v39n0 v39c0), (11, .slice j68_11a0 j68_11n0 j68_11c0), (12, .int .i64 j68_12)] ∧ L = (⟨b16_0, [.int .u64 j51_n16_0_f0, .slice j51_n16_0_f1a0 j51_n16_0_f1n0 j51_n16_0_f1c0, .int .u8 j51_n16_0_f2], 52, (0, 0)⟩ :: (j51_n16_0_f1B0 ++ (v39B0 ++ (j68_11B0 ++ []))))) F ⟨(0 : Int), v86, v86a0, v86n0, v86c0, v86B0, h, v86N0, v86V0, rfl, rfl⟩ (agree_cons rfl (agree_cons rfl (agree_cons rfl (agree_cons rfl (agree_cons rfl (agree_cons rfl (agree_cons rfl (agree_cons rfl (agree_cons rfl agree_nil))))))))) (pSub (pCons Sel.hc (pApp Sel.ha (pApp (Sel.sa Sel.ha) (pApp Sel.ha pNil))))) ?_
    clear h
    rintro m68 _ _ ⟨j68_12, j68_11, j68_11a0, j68_11n0, j68_11c0, j68_11B0, h, j68_11N0, j68_11V0, rfl, rfl⟩
    rcases m68 with _ | m68
    · rw [m_hindcastlaw24_QueueStays_L67.eq_1] at h; cases h
    rw [m_hindcastlaw24_QueueStays_L67.eq_2] at h
    refine wc_seq ?_
    refine wc_seq ?_
    refine wc_region ?_
    refine wl_pure tt_ok rfl rfl ?_
    refine wl_pure tt_ok rfl rfl ?_
    refine wl_val (v := .int .i64 (j68_11.length : Int)) (val_len tt_ok rfl rfl j68_11N0) rfl ?_
    refine wl_pure (v := .bool (decide (j68_12 < (j68_11.length : Int)))) tt_ok rfl rfl ?_
    refine wl_nil ?_
    refine wx_then ?_
    refine wc_cond rfl (fun hc => ?_) (fun hc => ?_)
    · replace h := ct hc h
      refine wc_skip ?_
      refine wx_then ?_
      refine wc_seq ?_
      refine wc_block ?_
      refine wc_seq ?_
      refine wc_region ?_
      refine wl_pure tt_ok rfl rfl ?_
      replace h := bsome h; obtain ⟨v94, x94, h⟩ := h
      refine wl_cq Try.call20 rfl rfl rfl (q_rd (k_queue_Queue_First (p0 := (T_queue_Queue.mk j51_n16_0_f0 j51_n16_0_f1 j51_n16_0_f2)) j51_n16_0_f1N0 j51_n16_0_f1V0 x94) (pCons Sel.hc (pApp Sel.ha pNil)) (fun _ _ => trivial)) rfl ?_
      refine wl_pure tt_ok rfl rfl ?_
      refine wl_pure (v := .int .u64 (IntKind.wrap .u64 j68_12)) tt_ok rfl rfl ?_
      refine wl_pure (v := .int .u64 (IntKind.wrap .u64 (v94 + (IntKind.wrap .u64 j68_12)))) tt_ok rfl rfl ?_
      refine wl_pure tt_ok rfl rfl ?_
      refine wl_nil ?_
      refine wx_then ?_
      refine wc_seq ?_
      refine wc_seq ?_
      refine wc_quiet (by kernel_rfl) (by kernel_rfl) ?_
      refine wq_pure tt_ok rfl rfl ?_
      refine wq_pure tt_ok rfl rfl ?_
      refine wq_pure (v := .bool (decide ((IntKind.wrap .u64 (v94 + (IntKind.wrap .u64 j68_12))) < v36))) tt_ok rfl rfl ?_
      refine wq_pure tt_ok rfl rfl ?_
      replace h := bsome h; obtain ⟨v113, h, hg113⟩ := h
      refine wq_split (t := 101) rfl (fun hc => ?_) (fun hc => ?_)
      · replace h := ct hc h
        refine wq_run rfl ?_
        refine wq_pure tt_ok rfl rfl ?_
        refine wq_run rfl ?_
        refine wq_pure tt_ok rfl rfl ?_
        replace h := bsome h; obtain ⟨v104, x104, h⟩ := h
        refine wq_run rfl ?_
        refine wq_val (v := .pointer (some ((adOf j68_11a0).add (j68_12.toNat * 1 + 0)))) (val_ix (enc := (e1 .u8)) tt_ok rfl rfl rfl rfl j68_11N0 (Rds.of_vec j68_11V0) (e1_len _) rfl x104) rfl ?_
        refine wq_run rfl ?_
        refine wq_val (v := .int .u8 v104) (val_le (enc := (e1 .u8)) (xs := j68_11) tt_ok rfl (Rds.of_vec j68_11V0) ⟨_, (Sel.sc (Sel.sa (Sel.sa Sel.ha)))⟩ (e1_len _) x104 rfl) rfl ?_
        refine wq_run rfl ?_
        refine wq_pure tt_ok rfl rfl ?_
        refine wq_run rfl ?_
        refine wq_pure tt_ok rfl rfl ?_
        refine wq_run rfl ?_
        refine wq_pure tt_ok rfl rfl ?_
        refine wq_run rfl ?_
        refine wq_pure (v := .int .u64 (IntKind.wrap .u64 ((IntKind.wrap .u64 (v94 + (IntKind.wrap .u64 j68_12))) - v34))) tt_ok rfl rfl ?_
        replace h := bsome h; obtain ⟨v110, x110, h⟩ := h
        refine wq_run rfl ?_
        refine wq_val (v := .pointer (some ((adOf v39a0).add ((IntKind.wrap .u64 ((IntKind.wrap .u64 (v94 + (IntKind.wrap .u64 j68_12))) - v34)).toNat * 1 + 0)))) (val_ix (enc := (e1 .u8)) tt_ok rfl rfl rfl rfl v39N0 (Rds.of_vec v39V0) (e1_len _) rfl x110) rfl ?_
        refine wq_run rfl ?_
        refine wq_val (v := .int .u8 v110) (val_le (enc := (e1 .u8)) (xs := v39) tt_ok rfl (Rds.of_vec v39V0) ⟨_, (Sel.sc (Sel.sa Sel.ha))⟩ (e1_len _) x110 rfl) rfl ?_
        refine wq_run rfl ?_
        refine wq_pure (v := .bool (v104 != v110)) tt_ok rfl rfl ?_
        simp only [Option.some.injEq, Prod.mk.injEq] at h
        obtain rfl := h
        have h := hg113; clear hg113
        refine wq_pure (v := .bool (v104 != v110)) tt_ok rfl rfl ?_
        refine wq_nil ?_
        refine wx_then ?_
        refine wc_cond rfl (fun hc => ?_) (fun hc => ?_)
        · replace h := ct hc h
          refine wc_seq ?_
          refine wc_region ?_
          refine wl_pure tt_ok rfl rfl ?_
          refine wl_nil ?_
          refine wx_then ?_
          refine wc_ret ?_
          refine wx_then_ret ?_
          refine wx_block_ret ?_
          refine wx_then_ret ?_
          obtain rfl := Option.some.inj h
          have h := hl68; clear hl68; try dsimp only [orE_l, orE_r] at h
          refine wx_then_ret ?_
          refine wx_block_ret ?_
          refine wx_then_ret ?_
          refine wx_block_ret ?_
          refine wx_then_ret ?_
          obtain rfl := Option.some.inj h
          have h := hl25; clear hl25; try dsimp only [orE_l, orE_r] at h
          refine wx_then_ret ?_
          refine wx_block_ret ?_
          refine wx_then_ret ?_
          simp only [Option.some.injEq] at h
          obtain rfl := h
          exact wx_pf tt_ok (.inl rfl) Try.results5 (Res.tmp rfl Res.nil) rfl
        replace h := cf hc h
        refine wc_skip ?_
        refine wx_then ?_
        refine wc_region ?_
        refine wl_pure tt_ok rfl rfl ?_
        refine wl_pure tt_ok rfl rfl ?_
        replace h := bsome h; obtain ⟨v116, x116, h⟩ := h
        refine wl_val (v := .pointer (some ((adOf j68_11a0).add (j68_12.toNat * 1 + 0)))) (val_ix (enc := (e1 .u8)) tt_ok rfl rfl rfl rfl j68_11N0 (Rds.of_vec j68_11V0) (e1_len _) rfl x116) rfl ?_
        refine wl_chg0 (chg_ste (enc := (e1 .u8)) (y' := (99 : Int)) tt_ok rfl rfl rfl rfl rfl rfl j68_11N0 j68_11V0 (Sel.sc (Sel.sa (Sel.sa Sel.ha))) (e1_len _) x116 rfl (by intro h; cases h)) ?_
        rintro _ _ ⟨Bs87_3, Ns87_3, Vs87_3, rfl⟩
        refine wl_nil ?_
        refine wx_block ?_
        refine wx_then ?_
        refine wc_region ?_
        refine wl_pure tt_ok rfl rfl ?_
        refine wl_pure (v := .int .i64 (IntKind.wrap .i64 (j68_12 + (1 : Int)))) tt_ok rfl rfl ?_
        refine wl_pure tt_ok rfl rfl ?_
        refine wl_nil ?_
        exact wx_round m68 (Nat.lt_succ_self m68) ⟨(IntKind.wrap .i64 (j68_12 + (1 : Int))), (setI j68_11 j68_12 (99 : Int)), j68_11a0, j68_11n0, j68_11c0, Bs87_3, h, Ns87_3, Vs87_3, rfl, rfl⟩ (agree_cons rfl (agree_cons rfl (agree_cons rfl (agree_cons rfl (agree_cons rfl (agree_cons rfl (agree_cons rfl (agree_cons rfl (agree_cons rfl agree_nil))))))))) (pSub (pCons (Sel.sa Sel.hc) (pApp (Sel.sa Sel.ha) (pApp (Sel.sa Sel.ha) (pApp Sel.ha pNil)))))
      replace h := cf hc h
      refine wq_skip rfl rfl ?_
      refine wq_skip rfl rfl ?_
      refine wq_skip rfl rfl ?_
      refine wq_skip rfl rfl ?_
      refine wq_skip rfl rfl ?_
      refine wq_skip rfl rfl ?_
      refine wq_skip rfl rfl ?_
      refine wq_skip rfl rfl ?_
      refine wq_skip rfl rfl ?_
      refine wq_skip rfl rfl ?_
      refine wq_skip rfl rfl ?_
      simp only [Option.some.injEq, Prod.mk.injEq] at h
      obtain rfl := h
      have h := hg113; clear hg113
      refine wq_pure (v := .bool false) tt_ok rfl rfl ?_
      refine wq_nil ?_
      refine wx_then ?_
      replace h := cf rfl h
      refine wc_cond_false rfl ?_
      refine wc_skip ?_
      refine wx_then ?_
      refine wc_region ?_
      refine wl_pure tt_ok rfl rfl ?_
      refine wl_pure tt_ok rfl rfl ?_
      replace h := bsome h; obtain ⟨v116, x116, h⟩ := h
      refine wl_val (v := .pointer (some ((adOf j68_11a0).add (j68_12.toNat * 1 + 0)))) (val_ix (enc := (e1 .u8)) tt_ok rfl rfl rfl rfl j68_11N0 (Rds.of_vec j68_11V0) (e1_len _) rfl x116) rfl ?_
      refine wl_chg0 (chg_ste (enc := (e1 .u8)) (y' := (99 : Int)) tt_ok rfl rfl rfl rfl rfl rfl j68_11N0 j68_11V0 (Sel.sc (Sel.sa (Sel.sa Sel.ha))) (e1_len _) x116 rfl (by intro h; cases h)) ?_
      rintro _ _ ⟨Bs87_3, Ns87_3, Vs87_3, rfl⟩
      refine wl_nil ?_
      refine wx_block ?_
      refine wx_then ?_
      refine wc_region ?_
      refine wl_pure tt_ok rfl rfl ?_
      refine wl_pure (v := .int .i64 (IntKind.wrap .i64 (j68_12 + (1 : Int)))) tt_ok rfl rfl ?_
      refine wl_pure tt_ok rfl rfl ?_
      refine wl_nil ?_
      exact wx_round m68 (Nat.lt_succ_self m68) ⟨(IntKind.wrap .i64 (j68_12 + (1 : Int))), (setI j68_11 j68_12 (99 : Int)), j68_11a0, j68_11n0, j68_11c0, Bs87_3, h, Ns87_3, Vs87_3, rfl, rfl⟩ (agree_cons rfl (agree_cons rfl (agree_cons rfl (agree_cons rfl (agree_cons rfl (agree_cons rfl (agree_cons rfl (agree_cons rfl (agree_cons rfl agree_nil))))))))) (pSub (pCons (Sel.sa Sel.hc) (pApp (Sel.sa Sel.ha) (pApp (Sel.sa Sel.ha) (pApp Sel.ha pNil)))))
    replace h := cf hc h
    refine wc_exit ?_
    refine wx_then_exit ?_
    obtain rfl := Option.some.inj h
    have h := hl68; clear hl68; try dsimp only [orE_l, orE_r] at h
    refine wx_then_exit ?_
    refine wx_block_exit ?_
    refine wx_then ?_
    refine wc_seq ?_
    refine wc_region ?_
    refine wl_pure tt_ok rfl rfl ?_
    replace h := bsome h; obtain ⟨v118, x118, h⟩ := h
    refine wl_cq Try.call20 rfl rfl rfl (q_rd (k_queue_Queue_First (p0 := (T_queue_Queue.mk j51_n16_0_f0 j51_n16_0_f1 j51_n16_0_f2)) j51_n16_0_f1N0 j51_n16_0_f1V0 x118) (pCons Sel.hc (pApp Sel.ha pNil)) (fun _ _ => trivial)) rfl ?_
    refine wl_pure tt_ok rfl rfl ?_
    refine wl_nil ?_
    refine wx_then ?_
    refine wc_block ?_
    replace h := bsome h; obtain ⟨o92, h, hl92⟩ := h
    refine wc_loop (fun m E L => ∃ (j92_14 : Int), m_hindcastlaw24_QueueStays_L91 F v34 v36 v39 j51_n16_0_f0 j51_n16_0_f1 j51_n16_0_f2 false m j92_14 = some o92 ∧ E = [(1, .slice p1a0 p1n0 p1c0), (4, .bool false), (5, .pointer (some ⟨b16_0, 0, none⟩)), (6, .int .i64 j25_6), (8, .int .u64 v34), (9, .int .u64 v36), (10, .slice v39a0 v39n0 v39c0), (14, .int .u64 j92_14)] ∧ L = (⟨b16_0, [.int .u64 j51_n16_0_f0, .slice j51_n16_0_f1a0 j51_n16_0_f1n0 j51_n16_0_f1c0, .int .u8 j51_n16_0_f2], 52, (0, 0)⟩ :: (j51_n16_0_f1B0 ++ (v39B0 ++ [])))) F ⟨v118, h, rfl, rfl⟩ (agree_cons rfl (agree_cons rfl (agree_cons rfl (agree_cons rfl (agree_cons rfl (agree_cons rfl (agree_cons rfl (agree_cons rfl agree_nil)))))))) (pSub (pCons Sel.hc (pApp Sel.ha (pApp Sel.ha pNil)))) ?_
    clear h
    rintro m92 _ _ ⟨j92_14, h, rfl, rfl⟩
    rcases m92 with _ | m92
    · rw [m_hindcastlaw24_QueueStays_L91.eq_1] at h; cases h
    rw [m_hindcastlaw24_QueueStays_L91.eq_2] at h
    refine wc_seq ?_
    refine wc_seq ?_
    refine wc_region ?_
    refine wl_pure tt_ok rfl rfl ?_
    refine wl_pure tt_ok rfl rfl ?_
    refine wl_pure (v := .bool (decide (j92_14 < v36))) tt_ok rfl rfl ?_
    refine wl_nil ?_
    refine wx_then ?_
    refine wc_cond rfl (fun hc => ?_) (fun hc => ?_)
    · replace h := ct hc h
      refine wc_skip ?_
      refine wx_then ?_
      refine wc_seq ?_
      refine wc_block ?_
      refine wc_seq ?_
      refine wc_region ?_
      refine wl_pure tt_ok rfl rfl ?_
      refine wl_pure tt_ok rfl rfl ?_
      refine wl_pure tt_ok rfl rfl ?_
      refine wl_pure tt_ok rfl rfl ?_
      refine wl_pure tt_ok rfl rfl ?_
      refine wl_pure (v := .int .u64 (IntKind.wrap .u64 (j92_14 - v34))) tt_ok rfl rfl ?_
      replace h := bsome h; obtain ⟨v130, x130, h⟩ := h
      refine wl_val (v := .pointer (some ((adOf v39a0).add ((IntKind.wrap .u64 (j92_14 - v34)).toNat * 1 + 0)))) (val_ix (enc := (e1 .u8)) tt_ok rfl rfl rfl rfl v39N0 (Rds.of_vec v39V0) (e1_len _) rfl x130) rfl ?_
      refine wl_val (v := .int .u8 v130) (val_le (enc := (e1 .u8)) (xs := v39) tt_ok rfl (Rds.of_vec v39V0) ⟨_, (Sel.sc (Sel.sa Sel.ha))⟩ (e1_len _) x130 rfl) rfl ?_
      replace h := bsome h; obtain ⟨v132, x132, h⟩ := h
      refine wl_cq Try.call11 rfl rfl rfl (q_rd (k_hindcastlaw24_at (p0 := (T_queue_Queue.mk j51_n16_0_f0 j51_n16_0_f1 j51_n16_0_f2)) j51_n16_0_f1N0 j51_n16_0_f1V0 x132) (pCons Sel.hc (pApp Sel.ha pNil)) (fun _ _ => trivial)) rfl ?_
      refine wl_pure (v := .bool (!v132)) tt_ok rfl rfl ?_
      refine wl_nil ?_
      refine wx_then ?_
      refine wc_cond rfl (fun hc => ?_) (fun hc => ?_)
      · replace h := ct hc h
        refine wc_seq ?_
        refine wc_region ?_
        refine wl_pure tt_ok rfl rfl ?_
        refine wl_nil ?_
        refine wx_then ?_
        refine wc_ret ?_
        refine wx_block_ret ?_
        refine wx_then_ret ?_
        obtain rfl := Option.some.inj h
        have h := hl92; clear hl92; try dsimp only [orE_l, orE_r] at h
        refine wx_then_ret ?_
        refine wx_block_ret ?_
        refine wx_block_ret ?_
        refine wx_then_ret ?_
        obtain rfl := Option.some.inj h
        have h := hl25; clear hl25; try dsimp only [orE_l, orE_r] at h
        refine wx_then_ret ?_
        refine wx_block_ret ?_
        refine wx_then_ret ?_
        simp only [Option.some.injEq] at h
        obtain rfl := h
        exact wx_pf tt_ok (.inl rfl) Try.results5 (Res.tmp rfl Res.nil) rfl
      replace h := cf hc h
      refine wc_skip ?_
      refine wx_block ?_
      refine wx_then ?_
      refine wc_region ?_
      refine wl_pure tt_ok rfl rfl ?_
      refine wl_pure (v := .int .u64 (IntKind.wrap .u64 (j92_14 + (1 : Int)))) tt_ok rfl rfl ?_
      refine wl_pure tt_ok rfl rfl ?_
      refine wl_nil ?_
      exact wx_round m92 (Nat.lt_succ_self m92) ⟨(IntKind.wrap .u64 (j92_14 + (1 : Int))), h, rfl, rfl⟩ (agree_cons rfl (agree_cons rfl (agree_cons rfl (agree_cons rfl (agree_cons rfl (agree_cons rfl (agree_cons rfl (agree_cons rfl agree_nil)))))))) (pSub (pCons Sel.hc (pApp Sel.ha (pApp Sel.ha pNil))))
    replace h := cf hc h
    refine wc_exit ?_
    refine wx_then_exit ?_
    obtain rfl := Option.some.inj h
    have h := hl92; clear hl92; try dsimp only [orE_l, orE_r] at h
    refine wx_then_exit ?_
    refine wx_block_exit ?_
    refine wx_block ?_
    refine wx_then ?_
    refine wc_region ?_
    refine wl_pure tt_ok rfl rfl ?_
    refine wl_pure (v := .int .i64 (IntKind.wrap .i64 (j25_6 + (1 : Int)))) tt_ok rfl rfl ?_
    refine wl_pure tt_ok rfl rfl ?_
    refine wl_nil ?_
    exact wx_round m25 (Nat.lt_succ_self m25) ⟨(IntKind.wrap .i64 (j25_6 + (1 : Int))), j51_n16_0_f0, j51_n16_0_f1, j51_n16_0_f2, j51_n16_0_f1a0, j51_n16_0_f1n0, j51_n16_0_f1c0, j51_n16_0_f1B0, h, j51_n16_0_f1N0, j51_n16_0_f1V0, rfl, rfl⟩ (agree_cons rfl (agree_cons rfl (agree_cons rfl (agree_cons rfl agree_nil)))) (pSub (pCons Sel.hc (pApp Sel.ha pNil)))
  replace h := cf hc h
  refine wc_exit ?_
  refine wx_then_exit ?_
  obtain rfl := Option.some.inj h
  have h := hl25; clear hl25; try dsimp only [orE_l, orE_r] at h
  refine wx_then_exit ?_
  refine wx_block_exit ?_
  refine wx_then ?_
  refine wc_seq ?_
  refine wc_region ?_
  replace h := bsome h; obtain ⟨v134, x134, h⟩ := h
  refine wl_cq Try.call7 rfl rfl rfl (q_pf (k_hindcastlaw24_works x134) (fun _ _ => trivial)) rfl ?_
  refine wl_pure tt_ok rfl rfl ?_
  refine wl_nil ?_
  refine wx_then ?_
  refine wc_ret ?_
  simp only [Option.some.injEq] at h
  obtain rfl := h
  exact wx_pf tt_ok (.inl rfl) Try.results5 (Res.tmp rfl Res.nil) rfl

end Go.Proofs.Ytfjmhnfaoifehaa
